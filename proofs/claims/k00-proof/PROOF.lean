import PyProof.Rows.All
import Wide.All
import OpenK.AllK
import Wide.FinOn
import HandS.ForMost
import HandS.ForExc
import HandS.Deep
import HandS.TupAny
import HandS.IsInst
import HandS.Star
import HandS.Lambda
import KE.KEqDict
import HandS.More
import HandS.ExcCtx
import HandS.Flow
import HandS.ExcOwn
import HandS.TryMany
import PyProof.StrLawsRepr
import PyProof.ReprRoads
import PyProof.FitsInt
import KE.KDictPairs
import HandS.IterNext
import HandS.IterVal
import KE.KDictIter
import HandS.Set
import HandS.SetFor
import HandS.Strs
import PyProof.Rows.SortShellAny
import HandS.Defaults
import HandS.Exc
import HandS.HotCalls
import HandS.ExcIs
import PySem.Challenge.RW_stilljoined_k00_whole_tasks_and_what_is
import HandS.EndTab
import HandS.HeadWalk
import HandS.Base
import HandS.Call
import HandS.Ends
import HandS.Words
import HandS.WordsExc
import HandS.Head0
import HandS.Head1
import HandS.Head2
import HandS.HeadEnd
import HandS.HeadHook1
import HandS.HeadHook2
import HandS.HeadHook3
import HandS.HeadHook4
set_option Elab.async false
set_option linter.all false
set_option maxRecDepth 100000
set_option maxHeartbeats 4000000
/-! Mini, part A: plain data, the code, what it computes. -/
namespace Mini
open PySem
abbrev D := PyData
abbrev Hs := List (List D)
abbrev Env := List (Option D)
/-- an error: its class, what it carries -/
structure Exc where
  cls : Str
  fld : Option D
inductive R (α : Type) where
  | ok (a : α) (h : Hs)
  | err (e : Exc) (h : Hs)
  | bad
def R.bind {α β : Type} (x : R α) (f : α → Hs → R β) : R β := match x with
  | .ok a h => f a h
  | .err e h => .err e h
  | .bad => .bad
inductive RS where
  | next (ρ : Env) (h : Hs)
  | ret (d : D) (h : Hs)
  | brk (ρ : Env) (h : Hs)
  | cnt (ρ : Env) (h : Hs)
  | err (e : Exc) (h : Hs)
  | bad
/-- the cell n -/
def cel (n : Nat) : D := .dict [(.none, .int n)]
/-- a table of the module -/
def tbl (kvs : List (D × D)) : D := .dict ((.none, .bool true) :: kvs)
/-- the script -/
def scr (ns : List Int) : D := .dict [(.none, .list (ns.map .int))]
inductive Bop where | add | sub | mul | fdiv | mod | pow
inductive Cop where | eq | ne | lt | le | gt | ge | is_ | isn | in_ | nin
inductive Blt where
  | len | all | any | sum | min | max | min2 | max2 | abs | int | tuple | list | sortedSet | lenSet | sorted | dict | nextIter | repr | isInt | isStr | isTuple
  | range1 | range2
inductive Met where | get1 | get2
inductive Tg where
  | nm (i : Nat)
  | tp (is : List Nat)
mutual
inductive C where
  | slot (i : Nat)
  | lit (d : D)
  | neg (a : C)
  | notv (a : C)
  | bin (o : Bop) (a b : C)
  | cmp (o : Cop) (a b : C)
  | chn (o p : Cop) (a b c : C)
  | and2 (a b : C)
  | or2 (a b : C)
  | ite (c a b : C)
  | tup (es : Cs)
  | lst (es : Cs)
  | dct (ks vs : Cs)
  | idx (a b : C)
  | slc (a lo hi : C)
  | call (f : Str) (g : Bool) (es : Cs)
  | blt (b : Blt) (es : Cs)
  | met (m : Met) (o : C) (es : Cs)
  | lc (elt : C) (tg : Tg) (it cond : C)
  | lc2 (elt : C) (tg : Tg) (it cond : C) (tg1 : Tg) (it1 cond1 : C)
  | dc (k v : C) (tg : Tg) (it cond : C)
  | told (c : C)
inductive Cs where
  | nil
  | cons (c : C) (r : Cs)
  | star (c : C) (r : Cs)
end
mutual
inductive S where
  | asg (tg : Tg) (c : C)
  | par (i j : Nat) (a b : C)
  | sub (i : Nat) (k v : C)
  | csub (i : Nat) (k v : C)
  | aug (i : Nat) (o : Bop) (c : C)
  | app (i : Nat) (c : C)
  | ext (i : Nat) (c : C)
  | popAt (j i : Nat) (c : C)
  | ife (c : C) (a b : Ss)
  | for_ (tg : Tg) (it : C) (b : Ss)
  | whl (c : C) (b : Ss)
  | ret (c : C)
  | raise (cls : Str) (m : Str)
  | brk
  | cnt
  | pass
  | expr (c : C)
  | newcell (i : Nat) (es : Cs)
inductive Ss where
  | nil
  | cons (s : S) (r : Ss)
end

/-! ### data -/
def isCel : D → Bool
  | .dict ((.none, _) :: _) => true
  | _ => false
def bigLine : Nat := 1000000
/-- truth -/
def tv : D → Option Bool
  | .none => some false
  | .bool b => some b
  | .int i => some (i != 0)
  | .str s => if s.length ≤ bigLine then some ((s.length : Int) != 0) else none
  | .list xs => some !xs.isEmpty
  | .tuple xs => some !xs.isEmpty
  | .dict _ => none
mutual
/-- no list, no dict, no cell in it -/
def flat : D → Bool
  | .none | .bool _ | .int _ | .str _ => true
  | .tuple xs => flats xs
  | .list _ => false
  | .dict _ => false
def flats : List D → Bool
  | [] => true
  | x :: xs => flat x && flats xs
end
mutual
/-- no dict, no cell in it -/
def noD : D → Bool
  | .none | .bool _ | .int _ | .str _ => true
  | .tuple xs => noDs xs
  | .list xs => noDs xs
  | .dict _ => false
def noDs : List D → Bool
  | [] => true
  | x :: xs => noD x && noDs xs
end
/-- what a for walks -/
def items : D → Option (List D)
  | .list xs => some xs
  | .tuple xs => some xs
  | .str s => some (s.cps.toList.map fun c => .str ⟨#[c]⟩)
  | _ => none
def ixN (n : Nat) (i : Int) : Option Nat := if 0 ≤ i then (if i < n then some i.toNat else none) else if -(n : Int) ≤ i then some (i + n).toNat else none
def atI {α : Type} (xs : List α) (i : Int) : Option α := (ixN xs.length i).bind fun j => xs[j]?
def sIx (n d : Nat) : Option Int → Nat
  | none => d
  | some v => if v < 0 then (v + (n : Int)).toNat else min v.toNat n
def cut {α : Type} (xs : List α) (lo hi : Option Int) : List α := (xs.drop (sIx xs.length 0 lo)).take (sIx xs.length xs.length hi - sIx xs.length 0 lo)
/-- a key of a dict -/
def isKey : D → Bool
  | .int _ => true
  | .str _ => true
  | _ => false
def getKV : List (D × D) → D → Option D
  | [], _ => none
  | (k, v) :: r, x => if PyData.eqv k x then some v else getKV r x
def putKV (kvs : List (D × D)) (x v : D) : List (D × D) := if kvs.any (fun p => PyData.eqv p.1 x) then kvs.map (fun p => if PyData.eqv p.1 x then (p.1, v) else p) else kvs ++ [(x, v)]
def mergeKV (kvs more : List (D × D)) : List (D × D) := more.foldl (fun acc p => putKV acc p.1 p.2) kvs
def pairsOf : List D → Option (List (D × D))
  | [] => some []
  | .tuple [k, v] :: r => (pairsOf r).map fun l => (k, v) :: l
  | _ :: _ => none
def intsOf : List D → Option (List Int)
  | [] => some []
  | .int i :: r => (intsOf r).map fun l => i :: l
  | _ :: _ => none
def boolsOf : List D → Option (List Bool)
  | [] => some []
  | .bool b :: r => (boolsOf r).map fun l => b :: l
  | _ :: _ => none
def strsOf : List D → Option (List Str)
  | [] => some []
  | .str s :: r => (strsOf r).map fun l => s :: l
  | _ :: _ => none
/-- the order of texts -/
def ltS (a b : Str) : Bool := decide (a.cps.toList < b.cps.toList)
/-- into an ascending list, once -/
def insS (x : Str) : List Str → List Str
  | [] => [x]
  | y :: r => if x = y then y :: r else if ltS x y then x :: y :: r else y :: insS x r
def sortS : List Str → List Str
  | [] => []
  | x :: r => insS x (sortS r)
mutual
/-- a bound of the signs that a repr has -/
def wt : D → Nat
  | .none => 5
  | .bool _ => 6
  | .int i => i.natAbs.log2 + 5
  | .str s => 10 * s.length + 5
  | .tuple xs => wts xs + 5
  | .list xs => wts xs + 5
  | .dict _ => 0
def wts : List D → Nat
  | [] => 0
  | x :: xs => wt x + 3 + wts xs
end
mutual
/-- how deep it is -/
def dep : D → Nat
  | .tuple xs => deps xs + 1
  | .list xs => deps xs + 1
  | _ => 0
def deps : List D → Nat
  | [] => 0
  | x :: xs => max (dep x) (deps xs)
end
/-- can be compared -/
def okEq (d : D) : Bool := SeqAt.shaped d
/-- can be shown -/
def okRepr (d : D) : Bool := SeqAt.shaped d && decide (wt d ≤ 1000000) && d.showable
/-- no list, no tuple, no dict -/
def sca : D → Bool
  | .none | .bool _ | .int _ | .str _ => true
  | _ => false
/-- compared at once -/
def scaEq : D → D → Bool
  | .int _, .int _ => true
  | .str _, .str _ => true
  | .bool _, .bool _ => true
  | .none, .none => true
  | .none, .int _ => true
  | .int _, .none => true
  | .none, .str _ => true
  | .str _, .none => true
  | .int _, .str _ => true
  | .str _, .int _ => true
  | _, _ => false

/-! ### operators -/
def ret1 (d : D) (h : Hs) : R D := .ok d h
def binD : Bop → D → D → Option D
  | .add, .int i, .int j => some (.int (i + j))
  | .add, .str x, .str y => if x.length + y.length ≤ bigLine then some (.str (x ++ y)) else none
  | .add, .list xs, .list ys => if xs.length + ys.length ≤ bigLine then some (.list (xs ++ ys)) else none
  | .add, .tuple xs, .tuple ys => if xs.length + ys.length ≤ bigLine then some (.tuple (xs ++ ys)) else none
  | .sub, .int i, .int j => some (.int (i - j))
  | .mul, .int i, .int j => if (decide (-(2 ^ 64) < i) && decide (i < 2 ^ 64)) || (decide (-(2 ^ 64) < j) && decide (j < 2 ^ 64)) then some (.int (i * j)) else none
  | .mul, .list xs, .int k => if decide (0 ≤ k) && decide (k ≤ 1000) && decide (xs.length * k.toNat ≤ bigLine) then some (.list (List.replicate k.toNat xs).flatten) else none
  | .fdiv, .int i, .int j => if decide (0 < j) && decide (j < 1073741824) then some (.int (i / j)) else none
  | .mod, .int i, .int j => if 0 < j then some (.int (i % j)) else none
  | .pow, .int i, .int j => if decide (0 ≤ j) && decide (j ≤ 1000) && decide (i.natAbs < 2 ^ 64) then some (.int (i ^ j.toNat)) else none
  | _, _, _ => none
def oneSign (x : Str) : Option Nat := match x.cps.toList with
  | [c] => some c
  | _ => none
def inD (x : D) : D → Option Bool
  | .str z => match x with
    | .str y => (oneSign y).map fun c => decide (c ∈ z.cps.toList)
    | _ => none
  | .list ys => if (sca x && ys.all sca) || (okEq x && okEq (.list ys)) then some (ys.any fun y => PyData.eqv y x) else none
  | .tuple ys => if sca x && ys.all sca then some (ys.any fun y => PyData.eqv y x) else none
  | .dict kvs => if isKey x && !isCel (.dict kvs) then some ((getKV kvs x).isSome) else none
  | _ => none
def isNone : D → Bool
  | .none => true
  | _ => false
/-- dicts with text keys and whole numbers: entry for entry -/
def sameKV : List (D × D) → List (D × D) → Bool
  | [], [] => true
  | (.str x, .int i) :: r, (.str y, .int j) :: q => decide (x = y) && decide (i = j) && sameKV r q
  | _, _ => false
def cmpD : Cop → D → D → Option Bool
  | .ne, .dict ((.none, .bool true) :: xs), .dict ys => if sameKV xs ys then some false else none
  | .eq, x, y => if scaEq x y || (okEq x && okEq y) then some (PyData.eqv x y) else none
  | .ne, x, y => if scaEq x y || (okEq x && okEq y) then some (!PyData.eqv x y) else none
  | .lt, .int i, .int j => some (decide (i < j))
  | .le, .int i, .int j => some (decide (i ≤ j))
  | .gt, .int i, .int j => some (decide (j < i))
  | .ge, .int i, .int j => some (decide (j ≤ i))
  | .lt, .str x, .str y => some (ltS x y)
  | .is_, x, .none => some (isNone x)
  | .isn, x, .none => some (!isNone x)
  | .in_, x, y => inD x y
  | .nin, x, y => (inD x y).map fun b => !b
  | _, _, _ => none
def idxD : D → D → Option D
  | .list xs, .int i => atI xs i
  | .tuple xs, .int i => atI xs i
  | .str s, .int i => if s.length ≤ bigLine then (atI s.cps.toList i).map fun c => .str ⟨#[c]⟩ else none
  | .dict ((.none, .bool true) :: kvs), .str z => (match getKV kvs (.str z) with
    | some (.int i) => some (.int i)
    | _ => none)
  | .dict kvs, k => if isKey k && !isCel (.dict kvs) then getKV kvs k else none
  | _, _ => none
def slcD (x : D) (l u : Option Int) : Option D := match x with
  | .list xs => some (.list (cut xs l u))
  | .dict [(.none, .list xs)] => some (.list (cut xs l u))
  | .tuple xs => some (.tuple (cut xs l u))
  | .str s => if s.length ≤ bigLine then some (.str ⟨(cut s.cps.toList l u).toArray⟩) else none
  | _ => none
def listMin : Int → List Int → Int
  | m, [] => m
  | m, x :: r => listMin (if x < m then x else m) r
def listMax : Int → List Int → Int
  | m, [] => m
  | m, x :: r => listMax (if m < x then x else m) r
def bltD : Blt → List D → Option D
  | .len, [.list xs] => some (.int xs.length)
  | .len, [.tuple xs] => some (.int xs.length)
  | .len, [.str s] => if s.length ≤ bigLine then some (.int s.length) else none
  | .all, [.list xs] => (boolsOf xs).map fun bs => .bool (bs.all id)
  | .any, [.list xs] => (boolsOf xs).map fun bs => .bool (bs.any id)
  | .sum, [.list xs] => (intsOf xs).map fun ns => .int ns.sum
  | .min, [.list xs] => (match intsOf xs with
    | some (n :: ns) => some (.int (listMin n ns))
    | _ => none)
  | .max, [.list xs] => (match intsOf xs with
    | some (n :: ns) => some (.int (listMax n ns))
    | _ => none)
  | .min2, [.int i, .int j] => some (.int (if j < i then j else i))
  | .max2, [.int i, .int j] => some (.int (if j > i then j else i))
  | .abs, [.int i] => some (.int (if i < 0 then -i else i))
  | .int, [.int i] => some (.int i)
  | .int, [.bool b] => some (.int (if b then 1 else 0))
  | .tuple, [.list xs] => some (.tuple xs)
  | .tuple, [.tuple xs] => some (.tuple xs)
  | .list, [.list xs] => some (.list xs)
  | .list, [.tuple xs] => some (.list xs)
  | .sortedSet, [.list xs] => if xs.length < 64 then (strsOf xs).map fun l => .list ((sortS l).map .str) else none
  | .sortedSet, [.tuple xs] => if xs.length < 64 then (strsOf xs).map fun l => .list ((sortS l).map .str) else none
  | .lenSet, [.list xs] => if xs.length < 64 then (strsOf xs).map fun l => .int (sortS l).length else none
  | .sorted, [.dict kvs] => if decide (kvs.length < 64) && !isCel (.dict kvs) then (strsOf (kvs.map (·.1))).map fun l => .list ((sortS l).map .str) else none
  | .dict, [.list xs] => (match pairsOf xs with
    | some kvs => if kvs.all (fun p => isKey p.1) then some (.dict (mergeKV [] kvs)) else none
    | none => none)
  | .dict, [.tuple xs] => (match pairsOf xs with
    | some kvs => if kvs.all (fun p => isKey p.1) then some (.dict (mergeKV [] kvs)) else none
    | none => none)
  | .nextIter, [.list xs, d] => (match xs with
    | [] => some d
    | x :: _ => some x)
  | .repr, [.list xs] => if okRepr (.list xs) then some (.str (PyData.list xs).shown) else none
  | .isInt, [.int _] => some (.bool true)
  | .isInt, [.str _] => some (.bool false)
  | .isStr, [.str _] => some (.bool true)
  | .isStr, [.int _] => some (.bool false)
  | .isTuple, [.tuple _] => some (.bool true)
  | .range1, [.int n] => if decide (-(2 ^ 62) ≤ n) && decide (n < 2 ^ 62) then some (.list ((List.range n.toNat).map fun k => .int (k : Nat))) else none
  | .range2, [.int a, .int b] => if (decide (-(2 ^ 62) ≤ a) && decide (a < 2 ^ 62)) && (decide (-(2 ^ 62) ≤ b) && decide (b < 2 ^ 62)) then some (.list ((List.range (b - a).toNat).map fun k => .int (a + (k : Nat)))) else none
  | _, _ => none
def metD : Met → D → List D → Option D
  | .get1, .dict kvs, [k] => if isKey k && !isCel (.dict kvs) then some ((getKV kvs k).getD .none) else none
  | .get2, .dict kvs, [k, x] => if isKey k && !isCel (.dict kvs) then some ((getKV kvs k).getD x) else none
  | _, _, _ => none
def isDct : D → Bool
  | .dict kvs => !isCel (.dict kvs)
  | _ => false
def lift (o : Option D) (h : Hs) : R D := match o with
  | some d => .ok d h
  | none => .bad
def setTg : Tg → D → Env → Option Env
  | .nm i, d, ρ => some (ρ.set i (some d))
  | .tp is, .tuple ds, ρ => if is.length = ds.length then some ((is.zip ds).foldl (fun ρ p => ρ.set p.1 (some p.2)) ρ) else none
  | .tp _, _, _ => none
def Tg.slots : Tg → List Nat
  | .nm i => [i]
  | .tp is => is
def wipeE (ρ : Env) : List Nat → Env
  | [] => ρ
  | i :: r => (wipeE ρ r).set i none
/-- a comprehension's turns -/
def loopC (f : D → Hs → R (Option D)) : List D → Hs → R (List D)
  | [], h => .ok [] h
  | x :: xs, h => (f x h).bind fun o h => (loopC f xs h).bind fun ys h => .ok (match o with
    | some y => y :: ys
    | none => ys) h
def loopC2 (f : D → Hs → R (List D)) : List D → Hs → R (List D)
  | [], h => .ok [] h
  | x :: xs, h => (f x h).bind fun zs h => (loopC2 f xs h).bind fun ys h => .ok (zs ++ ys) h
/-- a turn of a comprehension -/
def turnC (cond elt : Env → Hs → R D) (tg : Tg) (d : D) (ρ : Env) (h : Hs) : R (Option D) := match setTg tg d ρ with
  | some ρ' => (cond ρ' h).bind fun b h => (match tv b with
    | some true => (elt ρ' h).bind fun y h => .ok (some y) h
    | some false => .ok none h
    | none => .bad)
  | none => .bad
def turnC2 (cond it1 cond1 elt : Env → Hs → R D) (tg tg1 : Tg) (d : D) (ρ : Env) (h : Hs) : R (List D) := match setTg tg d ρ with
  | some ρ' => (cond ρ' h).bind fun b h => (match tv b with
    | some true => (it1 ρ' h).bind fun x1 h => (match items x1 with
      | some xs1 => loopC (fun d h => turnC cond1 elt tg1 d ρ' h) xs1 h
      | none => .bad)
    | some false => .ok [] h
    | none => .bad)
  | none => .bad
def listD (ys : List D) (h : Hs) : R D := if ys.length ≤ bigLine then .ok (.list ys) h else .bad
/-- nothing is raised in a comprehension -/
def quiet {α : Type} : R α → R α
  | .err _ _ => .bad
  | r => r
def toldExc (e : Exc) : Option D :=
  if e.cls = "NotAllowed" then some (.tuple [.str "refused"])
  else if e.cls = "TooLarge" then some (.tuple [.str "large"])
  else if e.cls = "Missing" then some (.tuple [.str "missing"])
  else if e.cls = "BadPaper" then some (.tuple [.str "paper"])
  else none

/-- a slice's part that is left out -/
def C.isNo : C → Bool
  | .lit .none => true
  | _ => false
def partC (c : C) (d : D) : Option (Option Int) := if c.isNo then some none else match d with
  | .int i => some (some i)
  | _ => none

/-! ### what the code computes -/
structure G where
  call : Str → List D → Hs → R D
  L : Nat
def idxH (x y : D) (h : Hs) : R D := match x with
  | .dict [(.none, .int n)] => (match y, h[n.toNat]? with
    | .int i, some xs => lift (atI xs i) h
    | _, _ => .bad)
  | x => lift (idxD x y) h
/-- a call with something owned among its arguments: of flat data, without the cells -/
def callG (c : List D → Hs → R D) (xs : List D) (h : Hs) : R D := if noDs xs then (match c xs [] with
  | .ok d _ => if flat d then .ok d h else .bad
  | .err e _ => .err e h
  | .bad => .bad) else .bad
mutual
def den (g : G) : C → Env → Hs → R D
  | .slot i, ρ, h => (match ρ[i]? with
    | some (some d) => .ok d h
    | _ => .bad)
  | .lit d, _, h => .ok d h
  | .neg a, ρ, h => (den g a ρ h).bind fun x h => (match x with
    | .int i => .ok (.int (-i)) h
    | _ => .bad)
  | .notv a, ρ, h => (den g a ρ h).bind fun x h => (match tv x with
    | some b => .ok (.bool !b) h
    | none => .bad)
  | .bin o a b, ρ, h => (den g a ρ h).bind fun x h => (den g b ρ h).bind fun y h => lift (binD o x y) h
  | .cmp o a b, ρ, h => (den g a ρ h).bind fun x h => (den g b ρ h).bind fun y h => lift ((cmpD o x y).map .bool) h
  | .chn o p a b c, ρ, h => (den g a ρ h).bind fun x h => (den g b ρ h).bind fun y h => (match cmpD o x y with
    | some true => (den g c ρ h).bind fun z h => lift ((cmpD p y z).map .bool) h
    | some false => .ok (.bool false) h
    | none => .bad)
  | .and2 a b, ρ, h => (den g a ρ h).bind fun x h => (match tv x with
    | some true => den g b ρ h
    | some false => .ok x h
    | none => .bad)
  | .or2 a b, ρ, h => (den g a ρ h).bind fun x h => (match tv x with
    | some true => .ok x h
    | some false => den g b ρ h
    | none => .bad)
  | .ite c a b, ρ, h => (den g c ρ h).bind fun x h => (match tv x with
    | some true => den g a ρ h
    | some false => den g b ρ h
    | none => .bad)
  | .tup es, ρ, h => (dens g es ρ h).bind fun xs h => if xs.length ≤ bigLine then .ok (.tuple xs) h else .bad
  | .lst es, ρ, h => (dens g es ρ h).bind fun xs h => if xs.length ≤ bigLine then .ok (.list xs) h else .bad
  | .dct ks vs, ρ, h => (dens g ks ρ h).bind fun ks h => if ks.all isKey then (dens g vs ρ h).bind fun vs h => .ok (.dict (mergeKV [] (ks.zip vs))) h else .bad
  | .idx a b, ρ, h => (den g a ρ h).bind fun x h => (den g b ρ h).bind fun y h => idxH x y h
  | .slc a l u, ρ, h => (den g a ρ h).bind fun x h => (den g l ρ h).bind fun dl h => (match partC l dl with
    | some lo => (den g u ρ h).bind fun du h => (match partC u du with
      | some hi => lift (slcD x lo hi) h
      | none => .bad)
    | none => .bad)
  | .call f gd es, ρ, h => (dens g es ρ h).bind fun xs h => if gd then callG (g.call f) xs h else g.call f xs h
  | .blt b es, ρ, h => (dens g es ρ h).bind fun xs h => lift (bltD b xs) h
  | .met m o es, ρ, h => (den g o ρ h).bind fun x h => if isDct x then (dens g es ρ h).bind fun xs h => lift (metD m x xs) h else .bad
  | .lc elt tg it cond, ρ, h => (den g it ρ h).bind fun x h => (match items x with
    | some xs => quiet ((loopC (fun d h => turnC (fun ρ h => den g cond ρ h) (fun ρ h => den g elt ρ h) tg d (wipeE ρ tg.slots) h) xs h).bind fun ys h => listD ys h)
    | none => .bad)
  | .lc2 elt tg it cond tg1 it1 cond1, ρ, h => (den g it ρ h).bind fun x h => (match items x with
    | some xs => quiet ((loopC2 (fun d h => turnC2 (fun ρ h => den g cond ρ h) (fun ρ h => den g it1 ρ h) (fun ρ h => den g cond1 ρ h) (fun ρ h => den g elt ρ h) tg tg1 d (wipeE (wipeE ρ tg1.slots) tg.slots) h) xs h).bind fun ys h => listD ys h)
    | none => .bad)
  | .dc k v tg it cond, ρ, h => (den g it ρ h).bind fun x h => (match items x with
    | some xs => quiet ((loopC (fun d h => (match setTg tg d (wipeE ρ tg.slots) with
      | some ρ' => (den g cond ρ' h).bind fun b h => (match tv b with
        | some true => (den g k ρ' h).bind fun y h => (den g v ρ' h).bind fun z h => .ok (some (.tuple [y, z])) h
        | some false => .ok none h
        | none => .bad)
      | none => .bad)) xs h).bind fun ys h => (match pairsOf ys with
        | some kvs => if kvs.all (fun p => isKey p.1) then .ok (.dict (mergeKV [] kvs)) h else .bad
        | none => .bad))
    | none => .bad)
  | .told c, ρ, h => (match den g c ρ h with
    | .ok d h => .ok (.tuple [.str "told", d]) h
    | .err e h => lift (toldExc e) h
    | .bad => .bad)
def dens (g : G) : Cs → Env → Hs → R (List D)
  | .nil, _, h => .ok [] h
  | .cons c r, ρ, h => (den g c ρ h).bind fun x h => (dens g r ρ h).bind fun xs h => .ok (x :: xs) h
  | .star c r, ρ, h => (den g c ρ h).bind fun x h => (match x with
    | .list xs => (dens g r ρ h).bind fun ys h => .ok (xs ++ ys) h
    | .tuple xs => (dens g r ρ h).bind fun ys h => .ok (xs ++ ys) h
    | _ => .bad)
end
/-- a for's turns -/
def loopF (tg : Tg) (f : Env → Hs → RS) : List D → Env → Hs → RS
  | [], ρ, h => .next ρ h
  | x :: xs, ρ, h => match setTg tg x ρ with
    | some ρ' => (match f ρ' h with
      | .next ρ h => loopF tg f xs ρ h
      | .cnt ρ h => loopF tg f xs ρ h
      | .brk ρ h => .next ρ h
      | .ret d h => .ret d h
      | .err e h => .err e h
      | .bad => .bad)
    | none => .bad
/-- a while's turns -/
def loopW (t : Env → Hs → R D) (f : Env → Hs → RS) : Nat → Env → Hs → RS
  | 0, _, _ => .bad
  | n + 1, ρ, h => match t ρ h with
    | .ok x h => (match tv x with
      | some true => (match f ρ h with
        | .next ρ h => loopW t f n ρ h
        | .cnt ρ h => loopW t f n ρ h
        | .brk ρ h => .next ρ h
        | .ret d h => .ret d h
        | .err e h => .err e h
        | .bad => .bad)
      | some false => .next ρ h
      | none => .bad)
    | .err e h => .err e h
    | .bad => .bad
def R.thenS {α : Type} (x : R α) (f : α → Hs → RS) : RS := match x with
  | .ok a h => f a h
  | .err e h => .err e h
  | .bad => .bad
mutual
def denS (g : G) : S → Env → Hs → RS
  | .asg tg c, ρ, h => (den g c ρ h).thenS fun x h => (match setTg tg x ρ with
    | some ρ => .next ρ h
    | none => .bad)
  | .par i j a b, ρ, h => (den g a ρ h).thenS fun x h => (den g b ρ h).thenS fun y h => .next ((ρ.set i (some x)).set j (some y)) h
  | .sub i k v, ρ, h => (den g v ρ h).thenS fun v h => (match ρ[i]? with
    | some (some (.list xs)) => (den g k ρ h).thenS fun k h => (match k with
      | .int n => (match ixN xs.length n with
        | some j => .next (ρ.set i (some (.list (xs.set j v)))) h
        | none => .bad)
      | _ => .bad)
    | some (some (.dict kvs)) => if !isCel (.dict kvs) && decide (kvs.length < bigLine) then (den g k ρ h).thenS fun k h => (if isKey k then .next (ρ.set i (some (.dict (putKV kvs k v)))) h else .bad) else .bad
    | _ => .bad)
  | .csub i k v, ρ, h => (den g v ρ h).thenS fun v h => (match ρ[i]? with
    | some (some (.dict [(.none, .int n)])) => (den g k ρ h).thenS fun k h => (match k, h[n.toNat]? with
      | .int m, some xs => (match ixN xs.length m with
        | some j => .next ρ (h.set n.toNat (xs.set j v))
        | none => .bad)
      | _, _ => .bad)
    | _ => .bad)
  | .aug i o c, ρ, h => (match ρ[i]? with
    | some (some x) => (den g c ρ h).thenS fun y h => (match x, y with
      | .int a, .int b => (match o with
        | .add => .next (ρ.set i (some (.int (a + b)))) h
        | .sub => .next (ρ.set i (some (.int (a - b)))) h
        | _ => .bad)
      | _, _ => .bad)
    | _ => .bad)
  | .app i c, ρ, h => (match ρ[i]? with
    | some (some (.list xs)) => (den g c ρ h).thenS fun y h => if xs.length < bigLine then .next (ρ.set i (some (.list (xs ++ [y])))) h else .bad
    | _ => .bad)
  | .ext i c, ρ, h => (match ρ[i]? with
    | some (some (.list xs)) => (den g c ρ h).thenS fun y h => (match y with
      | .list ys => if xs.length + ys.length ≤ bigLine then .next (ρ.set i (some (.list (xs ++ ys)))) h else .bad
      | _ => .bad)
    | _ => .bad)
  | .popAt j i c, ρ, h => (match ρ[i]? with
    | some (some (.list xs)) => (den g c ρ h).thenS fun y h => (match y with
      | .int n => (match ixN xs.length n with
        | some k => (match xs[k]? with
          | some x => if -(2 ^ 63) ≤ n ∧ n < 2 ^ 63 then .next ((ρ.set i (some (.list (xs.eraseIdx k)))).set j (some x)) h else .bad
          | none => .bad)
        | none => .bad)
      | _ => .bad)
    | _ => .bad)
  | .ife c a b, ρ, h => (den g c ρ h).thenS fun x h => (match tv x with
    | some true => denSs g a ρ h
    | some false => denSs g b ρ h
    | none => .bad)
  | .for_ tg it b, ρ, h => (den g it ρ h).thenS fun x h => (match items x with
    | some xs => loopF tg (fun ρ h => denSs g b ρ h) xs ρ h
    | none => .bad)
  | .whl c b, ρ, h => loopW (fun ρ h => den g c ρ h) (fun ρ h => denSs g b ρ h) g.L ρ h
  | .ret c, ρ, h => (den g c ρ h).thenS fun x h => .ret x h
  | .raise cls _, _, h => .err ⟨cls, none⟩ h
  | .brk, ρ, h => .brk ρ h
  | .cnt, ρ, h => .cnt ρ h
  | .pass, ρ, h => .next ρ h
  | .expr c, ρ, h => (den g c ρ h).thenS fun _ h => .next ρ h
  | .newcell i es, ρ, h => (dens g es ρ h).thenS fun xs h => .next (ρ.set i (some (cel h.length))) (h ++ [xs])
def denSs (g : G) : Ss → Env → Hs → RS
  | .nil, ρ, h => .next ρ h
  | .cons s r, ρ, h => (match denS g s ρ h with
    | .next ρ h => denSs g r ρ h
    | .ret d h => .ret d h
    | .brk ρ h => .brk ρ h
    | .cnt ρ h => .cnt ρ h
    | .err e h => .err e h
    | .bad => .bad)
end
/-- a def: its name, how many parameters, how many slots, its body -/
structure Fn where
  name : Str
  np : Nat
  nv : Nat
  body : Ss
def RS.out : RS → R D
  | .next _ h => .ok .none h
  | .ret d h => .ok d h
  | .err e h => .err e h
  | _ => .bad
/-- calls, at most n deep, while loops of at most L turns -/
def callN (fs : List Fn) (L : Nat) : Nat → Str → List D → Hs → R D
  | 0, _, _, _ => .bad
  | n + 1, f, ds, h => match fs.find? (fun d => d.name == f) with
    | some d => if ds.length = d.np then (denSs ⟨callN fs L n, L⟩ d.body (ds.map some ++ List.replicate (d.nv - d.np) none) h).out else .bad
    | none => .bad
end Mini

set_option Elab.async false
set_option linter.all false
set_option maxRecDepth 100000
set_option maxHeartbeats 4000000
/-! Mini, part B: from the text to the code. -/
namespace Mini
open PySem L2
/-- what the text's own names are -/
structure Sig where
  fns : List (Str × Nat)
  consts : List (Str × D)
  told : Str
  cellv : Str
  excs : List Str
  rep : Bool
  gfns : List Str
/-- a def's names, its owned slots -/
structure Cxt where
  sig : Sig
  N : List Str
  own : List Nat
/-- without lambdas -/
def Cxt.noTold (cx : Cxt) : Cxt := { cx with sig := { cx.sig with told := "" } }
/-- within a lambda -/
def Cxt.lam (cx : Cxt) : Cxt := { cx with sig := { cx.sig with told := "", rep := false } }
def ixOf (x : Str) : List Str → Nat → Option Nat
  | [], _ => none
  | y :: r, n => if y = x then some n else ixOf x r (n + 1)
def Cxt.ix (cx : Cxt) (x : Str) : Option Nat := ixOf x cx.N 0
def plainN (x : Str) : Bool := !(x == ("__debug__" : Str)) && !(x == ("__classdict__" : Str)) && !(x == ("__name__" : Str))
def isVis (sc : Scope) (x : Str) : Bool := plainN x && (sc.names.lookup x == some .local || sc.names.lookup x == some .cell || sc.names.lookup x == some .free)
def isGl (sc : Scope) (x : Str) : Bool := plainN x && sc.names.lookup x == some .globalImplicit
def inter (a b : List Nat) : Bool := a.any fun i => b.contains i
mutual
/-- the owned slots whose objects a value may have -/
def C.tnt (own : List Nat) : C → List Nat
  | .slot i => if own.contains i then [i] else []
  | .tup es => es.tnt own
  | .lst es => es.tnt own
  | .dct _ vs => vs.tnt own
  | .ite _ a b => a.tnt own ++ b.tnt own
  | .and2 a b => a.tnt own ++ b.tnt own
  | .or2 a b => a.tnt own ++ b.tnt own
  | .met _ _ es => es.tnt own
  | .blt .nextIter es => es.tnt own
  | .blt .min2 es => es.tnt own
  | .lc elt _ _ _ => elt.tnt own
  | .lc2 elt _ _ _ _ _ _ => elt.tnt own
  | .dc _ v _ _ _ => v.tnt own
  | .told c => c.tnt own
  | _ => []
def Cs.tnt (own : List Nat) : Cs → List Nat
  | .nil => []
  | .cons c r => c.tnt own ++ r.tnt own
  | .star _ r => r.tnt own
end
mutual
/-- what a value may hold: 0 no owned object; 1 an owned object itself, nothing owned within; 2 owned objects within -/
def C.knd (own : List Nat) : C → Nat
  | .slot i => if own.contains i then 1 else 0
  | .tup es => if es.knd own = 0 then 0 else 2
  | .lst es => if es.knd own = 0 then 0 else 2
  | .dct _ vs => if vs.knd own = 0 then 0 else 2
  | .ite _ a b => max (a.knd own) (b.knd own)
  | .and2 a b => max (a.knd own) (b.knd own)
  | .or2 a b => max (a.knd own) (b.knd own)
  | .bin _ a b => if 2 ≤ max (a.knd own) (b.knd own) then 2 else 0
  | .idx a _ => if 2 ≤ a.knd own then 2 else 0
  | .slc a _ _ => if 2 ≤ a.knd own then 2 else 0
  | .blt .nextIter es => es.knd own
  | .blt _ es => if 2 ≤ es.knd own then 2 else 0
  | .met _ o es => max (if 2 ≤ o.knd own then 2 else 0) (es.knd own)
  | .told c => if c.knd own = 0 then 0 else 2
  | _ => 0
def Cs.knd (own : List Nat) : Cs → Nat
  | .nil => 0
  | .cons c r => max (c.knd own) (r.knd own)
  | .star c r => max (if 2 ≤ c.knd own then 2 else 0) (r.knd own)
end
/-- a new object of one's own -/
def C.fresh : C → Bool
  | .lst _ => true
  | .dct _ _ => true
  | .lc _ _ _ _ => true
  | .lc2 _ _ _ _ _ _ _ => true
  | .dc _ _ _ _ _ => true
  | .blt .list _ => true
  | .blt .sortedSet _ => true
  | .blt .sorted _ => true
  | .blt .dict _ => true
  | _ => false
/-- keys that change nothing -/
def C.pure : C → Bool
  | .slot _ => true
  | .lit _ => true
  | _ => false
def Cs.pure : Cs → Bool
  | .nil => true
  | .cons c r => c.pure && r.pure
  | .star _ _ => false
def Cs.len : Cs → Nat
  | .nil => 0
  | .cons _ r => r.len + 1
  | .star _ r => r.len + 1
def bltOf (f : Str) (n : Nat) : Option Blt :=
  if f = "len" then (if n = 1 then some .len else none)
  else if f = "all" then (if n = 1 then some .all else none)
  else if f = "any" then (if n = 1 then some .any else none)
  else if f = "sum" then (if n = 1 then some .sum else none)
  else if f = "min" then (if n = 1 then some .min else if n = 2 then some .min2 else none)
  else if f = "max" then (if n = 1 then some .max else if n = 2 then some .max2 else none)
  else if f = "abs" then (if n = 1 then some .abs else none)
  else if f = "int" then (if n = 1 then some .int else none)
  else if f = "tuple" then (if n = 1 then some .tuple else none)
  else if f = "list" then (if n = 1 then some .list else none)
  else if f = "dict" then (if n = 1 then some .dict else none)
  else if f = "repr" then (if n = 1 then some .repr else none)
  else none
def isiOf (t : Str) : Option Blt :=
  if t = "int" then some .isInt else if t = "str" then some .isStr else if t = "tuple" then some .isTuple else none
def bopOf : Operator → Option Bop
  | .Add => some .add
  | .Sub => some .sub
  | .Mult => some .mul
  | .FloorDiv => some .fdiv
  | .Mod => some .mod
  | .Pow => some .pow
  | _ => none
def copOf : CmpOp → Option Cop
  | .Eq => some .eq
  | .NotEq => some .ne
  | .Lt => some .lt
  | .LtE => some .le
  | .Gt => some .gt
  | .GtE => some .ge
  | .Is => some .is_
  | .IsNot => some .isn
  | .In => some .in_
  | .NotIn => some .nin
def constD : Const → Option D
  | .none => some .none
  | .bool b => some (.bool b)
  | .int i => some (.int i)
  | .str s => some (.str s)
  | _ => none
def metOf (m : Str) (n : Nat) : Option Met :=
  if m = "get" then (if n = 1 then some .get1 else if n = 2 then some .get2 else none) else none
/-- a target's names -/
def nameE : Expr → Option Str
  | .Name x _ => some x
  | _ => none
def tgNames : Expr → Option (List Str)
  | .Name x _ => some [x]
  | .Tuple es _ _ => es.mapM nameE
  | _ => none
def tgOf (cx : Cxt) : Expr → Option Tg
  | .Name x _ => (cx.ix x).map .nm
  | .Tuple es _ _ => (es.mapM fun e => (nameE e).bind cx.ix).map .tp
  | _ => none
def isStar : Expr → Bool
  | .Starred .. => true
  | _ => false
def withIx (cx : Cxt) (xs : List Str) : Option (List (Str × Nat)) := xs.mapM fun x => (cx.ix x).map fun i => (x, i)
/-- a name that a target of the block may be -/
def tgLocal (sc' scope : Scope) (xs : List Str) : Bool := xs.all fun x => (sc'.names.lookup x == some .local) || (sc'.names.lookup x == some .cell && scope.names.lookup x == some .cell)
def isIfE : Expr → Bool
  | .IfExp .. => true
  | _ => false
def boolC (f : Expr → Option C) (k : C → C → C) : List Expr → Option C
  | [] => none
  | [a] => if isIfE a then none else f a
  | a :: b :: r => if isIfE a then none else match f a, boolC f k (b :: r) with
    | some a, some r => some (k a r)
    | _, _ => none
def argsC (f : Expr → Option C) : List Expr → Option Cs
  | [] => some .nil
  | e :: r => match e with
    | .Starred e _ => (match f e, argsC f r with
      | some c, some r => some (.star c r)
      | _, _ => none)
    | e => (match f e, argsC f r with
      | some c, some r => some (.cons c r)
      | _, _ => none)
def keysC (f : Expr → Option C) : List (Option Expr) → Option Cs
  | [] => some .nil
  | some e :: r => (match f e, keysC f r with
    | some c, some r => some (.cons c r)
    | _, _ => none)
  | none :: _ => none
def optC (f : Expr → Option C) : Option Expr → Option C
  | none => some (.lit .none)
  | some e => (f e).bind fun c => if c.isNo then none else some c
def condC (f : Expr → Option C) : List Expr → Option C
  | [] => some (.lit (.bool true))
  | [c] => if isIfE c then none else f c
  | _ => none
/-- what is walked -/
def iterC (f : Expr → Option C) (sc : Scope) (e : Expr) : Option C := match e with
  | .Call (.Name g _) [a] [] _ => if isGl sc g && g = "range" && !isStar a then (f a).map fun a => .blt .range1 (.cons a .nil) else f e
  | .Call (.Name g _) [a, b] [] _ => if isGl sc g && g = "range" && !isStar a && !isStar b then (match f a, f b with
    | some a, some b => some (.blt .range2 (.cons a (.cons b .nil)))
    | _, _ => none) else f e
  | e => f e
/-- a lambda without parameters -/
def noPs (ps : Arguments) : Bool := ps.posonlyargs.isEmpty && ps.args.isEmpty && ps.vararg.isNone && ps.kwonlyargs.isEmpty && ps.kw_defaults.isEmpty && ps.kwarg.isNone && ps.defaults.isEmpty
def lamB (sc scope : Scope) : Bool :=
  decide (scope.kind = .function) && !scope.isCoroutine && !scope.isGenerator && scope.names.all fun y => !decide (y.2 = .local) && !decide (y.2 = .cell) && (!decide (y.2 = .free) || decide (sc.names.lookup y.1 = some .cell) || decide (sc.names.lookup y.1 = some .free))
/-- a call of a name -/
inductive CV where
  | sset (e : Expr) (p : Pos) (q : Pos)
  | lset (e : Expr)
  | nxt (e d : Expr)
  | isi (e : Expr) (t : Str)
  | lam (ps : Arguments) (body : Expr) (lsc : Scope)
  | pl
def viewC (f : Str) (es : List Expr) : CV :=
  if f = "sorted" then (match es with
    | [.Call (.Name g _) [e] [] _] => if g = "set" then .sset e ⟨0, 0, 0, 0⟩ ⟨0, 0, 0, 0⟩ else .pl
    | _ => .pl)
  else if f = "len" then (match es with
    | [.Call (.Name g _) [e] [] _] => if g = "set" then .lset e else .pl
    | _ => .pl)
  else if f = "next" then (match es with
    | [.Call (.Name g _) [e] [] _, d] => if g = "iter" then .nxt e d else .pl
    | _ => .pl)
  else if f = "isinstance" then (match es with
    | [e, .Name t _] => .isi e t
    | _ => .pl)
  else (match es with
    | [.Lambda ps body lsc _] => .lam ps body lsc
    | _ => .pl)
def isRep : Blt → Bool
  | .repr => true
  | _ => false
/-- a call of a name of the module or a built-in -/
def plainC (cx : Cxt) (f : Str) (cs : Cs) (n : Nat) : Option C := match cx.sig.fns.lookup f with
  | some k => if k = n && decide (1 ≤ n) && (!cx.sig.gfns.contains f || cx.sig.rep) then some (.call f (decide (cs.knd cx.own ≠ 0)) cs) else none
  | none => (bltOf f n).bind fun b => if isRep b && !cx.sig.rep then none else some (.blt b cs)
def isLc : C → Bool
  | .lc _ _ _ _ => true
  | _ => false
def callC (cx : Cxt) (g : Expr → Option C) (gl : Expr → Scope → Option C) (sc : Scope) (f : Str) (es : List Expr) : Option C := if !isGl sc f then none else match viewC f es with
  | .sset e _ _ => if isGl sc "set" && !isStar e then (g e).map fun c => .blt .sortedSet (.cons c .nil) else none
  | .lset _ => none
  | .nxt e d => if isGl sc "iter" && !isStar e && !isStar d then (match g e, g d with
    | some c, some k => if isLc c then some (.blt .nextIter (.cons c (.cons k .nil))) else none
    | _, _ => none) else none
  | .isi e t => if isGl sc t && !isStar e then (match g e, isiOf t with
    | some c, some b => some (.blt b (.cons c .nil))
    | _, _ => none) else none
  | .lam ps body lsc => if decide (f = cx.sig.told) && noPs ps && lamB sc lsc && decide (cx.sig.told ≠ "") then (gl body lsc).map .told else none
  | .pl => if es.any isStar then none else (match argsC g es with
    | some cs => plainC cx f cs es.length
    | none => none)
/-- what is walked is of no slot's own, or a slot's own that the body does not change -/
def isNameE : Expr → Bool
  | .Name .. => true
  | _ => false
def walkOk (own mu : List Nat) (c : C) : Bool := decide (c.knd own = 0) || (match c with
  | .slot i => !mu.contains i
  | _ => false)
def lcC (cx : Cxt) (f0 f : Expr → Scope → Option C) (sc : Scope) (elt : Expr) (gs : List Comprehension) (scope : Scope) : Option C := match gs with
  | [⟨tg, iter, ifs, 0⟩] => (match tgNames tg with
    | some xs => (match tgOf cx tg, withIx cx xs, iterC (fun e => f0 e sc) sc iter, f elt (relS scope sc), condC (fun e => f e (relS scope sc)) ifs with
      | some t, some own, some it, some el, some cond => if blkC cx.N sc scope own && tgLocal (relS scope sc) scope xs && !inter t.slots cx.own && decide (el.knd cx.own = 0) && walkOk cx.own [] it && (decide (it.knd cx.own = 0) || isNameE iter) then some (.lc el t it cond) else none
      | _, _, _, _, _ => none)
    | none => none)
  | _ => none
def lc2C (cx : Cxt) (f : Expr → Scope → Option C) (sc : Scope) (elt : Expr) (gs : List Comprehension) (scope : Scope) : Option C := match gs with
  | [⟨tg, iter, ifs, 0⟩, ⟨tg1, iter1, ifs1, 0⟩] => (match tgNames tg, tgNames tg1 with
    | some xs, some ys => (match tgOf cx tg, tgOf cx tg1, withIx cx (xs ++ ys), iterC (fun e => f e sc) sc iter, iterC (fun e => f e (relS scope sc)) (relS scope sc) iter1 with
      | some t, some t1, some own, some it, some it1 => (match f elt (relS scope sc), condC (fun e => f e (relS scope sc)) ifs, condC (fun e => f e (relS scope sc)) ifs1 with
        | some el, some cond, some cond1 =>
          if blkC cx.N sc scope own && tgLocal (relS scope sc) scope (xs ++ ys) && !inter t.slots cx.own && !inter t1.slots cx.own && !inter t.slots t1.slots && decide (el.knd cx.own = 0) && walkOk cx.own [] it && walkOk cx.own [] it1 then some (.lc2 el t it cond t1 it1 cond1) else none
        | _, _, _ => none)
      | _, _, _, _, _ => none)
    | _, _ => none)
  | _ => none
def compE (cx : Cxt) : Nat → Expr → Scope → Option C
  | 0, _, _ => none
  | n + 1, e, sc => match e with
    | .Name x _ => if isVis sc x then (cx.ix x).map .slot else if isGl sc x then (cx.sig.consts.lookup x).map .lit else none
    | .Constant c _ _ => (constD c).map .lit
    | .UnaryOp o a _ => (match o, compE cx n a sc with
      | .USub, some a => some (.neg a)
      | .Not, some c => if isIfE a then none else some (.notv c)
      | _, _ => none)
    | .BinOp a o b _ => (match bopOf o, compE cx n a sc, compE cx n b sc with
      | some o, some a, some b => some (.bin o a b)
      | _, _, _ => none)
    | .BoolOp .And es _ => boolC (fun e => compE cx n e sc) .and2 es
    | .BoolOp .Or es _ => boolC (fun e => compE cx n e sc) .or2 es
    | .Compare a ops cs _ => (match ops, cs with
      | [o], [b] => (match copOf o, compE cx n a sc, compE cx n b sc with
        | some o, some a, some b => some (.cmp o a b)
        | _, _, _ => none)
      | [o, p], [b, c] => (match copOf o, copOf p, compE cx n a sc, compE cx n b sc, compE cx n c sc with
        | some o, some p, some a, some b, some c => some (.chn o p a b c)
        | _, _, _, _, _ => none)
      | _, _ => none)
    | .IfExp t a b _ => if isIfE t then none else (match compE cx n t sc, compE cx n a sc, compE cx n b sc with
      | some t, some a, some b => some (.ite t a b)
      | _, _, _ => none)
    | .Tuple es _ _ => (argsC (fun e => compE cx n e sc) es).map .tup
    | .List es _ => (argsC (fun e => compE cx n e sc) es).map .lst
    | .Dict ks vs _ => (match keysC (fun e => compE cx n e sc) ks, argsC (fun e => compE cx n e sc) vs with
      | some k, some v => if k.len = v.len && decide (k.len ≤ 15) && !(vs.any isStar) && k.pure && decide (ks.length = vs.length) then some (.dct k v) else none
      | _, _ => none)
    | .Subscript a b _ => (match b with
      | .Slice l u s _ => (match s, compE cx n a sc, optC (fun e => compE cx n e sc) l, optC (fun e => compE cx n e sc) u with
        | none, some a, some l, some u => some (.slc a l u)
        | _, _, _, _ => none)
      | b => (match compE cx n a sc, compE cx n b sc with
        | some a, some b => some (.idx a b)
        | _, _ => none))
    | .ListComp elt gs scope _ => lcC cx (compE cx n) (compE cx.noTold n) sc elt gs scope
    | .Call (.Name f _) es [] _ => callC cx (fun e => compE cx n e sc) (compE cx.lam n) sc f es
    | .Call (.Attribute o m ap) es [] cp => if es.any isStar || !(ap.endLine == cp.line) then none else (match compE cx n o sc, argsC (fun e => compE cx n e sc) es, metOf m es.length with
      | some o, some cs, some mt => some (.met mt o cs)
      | _, _, _ => none)
    | _ => none

/-! ### statements -/
mutual
/-- the owned slots that are changed by a method or a store -/
def S.mut : S → List Nat
  | .sub i _ _ => [i]
  | .app i _ => [i]
  | .ext i _ => [i]
  | .popAt _ i _ => [i]
  | .ife _ a b => a.mut ++ b.mut
  | .for_ _ _ b => b.mut
  | .whl _ b => b.mut
  | _ => []
def Ss.mut : Ss → List Nat
  | .nil => []
  | .cons s r => s.mut ++ r.mut
end
def locIx (cx : Cxt) (sc : Scope) (x : Str) : Option Nat := if sc.names.lookup x == some .local || sc.names.lookup x == some .cell then cx.ix x else none
def tgOfS (cx : Cxt) (sc : Scope) : Expr → Option Tg
  | .Name x _ => (locIx cx sc x).map .nm
  | .Tuple es _ _ => (es.mapM fun e => (nameE e).bind (locIx cx sc)).map .tp
  | _ => none
/-- may the value go to the slot -/
def isLst : C → Bool
  | .lst _ => true
  | _ => false
def isTupE : Expr → Bool
  | .Tuple .. => true
  | _ => false
def mayAsg (cx : Cxt) (i : Nat) (c : C) : Bool := if cx.own.contains i then isLst c && decide (c.knd cx.own = 0) else decide (c.knd cx.own = 0)
/-- x.m(e), x a slot -/
def metCall (cx : Cxt) (sc : Scope) (e : Expr) (m : Str) : Option (Nat × Expr) := match e with
  | .Call (.Attribute (.Name x _) k ap) [a] [] cp => if k = m && isVis sc x && !isStar a && (ap.endLine == cp.line) then (cx.ix x).map fun i => (i, a) else none
  | _ => none
def cellC (cx : Cxt) (f : Expr → Option C) (i : Nat) : Expr → Option S
  | .List es _ => if es.any isStar || cx.own.contains i then none else (argsC f es).bind fun cs => if cs.knd cx.own = 0 then some (.newcell i cs) else none
  | _ => none
def ownC (cx : Cxt) (f : Expr → Option C) (i : Nat) : Expr → Option S
  | .List es _ => (argsC f es).bind fun cs => if cs.knd cx.own = 0 then some (.asg (.nm i) (.lst cs)) else none
  | _ => none
def asgC (cx : Cxt) (f : Expr → Option C) (sc : Scope) (x : Str) (v : Expr) : Option S := (locIx cx sc x).bind fun i =>
  if x = cx.sig.cellv then cellC cx f i v else if cx.own.contains i then ownC cx f i v else (f v).bind fun c => if c.knd cx.own = 0 then some (.asg (.nm i) c) else none
def tupC (cx : Cxt) (f : Expr → Option C) (sc : Scope) (tg v : Expr) : Option S := if isTupE v then none else (tgOfS cx sc tg).bind fun t => (f v).bind fun c => if !inter t.slots cx.own && decide (c.knd cx.own = 0) then some (.asg t c) else none
def subC (cx : Cxt) (f : Expr → Option C) (sc : Scope) (x : Str) (k v : Expr) : Option S := (cx.ix x).bind fun i => (f k).bind fun ck => (f v).bind fun cv =>
  if isVis sc x && decide (x = cx.sig.cellv) && !(cx.own.contains i) && decide (cv.knd cx.own = 0) then some (.csub i ck cv) else none
def isCallE : Expr → Bool
  | .Call .. => true
  | _ => false
def exprC (cx : Cxt) (f : Expr → Option C) (sc : Scope) (e : Expr) : Option S := match metCall cx sc e "append" with
  | some (i, a) => (f a).bind fun c => if cx.own.contains i && decide (c.knd cx.own = 0) then some (.app i c) else none
  | none => if isCallE e then (f e).map .expr else none
def raiseC (cx : Cxt) (sc : Scope) : Option Expr → Option Expr → Option S
  | some (.Call (.Name x _) [.Constant (.str m) _ _] [] _), none => if isGl sc x && cx.sig.excs.contains x then some (.raise x m) else none
  | _, _ => none
mutual
def compS (cx : Cxt) (sc : Scope) : Nat → Stmt → Option S
  | 0, _ => none
  | n + 1, s => match s with
    | .Assign [.Name x _] v _ => asgC cx (fun e => compE cx n e sc) sc x v
    | .Assign [.Tuple ts a b] v _ => tupC cx (fun e => compE cx n e sc) sc (.Tuple ts a b) v
    | .Assign [.Subscript (.Name x _) k _] v _ => subC cx (fun e => compE cx n e sc) sc x k v
    | .Expr e _ => exprC cx (fun e => compE cx n e sc) sc e
    | .If c a b _ => if isIfE c then none else (match compE cx n c sc, compSs cx sc n a, compSs cx sc n b with
      | some c, some a, some b => some (.ife c a b)
      | _, _, _ => none)
    | .For tg it b [] _ => (match tgOfS cx sc tg, iterC (fun e => compE cx n e sc) sc it, compSs cx sc n b with
      | some t, some i, some b => if !inter t.slots cx.own && decide (i.knd cx.own = 0) then some (.for_ t i b) else none
      | _, _, _ => none)
    | .Return (some e) _ => (compE cx n e sc).bind fun c => if c.knd cx.own ≤ 1 then some (.ret c) else none
    | .Return none _ => some (.ret (.lit .none))
    | .Raise e w _ => raiseC cx sc e w
    | .Break _ => some .brk
    | .Continue _ => some .cnt
    | .Pass _ => some .pass
    | _ => none
def compSs (cx : Cxt) (sc : Scope) : Nat → List Stmt → Option Ss
  | 0, _ => none
  | _ + 1, [] => some .nil
  | n + 1, s :: r => (match compS cx sc n s, compSs cx sc n r with
    | some s, some r => some (.cons s r)
    | _, _ => none)
end
end Mini

set_option Elab.async false
set_option linter.all false
set_option maxRecDepth 100000
set_option maxHeartbeats 4000000
/-! Mini, part T: tuples that are known whole (no dict of their own). -/
namespace Mini
open PySem PySem.Spec PyProof.Rows L2
/-- a tuple as one is made -/
def PlainT (o : Obj) : Prop := o.cls = .type "tuple" ∧ o.dict = none ∧ ∃ (its : Array Value) (n : Nat), o.data = .seq its n
def newT (its : List Value) : Obj := { cls := .type "tuple", data := .seq its.toArray }
theorem newT_plain (its : List Value) : PlainT (newT its) := ⟨rfl, rfl, _, _, rfl⟩
section
variable {X : Cx} {pins : List (Addr × Obj)} {σ : L2.St} {H : Hp} {s : Shared}
theorem layT {its : List Value} {xs : List V} {Q : VK} (I : Inv X pins σ H s) (r : Vals xs its) (hz : xs.length ≤ sizeLine) (q : ∀ p o, PlainT o → H p = none → Q (.ref p) (upd H p (.frz o (.tup xs)))) :
    EP X pins σ Q (.ref s.heap.objs.size) { s with heap := s.heap.push (newT its) } :=
  ⟨.ref s.heap.objs.size, _, I.laid (t' := s.toks) (o := .frz (newT its) (.tup xs)) (fun _ _ z => Heap.get?_push_of_some _ z) (Nat.le_refl _) ⟨Heap.get?_push_size _ rfl, hz, its, r, IsTup.new _ _⟩, rfl, q _ _ (newT_plain its) (I.hok.fresh (Nat.le_refl _))⟩
def tTupZ (t : TA) : TE := fun σ H Q => t σ H fun xs H1 => xs.length ≤ sizeLine ∧ ∀ p o, PlainT o → H1 p = none → Q (.ref p) (upd H1 p (.frz o (.tup xs)))
theorem pe_tupZ {es : List Expr} {t : TA} {x1 : Nat} {pos : Pos} (h : PA X es t) : PE X (.Tuple es x1 pos) (tTupZ t) :=
  ⟨fun pins s σ H Q I hq => wpAny_Tuple_spliced (thn (h.run pos pins s σ H _ I hq) fun us s1 ⟨xs, H1, I1, r, z, q⟩ => ⟨by rw [← r.length]; exact z, layT I1 r z q⟩)⟩
theorem cr_tupleZ : CallR X (.type "tuple") (fun xs H Q => ∃ p ys, xs = [.ref p] ∧ ((SqL X.K H p ys ∧ ∀ l o, PlainT o → H l = none → Q (.ref l) (upd H l (.frz o (.tup ys)))) ∨ (SqT X.K H p ys ∧ Q (.ref p) H))) := by
  intro pins s σ H xs us Q I r h
  obtain ⟨p, ys, rfl, h⟩ := h
  rcases h with ⟨hq, q⟩ | ⟨hq, q⟩
  · obtain ⟨u, rfl, rx⟩ := vals1 r
    cases rx
    obtain ⟨its, r', pl, hz⟩ := I.list hq
    have hl := r'.length
    refine call_tuple_list pl.isList (fun h' kp => ?_) (by simp only [List.size_toArray]; omega)
    have J : Inv X pins σ H { s with heap := h' } := I.kept (t' := s.toks) kp
    exact layT J r' hz q
  · exact call_tuple_of pins s σ H _ us Q I r ⟨_, _, rfl, .inr ⟨hq, q⟩⟩
/-- t + u -/
def rCatZ (K : PySem.W.Frag) : R2 := fun x y H Q => ∃ a b xs ys, x = .ref a ∧ y = .ref b ∧ SqT K H a xs ∧ SqT K H b ys ∧ xs.length + ys.length ≤ sizeLine ∧
  (xs = [] → Q (.ref b) H) ∧ (xs ≠ [] → ys = [] → Q (.ref a) H) ∧ (xs ≠ [] → ys ≠ [] → ∀ p o, PlainT o → H p = none → Q (.ref p) (upd H p (.frz o (.tup (xs ++ ys)))))
theorem op_catZ : OpR X (binaryOp .Add) (rCatZ X.K) := by
  intro pins s σ H x y v u Q I rx ry h
  obtain ⟨a, b, xs, ys, rfl, rfl, ha, hb, hz, q0, q1, q2⟩ := h
  by_cases hx : xs = []
  · exact op_catA pins s σ H _ _ v u Q I rx ry ⟨a, b, xs, ys, rfl, rfl, ha, hb, hz, q0, fun z => absurd hx z, fun z => absurd hx z⟩
  · by_cases hy : ys = []
    · exact op_catA pins s σ H _ _ v u Q I rx ry ⟨a, b, xs, ys, rfl, rfl, ha, hb, hz, q0, q1, fun _ z => absurd hy z⟩
    · cases rx
      cases ry
      obtain ⟨i1, r1, p1, _⟩ := I.tuple ha
      obtain ⟨i2, r2, p2, _⟩ := I.tuple hb
      have n1 : i1 ≠ [] := fun z => hx (r1.nil_iff.mp z)
      have n2 : i2 ≠ [] := fun z => hy (r2.nil_iff.mp z)
      exact HT.cat_tup p1 p2 n1 (fun z => absurd z n2) (fun _ => layT I (r1.append r2) (by rw [List.length_append]; exact hz) (q2 hx hy)) (by rw [← r1.length, ← r2.length]; exact hz)
/-- t[lo:hi] -/
def rSlZ (K : PySem.W.Frag) : V → Option Int → Option Int → Hp → VK → Prop := fun x lo hi H Q => ∃ a xs, x = .ref a ∧ SqT K H a xs ∧
  (HT.sIx xs.length 0 lo = 0 ∧ HT.sIx xs.length xs.length hi = xs.length → Q (.ref a) H) ∧ (¬ (HT.sIx xs.length 0 lo = 0 ∧ HT.sIx xs.length xs.length hi = xs.length) → ∀ p o, PlainT o → H p = none → Q (.ref p) (upd H p (.frz o (.tup (cutV xs lo hi)))))
theorem sl_tupZ : SlR X (rSlZ X.K) := by
  intro pins s σ H x v vl vu lo hi sl Q I rx hs pl pu h
  obtain ⟨a, xs, rfl, hx, q1, q2⟩ := h
  by_cases hw : HT.sIx xs.length 0 lo = 0 ∧ HT.sIx xs.length xs.length hi = xs.length
  · exact sl_tupA pins s σ H _ v vl vu lo hi sl Q I rx hs pl pu ⟨a, xs, rfl, hx, q1, fun z => absurd hw z⟩
  · cases rx
    obtain ⟨its, r, ht, hz⟩ := I.tuple hx
    have hlen : its.toArray.size = xs.length := by rw [List.size_toArray]; exact r.length.symm
    refine ⟨"tuple", _, PyProof.Rows.slot_tuple_getitem.lookup, ht.typeIs, HT.getItem_tuple_cut ht hs pl pu (by rw [hlen]; exact hw) ?_ (by rw [hlen]; exact hz)⟩
    rw [hlen]
    exact layT I ((r.drop _).take _) (Nat.le_trans (cutV_length xs lo hi) hz) (q2 hw)
end
end Mini

set_option Elab.async false
set_option linter.all false
set_option maxRecDepth 100000
set_option maxHeartbeats 4000000
/-! Mini, part C: how values of the machine tell data. -/
namespace Mini
open PySem PySem.Spec PyProof.Rows L2
def keyD : Key → D
  | .inl i => .int i
  | .inr x => .str x
/-- what can change -/
def mutK : HO → Bool
  | .lst _ => true
  | .dK _ => true
  | _ => false
def NoTbl (o : HO) : Prop := ∀ ps, o ≠ .tbl ps
/-- all but P and the tables stay -/
def Keep (P : Addr → Prop) (H H' : Hp) : Prop := ∀ b o, H b = some o → ¬ P b → NoTbl o → H' b = some o
theorem Keep.refl {P : Addr → Prop} {H : Hp} : Keep P H H := fun _ _ h _ _ => h
theorem Keep.trans {P : Addr → Prop} {H H1 H2 : Hp} (a : Keep P H H1) (b : Keep P H1 H2) : Keep P H H2 := fun c o h n t => b c o (a c o h n t) n t
theorem Keep.mono {P P' : Addr → Prop} {H H1 : Hp} (a : Keep P H H1) (h : ∀ b, P b → P' b) : Keep P' H H1 := fun c o e n t => a c o e (fun z => n (h c z)) t
theorem Keep.of {P : Addr → Prop} {H H1 : Hp} (a : ∀ b o, H b = some o → H1 b = some o) : Keep P H H1 := fun c o e _ _ => a c o e
theorem Keep.upd {P : Addr → Prop} {H : Hp} {p : Addr} {o : HO} (h : H p = none) : Keep P H (upd H p o) := Keep.of fun b x e => by rw [upd_ne (ne_of_none e h)]; exact e
theorem ext_upd {H : Hp} {p : Addr} {o : HO} (h : H p = none) : ∀ b x, H b = some x → upd H p o b = some x := fun b x e => by rw [upd_ne (ne_of_none e h)]; exact e
def KwL (K : PySem.W.Frag) (a : Addr) (xs : List V) : Prop := ∃ (o : Obj) (its : Array Value) (n : Nat), K.lookup a = some o ∧ o.cls = .type "list" ∧ o.dict = none ∧ o.data = .seq its n ∧ its.size ≤ sizeLine ∧ Vals xs its.toList
def KwT (K : PySem.W.Frag) (a : Addr) (xs : List V) : Prop := ∃ (o : Obj) (its : Array Value) (n : Nat), K.lookup a = some o ∧ o.cls = .type "tuple" ∧ o.data = .seq its n ∧ its.size ≤ sizeLine ∧ Vals xs its.toList ∧ o.dict = none
def TupZ (H : Hp) (a : Addr) (xs : List V) : Prop := ∃ o, PlainT o ∧ H a = some (.frz o (.tup xs))
theorem TupZ.rd {H : Hp} {a : Addr} {xs : List V} (h : TupZ H a xs) : Rd H a (.tup xs) := let ⟨o, _, e⟩ := h; .inr ⟨o, e⟩
/-- what is fixed: the written part, the world, the cells' places -/
structure Fx where
  K : PySem.W.Frag
  w : World
  μ : List Addr
/-- a table's entries: texts and ints, in this order -/
def TabEs : List DictEntry → List (D × D) → Prop
  | [], [] => True
  | e :: r, (.str x, .int i) :: q => (∃ t, e.key = .str x t) ∧ (∃ t, e.val = .int i t) ∧ TabEs r q
  | _, _ => False
mutual
/-- the value tells the datum, by objects none of which is in F -/
inductive Rep (X : Fx) (F : Addr → Prop) (H : Hp) : V → D → Prop
  | non : Rep X F H .non .none
  | bl (b : Bool) : Rep X F H (.bl b) (.bool b)
  | int (i : Int) : Rep X F H (.int i) (.int i)
  | str (x : Str) : Rep X F H (.str x) (.str x)
  | tup {a : Addr} {xs : List V} {ds : List D} : ((¬ F a ∧ TupZ H a xs) ∨ KwT X.K a xs) → Reps X F H xs ds → Rep X F H (.ref a) (.tuple ds)
  | lst {a : Addr} {xs : List V} {ds : List D} : ¬ F a → H a = some (.lst xs) → Reps X F H xs ds → Rep X F H (.ref a) (.list ds)
  | scr {a : Addr} {ns : List Int} : ((¬ F a ∧ Rd H a (.lst (ns.map V.int))) ∨ KwL X.K a (ns.map V.int)) → Rep X F H (.ref a) (scr ns)
  | dct {a : Addr} {kvs : List (Key × V)} {ds : List (D × D)} : ¬ F a → H a = some (.dK kvs) → isCel (.dict ds) = false → RepKV X F H kvs ds → Rep X F H (.ref a) (.dict ds)
  | kdc {a : Addr} {ds : List (D × D)} : (∃ es n, KDict X.K X.w a es n ∧ TabEs es.toList ds) → (∀ (z : Str) (i : Int), getKV ds (.str z) = some (.int i) → ∃ t, PySem.W.nsIn X.K a z = some (some (.int i t))) → Rep X F H (.ref a) (tbl ds)
  | cel {a : Addr} {n : Nat} : X.μ[n]? = some a → Rep X F H (.ref a) (cel n)
inductive Reps (X : Fx) (F : Addr → Prop) (H : Hp) : List V → List D → Prop
  | nil : Reps X F H [] []
  | cons {v : V} {vs : List V} {d : D} {ds : List D} : Rep X F H v d → Reps X F H vs ds → Reps X F H (v :: vs) (d :: ds)
inductive RepKV (X : Fx) (F : Addr → Prop) (H : Hp) : List (Key × V) → List (D × D) → Prop
  | nil : RepKV X F H [] []
  | cons {k : Key} {v : V} {kvs : List (Key × V)} {d : D} {ds : List (D × D)} : Rep X F H v d → RepKV X F H kvs ds → RepKV X F H ((k, v) :: kvs) ((keyD k, d) :: ds)
end
section
variable {X : Fx} {F F' : Addr → Prop} {H H' : Hp}
theorem rd_keep {P : Addr → Prop} {a : Addr} {u : HO} (k : Keep P H H') (h : Rd H a u) (n : ¬ P a) (hu : NoTbl u) : Rd H' a u := by
  rcases h with e | ⟨o, e⟩
  · exact .inl (k a _ e n hu)
  · exact .inr ⟨o, k a _ e n (fun ps z => by cases z)⟩
theorem tupZ_keep {P : Addr → Prop} {a : Addr} {xs : List V} (k : Keep P H H') (h : TupZ H a xs) (n : ¬ P a) : TupZ H' a xs := let ⟨o, p, e⟩ := h; ⟨o, p, k a _ e n (fun ps z => by cases z)⟩
theorem rd_ex {a : Addr} {u : HO} (h : Rd H a u) : ∃ o, H a = some o := h.elim (fun e => ⟨_, e⟩) fun ⟨_, e⟩ => ⟨_, e⟩
mutual
theorem Rep.imp (hF : ∀ a, (∃ o, H a = some o) → ¬ F a → ¬ F' a) (k : Keep F H H') : ∀ {v : V} {d : D}, Rep X F H v d → Rep X F' H' v d
  | _, _, .non => .non
  | _, _, .bl b => .bl b
  | _, _, .int i => .int i
  | _, _, .str x => .str x
  | _, _, .tup h r => .tup (h.imp (fun ⟨n, e⟩ => ⟨hF _ (rd_ex e.rd) n, tupZ_keep k e n⟩) id) (Reps.imp hF k r)
  | _, _, .lst n e r => .lst (hF _ ⟨_, e⟩ n) (k _ _ e n (fun ps z => by cases z)) (Reps.imp hF k r)
  | _, _, .scr h => .scr (h.imp (fun ⟨n, e⟩ => ⟨hF _ (rd_ex e) n, rd_keep k e n (fun ps z => by cases z)⟩) id)
  | _, _, .dct n e c r => .dct (hF _ ⟨_, e⟩ n) (k _ _ e n (fun ps z => by cases z)) c (RepKV.imp hF k r)
  | _, _, .kdc e t => .kdc e t
  | _, _, .cel e => .cel e
theorem Reps.imp (hF : ∀ a, (∃ o, H a = some o) → ¬ F a → ¬ F' a) (k : Keep F H H') : ∀ {vs : List V} {ds : List D}, Reps X F H vs ds → Reps X F' H' vs ds
  | _, _, .nil => .nil
  | _, _, .cons a r => .cons (Rep.imp hF k a) (Reps.imp hF k r)
theorem RepKV.imp (hF : ∀ a, (∃ o, H a = some o) → ¬ F a → ¬ F' a) (k : Keep F H H') : ∀ {vs : List (Key × V)} {ds : List (D × D)}, RepKV X F H vs ds → RepKV X F' H' vs ds
  | _, _, .nil => .nil
  | _, _, .cons a r => .cons (Rep.imp hF k a) (RepKV.imp hF k r)
end
theorem Rep.keep {v : V} {d : D} (h : Rep X F H v d) (k : Keep F H H') : Rep X F H' v d := h.imp (fun _ _ n => n) k
theorem Reps.keep {v : List V} {d : List D} (h : Reps X F H v d) (k : Keep F H H') : Reps X F H' v d := h.imp (fun _ _ n => n) k
theorem RepKV.keep {v : List (Key × V)} {d : List (D × D)} (h : RepKV X F H v d) (k : Keep F H H') : RepKV X F H' v d := h.imp (fun _ _ n => n) k
theorem Rep.less {v : V} {d : D} (h : Rep X F H v d) (s : ∀ a, F' a → F a) : Rep X F' H v d := h.imp (fun a _ n z => n (s a z)) Keep.refl
theorem Reps.less {v : List V} {d : List D} (h : Reps X F H v d) (s : ∀ a, F' a → F a) : Reps X F' H v d := h.imp (fun a _ n z => n (s a z)) Keep.refl
theorem Reps.length : ∀ {vs : List V} {ds : List D}, Reps X F H vs ds → vs.length = ds.length
  | _, _, .nil => rfl
  | _, _, .cons _ r => by rw [List.length_cons, List.length_cons, Reps.length r]
theorem Reps.get : ∀ {vs : List V} {ds : List D} {i : Nat} {d : D}, Reps X F H vs ds → ds[i]? = some d → ∃ v, vs[i]? = some v ∧ Rep X F H v d
  | _, _, 0, _, .cons a _, e => by cases e; exact ⟨_, rfl, a⟩
  | _, _, i + 1, _, .cons _ r, e => by
    rw [List.getElem?_cons_succ] at e
    simp only [List.getElem?_cons_succ]
    exact Reps.get r e
theorem Reps.get' : ∀ {vs : List V} {ds : List D} {i : Nat} {v : V}, Reps X F H vs ds → vs[i]? = some v → ∃ d, ds[i]? = some d ∧ Rep X F H v d
  | _, _, 0, _, .cons a _, e => by cases e; exact ⟨_, rfl, a⟩
  | _, _, i + 1, _, .cons _ r, e => by
    rw [List.getElem?_cons_succ] at e
    simp only [List.getElem?_cons_succ]
    exact Reps.get' r e
theorem Reps.append : ∀ {vs ws : List V} {ds es : List D}, Reps X F H vs ds → Reps X F H ws es → Reps X F H (vs ++ ws) (ds ++ es)
  | _, _, _, _, .nil, s => s
  | _, _, _, _, .cons a r, s => .cons a (Reps.append r s)
theorem Reps.drop : ∀ {vs : List V} {ds : List D} (n : Nat), Reps X F H vs ds → Reps X F H (vs.drop n) (ds.drop n)
  | _, _, 0, r => r
  | _, _, _ + 1, .nil => .nil
  | _, _, n + 1, .cons _ r => Reps.drop n r
theorem Reps.take : ∀ {vs : List V} {ds : List D} (n : Nat), Reps X F H vs ds → Reps X F H (vs.take n) (ds.take n)
  | _, _, 0, _ => .nil
  | _, _, _ + 1, .nil => .nil
  | _, _, n + 1, .cons a r => .cons a (Reps.take n r)
theorem Reps.set : ∀ {vs : List V} {ds : List D} {v : V} {d : D} (n : Nat), Reps X F H vs ds → Rep X F H v d → Reps X F H (vs.set n v) (ds.set n d)
  | _, _, _, _, _, .nil, _ => .nil
  | _, _, _, _, 0, .cons _ r, b => .cons b r
  | _, _, _, _, n + 1, .cons a r, b => .cons a (Reps.set n r b)
theorem Reps.erase : ∀ {vs : List V} {ds : List D} (n : Nat), Reps X F H vs ds → Reps X F H (vs.eraseIdx n) (ds.eraseIdx n)
  | _, _, _, .nil => .nil
  | _, _, 0, .cons _ r => r
  | _, _, n + 1, .cons a r => .cons a (Reps.erase n r)
theorem Reps.rep {vs : List V} {ds : List D} (r : Reps X F H vs ds) : ∀ n : Nat, Reps X F H (List.replicate n vs).flatten (List.replicate n ds).flatten
  | 0 => .nil
  | n + 1 => by
    rw [List.replicate_succ, List.replicate_succ, List.flatten_cons, List.flatten_cons]
    exact r.append (Reps.rep r n)
theorem Reps.ints : ∀ {vs : List V} {ds : List D} {ns : List Int}, Reps X F H vs ds → intsOf ds = some ns → vs = ns.map V.int
  | _, _, _, .nil, e => by cases e; rfl
  | _, _, _, .cons a r, e => by
    cases a with
    | int i =>
      unfold intsOf at e
      cases q : intsOf _ with
      | none => rw [q] at e; cases e
      | some l =>
        rw [q] at e
        cases e
        rw [Reps.ints r q]
        rfl
    | _ => cases e
theorem Reps.bools : ∀ {vs : List V} {ds : List D} {ns : List Bool}, Reps X F H vs ds → boolsOf ds = some ns → vs = ns.map V.bl
  | _, _, _, .nil, e => by cases e; rfl
  | _, _, _, .cons a r, e => by
    cases a with
    | bl i =>
      unfold boolsOf at e
      cases q : boolsOf _ with
      | none => rw [q] at e; cases e
      | some l =>
        rw [q] at e
        cases e
        rw [Reps.bools r q]
        rfl
    | _ => cases e
theorem Reps.strs : ∀ {vs : List V} {ds : List D} {ns : List Str}, Reps X F H vs ds → strsOf ds = some ns → vs = ns.map V.str
  | _, _, _, .nil, e => by cases e; rfl
  | _, _, _, .cons a r, e => by
    cases a with
    | str i =>
      unfold strsOf at e
      cases q : strsOf _ with
      | none => rw [q] at e; cases e
      | some l =>
        rw [q] at e
        cases e
        rw [Reps.strs r q]
        rfl
    | _ => cases e
theorem reps_strs : ∀ (l : List Str), Reps X F H (l.map V.str) (l.map PyData.str)
  | [] => .nil
  | x :: r => .cons (.str x) (reps_strs r)
theorem reps_ints : ∀ (l : List Int), Reps X F H (l.map V.int) (l.map PyData.int)
  | [] => .nil
  | x :: r => .cons (.int x) (reps_ints r)
/-- lists and tuples as the layer has them -/
theorem sqT_of {a : Addr} {xs : List V} (h : (¬ F a ∧ TupZ H a xs) ∨ KwT X.K a xs) : SqT X.K H a xs := h.imp (·.2.rd) fun ⟨o, its, n, e1, e2, e3, e4, e5, _⟩ => ⟨o, its, n, e1, e2, e3, e4, e5⟩
theorem sqL_of {a : Addr} {xs : List V} (h : (¬ F a ∧ Rd H a (.lst xs)) ∨ KwL X.K a xs) : SqL X.K H a xs := h.imp (·.2) id
theorem Rep.script {v : V} {xs : List D} (h : Rep X F H v (.dict [(.none, .list xs)])) : ∃ (a : Addr) (ns : List Int), v = .ref a ∧ xs = ns.map PyData.int ∧ SqL X.K H a (ns.map V.int) := by
  generalize hd : PyData.dict [(.none, .list xs)] = d at h
  cases h with
  | scr h =>
    unfold Mini.scr at hd
    cases hd
    exact ⟨_, _, rfl, rfl, sqL_of h⟩
  | dct _ _ c _ => rw [← hd] at c; cases c
  | kdc _ _ => unfold Mini.tbl at hd; cases hd
  | cel e => unfold Mini.cel at hd; cases hd
  | _ => cases hd
theorem Rep.table {v : V} {ds : List (D × D)} (h : Rep X F H v (.dict ((.none, .bool true) :: ds))) : ∃ a, v = .ref a ∧ (∃ es n, KDict X.K X.w a es n ∧ TabEs es.toList ds) ∧ (∀ (z : Str) (i : Int), getKV ds (.str z) = some (.int i) → ∃ t, PySem.W.nsIn X.K a z = some (some (.int i t))) := by
  generalize hd : PyData.dict ((.none, .bool true) :: ds) = d at h
  cases h with
  | scr h => unfold Mini.scr at hd; cases hd
  | dct _ _ c _ => rw [← hd] at c; cases c
  | kdc e t => unfold Mini.tbl at hd; cases hd; exact ⟨_, rfl, e, t⟩
  | cel e => unfold Mini.cel at hd; cases hd
  | _ => cases hd
theorem Rep.cell {v : V} {i : Int} (h : Rep X F H v (.dict [(.none, .int i)])) : ∃ (a : Addr) (n : Nat), v = .ref a ∧ i = (n : Int) ∧ X.μ[n]? = some a := by
  generalize hd : PyData.dict [(.none, .int i)] = d at h
  cases h with
  | scr h => unfold Mini.scr at hd; cases hd
  | dct _ _ c _ => rw [← hd] at c; cases c
  | kdc _ _ => unfold Mini.tbl at hd; cases hd
  | cel e => unfold Mini.cel at hd; cases hd; exact ⟨_, _, rfl, rfl, e⟩
  | _ => cases hd
theorem Rep.tuple {v : V} {ds : List D} (h : Rep X F H v (.tuple ds)) : ∃ a xs, v = .ref a ∧ ((¬ F a ∧ TupZ H a xs) ∨ KwT X.K a xs) ∧ Reps X F H xs ds := by
  cases h with
  | tup e r => exact ⟨_, _, rfl, e, r⟩
theorem Rep.list {v : V} {ds : List D} (h : Rep X F H v (.list ds)) : ∃ a xs, v = .ref a ∧ ¬ F a ∧ H a = some (.lst xs) ∧ Reps X F H xs ds := by
  cases h with
  | lst n e r => exact ⟨_, _, rfl, n, e, r⟩
theorem isCel_cel (n : Nat) : isCel (cel n) = true := rfl
theorem Rep.dict {v : V} {ds : List (D × D)} (h : Rep X F H v (.dict ds)) (c : isCel (.dict ds) = false) : ∃ a kvs, v = .ref a ∧ ¬ F a ∧ H a = some (.dK kvs) ∧ RepKV X F H kvs ds := by
  generalize hd : PyData.dict ds = d at h
  cases h with
  | dct n e _ r => cases hd; exact ⟨_, _, rfl, n, e, r⟩
  | kdc e t => rw [hd] at c; cases c
  | cel e => rw [hd] at c; cases c
  | scr e => rw [hd] at c; cases c
  | _ => cases hd
mutual
/-- what has no dict, as the layer's own deep data -/
theorem Rep.dp : ∀ {v : V} {d : D}, Rep X F H v d → noD d = true → Dp X.K H v d
  | _, _, .non, _ => .non
  | _, _, .bl b, _ => .bl b
  | _, _, .int i, _ => .int i
  | _, _, .str x, _ => .str x
  | _, _, .tup h r, e => .tup (sqT_of h) (Reps.dp r (by unfold noD at e; exact e))
  | _, _, .lst _ h r, e => .lst (SqL.of h) (Reps.dp r (by unfold noD at e; exact e))
  | _, _, .scr _, e => by unfold Mini.scr noD at e; cases e
  | _, _, .dct _ _ _ _, e => by unfold noD at e; cases e
  | _, _, .kdc _ _, e => by unfold Mini.tbl noD at e; cases e
  | _, _, .cel _, e => by unfold Mini.cel noD at e; cases e
theorem Reps.dp : ∀ {v : List V} {d : List D}, Reps X F H v d → noDs d = true → DpAll X.K H v d
  | _, _, .nil, _ => .nil
  | _, _, .cons a r, e => by
    unfold noDs at e
    have e' := Bool.and_eq_true_iff.mp e
    exact .cons (Rep.dp a e'.1) (Reps.dp r e'.2)
end
mutual
/-- what has no list in it is of no changing object -/
theorem Rep.ofFlat (hk : ∀ a, F' a → ∃ o, H a = some o ∧ mutK o = true) : ∀ {v : V} {d : D}, Rep X F H v d → flat d = true → Rep X F' H v d
  | _, _, .non, _ => .non
  | _, _, .bl b, _ => .bl b
  | _, _, .int i, _ => .int i
  | _, _, .str x, _ => .str x
  | _, _, .tup h r, e => .tup (h.imp (fun ⟨_, q⟩ => ⟨(fun z => by
      obtain ⟨o, e1, e2⟩ := hk _ z
      obtain ⟨u, _, q⟩ := q
      rw [q] at e1; cases e1; cases e2), q⟩) id) (Reps.ofFlat hk r (by unfold flat at e; exact e))
  | _, _, .lst _ _ _, e => by unfold flat at e; cases e
  | _, _, .scr _, e => by unfold Mini.scr flat at e; cases e
  | _, _, .dct _ _ _ _, e => by unfold flat at e; cases e
  | _, _, .kdc _ _, e => by unfold Mini.tbl flat at e; cases e
  | _, _, .cel _, e => by unfold Mini.cel flat at e; cases e
theorem Reps.ofFlat (hk : ∀ a, F' a → ∃ o, H a = some o ∧ mutK o = true) : ∀ {v : List V} {d : List D}, Reps X F H v d → flats d = true → Reps X F' H v d
  | _, _, .nil, _ => .nil
  | _, _, .cons a r, e => by
    unfold flats at e
    have e' := Bool.and_eq_true_iff.mp e
    exact .cons (Rep.ofFlat hk a e'.1) (Reps.ofFlat hk r e'.2)
end
end
/-- the value tells the datum; of its uppermost object is not asked whether it may be met -/
def RepT (X : Fx) (G : Addr → Prop) (H : Hp) (v : V) : D → Prop
  | .list ds => ∃ a xs, v = .ref a ∧ H a = some (.lst xs) ∧ Reps X G H xs ds
  | .dict ds => Rep X G H v (.dict ds) ∨ ∃ a kvs, v = .ref a ∧ H a = some (.dK kvs) ∧ isCel (.dict ds) = false ∧ RepKV X G H kvs ds
  | d => Rep X G H v d
section
variable {X : Fx} {F F' G : Addr → Prop} {H H' : Hp}
theorem Rep.top {v : V} {d : D} (h : Rep X F H v d) : RepT X F H v d := by
  cases d with
  | list ds => obtain ⟨a, xs, e, _, q, r⟩ := h.list; exact ⟨a, xs, e, q, r⟩
  | dict ds => exact .inl h
  | _ => exact h
theorem RepT.less {v : V} {d : D} (h : RepT X F H v d) (s : ∀ a, F' a → F a) : RepT X F' H v d := by
  cases d with
  | list ds => obtain ⟨a, xs, e, q, r⟩ := h; exact ⟨a, xs, e, q, r.less s⟩
  | dict ds =>
    rcases h with h | ⟨a, kvs, e, q, c, r⟩
    · exact .inl (h.less s)
    · exact .inr ⟨a, kvs, e, q, c, r.imp (fun a _ n z => n (s a z)) Keep.refl⟩
  | _ => exact Rep.less h s
theorem RepT.dp {v : V} {d : D} (h : RepT X F H v d) (e : noD d = true) : Dp X.K H v d := by
  cases d with
  | list ds =>
    obtain ⟨a, xs, rfl, q, r⟩ := h
    exact .lst (SqL.of q) (Reps.dp r (by unfold noD at e; exact e))
  | dict ds => unfold noD at e; cases e
  | _ => exact Rep.dp h e
theorem RepT.tuple {v : V} {ds : List D} (h : RepT X F H v (.tuple ds)) : ∃ a xs, v = .ref a ∧ SqT X.K H a xs ∧ Reps X F H xs ds := by
  obtain ⟨a, xs, e, q, r⟩ := Rep.tuple h
  exact ⟨a, xs, e, sqT_of q, r⟩
theorem RepT.int {v : V} {i : Int} (h : RepT X F H v (.int i)) : v = .int i := by
  have h2 : Rep X F H v (.int i) := h
  cases h2; rfl
theorem RepT.str {v : V} {x : Str} (h : RepT X F H v (.str x)) : v = .str x := by
  have h2 : Rep X F H v (.str x) := h
  cases h2; rfl
theorem RepT.bool {v : V} {x : Bool} (h : RepT X F H v (.bool x)) : v = .bl x := by
  have h2 : Rep X F H v (.bool x) := h
  cases h2; rfl
theorem RepT.none {v : V} (h : RepT X F H v .none) : v = .non := by
  have h2 : Rep X F H v .none := h
  cases h2; rfl
/-- dicts of the heap and of the written part -/
theorem RepT.dict {v : V} {ds : List (D × D)} (h : RepT X F H v (.dict ds)) (c : isCel (.dict ds) = false) : ∃ a kvs, v = .ref a ∧ H a = some (.dK kvs) ∧ RepKV X F H kvs ds := by
  rcases h with h | ⟨a, kvs, e, q, _, r⟩
  · obtain ⟨a, kvs, e, _, q, r⟩ := h.dict c
    exact ⟨a, kvs, e, q, r⟩
  · exact ⟨a, kvs, e, q, r⟩
end
/-- the cells and the tables are as told -/
structure Wd (X : Fx) (T : List (Addr × Str)) (F : Addr → Prop) (h : Hs) (H : Hp) : Prop where
  nd : X.μ.Nodup
  len : X.μ.length = h.length
  at_ : ∀ (i : Nat) a ds, X.μ[i]? = some a → h[i]? = some ds → ∃ xs, H a = some (.lst xs) ∧ Reps X F H xs ds
  inF : ∀ a, a ∈ X.μ → F a
  kin : ∀ a, F a → ∃ o, H a = some o ∧ mutK o = true
  tab : LamX.Tabs T H
/-- but for the cells -/
abbrev KeepC (X : Fx) (H H' : Hp) : Prop := Keep (fun a => a ∈ X.μ) H H'
theorem Wd.ext {X : Fx} {T : List (Addr × Str)} {F : Addr → Prop} {h : Hs} {H H' : Hp} (W : Wd X T F h H) (e : ∀ b o, H b = some o → H' b = some o) : Wd X T F h H' :=
  ⟨W.nd, W.len, fun i a ds h1 h2 => let ⟨xs, e1, r⟩ := W.at_ i a ds h1 h2; ⟨xs, e _ _ e1, r.keep (Keep.of e)⟩, W.inF, fun a z => let ⟨o, e1, k⟩ := W.kin a z; ⟨o, e _ _ e1, k⟩, W.tab.ext e⟩
theorem Wd.new {X : Fx} {T : List (Addr × Str)} {F : Addr → Prop} {h : Hs} {H : Hp} {p : Addr} {o : HO} (W : Wd X T F h H) (n : H p = none) : Wd X T F h (upd H p o) := W.ext (ext_upd n)
/-- an object of a slot's own -/
def OwnAt (X : Fx) (F : Addr → Prop) (H : Hp) (a : Addr) : D → Prop
  | .list ds => ∃ xs, H a = some (.lst xs) ∧ Reps X F H xs ds
  | .dict ds => isCel (.dict ds) = false ∧ ∃ kvs, H a = some (.dK kvs) ∧ RepKV X F H kvs ds
  | _ => False
/-- the slots are as told: F0 may not be met by a tainted value, F by no other -/
structure EnvOk (X : Fx) (own : List Nat) (F0 F : Addr → Prop) (σ : L2.St) (ρ : Env) (H : Hp) : Prop where
  len : σ.length = ρ.length
  val : ∀ (i : Nat) d, ρ[i]? = some (some d) → i ∉ own → ∃ v, σ[i]? = some (some v) ∧ Rep X F H v d
  ow : ∀ (i : Nat) d, ρ[i]? = some (some d) → i ∈ own → ∃ a, σ[i]? = some (some (.ref a)) ∧ F a ∧ ¬ F0 a ∧ OwnAt X F H a d
  dis : ∀ (i j : Nat) a d e, i ∈ own → j ∈ own → ρ[i]? = some (some d) → ρ[j]? = some (some e) → σ[i]? = some (some (.ref a)) → σ[j]? = some (some (.ref a)) → i = j
  sub : ∀ a, F0 a → F a
  cel : ∀ a, a ∈ X.μ → F0 a
section
variable {X : Fx} {own : List Nat} {F0 F : Addr → Prop} {σ : L2.St} {ρ : Env} {H H' : Hp}
theorem OwnAt.keep {a : Addr} {d : D} {P : Addr → Prop} (h : OwnAt X F H a d) (k : Keep P H H') (n : ¬ P a) (s : ∀ b, P b → F b) : OwnAt X F H' a d := by
  cases d with
  | list ds => obtain ⟨xs, e, r⟩ := h; exact ⟨xs, k _ _ e n (fun ps z => by cases z), r.keep (k.mono s)⟩
  | dict ds => obtain ⟨c, xs, e, r⟩ := h; exact ⟨c, xs, k _ _ e n (fun ps z => by cases z), r.keep (k.mono s)⟩
  | _ => exact h.elim
theorem EnvOk.keep (E : EnvOk X own F0 F σ ρ H) (k : KeepC X H H') : EnvOk X own F0 F σ ρ H' :=
  ⟨E.len, fun i d h1 h2 => let ⟨v, e, r⟩ := E.val i d h1 h2; ⟨v, e, r.keep (k.mono fun b z => E.sub b (E.cel b z))⟩,
    fun i d h1 h2 => let ⟨a, e, f, g, o⟩ := E.ow i d h1 h2; ⟨a, e, f, g, o.keep k (fun z => g (E.cel a z)) fun b z => E.sub b (E.cel b z)⟩, E.dis, E.sub, E.cel⟩
end
end Mini

set_option Elab.async false
set_option linter.all false
set_option maxRecDepth 100000
set_option maxHeartbeats 4000000
/-! Mini, part D1: operators, by values. -/
namespace Mini
open PySem PySem.Spec PyProof.Rows L2
theorem big_line {n : Nat} (h : n ≤ bigLine) : n ≤ sizeLine := by
  have := sizeLine_eq
  unfold bigLine at h
  omega
theorem big_lt {n : Nat} (h : n < bigLine) : n < sizeLine := by
  have := sizeLine_eq
  unfold bigLine at h
  omega
/-- what follows a value of one's own -/
def Out (fx : Fx) (G : Addr → Prop) (H : Hp) (Q : VK) (d : D) : Prop := ∀ v H', (∀ b o, H b = some o → H' b = some o) → Rep fx G H' v d → Q v H'
/-- what is in G is there -/
def There (G : Addr → Prop) (H : Hp) : Prop := ∀ a, G a → ∃ o, H a = some o ∧ mutK o = true
section
variable {fx : Fx} {G : Addr → Prop} {H : Hp} {Q : VK}
theorem There.new {p : Addr} (k : There G H) (n : H p = none) : ¬ G p := fun z => by
  obtain ⟨o, e, _⟩ := k p z
  rw [n] at e; cases e
theorem Out.same {v : V} {d : D} (o : Out fx G H Q d) (r : Rep fx G H v d) : Q v H := o v H (fun _ _ e => e) r
theorem Out.tup {p : Addr} {o : Obj} {xs : List V} {ds : List D} (q : Out fx G H Q (.tuple ds)) (k : There G H) (z : PlainT o) (n : H p = none) (r : Reps fx G H xs ds) : Q (.ref p) (upd H p (.frz o (.tup xs))) :=
  q _ _ (ext_upd n) (.tup (.inl ⟨k.new n, o, z, upd_same⟩) (r.keep (Keep.upd n)))
theorem Out.lst {p : Addr} {xs : List V} {ds : List D} (o : Out fx G H Q (.list ds)) (k : There G H) (n : H p = none) (r : Reps fx G H xs ds) : Q (.ref p) (upd H p (.lst xs)) :=
  o _ _ (ext_upd n) (.lst (k.new n) upd_same (r.keep (Keep.upd n)))
end
def bopX : Bop → Operator
  | .add => .Add
  | .sub => .Sub
  | .mul => .Mult
  | .fdiv => .FloorDiv
  | .mod => .Mod
  | .pow => .Pow
def rBin (fx : Fx) (o : Bop) : R2 := fun x y H Q => ∃ G dx dy d, There G H ∧ RepT fx G H x dx ∧ RepT fx G H y dy ∧ binD o dx dy = some d ∧ Out fx G H Q d
theorem ite_some' {α : Type} {c : Bool} {x z : α} (h : (if c = true then some x else none) = some z) : c = true ∧ x = z := by
  cases c with
  | true => exact ⟨rfl, Option.some.inj h⟩
  | false => cases h
theorem ite_someP {α : Type} {c : Prop} [Decidable c] {x z : α} (h : (if c then some x else none) = some z) : c ∧ x = z := by
  by_cases q : c
  · rw [if_pos q] at h; exact ⟨q, Option.some.inj h⟩
  · rw [if_neg q] at h; cases h
theorem op_bin {X : Cx} {fx : Fx} (hK : fx.K = X.K) (o : Bop) : OpR X (binaryOp (bopX o)) (rBin fx o) := by
  intro pins s σ H x y v u Q I rx ry h
  obtain ⟨G, dx, dy, d, k, hx, hy, e, q⟩ := h
  cases o with
  | add =>
    cases dx <;> cases dy <;> try (cases e; done)
    · obtain rfl := hx.int; obtain rfl := hy.int
      cases e
      exact op_add pins s σ H _ _ v u Q I rx ry ⟨_, _, rfl, rfl, q.same (.int _)⟩
    · obtain rfl := hx.str; obtain rfl := hy.str
      obtain ⟨c, rfl⟩ := ite_someP e
      exact op_add_str pins s σ H _ _ v u Q I rx ry ⟨_, _, rfl, rfl, big_line c, q.same (.str _)⟩
    · obtain ⟨a, xs, rfl, ha, ra⟩ := hx
      obtain ⟨b, ys, rfl, hb, rb⟩ := hy
      obtain ⟨c, rfl⟩ := ite_someP e
      rw [← ra.length, ← rb.length] at c
      exact op_cat pins s σ H _ _ v u Q I rx ry ⟨_, _, _, _, rfl, rfl, ha, hb, big_line c, fun p n => q.lst k n (ra.append rb)⟩
    · obtain ⟨a, xs, rfl, ha, ra⟩ := hx.tuple
      obtain ⟨b, ys, rfl, hb, rb⟩ := hy.tuple
      obtain ⟨c, rfl⟩ := ite_someP e
      rw [← ra.length, ← rb.length] at c
      obtain ⟨a', xs', e1, q1, ra'⟩ := Rep.tuple hx
      obtain ⟨b', ys', e2, q2, rb'⟩ := Rep.tuple hy
      cases e1; cases e2
      rw [hK] at ha hb
      refine op_catZ pins s σ H _ _ v u Q I rx ry ⟨_, _, _, _, rfl, rfl, ha, hb, big_line c, fun z => ?_, fun _ z => ?_, fun _ _ p o z n => q.tup k z n (ra.append rb)⟩
      · subst z
        cases ra
        rw [List.nil_append] at q
        exact q.same hy
      · subst z
        cases rb
        rw [List.append_nil] at q
        exact q.same hx
  | sub =>
    cases dx <;> cases dy <;> try (cases e; done)
    obtain rfl := hx.int; obtain rfl := hy.int
    cases e
    exact op_sub pins s σ H _ _ v u Q I rx ry ⟨_, _, rfl, rfl, q.same (.int _)⟩
  | mul =>
    cases dx <;> cases dy <;> try (cases e; done)
    · obtain rfl := hx.int; obtain rfl := hy.int
      obtain ⟨c, rfl⟩ := ite_some' e
      simp only [Bool.or_eq_true, Bool.and_eq_true, decide_eq_true_eq] at c
      exact op_mul pins s σ H _ _ v u Q I rx ry ⟨_, _, rfl, rfl, c, q.same (.int _)⟩
    · obtain ⟨a, xs, rfl, ha, ra⟩ := hx
      obtain rfl := hy.int
      obtain ⟨c, rfl⟩ := ite_some' e
      simp only [Bool.and_eq_true, decide_eq_true_eq] at c
      rw [← ra.length] at c
      exact op_rep pins s σ H _ _ v u Q I rx ry ⟨_, _, _, rfl, rfl, ha, by omega, by omega, big_line c.2, fun p n => q.lst k n (ra.rep _)⟩
  | fdiv =>
    cases dx <;> cases dy <;> try (cases e; done)
    obtain rfl := hx.int; obtain rfl := hy.int
    obtain ⟨c, rfl⟩ := ite_some' e
    simp only [Bool.and_eq_true, decide_eq_true_eq] at c
    exact op_fdiv pins s σ H _ _ v u Q I rx ry ⟨_, _, rfl, rfl, c, q.same (.int _)⟩
  | mod =>
    cases dx <;> cases dy <;> try (cases e; done)
    obtain rfl := hx.int; obtain rfl := hy.int
    obtain ⟨c, rfl⟩ := ite_someP e
    exact op_mod pins s σ H _ _ v u Q I rx ry ⟨_, _, rfl, rfl, c, q.same (.int _)⟩
  | pow =>
    cases dx <;> cases dy <;> try (cases e; done)
    obtain rfl := hx.int; obtain rfl := hy.int
    obtain ⟨c, rfl⟩ := ite_some' e
    simp only [Bool.and_eq_true, decide_eq_true_eq] at c
    exact op_pow pins s σ H _ _ v u Q I rx ry ⟨_, _, rfl, rfl, ⟨c.1.1, by omega, c.2⟩, q.same (.int _)⟩
end Mini

set_option Elab.async false
set_option linter.all false
set_option maxRecDepth 100000
set_option maxHeartbeats 4000000
/-! Mini, part D2: comparisons, by values. -/
namespace Mini
open PySem PySem.Spec PyProof.Rows L2
mutual
theorem noD_lay : ∀ {d : D}, d.canLay0 = true → noD d = true
  | .none, _ => by unfold noD; rfl
  | .bool _, _ => by unfold noD; rfl
  | .int _, _ => by unfold noD; rfl
  | .str _, _ => by unfold noD; rfl
  | .list xs, h => by
    unfold PyData.canLay0 at h
    unfold noD
    exact noDs_lay h
  | .tuple xs, h => by
    unfold PyData.canLay0 at h
    unfold noD
    exact noDs_lay h
  | .dict _, h => by unfold PyData.canLay0 at h; cases h
theorem noDs_lay : ∀ {d : List D}, PyData.canLayAll0 d = true → noDs d = true
  | [], _ => by unfold noDs; rfl
  | x :: xs, h => by
    unfold PyData.canLayAll0 at h
    unfold noDs
    obtain ⟨a, b⟩ := Bool.and_eq_true_iff.mp h
    rw [noD_lay a, noDs_lay b]
    rfl
end
theorem noD_ok {d : D} (h : okEq d = true) : noD d = true := by
  unfold okEq SeqAt.shaped at h
  exact noD_lay (Bool.and_eq_true_iff.mp h).1
def copX : Cop → CmpOp
  | .eq => .Eq
  | .ne => .NotEq
  | .lt => .Lt
  | .le => .LtE
  | .gt => .Gt
  | .ge => .GtE
  | .is_ => .Is
  | .isn => .IsNot
  | .in_ => .In
  | .nin => .NotIn
/-- a datum without parts, as a value -/
def scaV : D → V
  | .none => .non
  | .bool b => .bl b
  | .int i => .int i
  | .str x => .str x
  | _ => .non
section
variable {fx : Fx} {G : Addr → Prop} {H : Hp}
theorem Rep.sca {v : V} {d : D} (h : Rep fx G H v d) (e : Mini.sca d = true) : v = scaV d := by
  cases h <;> first | rfl | cases e
theorem RepT.sca {v : V} {d : D} (h : RepT fx G H v d) (e : Mini.sca d = true) : v = scaV d := by
  cases d with
  | list _ => cases e
  | dict _ => cases e
  | _ => exact Rep.sca h e
theorem Reps.sca : ∀ {vs : List V} {ds : List D}, Reps fx G H vs ds → ds.all Mini.sca = true → vs = ds.map scaV
  | _, _, .nil, _ => rfl
  | _, _, .cons a r, e => by
    rw [List.all_cons, Bool.and_eq_true] at e
    rw [List.map_cons, Rep.sca a e.1, Reps.sca r e.2]
end
theorem scaV_flat {d : D} (e : sca d = true) : flatV (scaV d) = true := by
  cases d <;> first | rfl | cases e
theorem scaV_flats : ∀ {ds : List D}, ds.all sca = true → (ds.map scaV).all flatV = true
  | [], _ => rfl
  | d :: ds, e => by
    rw [List.all_cons, Bool.and_eq_true] at e
    rw [List.map_cons, List.all_cons, scaV_flat e.1, scaV_flats e.2]
    rfl
theorem eqv_sca {x y : D} (ex : sca x = true) (ey : sca y = true) : eqV (scaV x) (scaV y) = PyData.eqv x y := by
  cases x <;> cases y <;> first | (cases ex; done) | (cases ey; done) | (unfold PyData.eqv; rfl)
theorem inV_sca {x : D} (ex : sca x = true) : ∀ {ds : List D}, ds.all sca = true → inV (scaV x) (ds.map scaV) = ds.any fun y => PyData.eqv y x
  | [], _ => rfl
  | d :: ds, e => by
    rw [List.all_cons, Bool.and_eq_true] at e
    have ih := inV_sca ex e.2
    unfold inV at ih ⊢
    rw [List.map_cons, List.any_cons, List.any_cons, ih, eqv_sca e.1 ex]
theorem scaEq_scal {x y : D} (e : scaEq x y = true) : scal (scaV x) (scaV y) = true ∧ decide (scaV x = scaV y) = PyData.eqv x y ∧ sca x = true ∧ sca y = true := by
  cases x <;> cases y <;> first
    | (cases e; done)
    | (refine ⟨rfl, ?_, rfl, rfl⟩; unfold PyData.eqv; first | rfl | (unfold scaV; first | exact dec_int | exact dec_str | exact dec_bl | rfl | simp))
/-! ### dicts -/
theorem eqv_key (a b : Key) : PyData.eqv (keyD a) (keyD b) = decide (a = b) := by
  cases a <;> cases b
  · unfold keyD PyData.eqv; rw [key_ll]
  · unfold keyD PyData.eqv; rw [key_lr]
  · unfold keyD PyData.eqv; rw [key_rl]
  · unfold keyD PyData.eqv; rw [key_rr]; first | rfl | exact Bool.beq_eq_decide_eq _ _
theorem isKey_key {d : D} (h : isKey d = true) : ∃ k, d = keyD k := by
  cases d with
  | int i => exact ⟨.inl i, rfl⟩
  | str x => exact ⟨.inr x, rfl⟩
  | _ => cases h
section
variable {fx : Fx} {G : Addr → Prop} {H : Hp}
theorem Rep.key {v : V} {k : Key} (h : Rep fx G H v (keyD k)) : v = kV k := by
  cases k with
  | inl i => generalize hd : keyD (.inl i) = d at h; cases h <;> cases hd; rfl
  | inr x => generalize hd : keyD (.inr x) = d at h; cases h <;> cases hd; rfl
theorem RepT.key {v : V} {k : Key} (h : RepT fx G H v (keyD k)) : v = kV k := by
  cases k with
  | inl i => exact Rep.key (k := .inl i) h
  | inr x => exact Rep.key (k := .inr x) h
theorem RepKV.get : ∀ {kvs : List (Key × V)} {ds : List (D × D)}, RepKV fx G H kvs ds → ∀ k : Key, (∀ d, getKV ds (keyD k) = some d → ∃ v, valV kvs k = some v ∧ Rep fx G H v d) ∧ (getKV ds (keyD k) = none → valV kvs k = none)
  | _, _, .nil, k => ⟨fun d e => (by cases e), fun _ => rfl⟩
  | _, _, .cons (k := k0) (v := v0) (d := d0) (kvs := kvs) (ds := ds) a r, k => by
    have ih := RepKV.get r k
    unfold getKV
    rw [eqv_key]
    by_cases e : k0 = k
    · rw [decide_eq_true e, if_pos rfl, valV_pos (p := (k0, v0)) e]
      exact ⟨fun d q => (by cases q; exact ⟨_, rfl, a⟩), fun q => (by cases q)⟩
    · rw [decide_eq_false e, if_neg Bool.false_ne_true, valV_neg (p := (k0, v0)) e]
      exact ih
theorem RepKV.any : ∀ {kvs : List (Key × V)} {ds : List (D × D)}, RepKV fx G H kvs ds → ∀ k : Key, (ds.any fun p => PyData.eqv p.1 (keyD k)) = kvs.any fun kv => decide (kv.1 = k)
  | _, _, .nil, k => rfl
  | _, _, .cons (k := k0) (v := v0) (d := d0) (kvs := kvs) (ds := ds) a r, k => by
    rw [List.any_cons, List.any_cons, RepKV.any r k, eqv_key]
theorem RepKV.repl : ∀ {kvs : List (Key × V)} {ds : List (D × D)}, RepKV fx G H kvs ds → ∀ (k : Key) {v : V} {d : D}, Rep fx G H v d →
    RepKV fx G H (kvs.map fun kv => if kv.1 = k then (kv.1, v) else kv) (ds.map fun p => if PyData.eqv p.1 (keyD k) then (p.1, d) else p)
  | _, _, .nil, k, _, _, _ => .nil
  | _, _, .cons (k := k0) (v := v0) (d := d0) (kvs := kvs) (ds := ds) a r, k, v, d, h => by
    rw [List.map_cons, List.map_cons]
    dsimp only
    rw [eqv_key]
    by_cases e : k0 = k
    · rw [decide_eq_true e, if_pos e, if_pos rfl]
      exact .cons h (RepKV.repl r k h)
    · rw [decide_eq_false e, if_neg e, if_neg Bool.false_ne_true]
      exact .cons a (RepKV.repl r k h)
theorem RepKV.snoc : ∀ {kvs : List (Key × V)} {ds : List (D × D)}, RepKV fx G H kvs ds → ∀ (k : Key) {v : V} {d : D}, Rep fx G H v d → RepKV fx G H (kvs ++ [(k, v)]) (ds ++ [(keyD k, d)])
  | _, _, .nil, k, _, _, h => .cons h .nil
  | _, _, .cons a r, k, _, _, h => .cons a (RepKV.snoc r k h)
theorem RepKV.put {kvs : List (Key × V)} {ds : List (D × D)} (r : RepKV fx G H kvs ds) (k : Key) {v : V} {d : D} (h : Rep fx G H v d) : RepKV fx G H (putK kvs k v) (putKV ds (keyD k) d) := by
  unfold putK putKV
  rw [r.any k]
  split
  · exact r.repl k h
  · exact r.snoc k h
theorem RepKV.length : ∀ {kvs : List (Key × V)} {ds : List (D × D)}, RepKV fx G H kvs ds → kvs.length = ds.length
  | _, _, .nil => rfl
  | _, _, .cons _ r => by rw [List.length_cons, List.length_cons, RepKV.length r]
theorem RepKV.merge : ∀ {more : List (Key × V)} {ms : List (D × D)}, RepKV fx G H more ms → ∀ {kvs : List (Key × V)} {ds : List (D × D)}, RepKV fx G H kvs ds → RepKV fx G H (mergeK kvs more) (mergeKV ds ms)
  | _, _, .nil, _, _, r => r
  | _, _, .cons a q, _, _, r => RepKV.merge q (r.put _ a)
theorem put_cel {ds : List (D × D)} {k : Key} {d : D} (c : isCel (.dict ds) = false) : isCel (.dict (putKV ds (keyD k) d)) = false := by
  unfold putKV
  split
  · cases ds with
    | nil => rfl
    | cons p r =>
      rw [List.map_cons]
      obtain ⟨x, y⟩ := p
      dsimp only
      split
      · cases x <;> first | rfl | (cases c)
      · cases x <;> first | rfl | (cases c)
  · cases ds with
    | nil => cases k <;> rfl
    | cons p r =>
      obtain ⟨x, y⟩ := p
      cases x <;> first | rfl | (cases c)
theorem merge_cel : ∀ {ms ds : List (D × D)}, (ms.all fun p => isKey p.1) = true → isCel (.dict ds) = false → isCel (.dict (mergeKV ds ms)) = false
  | [], _, _, c => c
  | (x, y) :: r, ds, h, c => by
    rw [List.all_cons, Bool.and_eq_true] at h
    obtain ⟨k, e⟩ := isKey_key h.1
    dsimp only at e
    subst e
    exact merge_cel (ms := r) h.2 (put_cel c)
end
/-! ### the comparisons -/
def rCmp (fx : Fx) (o : Cop) : R2 := fun x y H Q => ∃ G dx dy b, RepT fx G H x dx ∧ RepT fx G H y dy ∧ cmpD o dx dy = some b ∧ Q (.bl b) H
theorem oneSign_eq {y : Str} {c : Nat} (h : oneSign y = some c) : y = ⟨#[c]⟩ := by
  unfold oneSign at h
  obtain ⟨⟨l⟩⟩ := y
  cases l with
  | nil => cases h
  | cons a r => cases r with
    | nil => cases h; rfl
    | cons b r => cases h
theorem flatB_int (i : Int) : flatB (.int i) = true := rfl
theorem op_cmp_in {X : Cx} {fx : Fx} (hK : fx.K = X.K) (hw : fx.w = X.w) (hu : X.A.units + 66 < cLine) {pins : List (Addr × Obj)} {s : Shared} {σ : L2.St} {H : Hp} {x y : V} {v u : Value} {Q : VK} {G : Addr → Prop} {dx dy : D} {b : Bool} (neg : Bool)
    (I : Inv X pins σ H s) (rx : RelV x v) (ry : RelV y u) (hx : RepT fx G H x dx) (hy : RepT fx G H y dy) (e : inD dx dy = some b) (q : Q (.bl (if neg then !b else b)) H) :
    wpAny (model X.prog X.w) X.A (compareOp (if neg then .NotIn else .In) v u) (EP X pins σ Q) X.xe s := by
  unfold inD at e
  cases dy with
  | str z =>
    obtain rfl := hy.str
    cases dx with
    | str t =>
      obtain rfl := hx.str
      obtain ⟨c, e1, e2⟩ := Option.map_eq_some_iff.mp e
      subst e2
      obtain rfl := oneSign_eq e1
      cases neg with
      | false => exact op_in_sign pins s σ H _ _ v u Q I rx ry ⟨c, z, rfl, rfl, q⟩
      | true => exact op_notIn_sign pins s σ H _ _ v u Q I rx ry ⟨c, z, rfl, rfl, q⟩
    | _ => cases e
  | list ys =>
    obtain ⟨c, rfl⟩ := ite_some' e
    rcases Bool.or_eq_true_iff.mp c with c | c
    · obtain ⟨c1, c2⟩ := Bool.and_eq_true_iff.mp c
      obtain ⟨a, xs, rfl, ha, ra⟩ := hy
      obtain rfl := hx.sca c1
      obtain rfl := ra.sca c2
      rw [← inV_sca c1 c2] at q
      cases neg with
      | false => exact op_in_seq pins s σ H _ _ v u Q I rx ry ⟨a, _, rfl, .inl (SqL.of ha), scaV_flat c1, scaV_flats c2, q⟩
      | true => exact op_notIn_seq pins s σ H _ _ v u Q I rx ry ⟨a, _, rfl, .inl (SqL.of ha), scaV_flat c1, scaV_flats c2, q⟩
    · obtain ⟨c1, c2⟩ := Bool.and_eq_true_iff.mp c
      have hX := hx.dp (noD_ok c1)
      have hY := hy.dp (noD_ok c2)
      rw [hK] at hX hY
      cases neg with
      | false => exact op_inD (by omega) pins s σ H _ _ v u Q I rx ry ⟨_, _, hX, hY, c1, c2, q⟩
      | true => exact op_notInD (by omega) pins s σ H _ _ v u Q I rx ry ⟨_, _, hX, hY, c1, c2, q⟩
  | tuple ys =>
    obtain ⟨c, rfl⟩ := ite_some' e
    obtain ⟨c1, c2⟩ := Bool.and_eq_true_iff.mp c
    obtain ⟨a, xs, rfl, ha, ra⟩ := hy.tuple
    obtain rfl := hx.sca c1
    obtain rfl := ra.sca c2
    rw [← inV_sca c1 c2] at q
    rw [hK] at ha
    cases neg with
    | false => exact op_in_seq pins s σ H _ _ v u Q I rx ry ⟨a, _, rfl, .inr ha, scaV_flat c1, scaV_flats c2, q⟩
    | true => exact op_notIn_seq pins s σ H _ _ v u Q I rx ry ⟨a, _, rfl, .inr ha, scaV_flat c1, scaV_flats c2, q⟩
  | dict ds =>
    obtain ⟨c, rfl⟩ := ite_some' e
    obtain ⟨c1, c2⟩ := Bool.and_eq_true_iff.mp c
    rw [Bool.not_eq_true'] at c2
    obtain ⟨k, rfl⟩ := isKey_key c1
    obtain rfl := hx.key
    obtain ⟨a, kvs, rfl, ha, ra⟩ := hy.dict c2
    · cases ry
      have key : (valV kvs k).isSome = (getKV ds (keyD k)).isSome := by
        obtain ⟨h1, h2⟩ := ra.get k
        cases g : getKV ds (keyD k) with
        | none => rw [h2 g]; rfl
        | some d => obtain ⟨w, e, _⟩ := h1 d g; rw [e]; rfl
      rw [← key] at q
      cases neg with
      | false => exact d_in (by omega) I (DGet.k ha) rx fun s' I' => ⟨.bl _, H, I', rfl, q⟩
      | true => exact d_notIn (by omega) I (DGet.k ha) rx fun s' I' => ⟨.bl _, H, I', rfl, q⟩
  | _ => cases e
/-! ### a table and a written dict -/
theorem sameKV_cel : ∀ {xs ys : List (D × D)}, sameKV xs ys = true → isCel (.dict ys) = false
  | [], [], _ => rfl
  | (.str _, .int _) :: _, (.str _, .int _) :: _, _ => rfl
/-- the table's pairs -/
def tabKV : List DictEntry → List (D × D) → List (Key × Value)
  | e :: r, (.str x, _) :: q => (.inr x, e.val) :: tabKV r q
  | _, _ => []
theorem tab_pairs {P : Program} {w : World} : ∀ {es : List DictEntry} {ds : List (D × D)}, TabEs es ds → Pairs (mixKind P w) es (tabKV es ds)
  | [], [], _ => .nil
  | e :: r, (.str x, .int i) :: q, ⟨⟨t, ek⟩, _, h⟩ => .cons (by rw [ek]; exact beq_self_eq_true x) rfl (tab_pairs h)
theorem tab_keys {fx : Fx} {G : Addr → Prop} {H : Hp} : ∀ {es : List DictEntry} {xs ys : List (D × D)} {kvs : List (Key × V)} {us : List (Key × Value)}, TabEs es xs → sameKV xs ys = true → RepKV fx G H kvs ys → KV kvs us →
    us.map (·.1) = (tabKV es xs).map (·.1) ∧ ∀ (k : Key) (v : Value), (k, v) ∈ tabKV es xs → ∃ (i : Int) (t t' : Tok), v = .int i t ∧ (k, Value.int i t') ∈ us
  | [], [], [], _, _, _, _, .nil, .nil => ⟨rfl, fun k v z => by cases z⟩
  | e :: r, (.str x, .int i) :: q, (.str y, .int j) :: q', _, _, ⟨⟨t, ek⟩, ⟨t2, ev⟩, h⟩, s, rk, kv => by
    have s1 : (decide (x = y) && decide (i = j) && sameKV q q') = true := s
    simp only [Bool.and_eq_true, decide_eq_true_eq] at s1
    obtain ⟨⟨rfl, rfl⟩, s2⟩ := s1
    generalize hy : ((PyData.str x, PyData.int i) :: q') = yy at rk
    cases rk with
    | nil => cases hy
    | @cons k v kvs' d ds' rv rr =>
      injection hy with h1 h2
      injection h1 with h3 h4
      subst h2
      subst h4
      cases k with
      | inl _ => cases h3
      | inr z =>
        injection h3 with h5
        subst h5
        cases kv with
        | @cons _ u _ us' ru ur =>
          obtain ⟨uk, uv⟩ := u
          obtain ⟨e1, e2⟩ := ru
          dsimp only at e1 e2
          subst e1
          cases rv
          obtain ⟨t', rfl⟩ := e2
          obtain ⟨a1, a2⟩ := tab_keys h s2 rr ur
          refine ⟨by show _ :: _ = _ :: _; rw [a1], fun k v z => ?_⟩
          rcases List.mem_cons.mp z with z | z
          · cases z
            exact ⟨i, t2, t', ev, List.mem_cons_self⟩
          · obtain ⟨i', ta, tb, b1, b2⟩ := a2 k v z
            exact ⟨i', ta, tb, b1, List.mem_cons_of_mem _ b2⟩
theorem valueAt_mem {k : Key} {v : Value} : ∀ {us : List (Key × Value)}, (us.map (·.1)).Nodup → (k, v) ∈ us → valueAt us k = some v
  | u :: r, n, h => by
    obtain ⟨n1, n2⟩ := List.nodup_cons.mp n
    unfold valueAt
    rcases List.mem_cons.mp h with e | e
    · rw [← e, List.find?_cons_of_pos (by simp)]
      rfl
    · have ne : u.1 ≠ k := fun q => n1 (by show u.1 ∈ _; rw [q]; exact List.mem_map_of_mem (f := (·.1)) e)
      rw [List.find?_cons_of_neg (by simpa using ne)]
      exact valueAt_mem n2 e
theorem hits_all {A : Around} {s : Shared} {us : List (Key × Value)} (n : (us.map (·.1)).Nodup) : ∀ (l : List (Key × Value)), (∀ (k : Key) (v : Value), (k, v) ∈ l → ∃ (i : Int) (t t' : Tok), v = .int i t ∧ (k, Value.int i t') ∈ us) → PySem.W.KeqHits A s us l true
  | [], _ => .nil
  | (k, v) :: r, h => by
    obtain ⟨i, t, t', rfl, m⟩ := h k v List.mem_cons_self
    have e : SeqAt.EqAt A s (.int i t) (.int i t') true := by
      have := SeqAt.EqAt.int_int (A := A) (s := s) i t i t'
      rw [beq_self_eq_true] at this
      exact this
    exact .hit (e := true) (b := true) (valueAt_mem n m) e (hits_all n r fun k v z => h k v (List.mem_cons_of_mem _ z))
theorem op_ne_tab {X : Cx} {fx : Fx} {G : Addr → Prop} (hK : fx.K = X.K) (hw : fx.w = X.w) (hu : X.A.units < cLine) {pins : List (Addr × Obj)} {s : Shared} {σ : L2.St} {H : Hp} {x y : V} {v u : Value} {Q : VK} {xs ys : List (D × D)} (I : Inv X pins σ H s) (rx : RelV x v) (ry : RelV y u)
    (hx : Rep fx G H x (.dict ((.none, .bool true) :: xs))) (hy : RepT fx G H y (.dict ys)) (c : sameKV xs ys = true) (q : Q (.bl false) H) : wpAny (model X.prog X.w) X.A (compareOp .NotEq v u) (EP X pins σ Q) X.xe s := by
  obtain ⟨a, rfl, ⟨es, n, D, te⟩, _⟩ := hx.table
  have cl := sameKV_cel c
  have hy' : ∃ b kvs, y = .ref b ∧ H b = some (.dK kvs) ∧ RepKV fx G H kvs ys := by
    rcases hy with hy | ⟨b, kvs, e1, e2, _, e3⟩
    · obtain ⟨b, kvs, e1, _, e2, e3⟩ := hy.dict cl
      exact ⟨b, kvs, e1, e2, e3⟩
    · exact ⟨b, kvs, e1, e2, e3⟩
  obtain ⟨b, kvs, rfl, hb, rk⟩ := hy'
  cases rx
  cases ry
  rw [hK, hw] at D
  obtain ⟨_, lb, us, kv, db⟩ := I.hok b _ hb
  obtain ⟨k1, k2⟩ := tab_keys te c rk kv
  have nd : (us.map (·.1)).Nodup := let ⟨_, _, _, _, _, _, _, _, z⟩ := db; z
  have da : s.heap.DictOf (mixKind X.prog X.w) a (tabKV es.toList xs) := by
    refine ⟨_, es, n, I.kIn a _ D.at_, ⟨rfl, rfl, rfl⟩, rfl, fun e he => ?_, tab_pairs te, by rw [← k1]; exact nd⟩
    obtain ⟨z, t, e1, e2⟩ := D.lit.all e (Array.mem_toList_iff.mpr he)
    exact ⟨.inr z, by rw [e1]; exact beq_self_eq_true z, e2⟩
  have hl : (tabKV es.toList xs).length = us.length := by
    have := congrArg List.length k1
    simp only [List.length_map] at this
    exact this.symm
  refine PySem.W.keq_ne (knd := mixKind X.prog X.w) D.low lb da db hu (r := true) (fun _ => hits_all nd _ k2) ?_
  rw [hl, beq_self_eq_true]
  exact ⟨.bl false, H, I, rfl, q⟩
theorem op_cmp {X : Cx} {fx : Fx} (hK : fx.K = X.K) (hw : fx.w = X.w) (hu : X.A.units + 66 < cLine) (o : Cop) : OpR X (compareOp (copX o)) (rCmp fx o) := by
  intro pins s σ H x y v u Q I rx ry h
  obtain ⟨G, dx, dy, b, hx, hy, e, q⟩ := h
  cases o with
  | in_ => exact op_cmp_in hK hw hu false I rx ry hx hy e q
  | nin =>
    obtain ⟨c, e1, e2⟩ := Option.map_eq_some_iff.mp e
    subst e2
    exact op_cmp_in hK hw hu true I rx ry hx hy e1 q
  | is_ =>
    cases dy <;> try (cases dx <;> cases e; done)
    obtain rfl := hy.none
    have e2 : isNone dx = b := by cases dx <;> exact Option.some.inj e
    refine op_isN pins s σ H _ _ v u Q I rx ry ⟨rfl, ?_⟩
    have : decide (x = V.non) = b := by
      rw [← e2]
      cases dx with
      | list _ => obtain ⟨a, xs, rfl, _⟩ := hx; rfl
      | dict _ =>
        rcases hx with hx | ⟨a, _, rfl, _⟩
        · cases hx <;> rfl
        · rfl
      | _ => have hx2 : Rep fx G H x _ := hx; cases hx2 <;> rfl
    rw [this]; exact q
  | isn =>
    cases dy <;> try (cases dx <;> cases e; done)
    obtain rfl := hy.none
    have e2 : (!isNone dx) = b := by cases dx <;> exact Option.some.inj e
    refine op_notN pins s σ H _ _ v u Q I rx ry ⟨rfl, ?_⟩
    have : (!decide (x = V.non)) = b := by
      rw [← e2]
      cases dx with
      | list _ => obtain ⟨a, xs, rfl, _⟩ := hx; rfl
      | dict _ =>
        rcases hx with hx | ⟨a, _, rfl, _⟩
        · cases hx <;> rfl
        · rfl
      | _ => have hx2 : Rep fx G H x _ := hx; cases hx2 <;> rfl
    rw [this]; exact q
  | lt =>
    cases dx <;> cases dy <;> try (cases e; done)
    · obtain rfl := hx.int; obtain rfl := hy.int
      cases e
      exact op_lt pins s σ H _ _ v u Q I rx ry ⟨_, _, rfl, rfl, q⟩
    · obtain rfl := hx.str; obtain rfl := hy.str
      cases e
      exact op_lt_str pins s σ H _ _ v u Q I rx ry ⟨_, _, rfl, rfl, q⟩
  | le =>
    cases dx <;> cases dy <;> try (cases e; done)
    obtain rfl := hx.int; obtain rfl := hy.int
    cases e
    exact op_le pins s σ H _ _ v u Q I rx ry ⟨_, _, rfl, rfl, q⟩
  | gt =>
    cases dx <;> cases dy <;> try (cases e; done)
    obtain rfl := hx.int; obtain rfl := hy.int
    cases e
    exact op_gt pins s σ H _ _ v u Q I rx ry ⟨_, _, rfl, rfl, q⟩
  | ge =>
    cases dx <;> cases dy <;> try (cases e; done)
    obtain rfl := hx.int; obtain rfl := hy.int
    cases e
    exact op_ge pins s σ H _ _ v u Q I rx ry ⟨_, _, rfl, rfl, q⟩
  | eq =>
    have e2 : (if (scaEq dx dy || (okEq dx && okEq dy)) = true then some (PyData.eqv dx dy) else none) = some b := by
      cases dx <;> cases dy <;> exact e
    obtain ⟨c, rfl⟩ := ite_some' e2
    rcases Bool.or_eq_true_iff.mp c with c | c
    · obtain ⟨c1, c2, c3, c4⟩ := scaEq_scal c
      obtain rfl := hx.sca c3
      obtain rfl := hy.sca c4
      exact op_eq pins s σ H _ _ v u Q I rx ry ⟨c1, by rw [c2]; exact q⟩
    · obtain ⟨c1, c2⟩ := Bool.and_eq_true_iff.mp c
      have hX := hx.dp (noD_ok c1)
      have hY := hy.dp (noD_ok c2)
      rw [hK] at hX hY
      exact op_eqD (by omega) pins s σ H _ _ v u Q I rx ry ⟨_, _, hX, hY, c1, c2, q⟩
  | ne =>
    by_cases ht : ∃ xs ys, dx = .dict ((.none, .bool true) :: xs) ∧ dy = .dict ys
    · obtain ⟨xs, ys, rfl, rfl⟩ := ht
      obtain ⟨c, rfl⟩ := ite_some' (show (if sameKV xs ys = true then some false else none) = some b from e)
      have hx2 : Rep fx G H x (.dict ((.none, .bool true) :: xs)) := by
        rcases hx with hx | ⟨_, _, _, _, c2, _⟩
        · exact hx
        · cases c2
      exact op_ne_tab hK hw (by omega) I rx ry hx2 hy c q
    · have e2 : (if (scaEq dx dy || (okEq dx && okEq dy)) = true then some (!PyData.eqv dx dy) else none) = some b := by
        cases dx with
        | dict xs =>
          cases dy with
          | dict ys =>
            cases xs with
            | nil => exact e
            | cons p r =>
              obtain ⟨k, w⟩ := p
              cases k <;> try exact e
              cases w <;> try exact e
              rename_i bb
              cases bb with
              | true => exact absurd ⟨r, ys, rfl, rfl⟩ ht
              | false => exact e
          | _ =>
            cases xs with
            | nil => exact e
            | cons p r =>
              obtain ⟨k, w⟩ := p
              cases k <;> try exact e
              cases w <;> try exact e
              rename_i bb
              cases bb <;> exact e
        | _ => cases dy <;> exact e
      obtain ⟨c, rfl⟩ := ite_some' e2
      rcases Bool.or_eq_true_iff.mp c with c | c
      · obtain ⟨c1, c2, c3, c4⟩ := scaEq_scal c
        obtain rfl := hx.sca c3
        obtain rfl := hy.sca c4
        exact op_ne pins s σ H _ _ v u Q I rx ry ⟨c1, by rw [c2]; exact q⟩
      · obtain ⟨c1, c2⟩ := Bool.and_eq_true_iff.mp c
        have hX := hx.dp (noD_ok c1)
        have hY := hy.dp (noD_ok c2)
        rw [hK] at hX hY
        exact op_neD (by omega) pins s σ H _ _ v u Q I rx ry ⟨_, _, hX, hY, c1, c2, q⟩
end Mini

set_option Elab.async false
set_option linter.all false
set_option maxRecDepth 100000
set_option maxHeartbeats 4000000
/-! Mini, part D3: subscripts, slices, truth, by values. -/
namespace Mini
open PySem PySem.Spec PyProof.Rows L2
section
variable {fx : Fx} {G : Addr → Prop} {H : Hp}
theorem Reps.at {vs : List V} {ds : List D} {i : Int} {d : D} (r : Reps fx G H vs ds) (e : Mini.atI ds i = some d) : ∃ v, L2.atI vs i = some v ∧ Rep fx G H v d := by
  unfold Mini.atI at e
  unfold L2.atI
  obtain ⟨j, h1, h2⟩ := Option.bind_eq_some_iff.mp e
  obtain ⟨v, h3, h4⟩ := r.get h2
  refine ⟨v, ?_, h4⟩
  rw [r.length]
  have h1' : L2.ixN ds.length i = some j := h1
  rw [h1']
  exact h3
theorem sIx_eq (n d : Nat) (o : Option Int) : Mini.sIx n d o = HT.sIx n d o := by
  cases o <;> rfl
theorem Reps.cutV {vs : List V} {ds : List D} {lo hi : Option Int} (r : Reps fx G H vs ds) : Reps fx G H (L2.cutV vs lo hi) (Mini.cut ds lo hi) := by
  unfold L2.cutV Mini.cut
  rw [r.length, sIx_eq, sIx_eq]
  exact (r.drop _).take _
end
def rIdx (fx : Fx) : R2 := fun x y H Q => ∃ G G' dx dy d, RepT fx G H x dx ∧ RepT fx G' H y dy ∧ idxD dx dy = some d ∧ Out fx G H Q d
theorem op_idx {X : Cx} {fx : Fx} (hK : fx.K = X.K) (hw : fx.w = X.w) (hu : X.A.units + 66 < cLine) : IxR X (rIdx fx) := by
  intro value slice pins s σ H x y v u Q I rx ry h hs
  obtain ⟨G, G', dx, dy, d, hx, hy, e, q⟩ := h
  cases dx with
  | list ds =>
    cases dy <;> try (cases e; done)
    obtain ⟨a, xs, rfl, ha, ra⟩ := hx
    obtain rfl := hy.int
    obtain ⟨w, h1, h2⟩ := ra.at e
    exact ix_list value slice pins s σ H _ _ v u Q I rx ry ⟨_, _, _, _, rfl, rfl, SqL.of ha, h1, q.same h2⟩ hs
  | tuple ds =>
    cases dy <;> try (cases e; done)
    obtain ⟨a, xs, rfl, ha, ra⟩ := hx.tuple
    obtain rfl := hy.int
    obtain ⟨w, h1, h2⟩ := ra.at e
    rw [hK] at ha
    exact ix_tup value slice pins s σ H _ _ v u Q I rx ry ⟨_, _, _, _, rfl, rfl, ha, h1, q.same h2⟩ hs
  | str z =>
    cases dy <;> try (cases e; done)
    obtain rfl := hx.str
    obtain rfl := hy.int
    rename_i i
    have e2 : (if z.length ≤ bigLine then (Mini.atI z.cps.toList i).map (fun c => PyData.str ⟨#[c]⟩) else none) = some d := e
    by_cases c : z.length ≤ bigLine
    · rw [if_pos c] at e2
      obtain ⟨w, h1, h2⟩ := Option.map_eq_some_iff.mp e2
      subst h2
      exact ix_str value slice pins s σ H _ _ v u Q I rx ry ⟨_, _, _, rfl, rfl, big_line c, h1, q.same (.str _)⟩ hs
    · rw [if_neg c] at e2; cases e2
  | dict ds =>
    by_cases ht : ∃ kvs z, ds = (.none, .bool true) :: kvs ∧ dy = .str z
    · obtain ⟨kvs, z, rfl, rfl⟩ := ht
      have e2 : (match getKV kvs (.str z) with
        | some (.int i) => some (PyData.int i)
        | _ => none) = some d := e
      split at e2
      · rename_i i g
        cases e2
        have hx2 : Rep fx G H x (.dict ((.none, .bool true) :: kvs)) := by
          rcases hx with hx | ⟨_, _, _, _, c, _⟩
          · exact hx
          · cases c
        obtain ⟨a, rfl, ⟨es, n, D, _⟩, tb⟩ := hx2.table
        obtain ⟨t, ht⟩ := tb z i g
        obtain rfl := hy.str
        rw [hK] at D ht
        rw [hw] at D
        exact ix_kdict value slice pins s σ H _ _ v u Q I rx ry ⟨a, z, .int i, rfl, rfl, ⟨es, n, _, D.at_, D.lit, ht, ⟨t, rfl⟩⟩, q.same (.int _)⟩ hs
      · cases e2
    · have e2 : (if (isKey dy && !isCel (.dict ds)) = true then getKV ds dy else none) = some d := by
        cases ds with
        | nil => exact e
        | cons p r =>
          obtain ⟨k, w⟩ := p
          cases k <;> try exact e
          cases w <;> try exact e
          rename_i bb
          cases bb <;> try exact e
          cases dy <;> try exact e
          exact absurd ⟨_, _, rfl, rfl⟩ ht
      by_cases c : (isKey dy && !isCel (.dict ds)) = true
      · rw [if_pos c] at e2
        obtain ⟨c1, c2⟩ := Bool.and_eq_true_iff.mp c
        rw [Bool.not_eq_true'] at c2
        obtain ⟨k, rfl⟩ := isKey_key c1
        obtain rfl := hy.key
        obtain ⟨a, kvs, rfl, ha, ra⟩ := hx.dict c2
        obtain ⟨w, h1, h2⟩ := (ra.get k).1 d e2
        obtain rfl : v = Value.ref a := rx
        have g : DGet H a (kV k) (some w) := by rw [← h1]; exact DGet.k ha
        exact tail_any (dict_typeIs I g) PySem.F.slot_dict_getitem.lookup (d_getItem (by omega) I g ry fun w' s' I' rw' => ⟨w, H, I', rw', q.same h2⟩) hs
      · rw [if_neg c] at e2; cases e2
  | _ => cases dy <;> cases e
/-- slices: what they make; made anew? -/
def rSlc (fx : Fx) : V → Option Int → Option Int → Hp → VK → Prop := fun x l u H Q => ∃ G dx d, There G H ∧ RepT fx G H x dx ∧ slcD dx l u = some d ∧ Out fx G H Q d
theorem op_slc {X : Cx} {fx : Fx} (hK : fx.K = X.K) : SlR X (rSlc fx) := by
  intro pins s σ H x v vl vu l u sl Q I rx hs pl pu h
  obtain ⟨G, dx, d, k, hx, e, q⟩ := h
  unfold slcD at e
  cases dx with
  | list ds =>
    obtain ⟨a, xs, rfl, ha, ra⟩ := hx
    cases e
    exact sl_list pins s σ H _ v vl vu l u sl Q I rx hs pl pu ⟨_, _, rfl, SqL.of ha, fun p n => q.lst k n ra.cutV⟩
  | tuple ds =>
    obtain ⟨a, xs, rfl, ha, ra⟩ := hx.tuple
    obtain ⟨a', xs', e1, _, _⟩ := Rep.tuple hx
    cases e1
    cases e
    rw [hK] at ha
    refine sl_tupZ pins s σ H _ v vl vu l u sl Q I rx hs pl pu ⟨_, _, rfl, ha, fun c => ?_, fun c p o z n => q.tup k z n ra.cutV⟩
    have e3 : cut ds l u = ds := by
      unfold cut
      rw [sIx_eq, sIx_eq, ← ra.length, c.1, c.2]
      rw [List.drop_zero, Nat.sub_zero, ra.length, List.take_length]
    rw [e3] at q
    exact q.same hx
  | str z =>
    obtain rfl := hx.str
    have e2 : (if z.length ≤ bigLine then some (PyData.str ⟨(cut z.cps.toList l u).toArray⟩) else none) = some d := e
    by_cases c : z.length ≤ bigLine
    · rw [if_pos c] at e2
      cases e2
      refine sl_str pins s σ H _ v vl vu l u sl Q I rx hs pl pu ⟨z, rfl, big_line c, ?_⟩
      have e4 : cutS z l u = ⟨(cut z.cps.toList l u).toArray⟩ := by
        unfold cutS cut
        rw [sIx_eq, sIx_eq]
        rfl
      rw [e4]
      exact q.same (.str _)
    · rw [if_neg c] at e2; cases e2
  | dict ds =>
    have hd : ∃ xs, ds = [(.none, .list xs)] ∧ d = .list (cut xs l u) := by
      split at e
      · rename_i q2; cases q2
      · rename_i xs q2; cases q2; exact ⟨_, rfl, (Option.some.inj e).symm⟩
      · rename_i q2; cases q2
      · rename_i q2; cases q2
      · cases e
    obtain ⟨xs, rfl, rfl⟩ := hd
    have hx2 : Rep fx G H x (.dict [(.none, .list xs)]) := by
      rcases hx with hx | ⟨_, _, _, _, c, _⟩
      · exact hx
      · cases c
    obtain ⟨a, ns, rfl, rfl, ha⟩ := hx2.script
    rw [hK] at ha
    exact sl_list pins s σ H _ v vl vu l u sl Q I rx hs pl pu ⟨_, _, rfl, ha, fun p n => q.lst k n (reps_ints ns).cutV⟩
  | _ => cases e
/-- truth -/
theorem tru_of {X : Cx} {fx : Fx} (hK : fx.K = X.K) {G : Addr → Prop} {H : Hp} {x : V} {d : D} {b : Bool} (h : RepT fx G H x d) (e : tv d = some b) : TruV X.K x H b := by
  cases d with
  | none => obtain rfl := h.none; cases e; rfl
  | bool c => obtain rfl := h.bool; cases e; rfl
  | int i => obtain rfl := h.int; cases e; rfl
  | str z =>
    obtain rfl := h.str
    have e2 : (if z.length ≤ bigLine then some ((z.length : Int) != 0) else none) = some b := e
    obtain ⟨c, rfl⟩ := ite_someP e2
    exact ⟨big_line c, rfl⟩
  | list ds =>
    obtain ⟨a, xs, rfl, ha, ra⟩ := h
    cases e
    refine .inl ⟨xs, SqL.of ha, ?_⟩
    cases ra <;> rfl
  | tuple ds =>
    obtain ⟨a, xs, rfl, ha, ra⟩ := h.tuple
    cases e
    rw [hK] at ha
    refine .inr (.inl ⟨xs, ha, ?_⟩)
    cases ra <;> rfl
  | dict _ => cases e
end Mini

set_option Elab.async false
set_option linter.all false
set_option maxRecDepth 100000
set_option maxHeartbeats 4000000
/-! Mini, part D4: built-ins, by values. -/
namespace Mini
open PySem PySem.Spec PyProof.Rows L2
/-- values in a row -/
inductive RepTs (fx : Fx) (G : Addr → Prop) (H : Hp) : List V → List D → Prop
  | nil : RepTs fx G H [] []
  | cons {v : V} {vs : List V} {d : D} {ds : List D} : RepT fx G H v d → RepTs fx G H vs ds → RepTs fx G H (v :: vs) (d :: ds)
section
variable {fx : Fx} {G : Addr → Prop} {H : Hp}
theorem RepTs.one {vs : List V} {d : D} (h : RepTs fx G H vs [d]) : ∃ v, vs = [v] ∧ RepT fx G H v d := by
  cases h with
  | cons a r => cases r; exact ⟨_, rfl, a⟩
theorem RepTs.two {vs : List V} {d e : D} (h : RepTs fx G H vs [d, e]) : ∃ v u, vs = [v, u] ∧ RepT fx G H v d ∧ RepT fx G H u e := by
  cases h with
  | cons a r => cases r with
    | cons b q => cases q; exact ⟨_, _, rfl, a, b⟩
theorem RepTs.length : ∀ {vs : List V} {ds : List D}, RepTs fx G H vs ds → vs.length = ds.length
  | _, _, .nil => rfl
  | _, _, .cons _ r => by rw [List.length_cons, List.length_cons, RepTs.length r]
end
/-- a built-in of one argument or two, by its value -/
def rBlt (fx : Fx) (b : Blt) : List V → Hp → VK → Prop := fun xs H Q => ∃ G ds d, There G H ∧ RepTs fx G H xs ds ∧ bltD b ds = some d ∧ Out fx G H Q d
theorem min_spec : ∀ (ns : List Int) (m : Int), (listMin m ns ∈ m :: ns) ∧ ∀ y ∈ m :: ns, listMin m ns ≤ y
  | [], m => ⟨List.mem_singleton.mpr rfl, fun y h => by rw [List.mem_singleton.mp h]; exact Int.le_refl _⟩
  | x :: r, m => by
    obtain ⟨h1, h2⟩ := min_spec r (if x < m then x else m)
    unfold listMin
    constructor
    · rcases List.mem_cons.mp h1 with e | e
      · rw [e]
        split
        · exact List.mem_cons_of_mem _ List.mem_cons_self
        · exact List.mem_cons_self
      · exact List.mem_cons_of_mem _ (List.mem_cons_of_mem _ e)
    · intro y hy
      have h3 := h2 _ List.mem_cons_self
      rcases List.mem_cons.mp hy with e | e
      · subst e
        refine Int.le_trans h3 ?_
        split <;> omega
      · rcases List.mem_cons.mp e with e | e
        · subst e
          refine Int.le_trans h3 ?_
          split <;> omega
        · exact h2 y (List.mem_cons_of_mem _ e)
theorem max_spec : ∀ (ns : List Int) (m : Int), (listMax m ns ∈ m :: ns) ∧ ∀ y ∈ m :: ns, y ≤ listMax m ns
  | [], m => ⟨List.mem_singleton.mpr rfl, fun y h => by rw [List.mem_singleton.mp h]; exact Int.le_refl _⟩
  | x :: r, m => by
    obtain ⟨h1, h2⟩ := max_spec r (if m < x then x else m)
    unfold listMax
    constructor
    · rcases List.mem_cons.mp h1 with e | e
      · rw [e]
        split
        · exact List.mem_cons_of_mem _ List.mem_cons_self
        · exact List.mem_cons_self
      · exact List.mem_cons_of_mem _ (List.mem_cons_of_mem _ e)
    · intro y hy
      have h3 := h2 _ List.mem_cons_self
      rcases List.mem_cons.mp hy with e | e
      · subst e
        refine Int.le_trans ?_ h3
        split <;> omega
      · rcases List.mem_cons.mp e with e | e
        · subst e
          refine Int.le_trans ?_ h3
          split <;> omega
        · exact h2 y (List.mem_cons_of_mem _ e)
section
variable {X : Cx} {fx : Fx}
theorem cr_len (hK : fx.K = X.K) : CallR X (.builtin "len") (rBlt fx .len) := by
  intro pins s σ H xs us Q I r h
  obtain ⟨G, ds, d, k, hd, e, q⟩ := h
  cases ds with
  | nil => cases e
  | cons d0 dr => cases dr with
    | cons _ _ => cases d0 <;> cases e
    | nil =>
      obtain ⟨x, rfl, hx⟩ := hd.one
      cases d0 with
      | list ls =>
        obtain ⟨a, xs, rfl, ha, ra⟩ := hx
        cases e
        exact call_len pins s σ H _ us Q I r ⟨_, _, rfl, .inl ⟨xs, SqL.of ha, rfl⟩, by rw [ra.length]; exact q.same (.int _)⟩
      | tuple ls =>
        obtain ⟨a, xs, rfl, ha, ra⟩ := hx.tuple
        cases e
        rw [hK] at ha
        exact call_len pins s σ H _ us Q I r ⟨_, _, rfl, .inr ⟨xs, ha, rfl⟩, by rw [ra.length]; exact q.same (.int _)⟩
      | str z =>
        obtain rfl := hx.str
        obtain ⟨c, rfl⟩ := ite_someP e
        exact call_len pins s σ H _ us Q I r ⟨_, _, rfl, ⟨big_line c, rfl⟩, q.same (.int _)⟩
      | _ => cases e
theorem cr_all' (hc : X.calm = true) : CallR X (.builtin "all") (rBlt fx .all) := by
  intro pins s σ H xs us Q I r h
  obtain ⟨G, ds, d, k, hd, e, q⟩ := h
  cases ds with
  | nil => cases e
  | cons d0 dr => cases dr with
    | cons _ _ => cases d0 <;> cases e
    | nil =>
      obtain ⟨x, rfl, hx⟩ := hd.one
      cases d0 <;> try (cases e; done)
      obtain ⟨a, xs, rfl, ha, ra⟩ := hx
      obtain ⟨bs, e1, rfl⟩ := Option.map_eq_some_iff.mp e
      obtain rfl := ra.bools e1
      exact cr_all hc pins s σ H _ us Q I r ⟨_, _, rfl, SqL.of ha, q.same (.bl _)⟩
theorem cr_any' (hc : X.calm = true) : CallR X (.builtin "any") (rBlt fx .any) := by
  intro pins s σ H xs us Q I r h
  obtain ⟨G, ds, d, k, hd, e, q⟩ := h
  cases ds with
  | nil => cases e
  | cons d0 dr => cases dr with
    | cons _ _ => cases d0 <;> cases e
    | nil =>
      obtain ⟨x, rfl, hx⟩ := hd.one
      cases d0 <;> try (cases e; done)
      obtain ⟨a, xs, rfl, ha, ra⟩ := hx
      obtain ⟨bs, e1, rfl⟩ := Option.map_eq_some_iff.mp e
      obtain rfl := ra.bools e1
      exact cr_any hc pins s σ H _ us Q I r ⟨_, _, rfl, SqL.of ha, q.same (.bl _)⟩
theorem cr_sum' (hc : X.calm = true) : CallR X (.builtin "sum") (rBlt fx .sum) := by
  intro pins s σ H xs us Q I r h
  obtain ⟨G, ds, d, k, hd, e, q⟩ := h
  cases ds with
  | nil => cases e
  | cons d0 dr => cases dr with
    | cons _ _ => cases d0 <;> cases e
    | nil =>
      obtain ⟨x, rfl, hx⟩ := hd.one
      cases d0 <;> try (cases e; done)
      obtain ⟨a, xs, rfl, ha, ra⟩ := hx
      obtain ⟨bs, e1, rfl⟩ := Option.map_eq_some_iff.mp e
      obtain rfl := ra.ints e1
      exact cr_sum hc pins s σ H _ us Q I r ⟨_, _, rfl, SqL.of ha, q.same (.int _)⟩
theorem cr_min' (hc : X.calm = true) : CallR X (.builtin "min") (rBlt fx .min) := by
  intro pins s σ H xs us Q I r h
  obtain ⟨G, ds, d, k, hd, e, q⟩ := h
  cases ds with
  | nil => cases e
  | cons d0 dr => cases dr with
    | cons _ _ => cases d0 <;> cases e
    | nil =>
      obtain ⟨x, rfl, hx⟩ := hd.one
      cases d0 <;> try (cases e; done)
      obtain ⟨a, xs, rfl, ha, ra⟩ := hx
      rename_i ls
      have e2 : (match intsOf ls with
        | some (n :: ns) => some (PyData.int (listMin n ns))
        | _ => none) = some d := e
      split at e2
      · rename_i n ns e1
        cases e2
        obtain rfl := ra.ints e1
        refine cr_min hc pins s σ H _ us Q I r ⟨_, _, rfl, SqL.of ha, by simp, fun m h1 h2 => ?_⟩
        obtain ⟨h3, h4⟩ := min_spec ns n
        have e3 : m = listMin n ns := Int.le_antisymm (h2 _ h3) (h4 _ h1)
        rw [e3]
        exact q.same (.int _)
      · cases e2
theorem cr_max' (hc : X.calm = true) : CallR X (.builtin "max") (rBlt fx .max) := by
  intro pins s σ H xs us Q I r h
  obtain ⟨G, ds, d, k, hd, e, q⟩ := h
  cases ds with
  | nil => cases e
  | cons d0 dr => cases dr with
    | cons _ _ => cases d0 <;> cases e
    | nil =>
      obtain ⟨x, rfl, hx⟩ := hd.one
      cases d0 <;> try (cases e; done)
      obtain ⟨a, xs, rfl, ha, ra⟩ := hx
      rename_i ls
      have e2 : (match intsOf ls with
        | some (n :: ns) => some (PyData.int (listMax n ns))
        | _ => none) = some d := e
      split at e2
      · rename_i n ns e1
        cases e2
        obtain rfl := ra.ints e1
        refine cr_max hc pins s σ H _ us Q I r ⟨_, _, rfl, SqL.of ha, by simp, fun m h1 h2 => ?_⟩
        obtain ⟨h3, h4⟩ := max_spec ns n
        have e3 : m = listMax n ns := Int.le_antisymm (h4 _ h1) (h2 _ h3)
        rw [e3]
        exact q.same (.int _)
      · cases e2
theorem cr_abs : CallR X (.builtin "abs") (rBlt fx .abs) := by
  intro pins s σ H xs us Q I r h
  obtain ⟨G, ds, d, k, hd, e, q⟩ := h
  cases ds with
  | nil => cases e
  | cons d0 dr => cases dr with
    | cons _ _ => cases d0 <;> cases e
    | nil =>
      obtain ⟨x, rfl, hx⟩ := hd.one
      cases d0 <;> try (cases e; done)
      obtain rfl := hx.int
      cases e
      exact call_abs pins s σ H _ us Q I r ⟨_, rfl, q.same (.int _)⟩
theorem cr_int : CallR X (.type "int") (rBlt fx .int) := by
  intro pins s σ H xs us Q I r h
  obtain ⟨G, ds, d, k, hd, e, q⟩ := h
  cases ds with
  | nil => cases e
  | cons d0 dr => cases dr with
    | cons _ _ => cases d0 <;> cases e
    | nil =>
      obtain ⟨x, rfl, hx⟩ := hd.one
      cases d0 <;> try (cases e; done)
      · obtain rfl := hx.bool
        cases e
        exact call_int1 pins s σ H _ us Q I r (.inr ⟨_, rfl, q.same (.int _)⟩)
      · obtain rfl := hx.int
        cases e
        exact call_int1 pins s σ H _ us Q I r (.inl ⟨_, rfl, q.same (.int _)⟩)
theorem cr_tuple (hK : fx.K = X.K) : CallR X (.type "tuple") (rBlt fx .tuple) := by
  intro pins s σ H xs us Q I r h
  obtain ⟨G, ds, d, k, hd, e, q⟩ := h
  cases ds with
  | nil => cases e
  | cons d0 dr => cases dr with
    | cons _ _ => cases d0 <;> cases e
    | nil =>
      obtain ⟨x, rfl, hx⟩ := hd.one
      cases d0 <;> try (cases e; done)
      · obtain ⟨a, xs, rfl, ha, ra⟩ := hx
        cases e
        exact cr_tupleZ pins s σ H _ us Q I r ⟨_, _, rfl, .inl ⟨SqL.of ha, fun p o z n => q.tup k z n ra⟩⟩
      · have hx0 := hx
        obtain ⟨a, xs, rfl, ha, ra⟩ := hx.tuple
        cases e
        rw [hK] at ha
        exact call_tuple_of pins s σ H _ us Q I r ⟨_, _, rfl, .inr ⟨ha, q.same hx0⟩⟩
theorem cr_list (hK : fx.K = X.K) : CallR X (.type "list") (rBlt fx .list) := by
  intro pins s σ H xs us Q I r h
  obtain ⟨G, ds, d, k, hd, e, q⟩ := h
  cases ds with
  | nil => cases e
  | cons d0 dr => cases dr with
    | cons _ _ => cases d0 <;> cases e
    | nil =>
      obtain ⟨x, rfl, hx⟩ := hd.one
      cases d0 <;> try (cases e; done)
      · obtain ⟨a, xs, rfl, ha, ra⟩ := hx
        cases e
        exact call_list_of pins s σ H _ us Q I r ⟨_, _, rfl, .inl (SqL.of ha), fun p n => q.lst k n ra⟩
      · obtain ⟨a, xs, rfl, ha, ra⟩ := hx.tuple
        cases e
        rw [hK] at ha
        exact call_list_of pins s σ H _ us Q I r ⟨_, _, rfl, .inr ha, fun p n => q.lst k n ra⟩
theorem cr_min2 (hc : X.calm = true) : CallR X (.builtin "min") (rBlt fx .min2) := by
  intro pins s σ H xs us Q I r h
  obtain ⟨G, ds, d, k, hd, e, q⟩ := h
  rcases ds with _ | ⟨d0, _ | ⟨d1, _ | ⟨_, _⟩⟩⟩
  · cases e
  · cases d0 <;> cases e
  · obtain ⟨x, y, rfl, hx, hy⟩ := hd.two
    cases d0 <;> cases d1 <;> try (cases e; done)
    · obtain rfl := hx.int
      obtain rfl := hy.int
      cases e
      exact call_min2 hc pins s σ H _ us Q I r ⟨_, _, rfl, q.same (.int _)⟩
  · cases d0 <;> cases d1 <;> cases e
theorem cr_max2 (hc : X.calm = true) : CallR X (.builtin "max") (rBlt fx .max2) := by
  intro pins s σ H xs us Q I r h
  obtain ⟨G, ds, d, k, hd, e, q⟩ := h
  rcases ds with _ | ⟨d0, _ | ⟨d1, _ | ⟨_, _⟩⟩⟩
  · cases e
  · cases d0 <;> cases e
  · obtain ⟨x, y, rfl, hx, hy⟩ := hd.two
    cases d0 <;> cases d1 <;> try (cases e; done)
    obtain rfl := hx.int
    obtain rfl := hy.int
    cases e
    exact call_max2 hc pins s σ H _ us Q I r ⟨_, _, rfl, q.same (.int _)⟩
  · cases d0 <;> cases d1 <;> cases e
/-- isinstance of a written type -/
def rIsiD (fx : Fx) (b : Blt) (T : String) : List V → Hp → VK → Prop := fun xs H Q => ∃ G x d d', xs = [x, .ty T] ∧ RepT fx G H x d ∧ bltD b [d] = some d' ∧ Out fx G H Q d'
theorem cr_isInt : CallR X (.builtin "isinstance") (rIsiD fx .isInt "int") := by
  intro pins s σ H xs us Q I r h
  obtain ⟨G, x, d, d', rfl, hx, e, q⟩ := h
  cases d <;> try (cases e; done)
  · obtain rfl := hx.int
    cases e
    exact call_isi pins s σ H _ us Q I r ⟨_, _, _, _, true, rfl, .ty _, .base (.int _), kit_ty (by decide +kernel), q.same (.bl _)⟩
  · obtain rfl := hx.str
    cases e
    exact call_isi pins s σ H _ us Q I r ⟨_, _, _, _, false, rfl, .ty _, .base (.str _), kit_ty (by decide +kernel), q.same (.bl _)⟩
theorem cr_isStr : CallR X (.builtin "isinstance") (rIsiD fx .isStr "str") := by
  intro pins s σ H xs us Q I r h
  obtain ⟨G, x, d, d', rfl, hx, e, q⟩ := h
  cases d <;> try (cases e; done)
  · obtain rfl := hx.int
    cases e
    exact call_isi pins s σ H _ us Q I r ⟨_, _, _, _, false, rfl, .ty _, .base (.int _), kit_ty (by decide +kernel), q.same (.bl _)⟩
  · obtain rfl := hx.str
    cases e
    exact call_isi pins s σ H _ us Q I r ⟨_, _, _, _, true, rfl, .ty _, .base (.str _), kit_ty (by decide +kernel), q.same (.bl _)⟩
theorem tyX_tup {K : PySem.W.Frag} {H : Hp} {a : Addr} {xs : List V} (h : SqT K H a xs) : TyX K H (.ref a) (.type "tuple") := by
  rcases h with (h | ⟨o, h⟩) | ⟨o, its, n, h, c, _⟩
  · exact .base (.tup h)
  · exact .fTuple h
  · exact .kTuple h c
theorem cr_isTuple (hK : fx.K = X.K) : CallR X (.builtin "isinstance") (rIsiD fx .isTuple "tuple") := by
  intro pins s σ H xs us Q I r h
  obtain ⟨G, x, d, d', rfl, hx, e, q⟩ := h
  cases d <;> try (cases e; done)
  obtain ⟨a, xs, rfl, ha, ra⟩ := hx.tuple
  cases e
  rw [hK] at ha
  exact call_isi pins s σ H _ us Q I r ⟨_, _, _, _, true, rfl, .ty _, tyX_tup ha, kit_ty (by decide +kernel), q.same (.bl _)⟩
end
end Mini

set_option Elab.async false
set_option linter.all false
set_option maxRecDepth 100000
set_option maxHeartbeats 4000000
/-! Mini, part E: expressions. -/
namespace Mini
open PySem PySem.Spec PyProof.Rows L2
/-- what a body stands upon -/
structure Stat where
  K : PySem.W.Frag
  w : World
  T : List (Addr × Str)
  own : List Nat
  g : G
  wx : WX
  exA : Str → Option Addr
/-- the cells' places; what a tainted value may not meet; what no other value may meet -/
structure Mem where
  μ : List Addr
  F0 : Addr → Prop
  F : Addr → Prop
abbrev Stat.fx (S : Stat) (m : Mem) : Fx := ⟨S.K, S.w, m.μ⟩
def Mem.itF (m : Mem) (k : Nat) : Addr → Prop := if k ≤ 1 then m.F else m.F0
/-- a value of the kind k -/
def RepK (X : Fx) (m : Mem) (k : Nat) (H : Hp) (v : V) (d : D) : Prop := if k = 0 then Rep X m.F H v d else if k = 1 then RepT X m.F H v d ∧ Rep X m.F0 H v d else Rep X m.F0 H v d
/-- the state of a body -/
structure Ok (S : Stat) (m : Mem) (σ : L2.St) (ρ : Env) (h : Hs) (H : Hp) : Prop where
  e : EnvOk (S.fx m) S.own m.F0 m.F σ ρ H
  w : Wd (S.fx m) S.T m.F h H
/-- an error as it leaves -/
def ErrP (S : Stat) (e : Exc) (φ : Value → Option Addr → Prop) : Prop := ∀ C, S.exA e.cls = some C → φ (.ref C) none
def post (S : Stat) (m : Mem) (k : Nat) (σ : L2.St) (H : Hp) (Q : VK) : R D → Prop
  | .ok d h' => ∀ v H', KeepC (S.fx m) H H' → Wd (S.fx m) S.T m.F h' H' → RepK (S.fx m) m k H' v d → Q v H'
  | .err e h' => ∀ H', KeepC (S.fx m) H H' → Wd (S.fx m) S.T m.F h' H' → ErrP S e (fun c dd => S.wx c dd σ H')
  | .bad => False
def postT (S : Stat) (m : Mem) (σ : L2.St) (H : Hp) (Q : Bool → Hp → Prop) : R D → Prop
  | .ok d h' => ∃ b, tv d = some b ∧ ∀ H', KeepC (S.fx m) H H' → Wd (S.fx m) S.T m.F h' H' → Q b H'
  | .err e h' => ∀ H', KeepC (S.fx m) H H' → Wd (S.fx m) S.T m.F h' H' → ErrP S e (fun c dd => S.wx c dd σ H')
  | .bad => False
def postA (S : Stat) (m : Mem) (k : Nat) (σ : L2.St) (H : Hp) (Q : List V → Hp → Prop) : R (List D) → Prop
  | .ok ds h' => ∀ vs H', KeepC (S.fx m) H H' → Wd (S.fx m) S.T m.F h' H' → (if k = 0 then Reps (S.fx m) m.F H' vs ds else Reps (S.fx m) m.F0 H' vs ds) → (k ≤ 1 → RepTs (S.fx m) m.F H' vs ds) → Q vs H'
  | .err e h' => ∀ H', KeepC (S.fx m) H H' → Wd (S.fx m) S.T m.F h' H' → ErrP S e (fun c dd => S.wx c dd σ H')
  | .bad => False
/-- the readings -/
def tE (S : Stat) (c : C) : TE := fun σ H Q => ∃ ρ h m, Ok S m σ ρ h H ∧ post S m (c.knd S.own) σ H Q (den S.g c ρ h)
def tT (S : Stat) (c : C) : TT := fun σ H Q => ∃ ρ h m, Ok S m σ ρ h H ∧ postT S m σ H Q (den S.g c ρ h)
def tA (S : Stat) (cs : Cs) : TA := fun σ H Q => ∃ ρ h m, Ok S m σ ρ h H ∧ postA S m (cs.knd S.own) σ H Q (dens S.g cs ρ h)
theorem Ok.keep {S : Stat} {m : Mem} {σ : L2.St} {ρ : Env} {h h' : Hs} {H H' : Hp} (o : Ok S m σ ρ h H) (k : KeepC (S.fx m) H H') (w : Wd (S.fx m) S.T m.F h' H') : Ok S m σ ρ h' H' := ⟨o.e.keep k, w⟩
section
variable {S : Stat} {m : Mem} {σ : L2.St} {ρ : Env} {h h' : Hs} {H H' : Hp} {k : Nat} {Q : VK}
theorem RepK.ofRep {v : V} {d : D} {X : Fx} (s : ∀ a, m.F0 a → m.F a) (r : Rep X m.F H v d) : RepK X m k H v d := by
  unfold RepK
  split
  · exact r
  · split
    · exact ⟨r.top, r.less s⟩
    · exact r.less s
theorem RepK.top {v : V} {d : D} {X : Fx} (r : RepK X m k H v d) : RepT X (m.itF k) H v d := by
  unfold RepK at r
  unfold Mem.itF
  split at r
  · rename_i e
    subst e
    exact r.top
  · split at r
    · rename_i e
      subst e
      exact r.1
    · rw [if_neg (by omega)]
      exact r.top
theorem RepK.rep0 {v : V} {d : D} {X : Fx} (s : ∀ a, m.F0 a → m.F a) (r : RepK X m k H v d) : Rep X m.F0 H v d := by
  unfold RepK at r
  split at r
  · exact r.less s
  · split at r
    · exact r.2
    · exact r
theorem post.from {kk : Nat} {r : R D} (hp : post S m kk σ H Q r) (kp : KeepC (S.fx m) H H') : post S m kk σ H' Q r := by
  cases r with
  | ok d h' => exact fun v H2 k2 w r => hp v H2 (kp.trans k2) w r
  | err e h' => exact fun H2 k2 w => hp H2 (kp.trans k2) w
  | bad => exact hp
theorem postT.from {Q : Bool → Hp → Prop} {r : R D} (hp : postT S m σ H Q r) (kp : KeepC (S.fx m) H H') : postT S m σ H' Q r := by
  cases r with
  | ok d h' => obtain ⟨b, e, hp⟩ := hp; exact ⟨b, e, fun H2 k2 w => hp H2 (kp.trans k2) w⟩
  | err e h' => exact fun H2 k2 w => hp H2 (kp.trans k2) w
  | bad => exact hp
theorem postA.from {kk : Nat} {Q : List V → Hp → Prop} {r : R (List D)} (hp : postA S m kk σ H Q r) (kp : KeepC (S.fx m) H H') : postA S m kk σ H' Q r := by
  cases r with
  | ok d h' => exact fun v H2 k2 w r => hp v H2 (kp.trans k2) w r
  | err e h' => exact fun H2 k2 w => hp H2 (kp.trans k2) w
  | bad => exact hp
end
/-- weaker readings -/
theorem PE.weak {X : Cx} {e : Expr} {t t' : TE} (h : PE X e t) (w : ∀ σ H Q, t' σ H Q → t σ H Q) : PE X e t' := ⟨fun pins s σ H Q I q => h.run pins s σ H Q I (w σ H Q q)⟩
theorem PT.weak {X : Cx} {e : Expr} {t t' : TT} (h : PT X e t) (w : ∀ σ H Q, t' σ H Q → t σ H Q) : PT X e t' := ⟨fun pins s σ H Q I q => h.run pins s σ H Q I (w σ H Q q)⟩
theorem PW.weak {X : Cx} {e : Expr} {t t' : TT} (h : PW X e t) (w : ∀ σ H Q, t' σ H Q → t σ H Q) : PW X e t' := ⟨fun wh pins s σ H Q I q => h.run wh pins s σ H Q I (w σ H Q q)⟩
theorem PA.weak {X : Cx} {e : List Expr} {t t' : TA} (h : PA X e t) (w : ∀ σ H Q, t' σ H Q → t σ H Q) : PA X e t' := ⟨fun p pins s σ H Q I q => h.run p pins s σ H Q I (w σ H Q q)⟩
section
variable {S : Stat} {m : Mem} {σ : L2.St} {ρ : Env} {h : Hs} {H : Hp}
/-- a part, then the rest -/
theorem tE_bind {a : C} {kk : Nat} {Q Q1 : VK} {f : D → Hs → R D} (o : Ok S m σ ρ h H) (hp : post S m kk σ H Q ((den S.g a ρ h).bind f))
    (k : ∀ d h' v H', Ok S m σ ρ h' H' → KeepC (S.fx m) H H' → RepK (S.fx m) m (a.knd S.own) H' v d → post S m kk σ H' Q (f d h') → Q1 v H') : tE S a σ H Q1 := by
  refine ⟨ρ, h, m, o, ?_⟩
  cases q : den S.g a ρ h with
  | ok d h' => rw [q] at hp; exact fun v H' kp w r => k d h' v H' (o.keep kp w) kp r (post.from hp kp)
  | err e h' => rw [q] at hp; exact hp
  | bad => rw [q] at hp; exact hp
theorem tT_bind {a : C} {kk : Nat} {Q : VK} {Q1 : Bool → Hp → Prop} {f : D → Hs → R D} (o : Ok S m σ ρ h H) (hp : post S m kk σ H Q ((den S.g a ρ h).bind f))
    (hn : ∀ d h', tv d = none → f d h' = .bad) (k : ∀ d h' b H', tv d = some b → Ok S m σ ρ h' H' → KeepC (S.fx m) H H' → post S m kk σ H' Q (f d h') → Q1 b H') : tT S a σ H Q1 := by
  refine ⟨ρ, h, m, o, ?_⟩
  cases q : den S.g a ρ h with
  | ok d h' =>
    rw [q] at hp
    cases t : tv d with
    | some b => exact ⟨b, t, fun H' kp w => k d h' b H' t (o.keep kp w) kp (post.from hp kp)⟩
    | none =>
      have z : post S m kk σ H Q (f d h') := hp
      rw [hn d h' t] at z
      exact z.elim
  | err e h' => rw [q] at hp; exact hp
  | bad => rw [q] at hp; exact hp
/-- .. within a test -/
theorem tT_bindT {a : C} {Q : Bool → Hp → Prop} {Q1 : Bool → Hp → Prop} {f : D → Hs → R D} (o : Ok S m σ ρ h H) (hp : postT S m σ H Q ((den S.g a ρ h).bind f))
    (hn : ∀ d h', tv d = none → f d h' = .bad) (k : ∀ d h' b H', tv d = some b → Ok S m σ ρ h' H' → KeepC (S.fx m) H H' → postT S m σ H' Q (f d h') → Q1 b H') : tT S a σ H Q1 := by
  refine ⟨ρ, h, m, o, ?_⟩
  cases q : den S.g a ρ h with
  | ok d h' =>
    rw [q] at hp
    cases t : tv d with
    | some b => exact ⟨b, t, fun H' kp w => k d h' b H' t (o.keep kp w) kp (postT.from hp kp)⟩
    | none =>
      have z : postT S m σ H Q (f d h') := hp
      rw [hn d h' t] at z
      exact z.elim
  | err e h' => rw [q] at hp; exact hp
  | bad => rw [q] at hp; exact hp
theorem tE_bindT {a : C} {Q : Bool → Hp → Prop} {Q1 : VK} {f : D → Hs → R D} (o : Ok S m σ ρ h H) (hp : postT S m σ H Q ((den S.g a ρ h).bind f))
    (k : ∀ d h' v H', Ok S m σ ρ h' H' → KeepC (S.fx m) H H' → RepK (S.fx m) m (a.knd S.own) H' v d → postT S m σ H' Q (f d h') → Q1 v H') : tE S a σ H Q1 := by
  refine ⟨ρ, h, m, o, ?_⟩
  cases q : den S.g a ρ h with
  | ok d h' => rw [q] at hp; exact fun v H' kp w r => k d h' v H' (o.keep kp w) kp r (postT.from hp kp)
  | err e h' => rw [q] at hp; exact hp
  | bad => rw [q] at hp; exact hp
theorem tA_bind {a : Cs} {kk : Nat} {Q : VK} {Q1 : List V → Hp → Prop} {f : List D → Hs → R D} (o : Ok S m σ ρ h H) (hp : post S m kk σ H Q ((dens S.g a ρ h).bind f))
    (k : ∀ ds h' vs H', Ok S m σ ρ h' H' → KeepC (S.fx m) H H' → (if a.knd S.own = 0 then Reps (S.fx m) m.F H' vs ds else Reps (S.fx m) m.F0 H' vs ds) → (a.knd S.own ≤ 1 → RepTs (S.fx m) m.F H' vs ds) → post S m kk σ H' Q (f ds h') → Q1 vs H') : tA S a σ H Q1 := by
  refine ⟨ρ, h, m, o, ?_⟩
  cases q : dens S.g a ρ h with
  | ok d h' => rw [q] at hp; exact fun v H' kp w r rt => k d h' v H' (o.keep kp w) kp r rt (post.from hp kp)
  | err e h' => rw [q] at hp; exact hp
  | bad => rw [q] at hp; exact hp
end
/-- what is there for all bodies: n: how many calls may stand one in another -/
structure Base (X : Cx) (S : Stat) (sg : Sig) (n : Nat) : Prop where
  K : S.K = X.K
  w : S.w = X.w
  calm : X.calm = true
  room : Room n X.A
  tk : L2N.Takes X S.wx
  consts : ∀ x d, sg.consts.lookup x = some d → ∃ v u, X.mg x = some u ∧ RelV v u ∧ ∀ μ F H, Rep ⟨S.K, S.w, μ⟩ F H v d
  gd : sg.rep = true → X.A.guards = some []
  blt : ∀ x ∈ (["len", "all", "any", "sum", "min", "max", "abs", "int", "tuple", "list", "sorted", "dict", "repr", "set", "next", "iter", "isinstance", "str", "range"] : List Str), X.mg x = none
/-- a body's context -/
structure XOk (X : Cx) (S : Stat) (cx : Cxt) (sc : Scope) (n : Nat) : Prop where
  b : Base X S cx.sig n
  N : X.N = cx.N
  nd : cx.N.Nodup
  own : S.own = cx.own
  sc : X.env.scope = sc
  r2 : cx.sig.told ≠ "" → Room (n + 2) X.A
section
variable {X : Cx} {S : Stat} {cx : Cxt} {sc : Scope} {n : Nat}
theorem ix_get {x : Str} : ∀ {N : List Str} {k i : Nat}, ixOf x N k = some i → k ≤ i ∧ N[i - k]? = some x
  | [], _, _, h => by cases h
  | y :: r, k, i, h => by
    unfold ixOf at h
    split at h
    · rename_i e
      cases h
      rw [Nat.sub_self]
      exact ⟨Nat.le_refl _, by rw [e]; rfl⟩
    · obtain ⟨h1, h2⟩ := ix_get h
      refine ⟨by omega, ?_⟩
      have e : i - k = (i - (k + 1)) + 1 := by omega
      rw [e]
      exact h2
theorem Cxt.ix_get {x : Str} {i : Nat} (h : cx.ix x = some i) : cx.N[i]? = some x := by
  have := (Mini.ix_get h).2
  rwa [Nat.sub_zero] at this
theorem isVis_of {x : Str} (o : XOk X S cx sc n) (h : isVis sc x = true) : Vis X.env.scope x := by
  rw [o.sc]
  unfold isVis at h
  simp only [Bool.and_eq_true, Bool.or_eq_true, beq_iff_eq] at h
  exact h.2.elim (fun z => z.elim .inl fun z => .inr (.inl z)) fun z => .inr (.inr z)
theorem isGl_of {x : Str} (o : XOk X S cx sc n) (h : isGl sc x = true) : Gl X x := by
  unfold isGl at h
  rw [Bool.and_eq_true, beq_iff_eq] at h
  show X.env.scope.names.lookup x = _
  rw [o.sc]
  exact h.2
theorem plain_ok {x : Str} (h : plainN x = true) : (x == ("__debug__" : Str)) = false ∧ (x == ("__classdict__" : Str)) = false ∧ x ≠ "__name__" := by
  unfold plainN at h
  simp only [Bool.and_eq_true, Bool.not_eq_true'] at h
  exact ⟨h.1.1, h.1.2, fun e => by rw [e] at h; simp at h⟩
theorem vis_plain {x : Str} (h : isVis sc x = true) : plainN x = true := (Bool.and_eq_true_iff.mp h).1
theorem gl_plain {x : Str} (h : isGl sc x = true) : plainN x = true := (Bool.and_eq_true_iff.mp h).1
end
end Mini

set_option Elab.async false
set_option linter.all false
set_option maxRecDepth 100000
set_option maxHeartbeats 4000000
/-! Mini, part F1: expressions: names, operators. -/
namespace Mini
open PySem PySem.Spec PyProof.Rows L2
def Mem.gk (m : Mem) (k : Nat) : Addr → Prop := if k = 0 then m.F else m.F0
section
variable {S : Stat} {m : Mem} {σ : L2.St} {ρ : Env} {h : Hs} {H : Hp} {k ka : Nat} {Q : VK}
theorem there_gk (o : Ok S m σ ρ h H) : There (m.gk k) H := fun a z => by
  unfold Mem.gk at z
  split at z
  · exact o.w.kin a z
  · exact o.w.kin a (o.e.sub a z)
theorem out_gk {d : D} (o : Ok S m σ ρ h H) (hk : k ≠ 1) (hp : post S m k σ H Q (.ok d h)) : Out (S.fx m) (m.gk k) H Q d := fun v H' e r => by
  refine hp v H' (Keep.of e) (o.w.ext e) ?_
  unfold RepK
  unfold Mem.gk at r
  split at r
  · rename_i z
    rw [if_pos z]
    exact r
  · rename_i z
    rw [if_neg z, if_neg hk]
    exact r
theorem RepK.topG {v : V} {d : D} (o : Ok S m σ ρ h H) (r : RepK (S.fx m) m ka H v d) (hk : k = 0 → ka ≤ 1) : RepT (S.fx m) (m.gk k) H v d := by
  have t := r.top
  unfold Mem.itF at t
  unfold Mem.gk
  split
  · rename_i z
    rw [if_pos (hk z)] at t
    exact t
  · split at t
    · exact t.less o.e.sub
    · exact t
theorem lift_some {o : Option D} {kk : Nat} (hp : post S m kk σ H Q (lift o h)) : ∃ d, o = some d ∧ post S m kk σ H Q (.ok d h) := by
  cases o with
  | some d => exact ⟨d, rfl, hp⟩
  | none => exact hp.elim
theorem RepK.keep {v : V} {d : D} {H' : Hp} (o : Ok S m σ ρ h H) (r : RepK (S.fx m) m ka H v d) (kp : KeepC (S.fx m) H H') (w : There m.F H) : RepK (S.fx m) m ka H' v d := by
  have s0 : ∀ b, b ∈ (S.fx m).μ → m.F0 b := fun b z => o.e.cel b z
  have s1 : ∀ b, b ∈ (S.fx m).μ → m.F b := fun b z => o.e.sub b (s0 b z)
  unfold RepK at r ⊢
  split
  · rename_i z
    rw [if_pos z] at r
    exact Rep.keep r (kp.mono s1)
  · rename_i z
    rw [if_neg z] at r
    split
    · rename_i z2
      rw [if_pos z2] at r
      refine ⟨?_, Rep.keep r.2 (kp.mono s0)⟩
      obtain ⟨t, q⟩ := r
      cases d with
      | list ds =>
        obtain ⟨a, xs, e, ha, ra⟩ := t
        subst e
        obtain ⟨a', xs', e', n', ha', _⟩ := q.list
        cases e'
        exact ⟨a, xs, rfl, kp a _ ha (fun z => n' (s0 a z)) (fun ps z => by cases z), ra.keep (kp.mono s1)⟩
      | dict ds =>
        rcases t with t | ⟨a, kvs, e, ha, c, ra⟩
        · exact .inl (Rep.keep t (kp.mono s1))
        · subst e
          obtain ⟨a', kvs', e', n', ha', _⟩ := q.dict c
          cases e'
          exact .inr ⟨a, kvs, rfl, kp a _ ha (fun z => n' (s0 a z)) (fun ps z => by cases z), c, ra.keep (kp.mono s1)⟩
      | _ => exact Rep.keep t (kp.mono s1)
    · rename_i z2
      rw [if_neg z2] at r
      exact Rep.keep r (kp.mono s0)
end
section
variable {X : Cx} {S : Stat} {cx : Cxt} {sc : Scope} {n : Nat} {a b : Expr} {ca cb cc : C} {pos : Pos}
/-- a name of the body -/
theorem e_slot {x : Str} {i : Nat} (o : XOk X S cx sc n) (hv : isVis sc x = true) (hi : cx.ix x = some i) : PE X (.Name x pos) (tE S (.slot i)) := by
  obtain ⟨d1, d2, _⟩ := plain_ok (vis_plain hv)
  refine PE.weak (pe_var (i := i) (by rw [o.N]; exact Cxt.ix_get hi) (isVis_of o hv) d1 d2) fun σ H Q ⟨ρ, h, m, ok, hp⟩ => ?_
  unfold den at hp
  split at hp
  · rename_i d e
    by_cases ho : i ∈ S.own
    · obtain ⟨a, e1, f1, f2, oa⟩ := ok.e.ow i d e ho
      refine ⟨_, e1, hp _ H Keep.refl ok.w ?_⟩
      have kd : (C.slot i).knd S.own = 1 := by unfold C.knd; rw [if_pos (by simpa using ho)]
      rw [kd]
      unfold RepK
      rw [if_neg (by decide), if_pos rfl]
      cases d with
      | list ds =>
        obtain ⟨xs, e2, r⟩ := oa
        exact ⟨⟨a, xs, rfl, e2, r⟩, .lst f2 e2 (r.less ok.e.sub)⟩
      | dict ds =>
        obtain ⟨c, kvs, e2, r⟩ := oa
        exact ⟨.inr ⟨a, kvs, rfl, e2, c, r⟩, .dct f2 e2 c (r.imp (fun a _ n z => n (ok.e.sub a z)) Keep.refl)⟩
      | _ => exact oa.elim
    · obtain ⟨v, e1, r⟩ := ok.e.val i d e ho
      refine ⟨v, e1, hp v H Keep.refl ok.w ?_⟩
      have kd : (C.slot i).knd S.own = 0 := by unfold C.knd; rw [if_neg (by simpa using ho)]
      rw [kd]
      exact r
  · exact hp.elim
/-- a constant of the module -/
theorem e_glob {x : Str} {d : D} (o : XOk X S cx sc n) (hg : isGl sc x = true) (hd : cx.sig.consts.lookup x = some d) : PE X (.Name x pos) (tE S (.lit d)) := by
  obtain ⟨d1, _, _⟩ := plain_ok (gl_plain hg)
  obtain ⟨v, u, e1, e2, e3⟩ := o.b.consts x d hd
  refine PE.weak (pe_glob (isGl_of o hg) e1 e2 d1) fun σ H Q ⟨ρ, h, m, ok, hp⟩ => ?_
  unfold den at hp
  exact hp v H Keep.refl ok.w (e3 m.μ m.F H)
theorem e_const {c : Const} {k : Nat} {d : D} (hd : constD c = some d) : PE X (.Constant c k pos) (tE S (.lit d)) := by
  cases c with
  | none => cases hd; exact PE.weak pe_non fun σ H Q ⟨ρ, h, m, ok, hp⟩ => by unfold den at hp; exact hp _ H Keep.refl ok.w .non
  | bool b => cases hd; exact PE.weak pe_bl fun σ H Q ⟨ρ, h, m, ok, hp⟩ => by unfold den at hp; exact hp _ H Keep.refl ok.w (.bl _)
  | int i => cases hd; exact PE.weak pe_int fun σ H Q ⟨ρ, h, m, ok, hp⟩ => by unfold den at hp; exact hp _ H Keep.refl ok.w (.int _)
  | str x => cases hd; exact PE.weak pe_str fun σ H Q ⟨ρ, h, m, ok, hp⟩ => by unfold den at hp; exact hp _ H Keep.refl ok.w (.str _)
  | _ => cases hd
theorem bop_eq {op : Operator} {o : Bop} (h : bopOf op = some o) : op = bopX o := by
  cases op <;> cases h <;> rfl
theorem cop_eq {op : CmpOp} {o : Cop} (h : copOf op = some o) : op = copX o := by
  cases op <;> cases h <;> rfl
def rBinX (X : Cx) (o : Bop) : R2 := fun x y H Q => ∃ fx : Fx, fx.K = X.K ∧ rBin fx o x y H Q
theorem op_binX (o : Bop) : OpR X (binaryOp (bopX o)) (rBinX X o) := fun pins s σ H x y v u Q I rx ry ⟨fx, hK, h⟩ => op_bin hK o pins s σ H x y v u Q I rx ry h
theorem e_bin {o : Bop} (x : XOk X S cx sc n) (ha : PE X a (tE S ca)) (hb : PE X b (tE S cb)) : PE X (.BinOp a (bopX o) b pos) (tE S (.bin o ca cb)) := by
  refine PE.weak (pe_op (op_binX o) ha hb) fun σ H Q ⟨ρ, h, m, ok, hp⟩ => ?_
  unfold den at hp
  refine tE_bind ok hp fun d1 h1 v1 H1 o1 k1 r1 hp1 => tE_bind o1 hp1 fun d2 h2 v2 H2 o2 k2 r2 hp2 => ?_
  obtain ⟨d, e, hp3⟩ := lift_some hp2
  have kn : (C.bin o ca cb).knd S.own = (if 2 ≤ max (ca.knd S.own) (cb.knd S.own) then 2 else 0) := by rw [C.knd]
  generalize (C.bin o ca cb).knd S.own = kk at hp3 kn
  have n1 : kk ≠ 1 := by rw [kn]; split <;> decide
  have n0 : kk = 0 → ca.knd S.own ≤ 1 ∧ cb.knd S.own ≤ 1 := fun z => by
    rw [kn] at z
    split at z
    · cases z
    · omega
  exact ⟨S.fx m, x.b.K, m.gk kk, d1, d2, d, there_gk o2, RepK.topG o2 (r1.keep o1 k2 o1.w.kin) fun z => (n0 z).1, RepK.topG o2 r2 fun z => (n0 z).2, e, out_gk o2 n1 hp3⟩
def rCmpX (X : Cx) (o : Cop) : R2 := fun x y H Q => ∃ fx : Fx, fx.K = X.K ∧ fx.w = X.w ∧ rCmp fx o x y H Q
theorem room66 (x : XOk X S cx sc n) : X.A.units + 66 < cLine := by
  have := x.b.room.un
  omega
theorem op_cmpX (x : XOk X S cx sc n) (o : Cop) : OpR X (compareOp (copX o)) (rCmpX X o) := fun pins s σ H a b v u Q I rx ry ⟨fx, hK, hw, h⟩ => op_cmp hK hw (room66 x) o pins s σ H a b v u Q I rx ry h
/-- no set display -/
theorem no_marks {e : Expr} {k : Nat} {c : C} (h : compE cx k e sc = some c) (op : CmpOp) : behindInMarks op e = false := by
  cases e <;> try rfl
  cases k <;> cases h
theorem RepT.le {fx : Fx} {F F0 : Addr → Prop} {H : Hp} {v : V} {d : D} (r : RepT fx F H v d) (s : ∀ a, F0 a → F a) : RepT fx F0 H v d := r.less s
theorem rep0 {m : Mem} {σ : L2.St} {ρ : Env} {h : Hs} {H : Hp} {k : Nat} {v : V} {d : D} (o : Ok S m σ ρ h H) (r : RepK (S.fx m) m k H v d) : RepT (S.fx m) m.F0 H v d := (RepK.rep0 o.e.sub r).top
theorem cmp_end {o : Cop} {m : Mem} {σ : L2.St} {ρ : Env} {h : Hs} {H : Hp} {k1 k2 : Nat} {x y : V} {d1 d2 : D} (xo : XOk X S cx sc n) (ok : Ok S m σ ρ h H) (r1 : RepK (S.fx m) m k1 H x d1) (r2 : RepK (S.fx m) m k2 H y d2) {b : Bool} (e : cmpD o d1 d2 = some b) {Q : VK} (q : Q (.bl b) H) : rCmpX X o x y H Q :=
  ⟨S.fx m, xo.b.K, xo.b.w, m.F0, d1, d2, b, rep0 ok r1, rep0 ok r2, e, q⟩
theorem RepK.bool {m : Mem} {k : Nat} {H : Hp} {b : Bool} {X' : Fx} : RepK X' m k H (.bl b) (.bool b) := by
  unfold RepK
  split
  · exact .bl b
  · split
    · exact ⟨.bl b, .bl b⟩
    · exact .bl b
theorem e_cmp {o : Cop} (x : XOk X S cx sc n) (ha : PE X a (tE S ca)) (hb : PE X b (tE S cb)) (hm : behindInMarks (copX o) b = false) : PE X (.Compare a [copX o] [b] pos) (tE S (.cmp o ca cb)) := by
  refine PE.weak (pe_cmpR (op_cmpX x o) ha hb hm) fun σ H Q ⟨ρ, h, m, ok, hp⟩ => ?_
  unfold den at hp
  refine tE_bind ok hp fun d1 h1 v1 H1 o1 k1 r1 hp1 => tE_bind o1 hp1 fun d2 h2 v2 H2 o2 k2 r2 hp2 => ?_
  obtain ⟨d, e, hp3⟩ := lift_some hp2
  obtain ⟨b, e2, rfl⟩ := Option.map_eq_some_iff.mp e
  exact cmp_end x o2 (r1.keep o1 k2 o1.w.kin) r2 e2 (hp3 _ H2 Keep.refl o2.w RepK.bool)
theorem t_cmp {o : Cop} (x : XOk X S cx sc n) (ha : PE X a (tE S ca)) (hb : PE X b (tE S cb)) (hm : behindInMarks (copX o) b = false) : PT X (.Compare a [copX o] [b] pos) (tT S (.cmp o ca cb)) := by
  refine PT.weak (pt_cmpR (op_cmpX x o) ha hb hm) fun σ H Q ⟨ρ, h, m, ok, hp⟩ => ?_
  unfold den at hp
  refine tE_bindT ok hp fun d1 h1 v1 H1 o1 k1 r1 hp1 => tE_bindT o1 hp1 fun d2 h2 v2 H2 o2 k2 r2 hp2 => ?_
  cases e : cmpD o d1 d2 with
  | none => rw [e] at hp2; exact hp2.elim
  | some b =>
    rw [e] at hp2
    obtain ⟨b', e1, q⟩ := hp2
    cases e1
    exact cmp_end x o2 (r1.keep o1 k2 o1.w.kin) r2 e ⟨b, rfl, q H2 Keep.refl o2.w⟩
theorem marks_none {o p : CmpOp} {b c : Expr} (h : behindInMarks p c = false) : lastMarks [o, p] [b, c] = false := h
theorem e_chn {o p : Cop} {c : Expr} (x : XOk X S cx sc n) (ha : PE X a (tE S ca)) (hb : PE X b (tE S cb)) (hc : PE X c (tE S cc)) (hm : behindInMarks (copX p) c = false) : PE X (.Compare a [copX o, copX p] [b, c] pos) (tE S (.chn o p ca cb cc)) := by
  refine PE.weak (pe_chain (op_cmpX x o) (op_cmpX x p) ha hb hc (marks_none hm)) fun σ H Q ⟨ρ, h, m, ok, hp⟩ => ?_
  unfold den at hp
  refine tE_bind ok hp fun d1 h1 v1 H1 o1 k1 r1 hp1 => tE_bind o1 hp1 fun d2 h2 v2 H2 o2 k2 r2 hp2 => ?_
  cases e : cmpD o d1 d2 with
  | none => rw [e] at hp2; exact hp2.elim
  | some b =>
    rw [e] at hp2
    refine cmp_end x o2 (r1.keep o1 k2 o1.w.kin) r2 e ⟨b, rfl, ?_⟩
    cases b with
    | true =>
      rw [if_pos rfl]
      refine tE_bind o2 hp2 fun d3 h3 v3 H3 o3 k3 r3 hp3 => ?_
      obtain ⟨d, e3, hp4⟩ := lift_some hp3
      obtain ⟨b, e4, rfl⟩ := Option.map_eq_some_iff.mp e3
      exact cmp_end x o3 (r2.keep o2 k3 o2.w.kin) r3 e4 (hp4 _ H3 Keep.refl o3.w RepK.bool)
    | false =>
      rw [if_neg Bool.false_ne_true]
      exact hp2 _ H2 Keep.refl o2.w RepK.bool
theorem t_chn {o p : Cop} {c : Expr} (x : XOk X S cx sc n) (ha : PE X a (tE S ca)) (hb : PE X b (tE S cb)) (hc : PE X c (tE S cc)) (hm : behindInMarks (copX p) c = false) : PT X (.Compare a [copX o, copX p] [b, c] pos) (tT S (.chn o p ca cb cc)) := by
  refine PT.weak (pt_chain (op_cmpX x o) (op_cmpX x p) ha hb hc (marks_none hm)) fun σ H Q ⟨ρ, h, m, ok, hp⟩ => ?_
  unfold den at hp
  refine tE_bindT ok hp fun d1 h1 v1 H1 o1 k1 r1 hp1 => tE_bindT o1 hp1 fun d2 h2 v2 H2 o2 k2 r2 hp2 => ?_
  cases e : cmpD o d1 d2 with
  | none => rw [e] at hp2; exact hp2.elim
  | some b =>
    rw [e] at hp2
    refine cmp_end x o2 (r1.keep o1 k2 o1.w.kin) r2 e ⟨b, rfl, ?_⟩
    cases b with
    | true =>
      rw [if_pos rfl]
      refine tE_bindT o2 hp2 fun d3 h3 v3 H3 o3 k3 r3 hp3 => ?_
      cases e3 : cmpD p d2 d3 with
      | none => rw [e3] at hp3; exact hp3.elim
      | some b3 =>
        rw [e3] at hp3
        obtain ⟨b', e1, q⟩ := hp3
        cases e1
        exact cmp_end x o3 (r2.keep o2 k3 o2.w.kin) r3 e3 ⟨b3, rfl, q H3 Keep.refl o3.w⟩
    | false =>
      rw [if_neg Bool.false_ne_true]
      obtain ⟨b', e1, q⟩ := hp2
      cases e1
      exact ⟨false, rfl, q H2 Keep.refl o2.w⟩
/-! ### truth -/
/-- a test by its value -/
theorem t_gen {e : Expr} {c : C} (x : XOk X S cx sc n) (he : PE X e (tE S c)) (hp : ∀ whole, isTrue e X.env whole = (do let v ← whole; standAt e.pos; holding [v] (truthy v))) : PT X e (tT S c) := by
  refine PT.weak (pt_truth he hp) fun σ H Q ⟨ρ, h, m, ok, hp⟩ => ?_
  refine ⟨ρ, h, m, ok, ?_⟩
  cases q : den S.g c ρ h with
  | ok d h' =>
    rw [q] at hp
    obtain ⟨b, e1, z⟩ := hp
    exact fun v H' kp w r => ⟨b, tru_of x.b.K (rep0 (ok.keep kp w) r) e1, z H' kp w⟩
  | err e h' => rw [q] at hp; exact hp
  | bad => rw [q] at hp; exact hp
theorem e_neg (x : XOk X S cx sc n) (ha : PE X a (tE S ca)) : PE X (.UnaryOp .USub a pos) (tE S (.neg ca)) := by
  refine PE.weak (pe_un un_neg ha) fun σ H Q ⟨ρ, h, m, ok, hp⟩ => ?_
  unfold den at hp
  refine tE_bind ok hp fun d1 h1 v1 H1 o1 k1 r1 hp1 => ?_
  have t := rep0 o1 r1
  cases d1 with
  | int i =>
    obtain rfl := t.int
    refine ⟨i, rfl, hp1 _ H1 Keep.refl o1.w ?_⟩
    have kn : (C.neg ca).knd S.own = 0 := by rw [C.knd]; all_goals (intros; simp_all)
    rw [kn]
    exact .int _
  | _ => exact hp1.elim
theorem e_notv (x : XOk X S cx sc n) (ha : PE X a (tE S ca)) : PE X (.UnaryOp .Not a pos) (tE S (.notv ca)) := by
  refine PE.weak (pe_notT ha) fun σ H Q ⟨ρ, h, m, ok, hp⟩ => ?_
  unfold den at hp
  refine tE_bind ok hp fun d1 h1 v1 H1 o1 k1 r1 hp1 => ?_
  cases e : tv d1 with
  | none => rw [e] at hp1; exact hp1.elim
  | some b =>
    rw [e] at hp1
    exact ⟨b, tru_of x.b.K (rep0 o1 r1) e, hp1 _ H1 Keep.refl o1.w RepK.bool⟩
theorem t_not (x : XOk X S cx sc n) (ha : PT X a (tT S ca)) : PT X (.UnaryOp .Not a pos) (tT S (.notv ca)) := by
  refine PT.weak (pt_not ha) fun σ H Q ⟨ρ, h, m, ok, hp⟩ => ?_
  unfold den at hp
  refine tT_bindT ok hp (fun d h' e => by simp only [e]) fun d1 h1 b H1 e o1 k1 hp1 => ?_
  rw [e] at hp1
  obtain ⟨b', e1, q⟩ := hp1
  cases e1
  exact q H1 Keep.refl o1.w
theorem ite_le {k k' : Nat} {m : Mem} {X' : Fx} {H : Hp} {v : V} {d : D} (s : ∀ a, m.F0 a → m.F a) (r : RepK X' m k H v d) (l : k ≤ k') : RepK X' m k' H v d := by
  by_cases h0 : k = 0
  · subst h0
    unfold RepK at r
    rw [if_pos rfl] at r
    exact RepK.ofRep s r
  · by_cases h1 : k = 1
    · subst h1
      unfold RepK at r ⊢
      rw [if_neg (by decide), if_pos rfl] at r
      rw [if_neg (by omega)]
      split
      · exact r
      · exact r.2
    · have r0 := RepK.rep0 s r
      unfold RepK
      rw [if_neg (by omega), if_neg (by omega)]
      exact r0
theorem post.le {m : Mem} {σ : L2.St} {H : Hp} {k k' : Nat} {Q : VK} {r : R D} (s : ∀ a, m.F0 a → m.F a) (hp : post S m k' σ H Q r) (l : k ≤ k') : post S m k σ H Q r := by
  cases r with
  | ok d h' => exact fun v H' kp w r => hp v H' kp w (ite_le s r l)
  | err e h' => exact hp
  | bad => exact hp
theorem e_ite {t : Expr} (ht : PT X t (tT S cc)) (ha : PE X a (tE S ca)) (hb : PE X b (tE S cb)) : PE X (.IfExp t a b pos) (tE S (.ite cc ca cb)) := by
  refine PE.weak (pe_ifExp ht ha hb) fun σ H Q ⟨ρ, h, m, ok, hp⟩ => ?_
  unfold den at hp
  have kn : (C.ite cc ca cb).knd S.own = max (ca.knd S.own) (cb.knd S.own) := by rw [C.knd]
  rw [kn] at hp
  refine tT_bind ok hp (fun d h' e => by simp only [e]) fun d1 h1 b1 H1 e o1 k1 hp1 => ?_
  rw [e] at hp1
  cases b1 with
  | true => rw [if_pos rfl]; exact ⟨ρ, h1, m, o1, post.le o1.e.sub hp1 (Nat.le_max_left _ _)⟩
  | false => rw [if_neg Bool.false_ne_true]; exact ⟨ρ, h1, m, o1, post.le o1.e.sub hp1 (Nat.le_max_right _ _)⟩
theorem e_and {rest : List Expr} (x : XOk X S cx sc n) (ha : PE X a (tE S ca)) (hb : PE X (.BoolOp .And (b :: rest) pos) (tE S cb)) : PE X (.BoolOp .And (a :: b :: rest) pos) (tE S (.and2 ca cb)) := by
  refine PE.weak (pe_andT ha hb) fun σ H Q ⟨ρ, h, m, ok, hp⟩ => ?_
  unfold den at hp
  have kn : (C.and2 ca cb).knd S.own = max (ca.knd S.own) (cb.knd S.own) := by rw [C.knd]
  rw [kn] at hp
  refine tE_bind ok hp fun d1 h1 v1 H1 o1 k1 r1 hp1 => ?_
  cases e : tv d1 with
  | none => rw [e] at hp1; exact hp1.elim
  | some b =>
    rw [e] at hp1
    refine ⟨b, tru_of x.b.K (rep0 o1 r1) e, ?_⟩
    cases b with
    | true => rw [if_pos rfl]; exact ⟨ρ, h1, m, o1, post.le o1.e.sub hp1 (Nat.le_max_right _ _)⟩
    | false => rw [if_neg Bool.false_ne_true]; exact hp1 _ H1 Keep.refl o1.w (ite_le o1.e.sub r1 (Nat.le_max_left _ _))
theorem e_or {rest : List Expr} (x : XOk X S cx sc n) (ha : PE X a (tE S ca)) (hb : PE X (.BoolOp .Or (b :: rest) pos) (tE S cb)) : PE X (.BoolOp .Or (a :: b :: rest) pos) (tE S (.or2 ca cb)) := by
  refine PE.weak (pe_orT ha hb) fun σ H Q ⟨ρ, h, m, ok, hp⟩ => ?_
  unfold den at hp
  have kn : (C.or2 ca cb).knd S.own = max (ca.knd S.own) (cb.knd S.own) := by rw [C.knd]
  rw [kn] at hp
  refine tE_bind ok hp fun d1 h1 v1 H1 o1 k1 r1 hp1 => ?_
  cases e : tv d1 with
  | none => rw [e] at hp1; exact hp1.elim
  | some b =>
    rw [e] at hp1
    refine ⟨b, tru_of x.b.K (rep0 o1 r1) e, ?_⟩
    cases b with
    | true => rw [if_pos rfl]; exact hp1 _ H1 Keep.refl o1.w (ite_le o1.e.sub r1 (Nat.le_max_left _ _))
    | false => rw [if_neg Bool.false_ne_true]; exact ⟨ρ, h1, m, o1, post.le o1.e.sub hp1 (Nat.le_max_right _ _)⟩
theorem w_one {op : BoolOp} (ha : PT X a (tT S ca)) : PW X (.BoolOp op [a] pos) (tT S ca) := by
  cases op
  · exact pw_and1 ha
  · exact pw_or1 ha
theorem w_and {rest : List Expr} (ha : PT X a (tT S ca)) (hb : PW X (.BoolOp .And (b :: rest) pos) (tT S cb)) : PW X (.BoolOp .And (a :: b :: rest) pos) (tT S (.and2 ca cb)) := by
  refine PW.weak (pw_and ha hb) fun σ H Q ⟨ρ, h, m, ok, hp⟩ => ?_
  unfold den at hp
  refine tT_bindT ok hp (fun d h' e => by simp only [e]) fun d1 h1 b H1 e o1 k1 hp1 => ?_
  rw [e] at hp1
  cases b with
  | true => rw [if_pos rfl]; exact ⟨ρ, h1, m, o1, hp1⟩
  | false =>
    rw [if_neg Bool.false_ne_true]
    obtain ⟨b', e1, q⟩ := hp1
    rw [e] at e1
    cases e1
    exact q H1 Keep.refl o1.w
theorem w_or {rest : List Expr} (ha : PT X a (tT S ca)) (hb : PW X (.BoolOp .Or (b :: rest) pos) (tT S cb)) : PW X (.BoolOp .Or (a :: b :: rest) pos) (tT S (.or2 ca cb)) := by
  refine PW.weak (pw_or ha hb) fun σ H Q ⟨ρ, h, m, ok, hp⟩ => ?_
  unfold den at hp
  refine tT_bindT ok hp (fun d h' e => by simp only [e]) fun d1 h1 b H1 e o1 k1 hp1 => ?_
  rw [e] at hp1
  cases b with
  | true =>
    rw [if_pos rfl]
    obtain ⟨b', e1, q⟩ := hp1
    rw [e] at e1
    cases e1
    exact q H1 Keep.refl o1.w
  | false => rw [if_neg Bool.false_ne_true]; exact ⟨ρ, h1, m, o1, hp1⟩
end
end Mini

set_option Elab.async false
set_option linter.all false
set_option maxRecDepth 100000
set_option maxHeartbeats 4000000
/-! Mini, part F2: expressions: displays, subscripts. -/
namespace Mini
open PySem PySem.Spec PyProof.Rows L2
/-- the arguments' grade -/
abbrev RepsG (S : Stat) (m : Mem) (k : Nat) (H : Hp) (vs : List V) (ds : List D) : Prop := if k = 0 then Reps (S.fx m) m.F H vs ds else Reps (S.fx m) m.F0 H vs ds
section
variable {S : Stat} {m : Mem} {σ : L2.St} {ρ : Env} {h : Hs} {H H' : Hp} {k ka : Nat} {Q : VK}
theorem RepsG.gk {vs : List V} {ds : List D} (r : RepsG S m k H vs ds) : Reps (S.fx m) (m.gk k) H vs ds := by
  unfold RepsG at r
  unfold Mem.gk
  split at r
  · rename_i z; rw [if_pos z]; exact r
  · rename_i z; rw [if_neg z]; exact r
theorem RepsG.f0 {vs : List V} {ds : List D} (o : Ok S m σ ρ h H) (r : RepsG S m k H vs ds) : Reps (S.fx m) m.F0 H vs ds := by
  unfold RepsG at r
  split at r
  · exact r.less o.e.sub
  · exact r
theorem RepK.f {v : V} {d : D} {X : Fx} (r : RepK X m 0 H v d) : Rep X m.F H v d := r
theorem RepsG.length' {vs : List V} {ds : List D} (r : if k = 0 then Reps (S.fx m) m.F H vs ds else Reps (S.fx m) m.F0 H vs ds) : vs.length = ds.length := by
  split at r
  · exact r.length
  · exact r.length
theorem RepsG.f {vs : List V} {ds : List D} (r : RepsG S m k H vs ds) (z : k = 0) : Reps (S.fx m) m.F H vs ds := by
  unfold RepsG at r
  rw [if_pos z] at r
  exact r
theorem RepsG.of {vs : List V} {ds : List D} (r0 : k = 0 → Reps (S.fx m) m.F H vs ds) (r1 : Reps (S.fx m) m.F0 H vs ds) : RepsG S m k H vs ds := by
  unfold RepsG
  split
  · rename_i z; exact r0 z
  · exact r1
theorem RepTs.append {fx : Fx} {G : Addr → Prop} : ∀ {vs ws : List V} {ds es : List D}, RepTs fx G H vs ds → RepTs fx G H ws es → RepTs fx G H (vs ++ ws) (ds ++ es)
  | _, _, _, _, .nil, s => s
  | _, _, _, _, .cons a r, s => .cons a (RepTs.append r s)
theorem Reps.tops {fx : Fx} {G : Addr → Prop} : ∀ {vs : List V} {ds : List D}, Reps fx G H vs ds → RepTs fx G H vs ds
  | _, _, .nil => .nil
  | _, _, .cons a r => .cons a.top (Reps.tops r)
end
theorem each_plain {e : Expr} (h : isStar e = false) (es : List Expr) (env : PySem.Env) : starEach (e :: es) env = (false, eval e env) :: starEach es env := by
  cases e <;> first | rfl | cases h
section
variable {X : Cx} {S : Stat} {cx : Cxt} {sc : Scope} {n : Nat} {a b e : Expr} {es : List Expr} {c ca cb : C} {cs : Cs} {pos : Pos}
theorem a_nil : PA X [] (tA S .nil) := PA.weak pa_nil fun σ H Q ⟨ρ, h, m, ok, hp⟩ => by
  unfold dens at hp
  exact hp [] H Keep.refl ok.w (RepsG.of (fun _ => .nil) .nil) fun _ => .nil
theorem a_cons (ha : PE X e (tE S c)) (hr : PA X es (tA S cs)) (hs : isStar e = false) : PA X (e :: es) (tA S (.cons c cs)) := by
  refine PA.weak (pa_cons ha hr (each_plain hs _ _)) fun σ H Q ⟨ρ, h, m, ok, hp⟩ => ?_
  unfold dens at hp
  have kn : (Cs.cons c cs).knd S.own = max (c.knd S.own) (cs.knd S.own) := by rw [Cs.knd]
  rw [kn] at hp
  refine ⟨ρ, h, m, ok, ?_⟩
  cases q : den S.g c ρ h with
  | bad => rw [q] at hp; exact hp.elim
  | err e h' => rw [q] at hp; exact hp
  | ok d h' =>
    rw [q] at hp
    intro v H1 k1 w1 r1
    have o1 := ok.keep k1 w1
    refine ⟨ρ, h', m, o1, ?_⟩
    have hp : postA S m (max (c.knd S.own) (cs.knd S.own)) σ H Q ((dens S.g cs ρ h').bind fun xs h => .ok (d :: xs) h) := hp
    cases q2 : dens S.g cs ρ h' with
    | bad => rw [q2] at hp; exact hp.elim
    | err e h2 => rw [q2] at hp; exact fun H2 k2 w2 => hp H2 (k1.trans k2) w2
    | ok ds h2 =>
      rw [q2] at hp
      intro vs H2 k2 w2 rs ts
      have o2 := o1.keep k2 w2
      have r2 := r1.keep o1 k2 o1.w.kin
      refine hp (v :: vs) H2 (k1.trans k2) w2 (RepsG.of (fun z => ?_) ?_) fun z => ?_
      · have z1 : c.knd S.own = 0 := by omega
        have z2 : cs.knd S.own = 0 := by omega
        rw [z1] at r2
        exact .cons r2.f (RepsG.f rs z2)
      · exact .cons (RepK.rep0 o1.e.sub r2) (RepsG.f0 o2 rs)
      · have t := r2.top
        unfold Mem.itF at t
        rw [if_pos (by omega)] at t
        exact .cons t (ts (by omega))
/-- the items of a list or of a tuple -/
theorem items_of {m : Mem} {σ : L2.St} {ρ : Env} {h : Hs} {H : Hp} {k : Nat} {v : V} {d : D} {ds : List D} (hd : d = .list ds ∨ d = .tuple ds) (ok : Ok S m σ ρ h H) (r : RepK (S.fx m) m k H v d) :
    ∃ a xs, v = .ref a ∧ (SqT S.K H a xs ∨ SqL S.K H a xs) ∧ RepsG S m (if 2 ≤ k then 2 else 0) H xs ds := by
  have t : RepT (S.fx m) (m.gk (if 2 ≤ k then 2 else 0)) H v d := RepK.topG ok r fun z => by split at z <;> omega
  have key : ∀ xs, Reps (S.fx m) (m.gk (if 2 ≤ k then 2 else 0)) H xs ds → RepsG S m (if 2 ≤ k then 2 else 0) H xs ds := fun xs q => by
    unfold Mem.gk at q
    unfold RepsG
    split at q
    · rename_i z; rw [if_pos z]; exact q
    · rename_i z; rw [if_neg z]; exact q
  rcases hd with rfl | rfl
  · obtain ⟨a, xs, e, q, r⟩ := t
    exact ⟨a, xs, e, .inr (SqL.of q), key xs r⟩
  · obtain ⟨a, xs, e, q, r⟩ := t.tuple
    exact ⟨a, xs, e, .inl q, key xs r⟩
theorem a_star {p : Pos} (x : XOk X S cx sc n) (ha : PE X e (tE S c)) (hr : PA X es (tA S cs)) : PA X (.Starred e p :: es) (tA S (.star c cs)) := by
  refine PA.weak (StX.pa_star ha hr rfl) fun σ H Q ⟨ρ, h, m, ok, hp⟩ => ?_
  unfold dens at hp
  have kn : (Cs.star c cs).knd S.own = max (if 2 ≤ c.knd S.own then 2 else 0) (cs.knd S.own) := by rw [Cs.knd]
  rw [kn] at hp
  refine ⟨ρ, h, m, ok, ?_⟩
  cases q : den S.g c ρ h with
  | bad => rw [q] at hp; exact hp.elim
  | err e h' => rw [q] at hp; exact hp
  | ok d h' =>
    rw [q] at hp
    intro v H1 k1 w1 r1
    have o1 := ok.keep k1 w1
    have main : ∀ ds, (d = .list ds ∨ d = .tuple ds) → postA S m (max (if 2 ≤ c.knd S.own then 2 else 0) (cs.knd S.own)) σ H Q ((dens S.g cs ρ h').bind fun ys h => .ok (ds ++ ys) h) →
        ∃ p xs, v = V.ref p ∧ (SqT X.K H1 p xs ∨ SqL X.K H1 p xs) ∧ tA S cs σ H1 fun ys H2 => Q (xs ++ ys) H2 := by
      intro ds hd hp
      obtain ⟨a, xs, e1, sq, rx⟩ := items_of hd o1 r1
      rw [x.b.K] at sq
      refine ⟨a, xs, e1, sq, ρ, h', m, o1, ?_⟩
      cases q2 : dens S.g cs ρ h' with
      | bad => rw [q2] at hp; exact hp.elim
      | err e h2 => rw [q2] at hp; exact fun H2 k2 w2 => hp H2 (k1.trans k2) w2
      | ok es h2 =>
        rw [q2] at hp
        intro vs H2 k2 w2 rs ts
        have o2 := o1.keep k2 w2
        have rx0 : Reps (S.fx m) m.F0 H2 xs ds := Reps.keep (RepsG.f0 o1 rx) (k2.mono fun b z => o1.e.cel b z)
        have rxf : (if 2 ≤ c.knd S.own then 2 else 0) = 0 → Reps (S.fx m) m.F H2 xs ds := fun z => Reps.keep (RepsG.f rx z) (k2.mono fun b z => o1.e.sub b (o1.e.cel b z))
        refine hp (xs ++ vs) H2 (k1.trans k2) w2 (RepsG.of (fun z => ?_) ?_) fun z => ?_
        · exact (rxf (by omega)).append (RepsG.f rs (by omega))
        · exact rx0.append (RepsG.f0 o2 rs)
        · exact (rxf (by by_cases w : 2 ≤ c.knd S.own
                         · rw [if_pos w] at z; omega
                         · rw [if_neg w])).tops.append (ts (by omega))
    cases d with
    | list ds => exact main ds (.inl rfl) hp
    | tuple ds => exact main ds (.inr rfl) hp
    | _ => exact hp.elim
theorem e_tup {x1 : Nat} (ha : PA X es (tA S cs)) : PE X (.Tuple es x1 pos) (tE S (.tup cs)) := by
  refine PE.weak (pe_tupZ ha) fun σ H Q ⟨ρ, h, m, ok, hp⟩ => ?_
  unfold den at hp
  have kn : (C.tup cs).knd S.own = if cs.knd S.own = 0 then 0 else 2 := by rw [C.knd]
  rw [kn] at hp
  refine tA_bind ok hp fun ds h1 vs H1 o1 k1 r1 t1 hp1 => ?_
  by_cases l : ds.length ≤ bigLine
  · rw [if_pos l] at hp1
    refine ⟨by rw [RepsG.length' r1]; exact big_line l, fun p o z hn => ?_⟩
    refine (out_gk o1 (by split <;> decide) hp1).tup (there_gk o1) z hn ?_
    have r2 := RepsG.gk (m := m) r1
    unfold Mem.gk at r2 ⊢
    by_cases z : cs.knd S.own = 0
    · rw [if_pos z] at r2 ⊢; rw [if_pos rfl]; exact r2
    · rw [if_neg z] at r2 ⊢; rw [if_neg (by decide)]; exact r2
  · rw [if_neg l] at hp1; exact hp1.elim
theorem e_lst (ha : PA X es (tA S cs)) : PE X (.List es pos) (tE S (.lst cs)) := by
  refine PE.weak (pe_lst ha) fun σ H Q ⟨ρ, h, m, ok, hp⟩ => ?_
  unfold den at hp
  have kn : (C.lst cs).knd S.own = if cs.knd S.own = 0 then 0 else 2 := by rw [C.knd]
  rw [kn] at hp
  refine tA_bind ok hp fun ds h1 vs H1 o1 k1 r1 t1 hp1 => ?_
  by_cases l : ds.length ≤ bigLine
  · rw [if_pos l] at hp1
    refine ⟨by rw [RepsG.length' r1]; exact big_line l, fun p hn => ?_⟩
    refine (out_gk o1 (by split <;> decide) hp1).lst (there_gk o1) hn ?_
    have r2 := RepsG.gk (m := m) r1
    unfold Mem.gk at r2 ⊢
    by_cases z : cs.knd S.own = 0
    · rw [if_pos z] at r2 ⊢; rw [if_pos rfl]; exact r2
    · rw [if_neg z] at r2 ⊢; rw [if_neg (by decide)]; exact r2
  · rw [if_neg l] at hp1; exact hp1.elim
end
end Mini

set_option Elab.async false
set_option linter.all false
set_option maxRecDepth 100000
set_option maxHeartbeats 4000000
/-! Mini, part F3: expressions: dicts, subscripts, slices. -/
namespace Mini
open PySem PySem.Spec PyProof.Rows L2
section
variable {X : Cx} {S : Stat} {cx : Cxt} {sc : Scope} {n : Nat} {a b e : Expr} {es : List Expr} {c ca cb cl cu : C} {cs : Cs} {pos p2 : Pos}
theorem RepK.ofGk {m : Mem} {k : Nat} {X' : Fx} {H : Hp} {v : V} {d : D} (n : k ≠ 1) (r : Rep X' (m.gk k) H v d) : RepK X' m k H v d := by
  unfold Mem.gk at r
  unfold RepK
  split at r
  · rename_i w; rw [if_pos w]; exact r
  · rename_i w; rw [if_neg w, if_neg n]; exact r
inductive KeysOk (X : Cx) (S : Stat) : List (Option Expr) → Cs → Prop
  | nil : KeysOk X S [] .nil
  | cons {e : Expr} {c : C} {ks : List (Option Expr)} {cs : Cs} : PE X e (tE S c) → c.pure = true → KeysOk X S ks cs → KeysOk X S (some e :: ks) (.cons c cs)
inductive ValsOk (X : Cx) (S : Stat) : List Expr → Cs → Prop
  | nil : ValsOk X S [] .nil
  | cons {e : Expr} {c : C} {ks : List Expr} {cs : Cs} : PE X e (tE S c) → ValsOk X S ks cs → ValsOk X S (e :: ks) (.cons c cs)
def trsOf (S : Stat) : Cs → Cs → List (TE × TE)
  | .cons k ks, .cons v vs => (tE S k, tE S v) :: trsOf S ks vs
  | _, _ => []
theorem pps_of : ∀ {ks : List (Option Expr)} {kc : Cs} {vs : List Expr} {vc : Cs}, KeysOk X S ks kc → ValsOk X S vs vc → ks.length = vs.length → PPs X pos ks vs (trsOf S kc vc)
  | _, _, _, _, .nil, .nil, _ => pps_nil
  | _, _, _, _, .cons h _ r, .cons h2 q, e => pps_cons h h2 (pps_of r q (by simpa using e))
theorem pure_den {g : G} {ρ : Env} {c : C} (hc : c.pure = true) {d : D} {h h' : Hs} (e : den g c ρ h = .ok d h') : h' = h ∧ ∀ h2, den g c ρ h2 = .ok d h2 := by
  cases c with
  | slot i =>
    unfold den at e ⊢
    split at e
    · rename_i d' q
      cases e
      exact ⟨rfl, fun h2 => rfl⟩
    · cases e
  | lit d' =>
    unfold den at e ⊢
    cases e
    exact ⟨rfl, fun _ => rfl⟩
  | _ => cases hc
theorem pure_not {g : G} {ρ : Env} {c : C} (hc : c.pure = true) {x : Exc} {h h' : Hs} : den g c ρ h ≠ .err x h' := by
  cases c with
  | slot i =>
    unfold den
    split <;> intro z <;> cases z
  | lit d' =>
    unfold den
    intro z; cases z
  | _ => cases hc
def postP (S : Stat) (m : Mem) (k : Nat) (σ : L2.St) (H : Hp) (kds : List D) (Q : List (V × V) → Hp → Prop) : R (List D) → Prop
  | .ok vds h' => ∀ (kvs : List (Key × V)) H', KeepC (S.fx m) H H' → Wd (S.fx m) S.T m.F h' H' → RepKV (S.fx m) (m.gk k) H' kvs (kds.zip vds) → Q (kvs.map fun kv => (kV kv.1, kv.2)) H'
  | .err e h' => ∀ H', KeepC (S.fx m) H H' → Wd (S.fx m) S.T m.F h' H' → ErrP S e (fun c dd => S.wx c dd σ H')
  | .bad => False
theorem Rep.gk0 {m : Mem} {σ : L2.St} {ρ : Env} {h : Hs} {H : Hp} {k k' : Nat} {v : V} {d : D} (ok : Ok S m σ ρ h H) (r : RepK (S.fx m) m k H v d) (z : k' = 0 → k = 0) : Rep (S.fx m) (m.gk k') H v d := by
  unfold Mem.gk
  split
  · rename_i w; have := z w; subst this; exact r
  · exact RepK.rep0 ok.e.sub r
theorem RepKV.keepC {m : Mem} {σ : L2.St} {ρ : Env} {h : Hs} {H H' : Hp} {k : Nat} {kvs : List (Key × V)} {ds : List (D × D)} (ok : Ok S m σ ρ h H) (r : RepKV (S.fx m) (m.gk k) H kvs ds) (kp : KeepC (S.fx m) H H') : RepKV (S.fx m) (m.gk k) H' kvs ds := by
  refine RepKV.keep r (kp.mono fun b z => ?_)
  unfold Mem.gk
  split
  · exact ok.e.sub b (ok.e.cel b z)
  · exact ok.e.cel b z
theorem Rep.keepG {m : Mem} {σ : L2.St} {ρ : Env} {h : Hs} {H H' : Hp} {k : Nat} {v : V} {d : D} (ok : Ok S m σ ρ h H) (r : Rep (S.fx m) (m.gk k) H v d) (kp : KeepC (S.fx m) H H') : Rep (S.fx m) (m.gk k) H' v d := by
  refine Rep.keep r (kp.mono fun b z => ?_)
  unfold Mem.gk
  split
  · exact ok.e.sub b (ok.e.cel b z)
  · exact ok.e.cel b z
theorem pairs_run {m : Mem} {σ : L2.St} {ρ : Env} : ∀ {ks : List (Option Expr)} {kc : Cs} {vs : List Expr} {vc : Cs} {h : Hs} {H : Hp} {k : Nat} {kds : List D} {Q : List (V × V) → Hp → Prop}, KeysOk X S ks kc → ValsOk X S vs vc → ks.length = vs.length →
    Ok S m σ ρ h H → (k = 0 → vc.knd S.own = 0) → (∃ h', dens S.g kc ρ h = .ok kds h') → kds.all isKey = true → postP S m k σ H kds Q (dens S.g vc ρ h) → tPairs (trsOf S kc vc) σ H Q
  | _, _, _, _, h, H, k, kds, Q, .nil, .nil, _, ok, _, ⟨h', e⟩, _, hp => by
    unfold dens at e hp
    cases e
    exact hp [] H Keep.refl ok.w .nil
  | _, _, _, _, h, H, k, kds, Q, .cons (c := kc) (cs := kcs) hk pk rk, .cons (c := vc) (cs := vcs) hv rv, hl, ok, k0, ⟨h', e⟩, al, hp => by
    unfold dens at e
    have kn : (Cs.cons vc vcs).knd S.own = max (vc.knd S.own) (vcs.knd S.own) := by rw [Cs.knd]
    rw [kn] at k0
    cases q : den S.g kc ρ h with
    | bad => rw [q] at e; cases e
    | err x h1 => exact absurd q (pure_not pk)
    | ok kd h1 =>
      rw [q] at e
      obtain ⟨rfl, qa⟩ := pure_den pk q
      have e : ((dens S.g kcs ρ h1).bind fun xs h => R.ok (kd :: xs) h) = .ok kds h' := e
      cases q2 : dens S.g kcs ρ h1 with
      | bad => rw [q2] at e; cases e
      | err x h2 => rw [q2] at e; cases e
      | ok kr h2 =>
        rw [q2] at e
        cases e
        rw [List.all_cons, Bool.and_eq_true] at al
        obtain ⟨ky, rfl⟩ := isKey_key al.1
        show tE S kc σ H fun x H1 => tE S vc σ H1 fun y H2 => tPairs (trsOf S kcs vcs) σ H2 fun ps H3 => Q ((x, y) :: ps) H3
        refine ⟨ρ, h1, m, ok, ?_⟩
        rw [q]
        intro x H1 k1 w1 r1
        have o1 := ok.keep k1 w1
        obtain rfl := (RepK.top r1).key
        refine ⟨ρ, h1, m, o1, ?_⟩
        unfold dens at hp
        cases q3 : den S.g vc ρ h1 with
        | bad => rw [q3] at hp; exact hp.elim
        | err x h3 => rw [q3] at hp; exact fun H2 k2 w2 => hp H2 (k1.trans k2) w2
        | ok vd h3 =>
          rw [q3] at hp
          have hp : postP S m k σ H (keyD ky :: kr) Q ((dens S.g vcs ρ h3).bind fun xs h => .ok (vd :: xs) h) := hp
          intro y H2 k2 w2 r2
          have o2 := o1.keep k2 w2
          have ek : ∃ h', dens S.g kcs ρ h3 = .ok kr h' := pure_dens rk q2 h3
          refine pairs_run (k := k) rk rv (by simpa using hl) o2 (fun z => by have := k0 z; omega) ek al.2 ?_
          cases q4 : dens S.g vcs ρ h3 with
          | bad => rw [q4] at hp; exact hp.elim
          | err x h4 => rw [q4] at hp; exact fun H3 k3 w3 => hp H3 ((k1.trans k2).trans k3) w3
          | ok vr h4 =>
            rw [q4] at hp
            intro kvs H3 k3 w3 r3
            exact hp ((ky, y) :: kvs) H3 ((k1.trans k2).trans k3) w3 (.cons (Rep.keepG o2 (Rep.gk0 o2 r2 fun z => by have := k0 z; omega) k3) r3)
where
  pure_dens {ρ : Env} : ∀ {ks : List (Option Expr)} {kc : Cs} {h h' : Hs} {kds : List D}, KeysOk X S ks kc → dens S.g kc ρ h = .ok kds h' → ∀ h2, ∃ h3, dens S.g kc ρ h2 = .ok kds h3
    | _, _, h, h', kds, .nil, e, h2 => by unfold dens at e ⊢; cases e; exact ⟨h2, rfl⟩
    | _, _, h, h', kds, .cons (c := kc) (cs := kcs) hk pk rk, e, h2 => by
      unfold dens at e ⊢
      cases q : den S.g kc ρ h with
      | bad => rw [q] at e; cases e
      | err x h1 => exact absurd q (pure_not pk)
      | ok kd h1 =>
        rw [q] at e
        obtain ⟨rfl, qa⟩ := pure_den pk q
        have e : ((dens S.g kcs ρ h1).bind fun xs h => R.ok (kd :: xs) h) = .ok kds h' := e
        cases q2 : dens S.g kcs ρ h1 with
        | bad => rw [q2] at e; cases e
        | err x h2 => rw [q2] at e; cases e
        | ok kr h4 =>
          rw [q2] at e
          cases e
          rw [qa h2]
          obtain ⟨h3, e3⟩ := pure_dens rk q2 h2
          refine ⟨h3, ?_⟩
          show ((dens S.g kcs ρ h2).bind fun xs h => R.ok (kd :: xs) h) = _
          rw [e3]
          rfl
theorem KeysOk.len : ∀ {ks : List (Option Expr)} {kc : Cs}, KeysOk X S ks kc → ks.all (·.isSome) = true
  | _, _, .nil => rfl
  | _, _, .cons _ _ r => by rw [List.all_cons, KeysOk.len r]; rfl
theorem dens_len {g : G} {ρ : Env} : ∀ {ks : List (Option Expr)} {kc : Cs} {h h' : Hs} {kds : List D}, KeysOk X S ks kc → dens g kc ρ h = .ok kds h' → kds.length = ks.length
  | _, _, h, h', kds, .nil, e => by unfold dens at e; cases e; rfl
  | _, _, h, h', kds, .cons (c := kc) (cs := kcs) hk pk rk, e => by
      unfold dens at e
      cases q : den g kc ρ h with
      | bad => rw [q] at e; cases e
      | err x h1 => exact absurd q (pure_not pk)
      | ok kd h1 =>
        rw [q] at e
        have e : ((dens g kcs ρ h1).bind fun xs h => R.ok (kd :: xs) h) = .ok kds h' := e
        cases q2 : dens g kcs ρ h1 with
        | bad => rw [q2] at e; cases e
        | err x h2 => rw [q2] at e; cases e
        | ok kr h4 =>
          rw [q2] at e
          cases e
          rw [List.length_cons, List.length_cons, dens_len rk q2]
theorem all_zip : ∀ {ks vs : List D}, ks.all isKey = true → ((ks.zip vs).all fun p => isKey p.1) = true
  | [], _, _ => rfl
  | _ :: _, [], _ => rfl
  | k :: ks, v :: vs, h => by
    rw [List.all_cons, Bool.and_eq_true] at h
    rw [List.zip_cons_cons, List.all_cons, h.1, all_zip h.2]
    rfl
/-- with a new object that no value has -/
def Mem.add (m : Mem) (p : Addr) : Mem := ⟨m.μ, fun a => m.F0 a ∨ a = p, fun a => m.F a ∨ a = p⟩
theorem Wd.less {X : Fx} {T : List (Addr × Str)} {F F' : Addr → Prop} {h : Hs} {H : Hp} (W : Wd X T F' h H) (s : ∀ a, F a → F' a) (i : ∀ a, a ∈ X.μ → F a) : Wd X T F h H :=
  ⟨W.nd, W.len, fun i a ds h1 h2 => let ⟨xs, e1, r⟩ := W.at_ i a ds h1 h2; ⟨xs, e1, r.less s⟩, i, fun a z => W.kin a (s a z), W.tab⟩
theorem Rep.add {fx : Fx} {F : Addr → Prop} {H : Hp} {p : Addr} {v : V} {d : D} (hn : H p = none) (r : Rep fx F H v d) : Rep fx (fun a => F a ∨ a = p) H v d :=
  r.imp (fun a ⟨o, e⟩ n z => z.elim n fun w => by rw [w, hn] at e; cases e) Keep.refl
theorem Reps.add {fx : Fx} {F : Addr → Prop} {H : Hp} {p : Addr} {v : List V} {d : List D} (hn : H p = none) (r : Reps fx F H v d) : Reps fx (fun a => F a ∨ a = p) H v d :=
  r.imp (fun a ⟨o, e⟩ n z => z.elim n fun w => by rw [w, hn] at e; cases e) Keep.refl
theorem RepKV.add {fx : Fx} {F : Addr → Prop} {H : Hp} {p : Addr} {v : List (Key × V)} {d : List (D × D)} (hn : H p = none) (r : RepKV fx F H v d) : RepKV fx (fun a => F a ∨ a = p) H v d :=
  r.imp (fun a ⟨o, e⟩ n z => z.elim n fun w => by rw [w, hn] at e; cases e) Keep.refl
theorem Ok.add {m : Mem} {σ : L2.St} {ρ : Env} {h : Hs} {H : Hp} {p : Addr} {u : HO} (hn : H p = none) (mu : mutK u = true) (ok : Ok S m σ ρ h H) : Ok S (m.add p) σ ρ h (upd H p u) := by
  have ne : ∀ a o, H a = some o → a ≠ p := fun a o e z => by rw [z, hn] at e; cases e
  refine ⟨⟨ok.e.len, fun i d h1 h2 => ?_, fun i d h1 h2 => ?_, ok.e.dis, fun a z => z.imp (ok.e.sub a) id, fun a z => .inl (ok.e.cel a z)⟩,
    ⟨ok.w.nd, ok.w.len, fun i a ds h1 h2 => ?_, fun a z => .inl (ok.w.inF a z), fun a z => ?_, ok.w.tab.ext (ext_upd hn)⟩⟩
  · obtain ⟨v, e, r⟩ := ok.e.val i d h1 h2
    exact ⟨v, e, (Rep.add hn r).keep (Keep.upd hn)⟩
  · obtain ⟨a, e, f, g, o⟩ := ok.e.ow i d h1 h2
    obtain ⟨o', e', _⟩ := ok.w.kin a f
    refine ⟨a, e, .inl f, fun z => z.elim g (ne a o' e'), ?_⟩
    cases d with
    | list ds => obtain ⟨xs, e2, r⟩ := o; exact ⟨xs, ext_upd hn _ _ e2, (Reps.add hn r).keep (Keep.upd hn)⟩
    | dict ds => obtain ⟨c, xs, e2, r⟩ := o; exact ⟨c, xs, ext_upd hn _ _ e2, (RepKV.add hn r).keep (Keep.upd hn)⟩
    | _ => exact o.elim
  · obtain ⟨xs, e2, r⟩ := ok.w.at_ i a ds h1 h2
    exact ⟨xs, ext_upd hn _ _ e2, (Reps.add hn r).keep (Keep.upd hn)⟩
  · rcases z with z | rfl
    · obtain ⟨o, e, k⟩ := ok.w.kin a z
      exact ⟨o, ext_upd hn _ _ e, k⟩
    · exact ⟨u, upd_same, mu⟩
theorem tabs_put {T : List (Addr × Str)} {H : Hp} {p : Addr} {o u : HO} (t : LamX.Tabs T H) (e : H p = some o) (k : mutK o = true) : LamX.Tabs T (upd H p u) := fun q hq => by
  obtain ⟨ps, h1, h2, h3⟩ := t q hq
  have n1 : q.1 ≠ p := fun z => by rw [z, e] at h1; cases h1; cases k
  refine ⟨ps, by rw [upd_ne n1]; exact h1, h2, fun pos cv hc => ?_⟩
  obtain ⟨c, e1, e2⟩ := h3 pos cv hc
  have n2 : c ≠ p := fun z => by rw [z, e] at e2; cases e2; cases k
  exact ⟨c, e1, by rw [upd_ne n2]; exact e2⟩
/-- the new object is written to -/
theorem Wd.put {m : Mem} {T : List (Addr × Str)} {h : Hs} {H : Hp} {p : Addr} {u : HO} (W : Wd (S.fx (m.add p)) T (m.add p).F h H) (mu : mutK u = true) (i : ∀ a, a ∈ m.μ → m.F a) (np : p ∉ m.μ) (ho : ∃ o, H p = some o ∧ mutK o = true) : Wd (S.fx m) T m.F h (upd H p u) := by
  have kp : Keep (m.add p).F H (upd H p u) := fun b o e n _ => by rw [upd_ne (fun z => n (.inr z))]; exact e
  refine ⟨W.nd, W.len, fun i a ds h1 h2 => ?_, i, fun a z => ?_, ?_⟩
  · obtain ⟨xs, e1, r⟩ := W.at_ i a ds h1 h2
    have ha : a ≠ p := fun z => np (by rw [← z]; exact List.mem_of_getElem? h1)
    exact ⟨xs, by rw [upd_ne ha]; exact e1, (r.keep kp).less fun a z => .inl z⟩
  · obtain ⟨o, e1, k⟩ := W.kin a (.inl z)
    by_cases ha : a = p
    · subst ha; exact ⟨u, upd_same, mu⟩
    · exact ⟨o, by rw [upd_ne ha]; exact e1, k⟩
  · obtain ⟨o, e, t⟩ := ho
    exact tabs_put W.tab e t
theorem keys_den {g : G} {ρ : Env} : ∀ {ks : List (Option Expr)} {kc : Cs} (h : Hs), KeysOk X S ks kc → dens g kc ρ h = .bad ∨ ∃ kds, dens g kc ρ h = .ok kds h
  | _, _, h, .nil => .inr ⟨[], by unfold dens; rfl⟩
  | _, _, h, .cons (c := kc) (cs := kcs) hk pk rk => by
    unfold dens
    cases q : den g kc ρ h with
    | bad => exact .inl rfl
    | err x h1 => exact absurd q (pure_not pk)
    | ok kd h1 =>
      obtain ⟨rfl, _⟩ := pure_den pk q
      rcases keys_den h1 rk with e | ⟨kds, e⟩
      · left
        show ((dens g kcs ρ h1).bind fun xs h => R.ok (kd :: xs) h) = _
        rw [e]; rfl
      · right
        refine ⟨kd :: kds, ?_⟩
        show ((dens g kcs ρ h1).bind fun xs h => R.ok (kd :: xs) h) = _
        rw [e]; rfl
theorem e_dct {ks : List (Option Expr)} {vs : List Expr} {kc vc : Cs} (hk : KeysOk X S ks kc) (hv : ValsOk X S vs vc) (hl : ks.length = vs.length) (h15 : ks.length ≤ 15) : PE X (.Dict ks vs pos) (tE S (.dct kc vc)) := by
  have kn : (C.dct kc vc).knd S.own = if vc.knd S.own = 0 then 0 else 2 := by rw [C.knd]
  by_cases h0 : ks = []
  · subst h0
    cases hk
    cases vs with
    | cons v vs => simp at hl
    | nil =>
      cases hv
      refine PE.weak pe_dnewK fun σ H Q ⟨ρ, h, m, ok, hp⟩ p hn => ?_
      rw [kn] at hp
      unfold den dens at hp
      have hp : post S m (if Cs.nil.knd S.own = 0 then 0 else 2) σ H Q (.ok (.dict (mergeKV [] [])) h) := hp
      exact out_gk ok (by split <;> decide) hp _ _ (ext_upd hn) (.dct ((there_gk ok).new hn) upd_same rfl .nil)
  · refine PE.weak (pe_disp (pps_of hk hv hl) hk.len hl h0 h15) fun σ H Q ⟨ρ, h, m, ok, hp⟩ p hn => ?_
    rw [kn] at hp
    unfold den at hp
    have oU : Ok S (m.add p) σ ρ h (upd H p (.dK [])) := ok.add hn rfl
    have pμ : p ∉ m.μ := fun z => by
      obtain ⟨o, e, _⟩ := ok.w.kin p (ok.w.inF p z)
      rw [hn] at e; cases e
    rcases keys_den (g := S.g) (ρ := ρ) h hk with q | ⟨kds, q⟩
    · rw [q] at hp; exact hp.elim
    · rw [q] at hp
      have hp : post S m (if vc.knd S.own = 0 then 0 else 2) σ H Q (if kds.all isKey then (dens S.g vc ρ h).bind fun vs h => .ok (.dict (mergeKV [] (kds.zip vs))) h else .bad) := hp
      by_cases al : kds.all isKey = true
      · rw [if_pos al] at hp
        refine pairs_run (k := if vc.knd S.own = 0 then 0 else 2) hk hv hl oU (fun z => ?_) ⟨_, q⟩ al ?_
        · by_cases w : vc.knd S.own = 0
          · exact w
          · rw [if_neg w] at z; cases z
        · cases q2 : dens S.g vc ρ h with
          | bad => rw [q2] at hp; exact hp.elim
          | err x h2 =>
            rw [q2] at hp
            exact fun H2 k2 w2 => hp H2 (Keep.trans (Keep.upd hn) k2) (w2.less (fun a z => .inl z) ok.w.inF)
          | ok vds h2 =>
            rw [q2] at hp
            have hp : post S m (if vc.knd S.own = 0 then 0 else 2) σ H Q (.ok (.dict (mergeKV [] (kds.zip vds))) h2) := hp
            intro kvs H2 k2 w2 r2
            have ep : H2 p = some (.dK []) := k2 p _ upd_same pμ (fun ps z => by cases z)
            have lk : kvs.length ≤ 15 := by
              rw [r2.length, List.length_zip]
              have := dens_len hk q
              omega
            refine ⟨ep, kvs, rfl, lk, ?_⟩
            have ng : ¬ m.gk (if vc.knd S.own = 0 then 0 else 2) p := fun z => by
              obtain ⟨o, e, _⟩ := there_gk ok p z
              rw [hn] at e; cases e
            have kC : KeepC (S.fx m) H (upd H2 p (.dK (mergeK [] kvs))) := fun b o e n t => by
              have hb : b ≠ p := fun z => by rw [z, hn] at e; cases e
              rw [upd_ne hb]
              exact k2 b o (by rw [upd_ne hb]; exact e) n t
            have wd : Wd (S.fx m) S.T m.F h2 (upd H2 p (.dK (mergeK [] kvs))) := Wd.put w2 rfl ok.w.inF pμ ⟨_, ep, rfl⟩
            have r3 : RepKV (S.fx m) (m.gk (if vc.knd S.own = 0 then 0 else 2)) (upd H2 p (.dK (mergeK [] kvs))) kvs (kds.zip vds) := by
              refine RepKV.imp (F := (m.add p).gk (if vc.knd S.own = 0 then 0 else 2)) (fun a _ n z => n ?_) (fun b o e n _ => ?_) r2
              · unfold Mem.gk at z ⊢
                split
                · rename_i w; rw [if_pos w] at z; exact .inl z
                · rename_i w; rw [if_neg w] at z; exact .inl z
              · rw [upd_ne (fun z => n ?_)]
                · exact e
                · unfold Mem.gk
                  split
                  · exact .inr z
                  · exact .inr z
            have kd : Rep (S.fx m) (m.gk (if vc.knd S.own = 0 then 0 else 2)) (upd H2 p (.dK (mergeK [] kvs))) (.ref p) (.dict (mergeKV [] (kds.zip vds))) :=
              .dct ng upd_same (merge_cel (all_zip al) rfl) (r3.merge .nil)
            refine hp (.ref p) _ kC wd ?_
            exact RepK.ofGk (by split <;> decide) kd
      · rw [if_neg al] at hp; exact hp.elim
theorem plainIx {k : Nat} {c : C} (h : compE cx k e sc = some c) : PlainIx e := fun o i => by
  cases e <;> try rfl
  cases k <;> cases h
def rIdxX (X : Cx) : R2 := fun x y H Q => (∃ fx : Fx, fx.K = X.K ∧ fx.w = X.w ∧ rIdx fx x y H Q) ∨ rIxL X.K x y H Q
theorem ix_rX (x : XOk X S cx sc n) : IxR X (rIdxX X) := IxR.or (fun value slice pins s σ H x' y v u Q I rx ry ⟨fx, hK, hw, h⟩ hs => op_idx hK hw (room66 x) value slice pins s σ H x' y v u Q I rx ry h hs) ix_list
theorem idx_eq {x y : D} {h : Hs} : (¬ ∃ i, x = .dict [(.none, .int i)]) → idxH x y h = lift (idxD x y) h := by
  intro hc
  unfold idxH
  split
  · exact absurd ⟨_, rfl⟩ hc
  · rfl
theorem e_idx (x : XOk X S cx sc n) (ha : PE X a (tE S ca)) (hb : PE X b (tE S cb)) (hs : PlainIx b) : PE X (.Subscript a b pos) (tE S (.idx ca cb)) := by
  refine PE.weak (pe_ix (ix_rX x) ha hb hs) fun σ H Q ⟨ρ, h, m, ok, hp⟩ => ?_
  unfold den at hp
  have kn : (C.idx ca cb).knd S.own = if 2 ≤ ca.knd S.own then 2 else 0 := by rw [C.knd]
  rw [kn] at hp
  refine tE_bind ok hp fun d1 h1 v1 H1 o1 k1 r1 hp1 => tE_bind o1 hp1 fun d2 h2 v2 H2 o2 k2 r2 hp2 => ?_
  have r1 := r1.keep o1 k2 o1.w.kin
  by_cases hc : ∃ i, d1 = .dict [(.none, .int i)]
  · obtain ⟨i, rfl⟩ := hc
    have t1 : Rep (S.fx m) m.F0 H2 v1 (.dict [(.none, .int i)]) := RepK.rep0 o2.e.sub r1
    obtain ⟨a, nn, rfl, rfl, hμ⟩ := t1.cell
    cases d2 with
    | int j =>
      obtain rfl := (rep0 o2 r2).int
      unfold idxH at hp2
      dsimp only at hp2
      rw [Int.toNat_natCast] at hp2
      cases g : h2[nn]? with
      | none => rw [g] at hp2; exact hp2.elim
      | some xs =>
        rw [g] at hp2
        dsimp only at hp2
        obtain ⟨d, e, hp3⟩ := lift_some hp2
        obtain ⟨vs, e1, rv⟩ := o2.w.at_ nn a xs hμ g
        obtain ⟨w, e2, rw'⟩ := rv.at e
        exact .inr ⟨a, vs, j, w, rfl, rfl, SqL.of e1, e2, hp3 _ H2 Keep.refl o2.w (RepK.ofRep o2.e.sub rw')⟩
    | _ => exact hp2.elim
  · rw [idx_eq hc] at hp2
    obtain ⟨d, e, hp3⟩ := lift_some hp2
    exact .inl ⟨S.fx m, x.b.K, x.b.w, m.gk (if 2 ≤ ca.knd S.own then 2 else 0), m.F0, d1, d2, d, RepK.topG o2 r1 (fun z => by split at z <;> omega), rep0 o2 r2, e, out_gk o2 (by split <;> decide) hp3⟩
end
end Mini

set_option Elab.async false
set_option linter.all false
set_option maxRecDepth 100000
set_option maxHeartbeats 4000000
/-! Mini, part F4: expressions: slices, built-ins, methods. -/
namespace Mini
open PySem PySem.Spec PyProof.Rows L2
theorem PO.weak {X : Cx} {e : Option Expr} {t t' : TO} (h : PO X e t) (w : ∀ σ H Q, t' σ H Q → t σ H Q) : PO X e t' := ⟨fun pins s σ H Q I q => h.run pins s σ H Q I (w σ H Q q)⟩
def postO (S : Stat) (m : Mem) (c : C) (σ : L2.St) (H : Hp) (Q : Option Int → Hp → Prop) : R D → Prop
  | .ok d h' => ∃ o, partC c d = some o ∧ ∀ H', KeepC (S.fx m) H H' → Wd (S.fx m) S.T m.F h' H' → Q o H'
  | .err e h' => ∀ H', KeepC (S.fx m) H H' → Wd (S.fx m) S.T m.F h' H' → ErrP S e (fun c dd => S.wx c dd σ H')
  | .bad => False
def tO (S : Stat) (c : C) : TO := fun σ H Q => ∃ ρ h m, Ok S m σ ρ h H ∧ postO S m c σ H Q (den S.g c ρ h)
section
variable {X : Cx} {S : Stat} {cx : Cxt} {sc : Scope} {n : Nat} {a b e : Expr} {es : List Expr} {c ca cb cl cu : C} {cs : Cs} {pos p p2 : Pos} {lo hi : Option Expr}
theorem o_none : PO X none (tO S (.lit .none)) := PO.weak po_none fun σ H Q ⟨ρ, h, m, ok, hp⟩ => by
  unfold den at hp
  obtain ⟨o, e, q⟩ := hp
  cases e
  exact q H Keep.refl ok.w
theorem o_some (ha : PE X a (tE S c)) (hn : c.isNo = false) : PO X (some a) (tO S c) := PO.weak (po_some ha) fun σ H Q ⟨ρ, h, m, ok, hp⟩ => by
  refine ⟨ρ, h, m, ok, ?_⟩
  cases q : den S.g c ρ h with
  | bad => rw [q] at hp; exact hp.elim
  | err x h' => rw [q] at hp; exact hp
  | ok d h' =>
    rw [q] at hp
    obtain ⟨o, e, hq⟩ := hp
    unfold partC at e
    rw [hn, if_neg Bool.false_ne_true] at e
    cases d with
    | int i =>
      cases e
      intro v H' kp w r
      obtain rfl := (RepK.top r).int
      exact ⟨i, rfl, hq H' kp w⟩
    | _ => cases e
theorem tO_bind {m : Mem} {σ : L2.St} {ρ : Env} {h : Hs} {H : Hp} {a : C} {kk : Nat} {Q : VK} {Q1 : Option Int → Hp → Prop} {f : Option Int → Hs → R D} (o : Ok S m σ ρ h H) (hp : post S m kk σ H Q ((den S.g a ρ h).bind fun d h => match partC a d with
      | some l => f l h
      | none => .bad))
    (k : ∀ l h' H', Ok S m σ ρ h' H' → KeepC (S.fx m) H H' → post S m kk σ H' Q (f l h') → Q1 l H') : tO S a σ H Q1 := by
  refine ⟨ρ, h, m, o, ?_⟩
  cases q : den S.g a ρ h with
  | ok d h' =>
    rw [q] at hp
    have hp : post S m kk σ H Q (match partC a d with
      | some l => f l h'
      | none => .bad) := hp
    cases e : partC a d with
    | none => rw [e] at hp; exact hp.elim
    | some l =>
      rw [e] at hp
      exact ⟨l, e, fun H' kp w => k l h' H' (o.keep kp w) kp (post.from hp kp)⟩
  | err e h' => rw [q] at hp; exact hp
  | bad => rw [q] at hp; exact hp
def rSlcX (X : Cx) : V → Option Int → Option Int → Hp → VK → Prop := fun x l u H Q => ∃ fx : Fx, fx.K = X.K ∧ rSlc fx x l u H Q
theorem sl_rX : SlR X (rSlcX X) := fun pins s σ H x v vl vu lo hi sl Q I rx hs pl pu ⟨fx, hK, h⟩ => op_slc hK pins s σ H x v vl vu lo hi sl Q I rx hs pl pu h
theorem e_slc (x : XOk X S cx sc n) (ha : PE X a (tE S ca)) (hl : PO X lo (tO S cl)) (hu : PO X hi (tO S cu)) : PE X (.Subscript a (.Slice lo hi none p2) pos) (tE S (.slc ca cl cu)) := by
  refine PE.weak (pe_slice sl_rX ha hl hu) fun σ H Q ⟨ρ, h, m, ok, hp⟩ => ?_
  unfold den at hp
  have kn : (C.slc ca cl cu).knd S.own = if 2 ≤ ca.knd S.own then 2 else 0 := by rw [C.knd]
  rw [kn] at hp
  refine tE_bind ok hp fun d1 h1 v1 H1 o1 k1 r1 hp1 => tO_bind o1 hp1 fun l h2 H2 o2 k2 hp2 => tO_bind o2 hp2 fun u h3 H3 o3 k3 hp3 => ?_
  have r1 := r1.keep o1 (k2.trans k3) o1.w.kin
  obtain ⟨d, e, hp4⟩ := lift_some hp3
  exact ⟨S.fx m, x.b.K, m.gk (if 2 ≤ ca.knd S.own then 2 else 0), d1, d, there_gk o3, RepK.topG o3 r1 (fun z => by split at z <;> omega), e, out_gk o3 (by split <;> decide) hp4⟩
/-! ### built-ins -/
theorem no_star : ∀ {es : List Expr}, es.any isStar = false → ∀ (env : PySem.Env) (pos : Pos), (backTo pos (starEach es env)).any (·.1) = false
  | [], _, _, _ => rfl
  | e :: es, h, env, pos => by
    rw [List.any_cons, Bool.or_eq_false_iff] at h
    rw [each_plain h.1]
    show (false || (backTo pos (starEach es env)).any (·.1)) = false
    rw [no_star h.2]
    rfl
theorem RepsG.tops2 {m : Mem} {σ : L2.St} {ρ : Env} {h : Hs} {H : Hp} {k : Nat} {vs : List V} {ds : List D} (ok : Ok S m σ ρ h H) (r : if k = 0 then Reps (S.fx m) m.F H vs ds else Reps (S.fx m) m.F0 H vs ds) (t : k ≤ 1 → RepTs (S.fx m) m.F H vs ds) : RepTs (S.fx m) (m.gk (if 2 ≤ k then 2 else 0)) H vs ds := by
  by_cases z : 2 ≤ k
  · rw [if_pos z]
    exact (RepsG.f0 ok r).tops
  · rw [if_neg z]
    exact t (by omega)
def rBltX (X : Cx) (b : Blt) : List V → Hp → VK → Prop := fun xs H Q => ∃ fx : Fx, fx.K = X.K ∧ rBlt fx b xs H Q
theorem crX {f : Value} {b : Blt} (h : ∀ fx : Fx, fx.K = X.K → CallR X f (rBlt fx b)) : CallR X f (rBltX X b) := fun pins s σ H vs us Q I r ⟨fx, hK, q⟩ => h fx hK pins s σ H vs us Q I r q
def plainB : Blt → Bool
  | .nextIter => false
  | _ => true
theorem blt_in {b : Blt} (x : XOk X S cx sc n) (hb : plainB b = true) {σ : L2.St} {H : Hp} {Q : VK} (hp : tE S (.blt b cs) σ H Q) : tCB (rBltX X b) (tA S cs) σ H Q := by
  obtain ⟨ρ, h, m, ok, hp⟩ := hp
  unfold den at hp
  have kn : (C.blt b cs).knd S.own = if 2 ≤ cs.knd S.own then 2 else 0 := by cases b <;> first | rfl | cases hb
  rw [kn] at hp
  refine tA_bind ok hp fun ds h1 vs H1 o1 k1 r1 t1 hp1 => ?_
  obtain ⟨d, e, hp2⟩ := lift_some hp1
  exact ⟨S.fx m, x.b.K, m.gk (if 2 ≤ cs.knd S.own then 2 else 0), ds, d, there_gk o1, RepsG.tops2 o1 r1 t1, e, out_gk o1 (by split <;> decide) hp2⟩
theorem e_bltF {b : Blt} {f : Str} {id : String} (x : XOk X S cx sc n) (hb : plainB b = true) (hc : ∀ fx : Fx, fx.K = X.K → CallR X (.builtin id) (rBlt fx b)) (hg : isGl sc f = true) (hm : X.mg f = none) (hv : bootBuiltins f = some (.builtin id))
    (ha : PA X (a :: es) (tA S cs)) (hs : (a :: es).any isStar = false) : PE X (.Call (.Name f p) (a :: es) [] pos) (tE S (.blt b cs)) := by
  rw [List.any_cons, Bool.or_eq_false_iff] at hs
  obtain ⟨d1, _, d3⟩ := plain_ok (gl_plain hg)
  exact PE.weak (pe_callB (crX hc) (isGl_of x hg) hm hv ha d3 d1 (each_plain hs.1 _ _) (no_star hs.2 _ _)) fun σ H Q hp => blt_in x hb hp
theorem e_bltT {b : Blt} {f : Str} {T : String} (x : XOk X S cx sc n) (hb : plainB b = true) (hc : ∀ fx : Fx, fx.K = X.K → CallR X (.type T) (rBlt fx b)) (hg : isGl sc f = true) (hm : X.mg f = none) (hv : bootBuiltins f = some (.type T))
    (ha : PA X (a :: es) (tA S cs)) (hs : (a :: es).any isStar = false) : PE X (.Call (.Name f p) (a :: es) [] pos) (tE S (.blt b cs)) := by
  rw [List.any_cons, Bool.or_eq_false_iff] at hs
  obtain ⟨d1, _, d3⟩ := plain_ok (gl_plain hg)
  exact PE.weak (pe_callTy (crX hc) (isGl_of x hg) hm hv ha d3 d1 (each_plain hs.1 _ _) (no_star hs.2 _ _)) fun σ H Q hp => blt_in x hb hp
end
end Mini

set_option Elab.async false
set_option linter.all false
set_option maxRecDepth 100000
set_option maxHeartbeats 4000000
/-! Mini, part F5: expressions: methods, isinstance, calls. -/
namespace Mini
open PySem PySem.Spec PyProof.Rows L2
theorem R.assoc {α β γ : Type} (x : R α) (f : α → Hs → R β) (g : β → Hs → R γ) : (x.bind f).bind g = x.bind fun a h => (f a h).bind g := by
  cases x <;> rfl
theorem dens_one {g : G} {c : C} {ρ : Env} {h : Hs} : dens g (.cons c .nil) ρ h = (den g c ρ h).bind fun x h => .ok [x] h := by
  rw [dens]
  congr 1
theorem dens_two {g : G} {c d : C} {ρ : Env} {h : Hs} : dens g (.cons c (.cons d .nil)) ρ h = (den g c ρ h).bind fun x h => (den g d ρ h).bind fun y h => .ok [x, y] h := by
  rw [dens]
  congr 1
  funext x h
  rw [dens_one, R.assoc]
  rfl
theorem isDct_dict {d : D} (h : isDct d = true) : ∃ kvs, d = .dict kvs ∧ isCel (.dict kvs) = false := by
  cases d with
  | dict kvs =>
    refine ⟨kvs, rfl, ?_⟩
    unfold isDct at h
    simpa using h
  | _ => cases h
section
variable {X : Cx} {S : Stat} {cx : Cxt} {sc : Scope} {n : Nat} {a b e o : Expr} {es : List Expr} {c ca cb co : C} {cs : Cs} {pos p apos cpos : Pos}
theorem dict_at {m : Mem} {σ : L2.St} {ρ : Env} {h : Hs} {H : Hp} {k : Nat} {v : V} {kvs : List (D × D)} (ok : Ok S m σ ρ h H) (r : RepK (S.fx m) m k H v (.dict kvs)) (hc : isCel (.dict kvs) = false) :
    ∃ a xs, v = .ref a ∧ H a = some (.dK xs) ∧ RepKV (S.fx m) (m.gk (if 2 ≤ k then 2 else 0)) H xs kvs := by
  obtain ⟨a, xs, e, q, r⟩ := (RepK.topG (k := if 2 ≤ k then 2 else 0) ok r fun z => by split at z <;> omega).dict hc
  exact ⟨a, xs, e, q, r⟩
theorem e_get1 (x : XOk X S cx sc n) (ho : PE X o (tE S co)) (he : PE X a (tE S ca)) (m1 : M1 X o "get" apos a cpos) : PE X (.Call (.Attribute o "get" apos) [a] [] cpos) (tE S (.met .get1 co (.cons ca .nil))) := by
  refine PE.weak (pe_dget1 (by have := room66 x; omega) ho he m1) fun σ H Q ⟨ρ, h, m, ok, hp⟩ => ?_
  unfold den at hp
  have kn : (C.met .get1 co (.cons ca .nil)).knd S.own = max (if 2 ≤ co.knd S.own then 2 else 0) ((Cs.cons ca .nil).knd S.own) := by rw [C.knd]
  rw [kn] at hp
  refine tE_bind ok hp fun d1 h1 v1 H1 o1 k1 r1 hp1 => ?_
  by_cases hd : isDct d1 = true
  · rw [if_pos hd, dens_one, R.assoc] at hp1
    obtain ⟨kvs, rfl, hc⟩ := isDct_dict hd
    obtain ⟨p, xs, rfl, hx, rx⟩ := dict_at o1 r1 hc
    refine ⟨p, rfl, .inl ⟨xs, .inl hx⟩, tE_bind o1 hp1 fun d2 h2 v2 H2 o2 k2 r2 hp2 => ?_⟩
    obtain ⟨d, e, hp3⟩ := lift_some hp2
    have e : (if (isKey d2 && !isCel (.dict kvs)) = true then some ((getKV kvs d2).getD .none) else none) = some d := e
    obtain ⟨c1, rfl⟩ := ite_some' e
    obtain ⟨ky, rfl⟩ := isKey_key (Bool.and_eq_true_iff.mp c1).1
    obtain rfl := (rep0 o2 r2).key
    obtain ⟨p', ys, e1, hy, ry⟩ := dict_at o2 (r1.keep o1 k2 o1.w.kin) hc
    cases e1
    refine ⟨_, DGet.k hy, hp3 _ H2 Keep.refl o2.w ?_⟩
    have rr : Rep (S.fx m) (m.gk (if 2 ≤ co.knd S.own then 2 else 0)) H2 ((valV ys ky).getD .non) ((getKV kvs (keyD ky)).getD .none) := by
      cases g : getKV kvs (keyD ky) with
      | none => rw [(ry.get ky).2 g]; exact .non
      | some w => obtain ⟨u, e3, r3⟩ := (ry.get ky).1 w g; rw [e3]; exact r3
    exact ite_le o2.e.sub (RepK.ofGk (by split <;> decide) rr) (Nat.le_max_left _ _)
  · rw [if_neg hd] at hp1; exact hp1.elim
theorem e_get2 (x : XOk X S cx sc n) (ho : PE X o (tE S co)) (he : PE X a (tE S ca)) (hf : PE X b (tE S cb)) (m2 : M2 X o "get" apos a b cpos) : PE X (.Call (.Attribute o "get" apos) [a, b] [] cpos) (tE S (.met .get2 co (.cons ca (.cons cb .nil)))) := by
  refine PE.weak (pe_dget2 (by have := room66 x; omega) ho he hf m2) fun σ H Q ⟨ρ, h, m, ok, hp⟩ => ?_
  unfold den at hp
  have kn : (C.met .get2 co (.cons ca (.cons cb .nil))).knd S.own = max (if 2 ≤ co.knd S.own then 2 else 0) (max (ca.knd S.own) (max (cb.knd S.own) 0)) := by rw [C.knd, Cs.knd, Cs.knd, Cs.knd]
  rw [kn] at hp
  refine tE_bind ok hp fun d1 h1 v1 H1 o1 k1 r1 hp1 => ?_
  by_cases hd : isDct d1 = true
  · rw [if_pos hd, dens_two, R.assoc] at hp1
    obtain ⟨kvs, rfl, hc⟩ := isDct_dict hd
    obtain ⟨p, xs, rfl, hx, rx⟩ := dict_at o1 r1 hc
    refine ⟨p, rfl, .inl ⟨xs, .inl hx⟩, tE_bind o1 hp1 fun d2 h2 v2 H2 o2 k2 r2 hp2 => ?_⟩
    rw [R.assoc] at hp2
    refine tE_bind o2 hp2 fun d3 h3 v3 H3 o3 k3 r3 hp3 => ?_
    obtain ⟨d, e, hp4⟩ := lift_some hp3
    have e : (if (isKey d2 && !isCel (.dict kvs)) = true then some ((getKV kvs d2).getD d3) else none) = some d := e
    obtain ⟨c1, rfl⟩ := ite_some' e
    obtain ⟨ky, rfl⟩ := isKey_key (Bool.and_eq_true_iff.mp c1).1
    obtain rfl := (rep0 o2 r2).key
    obtain ⟨p', ys, e1, hy, ry⟩ := dict_at o3 (r1.keep o1 (k2.trans k3) o1.w.kin) hc
    cases e1
    refine ⟨_, DGet.k hy, hp4 _ H3 Keep.refl o3.w ?_⟩
    cases g : getKV kvs (keyD ky) with
    | none =>
      rw [(ry.get ky).2 g]
      exact ite_le o3.e.sub r3 (by omega)
    | some w =>
      obtain ⟨u, e3, r4⟩ := (ry.get ky).1 w g
      rw [e3]
      exact ite_le o3.e.sub (RepK.ofGk (by split <;> decide) r4) (Nat.le_max_left _ _)
  · rw [if_neg hd] at hp1; exact hp1.elim
theorem base_ok {k : Nat} {m : Str} (h : compE cx k o sc = some co) : attributeBase o m X.env (eval o X.env) = eval o X.env := by
  cases o with
  | Call f es kw p =>
    cases f with
    | Name id p2 =>
      cases es with
      | nil =>
        cases kw with
        | nil =>
          exfalso
          cases k with
          | zero => cases h
          | succ k =>
            have h : callC cx (fun e => compE cx k e sc) (compE cx.lam k) sc id [] = some co := h
            unfold callC at h
            have v : viewC id [] = .pl := by
              unfold viewC
              split
              · rfl
              · split
                · rfl
                · split
                  · rfl
                  · split <;> rfl
            rw [v] at h
            dsimp only at h
            split at h
            · cases h
            · have h : plainC cx id .nil 0 = some co := h
              unfold plainC at h
              split at h
              · rw [if_neg (by simp)] at h; cases h
              · have bn : bltOf id 0 = none := by
                  unfold bltOf
                  simp only [Nat.zero_ne_one, if_false, ite_self, show ¬ ((0:Nat) = 2) by decide]
                rw [bn] at h
                cases h
        | cons _ _ => rfl
      | cons _ _ => rfl
    | _ => rfl
  | _ => rfl
theorem m1_ok {k : Nat} {m : Str} (h : compE cx k o sc = some co) (hs : isStar a = false) (hl : (apos.endLine == cpos.line) = true) : M1 X o m apos a cpos :=
  ⟨base_ok h, by rw [each_plain hs]; rfl, hl, by rw [each_plain hs]; rfl⟩
theorem m2_ok {k : Nat} {m : Str} (h : compE cx k o sc = some co) (hs : isStar a = false) (hs2 : isStar b = false) (hl : (apos.endLine == cpos.line) = true) : M2 X o m apos a b cpos :=
  ⟨base_ok h, by rw [each_plain hs, each_plain hs2]; rfl, hl, by rw [each_plain hs, each_plain hs2]; rfl⟩
end
end Mini

set_option Elab.async false
set_option linter.all false
set_option maxRecDepth 100000
set_option maxHeartbeats 4000000
/-! Mini, part L1: repr of nested data. -/
namespace Mini
open PySem PySem.Spec PyProof.Rows L2
theorem str_app_len (a b : Str) : (a ++ b).length = a.length + b.length := by
  show (a.cps ++ b.cps).size = _
  rw [Array.size_append]
  rfl
theorem listText_le : ∀ ts : List Str, (listText ts).length ≤ piled ts + 2
  | [] => by decide
  | t :: r => by
    unfold listText
    rw [str_app_len]
    have e : textFrom 0 "[" (t :: r) = textFrom 1 (("[" : Str) ++ ("" : Str) ++ t) r := rfl
    rw [e, textFrom_length_pos r 1 _ (by decide), str_app_len, str_app_len, piled_cons]
    have h1 : ("[" : Str).length = 1 := rfl
    have h2 : ("" : Str).length = 0 := rfl
    have h3 : ("]" : Str).length = 1 := rfl
    omega
theorem tupleText_le (ts : List Str) : (tupleText ts).length ≤ piled ts + 3 := by
  unfold tupleText
  rw [str_app_len, str_app_len]
  have h1 : ("(" : Str).length = 1 := rfl
  have hj : (Str.join ", " ts).length ≤ piled ts := by
    by_cases z : ts = []
    · subst z; decide
    · have := join_length_add ts z
      omega
  have h2 : (Str.ofString (if (ts.length == 1) = true then ",)" else ")")).length ≤ 2 := by split <;> decide
  omega
mutual
theorem shown_le : ∀ {d : D}, d.canLay0 = true → (PyData.shown d).length ≤ wt d
  | .none, _ => by decide
  | .bool b, _ => by cases b <;> decide
  | .int i, _ => by
    have := int_text_length_le (a := i) (k := i.natAbs.log2 + 1) (by omega) (by omega)
    show (Str.ofString (toString i)).length ≤ i.natAbs.log2 + 5
    rw [PySem.ofString_length]
    omega
  | .str x, h => by
    have hs : PyData.strOk x = true := by simpa [PyData.canLay0] using h
    have := StrLaws.reprText_len x (fun c hc => by
      unfold PyData.strOk at hs
      have := Array.all_eq_true'.mp hs c (by simpa using hc)
      simp only [decide_eq_true_eq] at this
      omega)
    show (reprText x).length ≤ 10 * x.length + 5
    omega
  | .list xs, h => by
    have h1 := shown_les (d := xs) (by simpa [PyData.canLay0] using h)
    have h2 := listText_le (PyData.shownAll xs)
    show (listText (PyData.shownAll xs)).length ≤ wts xs + 5
    omega
  | .tuple xs, h => by
    have h1 := shown_les (d := xs) (by simpa [PyData.canLay0] using h)
    have h2 := tupleText_le (PyData.shownAll xs)
    show (tupleText (PyData.shownAll xs)).length ≤ wts xs + 5
    omega
  | .dict _, h => by simp [PyData.canLay0] at h
theorem shown_les : ∀ {d : List D}, PyData.canLayAll0 d = true → piled (PyData.shownAll d) ≤ wts d
  | [], _ => Nat.le_refl _
  | x :: xs, h => by
    have h : (x.canLay0 && PyData.canLayAll0 xs) = true := by simpa [PyData.canLayAll0] using h
    rw [Bool.and_eq_true] at h
    have h1 := shown_le h.1
    have h2 := shown_les h.2
    show piled (PyData.shown x :: PyData.shownAll xs) ≤ wt x + 3 + wts xs
    rw [piled_cons]
    omega
end
theorem cr_repr {X : Cx} {fx : Fx} (hK : fx.K = X.K) (gd : X.A.guards = some []) (hu : X.A.units + 66 < cLine) : CallR X (.builtin "repr") (rBlt fx .repr) := by
  intro pins s σ H xs us Q I r h
  obtain ⟨G, ds, d, k, hd, e, q⟩ := h
  rcases ds with _ | ⟨x, _ | ⟨y, r'⟩⟩
  · cases e
  · obtain ⟨v, rfl, hv⟩ := hd.one
    cases x <;> try (cases e; done)
    obtain ⟨c, rfl⟩ := ite_some' e
    unfold okRepr at c
    simp only [Bool.and_eq_true, decide_eq_true_eq] at c
    obtain ⟨⟨c1, c2⟩, c3⟩ := c
    have cl := SeqAt.canLay_of_shaped c1
    have hdp := SeqAt.depth_of_shaped c1
    have dp := hv.dp (noD_ok c1)
    rw [hK] at dp
    obtain ⟨a, vs, rfl, _, _⟩ := hv
    obtain ⟨u, rfl, ru⟩ := vals1 r
    obtain rfl : u = .ref a := ru
    obtain ⟨as, rd⟩ := Dp.reads I _ _ _ dp rfl
    have hsz := shown_le cl
    refine repr_of_reads' rd c3 (PyData.noDict_hsm (PyData.hasDict_of_canLay _ cl)) gd (by omega) (fun _ _ z => z) (fun h' u tk hk => ?_) (by rw [sizeLine_eq]; omega)
    exact ⟨.str _, H, I.kept (t' := tk) hk, ⟨u, rfl⟩, q.same (.str _)⟩
  · cases x <;> cases e
end Mini

set_option Elab.async false
set_option linter.all false
set_option maxRecDepth 100000
set_option maxHeartbeats 4000000
/-! Mini, part L2: dict(..) of pairs. -/
namespace Mini
open PySem PySem.Spec PyProof.Rows L2
section
variable {X : Cx} {fx : Fx} {G : Addr → Prop} {H : Hp}
theorem pairs_rep : ∀ {vs : List V} {xs : List D} {kvs : List (D × D)}, Reps fx G H vs xs → Mini.pairsOf xs = some kvs → (kvs.all fun p => isKey p.1) = true → ∃ (ps : List Addr) (ks : List (Key × V)), vs = ps.map V.ref ∧ Paired (fun p kv => SqT fx.K H p [kV kv.1, kv.2]) ps ks ∧ RepKV fx G H ks kvs
  | _, _, kvs, .nil, e, _ => by
    cases e
    exact ⟨[], [], rfl, .nil, .nil⟩
  | _, _, kvs, .cons (d := d) a r, e, hk => by
    cases d <;> try (cases e; done)
    rename_i items
    rcases items with _ | ⟨k, _ | ⟨v, _ | ⟨_, _⟩⟩⟩ <;> try (cases e; done)
    have e : (Mini.pairsOf _).map (fun l => (k, v) :: l) = some kvs := e
    obtain ⟨l, e1, e2⟩ := Option.map_eq_some_iff.mp e
    subst e2
    rw [List.all_cons, Bool.and_eq_true] at hk
    obtain ⟨ps, ks, h1, h2, h3⟩ := pairs_rep r e1 hk.2
    obtain ⟨p, ws, rfl, sq, rw'⟩ := a.tuple
    obtain ⟨ky, rfl⟩ := isKey_key hk.1
    cases rw' with
    | cons rk rr =>
      cases rr with
      | @cons vv _ _ _ rv rr =>
        cases rr
        obtain rfl := rk.key
        exact ⟨p :: ps, (ky, vv) :: ks, by rw [h1]; rfl, .cons (sqT_of sq) h2, .cons rv h3⟩
/-- the pairs as they lie in the heap -/
theorem pairs_at {pins : List (Addr × Obj)} {σ : L2.St} {s : Shared} (I : Inv X pins σ H s) : ∀ {ps : List Addr} {ks : List (Key × V)}, Paired (fun p kv => SqT X.K H p [kV kv.1, kv.2]) ps ks →
    ∃ (prs : List (Key × Value)) (us : List (Value × Value)), KV ks prs ∧ prs.length = ps.length ∧ us.length = ps.length ∧ ∀ (j : Nat) (u v : Value), us[j]? = some (u, v) → ∃ (b : Addr) (k : Key), ps[j]? = some b ∧ prs[j]? = some (k, v) ∧ IsTup s.heap b #[u, v] ∧ keyIs k u = true
  | _, _, .nil => ⟨[], [], .nil, rfl, rfl, fun j u v e => by cases e⟩
  | _, _, .cons (a := p) (b := kv) h t => by
    obtain ⟨prs, us, r, h1, h2, h3⟩ := pairs_at I t
    obtain ⟨its, rv, ht, _⟩ := I.tuple h
    obtain ⟨u, y, ei, ru, ry⟩ := vals2 rv
    subst ei
    refine ⟨(kv.1, y) :: prs, (u, y) :: us, .cons ⟨rfl, ry⟩ r, congrArg Nat.succ h1, congrArg Nat.succ h2, fun j a b e => ?_⟩
    cases j with
    | zero =>
      cases e
      exact ⟨p, kv.1, rfl, rfl, ht, kV_is (P := X.prog) (w := X.w) ru⟩
    | succ j => exact h3 j a b e
/-- a tuple that has no dict -/
theorem plainSeq {pins : List (Addr × Obj)} {σ : L2.St} {s : Shared} {F : Addr → Prop} {a : Addr} {xs : List V} (hK : fx.K = X.K) (I : Inv X pins σ H s) (h : (¬ F a ∧ TupZ H a xs) ∨ KwT fx.K a xs) : ∃ its : List Value, Vals xs its ∧ PlainSeq "tuple" s.heap a its.toArray ∧ xs.length ≤ sizeLine := by
  rcases h with ⟨_, o, ⟨c1, c2, its, n, c3⟩, e⟩ | ⟨o, its, n, e1, e2, e3, e4, e5, e6⟩
  · obtain ⟨h1, hz, ys, r, o', h2, _, n', h4⟩ := I.hok a _ e
    rw [h1] at h2
    cases h2
    exact ⟨ys, r, ⟨o, n', h1, c1, c2, h4⟩, hz⟩
  · rw [hK] at e1
    refine ⟨its.toList, e5, ⟨o, n, I.kIn a o e1, e2, e6, by simpa using e3⟩, ?_⟩
    have := e5.length
    simp only [Array.length_toList] at this
    omega
theorem merge_len {kvs : List (Key × V)} {n : Nat} (h : kvs.length ≤ n) : (mergeK [] kvs).length ≤ n := by
  have := length_mergeK kvs []
  rw [List.length_nil] at this
  omega
theorem cr_dict (hK : fx.K = X.K) (hc : X.calm = true) : CallR X (.type "dict") (rBlt fx .dict) := by
  intro pins s σ H xs us Q I r h
  obtain ⟨G, ds, d, k, hd, e, q⟩ := h
  rcases ds with _ | ⟨x, _ | ⟨y, r'⟩⟩
  · cases e
  · obtain ⟨v, rfl, hv⟩ := hd.one
    cases x <;> try (cases e; done)
    · rename_i xs
      have e : (match Mini.pairsOf xs with
        | some kvs => if kvs.all (fun p => isKey p.1) then some (.dict (mergeKV [] kvs)) else none
        | none => none) = some d := e
      cases e1 : Mini.pairsOf xs with
      | none => rw [e1] at e; cases e
      | some kvs =>
        rw [e1] at e
        obtain ⟨c, rfl⟩ := ite_some' e
        obtain ⟨a, vs, rfl, ha, ra⟩ := hv
        obtain ⟨ps, ks, rfl, h1, h2⟩ := pairs_rep ra e1 c
        rw [hK] at h1
        refine call_dictP hc pins s σ H _ us Q I r ⟨a, ps, ks, rfl, SqL.of ha, h1, fun p hn => ?_⟩
        exact q _ _ (ext_upd hn) (.dct (k.new hn) upd_same (merge_cel c rfl) ((h2.merge .nil).keep (Keep.upd hn)))
    · rename_i xs
      have e : (match Mini.pairsOf xs with
        | some kvs => if kvs.all (fun p => isKey p.1) then some (.dict (mergeKV [] kvs)) else none
        | none => none) = some d := e
      cases e1 : Mini.pairsOf xs with
      | none => rw [e1] at e; cases e
      | some kvs =>
        rw [e1] at e
        obtain ⟨c, rfl⟩ := ite_some' e
        obtain ⟨a, vs, rfl, ha, ra⟩ := Rep.tuple hv
        obtain ⟨ps, ks, rfl, h1, h2⟩ := pairs_rep ra e1 c
        rw [hK] at h1
        obtain ⟨its, rv, pl, hz⟩ := plainSeq hK I ha
        obtain ⟨prs, uv, rel, l1, l2, hp⟩ := pairs_at I h1
        have ei := refs_at rv
        subst ei
        obtain ⟨u, rfl, ru⟩ := vals1 r
        obtain rfl : u = .ref a := ru
        rw [List.length_map] at hz
        have P := PairArg.tuple (prog := X.prog) (w := X.w) a (ps.map Value.ref).toArray (fun j => ps.getD j 0) uv
        refine PySem.call_dict_pairs (knd := mixKind X.prog X.w) (kvs := prs) P (I.ok.hd hc) ⟨pl, by simp [l2], fun j a' b' ej => ?_⟩ ⟨by rw [l1, l2], fun j a' b' ej => ?_⟩ (by rw [l2]; exact hz) fun h' tk hd' hk => ?_
        · obtain ⟨b, ky, g1, g2, g3, g4⟩ := hp j a' b' ej
          have gd : ps.getD j 0 = b := by rw [List.getD_eq_getElem?_getD, g1]; rfl
          exact ⟨by simp [g1, gd], .inl (by show s.heap.IsTuple (ps.getD j 0) #[a', b']; rw [gd]; exact g3)⟩
        · obtain ⟨b, ky, g1, g2, g3, g4⟩ := hp j a' b' ej
          exact ⟨ky, g2, g4⟩
        · have hm : (s.heap.objs.size == sysModules) = false := beq_eq_false_iff_ne.mpr (Nat.ne_of_gt I.big)
          have hn := I.hok.fresh (Nat.le_refl s.heap.objs.size)
          have hlen : (mergeK [] ks).length ≤ sizeLine := merge_len (by rw [rel.length, l1]; exact hz)
          refine ⟨.ref s.heap.objs.size, upd H s.heap.objs.size (.dK (mergeK [] ks)), I.laid (t' := tk) (fun b o z => hk b o (by simp) z) (Nat.le_refl _) (show ObjOk X.prog X.w _ _ _ (.dK (mergeK [] ks)) from ⟨hlen, hm, merged [] prs, KV.merge rel .nil, hd'⟩), rfl, ?_⟩
          exact q _ _ (ext_upd hn) (.dct (k.new hn) upd_same (merge_cel c rfl) ((h2.merge .nil).keep (Keep.upd hn)))
  · cases x <;> cases e
end
end Mini

set_option Elab.async false
set_option linter.all false
set_option maxRecDepth 100000
set_option maxHeartbeats 4000000
/-! Mini, part L3: next(iter([..]), x). -/
namespace Mini
open PySem PySem.Spec PyProof.Rows L2
section
variable {prog : Program} {w : World} {A : Around} {E : Value → Shared → Prop} {s : Shared} {it l : Addr}
/-- next(it, d) of a list's iterator at its start -/
theorem call_next2 {Q : Value → Shared → Prop} {items : Array Value} {d : Value} (hh : A.handled = none) (hx : s.heap.get? it = some (GNX.itObj l 0)) (hl : s.heap.IsList l items)
    (h : ∀ h', (∀ b o, b ≠ it → s.heap.get? b = some o → h'.get? b = some o) → Q (items[0]?.getD d) { s with heap := h' }) : wpAny (model prog w) A (call (.builtin "next") [.ref it, d]) Q E s := by
  have hT : s.TypeIs (.ref it) "list_iterator" := ⟨_, hx, rfl⟩
  have st : s.heap.IsListIter it l 0 := ⟨_, hx, rfl, rfl⟩
  refine Calls.call_function_entry (by decide +kernel) (by decide +kernel) PySem.W.kdk_entry_next (PySem.W.kdk_args_next2 _ _) ?_
  unfold Builtin.«next»
  refine wpAny_bind (m := someArgs "next" 1 2 _) (wpAny_of_eq (a := [Value.ref it, d]) (by first | rfl | kernel_rfl!) ?_)
  dsimp only
  refine wpAny_bind (wpAny_specialOf (name := Str.ofString "__next__") hT slot_listiter_next.lookup ?_)
  refine wpAny_ite_split (fun hab => absurd hab (by decide)) (fun _ => ?_)
  cases e : items[0]? with
  | none =>
    rw [e] at h
    refine wpAny_bind (wpAny_pyNext_list_end hh st hl e fun h' eb => ?_)
    exact wpAny_pure ⟨_, rfl, h h' fun b o hb z => eb b o hb z⟩
  | some x =>
    rw [e] at h
    refine wpAny_bind (wpAny_pyNext_list_item st hl e fun h' _ sb => ?_)
    exact wpAny_pure ⟨_, rfl, h h' fun b o hb z => (sb.2 b hb).trans z⟩
end
section
variable {X : Cx} {S : Stat} {cx : Cxt} {sc : Scope} {n : Nat} {a b : Expr} {ca cb : C} {pos pos2 p p2 : Pos}
theorem lc_list_of {g : G} {elt it cond : C} {t : Tg} {ρ : Env} {h h' : Hs} {d : D} (e : den g (.lc elt t it cond) ρ h = .ok d h') : ∃ xs, d = .list xs := by
  unfold den at e
  cases q : den g it ρ h with
  | bad => rw [q] at e; cases e
  | err x h1 => rw [q] at e; cases e
  | ok y h1 =>
    rw [q] at e
    have e : (match items y with
      | some xs => quiet ((loopC (fun d h => turnC (fun ρ h => den g cond ρ h) (fun ρ h => den g elt ρ h) t d (wipeE ρ t.slots) h) xs h1).bind fun ys h => listD ys h)
      | none => .bad) = R.ok d h' := e
    cases ei : items y with
    | none => rw [ei] at e; cases e
    | some xs =>
      rw [ei] at e
      dsimp only at e
      generalize loopC (fun d h => turnC (fun ρ h => den g cond ρ h) (fun ρ h => den g elt ρ h) t d (wipeE ρ t.slots) h) xs h1 = r at e
      cases r with
      | bad => cases e
      | err x h2 => cases e
      | ok ys h2 =>
        have e : quiet (listD ys h2) = R.ok d h' := e
        unfold listD at e
        split at e
        · cases e; exact ⟨ys, rfl⟩
        · cases e
theorem e_next (x : XOk X S cx sc n) (hlc : isLc ca = true) (hgn : isGl sc "next" = true) (hgi : isGl sc "iter" = true) (hs : isStar a = false) (hs2 : isStar b = false) (ha : PE X a (tE S ca)) (hb : PE X b (tE S cb)) :
    PE X (.Call (.Name "next" p) [.Call (.Name "iter" p2) [a] [] pos2, b] [] pos) (tE S (.blt .nextIter (.cons ca (.cons cb .nil)))) := by
  cases ca <;> try (cases hlc; done)
  rename_i elt t it cond
  refine ⟨fun pins s σ H Q I ⟨ρ, h, m, ok, hp⟩ => ?_⟩
  have kn : (C.blt .nextIter (.cons (.lc elt t it cond) (.cons cb .nil))).knd S.own = cb.knd S.own := by
    rw [C.knd, Cs.knd, Cs.knd, Cs.knd]
    have : (C.lc elt t it cond).knd S.own = 0 := by rw [C.knd]; all_goals (intros; simp_all)
    rw [this]
    omega
  have kl : (C.lc elt t it cond).knd S.own = 0 := by rw [C.knd]; all_goals (intros; simp_all)
  rw [kn] at hp
  unfold den at hp
  rw [dens_two, R.assoc] at hp
  refine wpAny_Call_Name_kw (ld_blt I (isGl_of x hgn) (x.b.blt _ (by decide)) (by rfl) ?_)
  refine PyProof.Rows.callWith_builtin1 ?_ rfl (by rw [each_plain hs2]; rfl)
  show wpAny _ _ (spliced ((false, eval (.Call (.Name "iter" p2) [a] [] pos2) X.env) :: backTo pos (starEach [b] X.env))) _ _ s
  have first : wpAny (model X.prog X.w) X.A (eval (.Call (.Name "iter" p2) [a] [] pos2) X.env) (fun u s2 => ∃ (l it0 : Addr) (xs : List D) (vs : List V) (h1 : Hs) (H1 : Hp), u = .ref it0 ∧ den S.g (.lc elt t it cond) ρ h = .ok (.list xs) h1 ∧ Inv X pins σ H1 s2 ∧ KeepC (S.fx m) H H1 ∧ Wd (S.fx m) S.T m.F h1 H1 ∧
      Rep (S.fx m) m.F H1 (.ref l) (.list xs) ∧ FpOk X pins H1 it0 ∧ s2.heap.get? it0 = some (GNX.itObj l 0)) X.xe s := by
    refine wpAny_Call_Name_kw (ld_blt I (isGl_of x hgi) (x.b.blt _ (by decide)) (by rfl) ?_)
    refine PyProof.Rows.callWith_builtin1 ?_ (each_plain hs _ _) rfl
    rw [each_plain hs]
    show wpAny _ _ (spliced ((false, eval a X.env) :: [])) _ _ s
    refine Calls.spliced_cons (thn (ha.run pins s σ H (fun v H1 => ∃ xs h1, den S.g (.lc elt t it cond) ρ h = .ok (.list xs) h1 ∧ KeepC (S.fx m) H H1 ∧ Wd (S.fx m) S.T m.F h1 H1 ∧ Rep (S.fx m) m.F H1 v (.list xs)) I ⟨ρ, h, m, ok, ?_⟩) fun u s1 ⟨v, H1, I1, rv, xs, h1, e, kp, wd, r⟩ => Calls.spliced_nil ?_)
    · cases q : den S.g (.lc elt t it cond) ρ h with
      | bad => rw [q] at hp; exact hp.elim
      | err e h' => rw [q] at hp; exact hp
      | ok d h' =>
        obtain ⟨xs, rfl⟩ := lc_list_of q
        intro v H' kp w r
        rw [kl] at r
        exact ⟨xs, h', rfl, kp, w, r.f⟩
    · obtain ⟨l, vs, rfl, nf, hl, rx⟩ := r.list
      obtain rfl : u = .ref l := rv
      obtain ⟨its, rv', pl, hz⟩ := I1.list (SqL.of hl)
      refine GNX.call_iter pl.isList ?_
      exact ⟨l, s1.heap.objs.size, xs, vs, h1, H1, rfl, e, I1.kept (t' := s1.toks) fun b o z => Heap.get?_push_of_some _ z, kp, wd, .lst nf hl rx, I1.fpOk (Nat.le_refl _) (I1.hok.fresh (Nat.le_refl _)), Heap.get?_push_size _ rfl⟩
  refine Calls.spliced_cons (thn first fun u s2 hh => ?_)
  obtain ⟨l, it0, xs, vs, h1, H1, rfl, e, I2, kp, wd, r, fp, gi⟩ := hh
  rw [e] at hp
  have hp : post S m (cb.knd S.own) σ H Q (((den S.g cb ρ h1).bind fun y h => R.ok [PyData.list xs, y] h).bind fun xs h => lift (bltD .nextIter xs) h) := hp
  rw [R.assoc] at hp
  have o1 := ok.keep kp wd
  have hp : post S m (cb.knd S.own) σ H1 Q ((den S.g cb ρ h1).bind fun y h => lift (bltD .nextIter [PyData.list xs, y]) h) := post.from hp kp
  have I3 : Inv X (pins ++ pinsAt [it0] s2.heap) σ H1 s2 := I2.pinned (fun b hb => by rw [List.mem_singleton.mp hb]; exact fp) fun b hb => by
    rw [List.mem_singleton.mp hb]
    exact ⟨_, gi, fun v z => by cases z⟩
  have pin : (it0, GNX.itObj l 0) ∈ pinsAt [it0] s2.heap := mem_pinsAt (List.mem_singleton.mpr rfl) gi
  rw [each_plain hs2]
  show wpAny _ _ (spliced ((false, eval b X.env) :: [])) _ _ s2
  refine Calls.spliced_cons (thn (hb.run (pins ++ pinsAt [it0] s2.heap) s2 σ H1 (fun v H2 => ∃ d h2, den S.g cb ρ h1 = .ok d h2 ∧ KeepC (S.fx m) H1 H2 ∧ Wd (S.fx m) S.T m.F h2 H2 ∧ RepK (S.fx m) m (cb.knd S.own) H2 v d) I3 ⟨ρ, h1, m, o1, ?_⟩) fun w s3 ⟨v, H2, I4, rw2, d, h2, e2, kp2, wd2, r2⟩ => Calls.spliced_nil ?_)
  · cases q : den S.g cb ρ h1 with
    | bad => rw [q] at hp; exact hp.elim
    | err e h' => rw [q] at hp; exact hp
    | ok d h' => exact fun v H' kp w r => ⟨d, h', rfl, kp, w, r⟩
  · rw [e2] at hp
    have hp : post S m (cb.knd S.own) σ H1 Q (lift (bltD .nextIter [PyData.list xs, d]) h2) := hp
    obtain ⟨d', ed, hp3⟩ := lift_some hp
    have o2 := o1.keep kp2 wd2
    obtain ⟨g1, g2, _⟩ := I4.pin (it0, GNX.itObj l 0) (List.mem_append_right _ (List.mem_append_right _ pin))
    have r' : Rep (S.fx m) m.F H2 (.ref l) (.list xs) := r.keep (kp2.mono fun b z => o1.w.inF b z)
    obtain ⟨l', vs', el, nf, hl, rx⟩ := r'.list
    cases el
    have I5 : Inv X pins σ H2 s3 := I4.pins_of fun p hp => I4.pin p (List.mem_append_right _ (List.mem_append_left _ hp))
    obtain ⟨its, rv', pl, hz⟩ := I5.list (SqL.of hl)
    refine call_next2 (I5.ok.hd x.b.calm) g1 pl.isList fun h' hk => ?_
    obtain ⟨_, f1, f2, f3, f4, f5⟩ := fp
    have I6 : Inv X pins σ H2 { s3 with heap := h' } := I5.turned (t' := s3.toks) hk g2 f1 f3 f4 f5
    cases rx with
    | nil =>
      cases rv'
      cases ed
      exact ⟨v, H2, I6, rw2, hp3 v H2 kp2 wd2 r2⟩
    | cons rh rt =>
      cases rv' with
      | cons rvh rvt =>
        cases ed
        exact ⟨_, H2, I6, rvh, hp3 _ H2 kp2 wd2 (RepK.ofRep o2.e.sub rh)⟩
end
end Mini

set_option Elab.async false
set_option linter.all false
set_option maxRecDepth 100000
set_option maxHeartbeats 4000000
/-! Mini, part F6: targets, what is walked. -/
namespace Mini
open PySem PySem.Spec PyProof.Rows L2
theorem PI.weak {X : Cx} {tg e : Expr} {t t' : TI} (h : PI X tg e t) (w : ∀ σ H Q, t' σ H Q → t σ H Q) : PI X tg e t' := ⟨fun pins s σ H Q I q => h.run pins s σ H Q I (w σ H Q q)⟩
theorem PG.weak {X : Cx} {e : Expr} {t t' : TG} (h : PG X e t) (w : ∀ v σ H Q, t' v σ H Q → t v σ H Q) : PG X e t' := ⟨fun pins s σ H v u Q I r q => h.run pins s σ H v u Q I r (w v σ H Q q)⟩
/-- a slot of no owner is set -/
theorem EnvOk.set {X : Fx} {own : List Nat} {F0 F : Addr → Prop} {σ : L2.St} {ρ : Env} {H : Hp} {i : Nat} {v : V} {d : D} (E : EnvOk X own F0 F σ ρ H) (hi : i ∉ own) (r : Rep X F H v d) : EnvOk X own F0 F (σ.set i (some v)) (ρ.set i (some d)) H := by
  refine ⟨by rw [List.length_set, List.length_set]; exact E.len, fun j e h1 h2 => ?_, fun j e h1 h2 => ?_, fun j k a e f h1 h2 h3 h4 h5 h6 => ?_, E.sub, E.cel⟩
  · by_cases hj : i = j
    · subst hj
      by_cases hl : i < ρ.length
      · rw [List.getElem?_set_self hl] at h1
        cases h1
        exact ⟨v, by rw [List.getElem?_set_self (by rw [E.len]; exact hl)], r⟩
      · rw [List.getElem?_eq_none (by rw [List.length_set]; omega)] at h1
        cases h1
    · rw [List.getElem?_set_ne hj] at h1
      rw [List.getElem?_set_ne hj]
      exact E.val j e h1 h2
  · have hj : i ≠ j := fun z => hi (by rw [z]; exact h2)
    rw [List.getElem?_set_ne hj] at h1
    rw [List.getElem?_set_ne hj]
    exact E.ow j e h1 h2
  · have hj : i ≠ j := fun z => hi (by rw [z]; exact h1)
    have hk : i ≠ k := fun z => hi (by rw [z]; exact h2)
    rw [List.getElem?_set_ne hj] at h3 h5
    rw [List.getElem?_set_ne hk] at h4 h6
    exact E.dis j k a e f h1 h2 h3 h4 h5 h6
theorem EnvOk.wipe {X : Fx} {own : List Nat} {F0 F : Addr → Prop} {σ : L2.St} {ρ : Env} {H : Hp} {vs : List Nat} (E : EnvOk X own F0 F σ ρ H) : EnvOk X own F0 F (L2.wipe σ vs) (wipeE ρ vs) H := by
  have key : ∀ (vs : List Nat) (j : Nat) e, (wipeE ρ vs)[j]? = some (some e) → ρ[j]? = some (some e) ∧ j ∉ vs := by
    intro vs
    induction vs with
    | nil => exact fun j e h => ⟨h, by simp⟩
    | cons v vs ih =>
      intro j e h
      unfold wipeE at h
      by_cases hj : v = j
      · subst hj
        by_cases hl : v < (wipeE ρ vs).length
        · rw [List.getElem?_set_self hl] at h; cases h
        · rw [List.getElem?_eq_none (by rw [List.length_set]; omega)] at h; cases h
      · rw [List.getElem?_set_ne hj] at h
        obtain ⟨h1, h2⟩ := ih j e h
        exact ⟨h1, by simp only [List.mem_cons, not_or]; exact ⟨fun z => hj z.symm, h2⟩⟩
  have len : ∀ vs : List Nat, (wipeE ρ vs).length = ρ.length := by
    intro vs
    induction vs with
    | nil => rfl
    | cons v vs ih => unfold wipeE; rw [List.length_set, ih]
  refine ⟨by rw [L2.wipe_length, len]; exact E.len, fun j e h1 h2 => ?_, fun j e h1 h2 => ?_, fun j k a e f h1 h2 h3 h4 h5 h6 => ?_, E.sub, E.cel⟩
  · obtain ⟨q, n⟩ := key vs j e h1
    rw [L2.wipe_out n]
    exact E.val j e q h2
  · obtain ⟨q, n⟩ := key vs j e h1
    rw [L2.wipe_out n]
    exact E.ow j e q h2
  · obtain ⟨q, n⟩ := key vs j e h3
    obtain ⟨q', n'⟩ := key vs k f h4
    rw [L2.wipe_out n] at h5
    rw [L2.wipe_out n'] at h6
    exact E.dis j k a e f h1 h2 q q' h5 h6
/-- a target's own reading -/
def gT (S : Stat) (t : Tg) : TG := fun v σ H Q => ∃ ρ d ρ' m h, Ok S m σ ρ h H ∧ Rep (S.fx m) m.F H v d ∧ setTg t d ρ = some ρ' ∧ (∀ i ∈ t.slots, i ∉ S.own) ∧ ∀ σ', Ok S m σ' ρ' h H → σ'.length = σ.length → (∀ j, j ∉ t.slots → σ'[j]? = σ[j]?) → Q σ' H
def zipSet {α : Type} (ρ : List (Option α)) : List Nat → List α → List (Option α)
  | i :: is, d :: ds => zipSet (ρ.set i (some d)) is ds
  | _, _ => ρ
theorem zipSet_eq : ∀ {is : List Nat} {ds : List D} {ρ : Env}, (is.zip ds).foldl (fun ρ p => ρ.set p.1 (some p.2)) ρ = zipSet ρ is ds
  | [], _, _ => rfl
  | _ :: _, [], _ => rfl
  | i :: is, d :: ds, ρ => by
    rw [List.zip_cons_cons, List.foldl_cons]
    exact zipSet_eq
theorem zipSet_len {α : Type} : ∀ {is : List Nat} {ds : List α} {ρ : List (Option α)}, (zipSet ρ is ds).length = ρ.length
  | [], _, _ => rfl
  | _ :: _, [], _ => rfl
  | i :: is, d :: ds, ρ => by unfold zipSet; rw [zipSet_len, List.length_set]
theorem zipSet_out {α : Type} : ∀ {is : List Nat} {ds : List α} {ρ : List (Option α)} {j : Nat}, j ∉ is → (zipSet ρ is ds)[j]? = ρ[j]?
  | [], _, _, _, _ => rfl
  | _ :: _, [], _, _, _ => rfl
  | i :: is, d :: ds, ρ, j, h => by
    unfold zipSet
    rw [zipSet_out (fun z => h (List.mem_cons_of_mem _ z)), List.getElem?_set_ne (fun z => h (by rw [z]; exact List.mem_cons_self))]
theorem EnvOk.zipSets {X : Fx} {own : List Nat} {F0 F : Addr → Prop} {H : Hp} : ∀ {is : List Nat} {vs : List V} {ds : List D} {σ : L2.St} {ρ : Env}, EnvOk X own F0 F σ ρ H → (∀ i ∈ is, i ∉ own) → Reps X F H vs ds → EnvOk X own F0 F (Mini.zipSet σ is vs) (Mini.zipSet ρ is ds) H
  | [], _, _, _, _, E, _, _ => E
  | _ :: _, _, _, _, _, E, _, .nil => E
  | i :: is, _, _, _, _, E, h, .cons r q => by
    unfold Mini.zipSet
    exact EnvOk.zipSets (is := is) (E.set (h i List.mem_cons_self) r) (fun j hj => h j (List.mem_cons_of_mem _ hj)) q
def gNames : List Nat → TGs
  | [] => gNil
  | i :: r => gCons (gName i) (gNames r)
theorem gNames_run : ∀ {is : List Nat} {vs : List V} {σ : L2.St} {H : Hp} {Q : L2.St → Hp → Prop}, is.length = vs.length → Q (zipSet σ is vs) H → gNames is vs σ H Q
  | [], [], _, _, _, _, q => ⟨rfl, q⟩
  | i :: is, v :: vs, σ, H, Q, h, q => ⟨v, vs, rfl, gNames_run (by simpa using h) q⟩
section
variable {X : Cx} {S : Stat} {cx : Cxt} {sc : Scope} {n : Nat} {pos : Pos}
/-- the names of a target may be set -/
def MaySet (X : Cx) (x : Str) : Prop := Loc X.env.scope x ∧ (X.fn x = true ∨ X.env.scope.names.lookup x = some .local)
theorem pgs_names {f : Expr → Option Nat} (o : XOk X S cx sc n) (hf : ∀ e i, f e = some i → ∃ x p, e = .Name x p ∧ cx.ix x = some i ∧ MaySet X x) : ∀ {es : List Expr} {is : List Nat}, es.mapM f = some is → PGs X es (gNames is) ∧ (assignEach es X.env).length = is.length ∧ (assignEach es X.env).findIdx? (·.1) = none
  | [], is, h => by
    cases h
    exact ⟨pgs_nil, rfl, rfl⟩
  | e :: es, is, h => by
    rw [List.mapM_cons] at h
    obtain ⟨i, h1, h2⟩ := Option.bind_eq_some_iff.mp h
    obtain ⟨r, h3, h4⟩ := Option.bind_eq_some_iff.mp h2
    cases h4
    obtain ⟨x, p, rfl, hi, hs⟩ := hf e i h1
    obtain ⟨q1, q2, q3⟩ := pgs_names o hf h3
    refine ⟨pgs_cons (pg_name (by rw [o.N]; exact o.nd) (by rw [o.N]; exact Cxt.ix_get hi) hs.1 hs.2) q1, ?_, ?_⟩
    · show (assignEach es X.env).length + 1 = _
      rw [q2]; rfl
    · show List.findIdx? _ ((false, _) :: assignEach es X.env) = none
      rw [List.findIdx?_cons, q3]; rfl
theorem pg_tg {f : Expr → Option Nat} {e : Expr} {t : Tg} (o : XOk X S cx sc n) (hf : ∀ e i, f e = some i → ∃ x p, e = .Name x p ∧ cx.ix x = some i ∧ MaySet X x)
    (h : (∃ i, f e = some i ∧ t = .nm i) ∨ ∃ es k p is, e = .Tuple es k p ∧ es.mapM f = some is ∧ t = .tp is) : PG X e (gT S t) := by
  rcases h with ⟨i, h1, rfl⟩ | ⟨es, k, p, is, rfl, h1, rfl⟩
  · obtain ⟨x, p, rfl, hi, hs⟩ := hf e i h1
    refine PG.weak (pg_name (i := i) (by rw [o.N]; exact o.nd) (by rw [o.N]; exact Cxt.ix_get hi) hs.1 hs.2) fun v σ H Q ⟨ρ, d, ρ', m, h, ok, r, st, ns, q⟩ => ?_
    cases st
    refine q (σ.set i (some v)) ⟨ok.e.set (ns i (by unfold Tg.slots; simp)) r, ok.w⟩ (List.length_set ..) fun j hj => List.getElem?_set_ne (fun z => hj (by unfold Tg.slots; rw [z]; simp))
  · obtain ⟨q1, q2, q3⟩ := pgs_names o hf h1
    refine PG.weak (pg_tup (o.b.calm) q1 q2 q3) fun v σ H Q ⟨ρ, d, ρ', m, h, ok, r, st, ns, q⟩ => ?_
    unfold setTg at st
    cases d with
    | tuple ds =>
      obtain ⟨hl, e⟩ := ite_someP st
      obtain ⟨a, xs, rfl, sq, rx⟩ := r.tuple
      rw [zipSet_eq] at e
      subst e
      have s2 := sqT_of sq
      have s2 : SqT X.K H a xs := by rw [← o.b.K]; exact s2
      refine ⟨a, xs, rfl, s2, by rw [rx.length]; exact hl.symm, gNames_run (by rw [rx.length]; exact hl) ?_⟩
      exact q _ ⟨ok.e.zipSets ns rx, ok.w⟩ zipSet_len fun j hj => zipSet_out hj
    | _ => cases st
end
/-! ### what is walked -/
/-- the owned object that is walked -/
def nOf (S : Stat) (σ : L2.St) (ρ : Env) (c : C) (b : Addr) : Prop := ∃ i d, c = .slot i ∧ i ∈ S.own ∧ ρ[i]? = some (some d) ∧ σ[i]? = some (some (.ref b))
structure Wk (fx : Fx) (F : Addr → Prop) (J : It) (xs : List D) (N : Addr → Prop) (H : Hp) : Prop where
  run : ∃ vs, Reps fx F H vs xs ∧ ∀ H', Keep (fun b => F b ∧ ¬ N b) H H' → (∀ i, i < xs.length → J.go i H') ∧ (∀ i, xs.length ≤ i → J.stop i H') ∧ ∀ i x H'', i < xs.length → J.yld i H' x H'' → H'' = H' ∧ vs[i]? = some x
def tI (S : Stat) (c : C) : TI := fun σ H R => ∃ ρ h m, Ok S m σ ρ h H ∧ (match den S.g c ρ h with
  | .ok d h' => ∃ xs, items d = some xs ∧ ∀ J H', KeepC (S.fx m) H H' → Wd (S.fx m) S.T m.F h' H' → Wk (S.fx m) m.F J xs (nOf S σ ρ c) H' → R J H'
  | .err e h' => ∀ H', KeepC (S.fx m) H H' → Wd (S.fx m) S.T m.F h' H' → ErrP S e (fun c dd => S.wx c dd σ H')
  | .bad => False)
theorem keep_at {P : Addr → Prop} {H H' : Hp} {a : Addr} {o : HO} (k : Keep P H H') (e : H a = some o) (n : ¬ P a) (t : NoTbl o) : H' a = some o := k a o e n t
theorem wk_list {fx : Fx} {F N : Addr → Prop} {H : Hp} {a : Addr} {vs : List V} {xs : List D} (e : H a = some (.lst vs)) (n : ¬ (F a ∧ ¬ N a)) (r : Reps fx F H vs xs) : Wk fx F (Itl fx.K a) xs N H := by
  refine ⟨vs, r, fun H' k => ?_⟩
  have e' : SqL fx.K H' a vs := SqL.of (keep_at k e n (fun ps z => by cases z))
  refine ⟨fun i hi => ?_, fun i hi => ⟨vs, e', by rw [r.length]; exact hi⟩, fun i x H'' _ ⟨h1, h2⟩ => ⟨h1, h2 vs e'⟩⟩
  have hi : i < vs.length := by rw [r.length]; exact hi
  exact ⟨vs, vs[i], e', by simp [hi]⟩
theorem wk_tup {fx : Fx} {F N : Addr → Prop} {H : Hp} {a : Addr} {vs : List V} {xs : List D} (e : (¬ F a ∧ TupZ H a vs) ∨ KwT fx.K a vs) (r : Reps fx F H vs xs) : Wk fx F (Itt fx.K a) xs N H := by
  refine ⟨vs, r, fun H' k => ?_⟩
  have e' : SqT fx.K H' a vs := sqT_of (X := fx) (F := F) (e.imp (fun ⟨n, q⟩ => ⟨n, tupZ_keep k q (fun z => n z.1)⟩) id)
  refine ⟨fun i hi => ?_, fun i hi => ⟨vs, e', by rw [r.length]; exact hi⟩, fun i x H'' _ ⟨h1, h2⟩ => ⟨h1, h2 vs e'⟩⟩
  have hi : i < vs.length := by rw [r.length]; exact hi
  exact ⟨vs, vs[i], e', by simp [hi]⟩
theorem wk_str {fx : Fx} {F N : Addr → Prop} {H : Hp} (z : Str) : Wk fx F (Its z) (z.cps.toList.map fun c => .str ⟨#[c]⟩) N H := by
  refine ⟨z.cps.toList.map fun c => V.str ⟨#[c]⟩, ?_, fun H' k => ⟨fun i hi => ?_, fun i hi => ?_, fun i x H'' _ ⟨h1, c, h2, h3⟩ => ⟨h1, ?_⟩⟩⟩
  · generalize z.cps.toList = l
    induction l with
    | nil => exact .nil
    | cons c r ih => exact .cons (.str _) ih
  · show i < z.cps.size
    rw [List.length_map] at hi; simpa using hi
  · show z.cps.size ≤ i
    rw [List.length_map] at hi; simpa using hi
  · subst h3
    rw [List.getElem?_map, Array.getElem?_toList, h2]
    rfl
theorem wk_rng {fx : Fx} {F N : Addr → Prop} {H : Hp} (lo : Int) (n : Nat) : Wk fx F (Itr lo n) ((List.range n).map fun k => .int (lo + (k : Nat))) N H := by
  refine ⟨(List.range n).map fun k => V.int (lo + (k : Nat)), ?_, fun H' k => ⟨fun i hi => ?_, fun i hi => ?_, fun i x H'' hn ⟨h1, h2⟩ => ⟨h1, ?_⟩⟩⟩
  · generalize List.range n = l
    induction l with
    | nil => exact .nil
    | cons c r ih => exact .cons (.int _) ih
  · show i < n
    simpa using hi
  · show n ≤ i
    simpa using hi
  · have hn : i < n := by simpa using hn
    rw [List.getElem?_map, List.getElem?_range hn, h2]
    rfl
section
variable {X : Cx} {S : Stat} {cx : Cxt} {sc : Scope} {n : Nat} {e a b tg : Expr} {c ca cb : C} {pos p : Pos} {pins : List (Addr × Obj)} {σ : L2.St} {H : Hp} {s : Shared} {R : It → Hp → Prop}
theorem it_list {l : Addr} {xs : List V} (I : Inv X pins σ H s) (hq : SqL X.K H l xs) (q : R (Itl X.K l) H) : wpAny (model X.prog X.w) X.A (pyIter (.ref l)) (PIE X pins σ tg R) X.xe s := by
  obtain ⟨its, rv, p, hz⟩ := I.list hq
  refine wpAny_pyIter_list p.isList ?_
  refine ⟨s.heap.objs.size, [s.heap.objs.size], _, _, H, rfl, I.kept (t' := s.toks) fun b o e => Heap.get?_push_of_some _ e, turn_list l _, ⟨_, Heap.get?_push_size _ rfl, rfl, rfl⟩, fun b hb => ?_, q⟩
  have e : b = s.heap.objs.size := by simpa using hb
  subst e
  exact I.fpOk (Nat.le_refl _) (I.hok.fresh (Nat.le_refl _))
theorem it_tup {l : Addr} {xs : List V} (I : Inv X pins σ H s) (hq : SqT X.K H l xs) (q : R (Itt X.K l) H) : wpAny (model X.prog X.w) X.A (pyIter (.ref l)) (PIE X pins σ tg R) X.xe s := by
  obtain ⟨its, rv, p, hz⟩ := I.tuple hq
  refine wpAny_pyIter_tuple (show s.heap.IsTuple l its.toArray from p) ?_
  refine ⟨s.heap.objs.size, [s.heap.objs.size], _, _, H, rfl, I.kept (t' := s.toks) fun b o e => Heap.get?_push_of_some _ e, turn_tuple l _, ⟨_, Heap.get?_push_size _ rfl, rfl, rfl⟩, fun b hb => ?_, q⟩
  have e : b = s.heap.objs.size := by simpa using hb
  subst e
  exact I.fpOk (Nat.le_refl _) (I.hok.fresh (Nat.le_refl _))
theorem it_str {x : Str} {u : Value} (I : Inv X pins σ H s) (r : RelV (.str x) u) (q : R (Its x) H) : wpAny (model X.prog X.w) X.A (pyIter u) (PIE X pins σ tg R) X.xe s := by
  obtain ⟨t, rfl⟩ := r
  cases ha : x.cps.all (· < 128)
  · exact wpAny_pyIter_wide ha (pi_one (tk := s.toks) I _ (turn_str _ x t "str_iterator" (.inr rfl)) ⟨_, Heap.get?_push_size _ rfl, rfl, rfl⟩ q)
  · exact wpAny_pyIter_ascii ha (pi_one (tk := s.toks) I _ (turn_str _ x t "str_ascii_iterator" (.inl rfl)) ⟨_, Heap.get?_push_size _ rfl, rfl, rfl⟩ q)
theorem i_any (o : XOk X S cx sc n) (he : PE X e (tE S c)) (hw : c.knd S.own = 0) : PI X tg e (tI S c) := by
  refine ⟨fun pins s σ H R I ⟨ρ, h, m, ok, hp⟩ => ?_⟩
  refine thn (he.run pins s σ H (fun v H1 => ∃ d xs h', items d = some xs ∧ KeepC (S.fx m) H H1 ∧ Wd (S.fx m) S.T m.F h' H1 ∧ RepK (S.fx m) m (c.knd S.own) H1 v d ∧ ∀ J, Wk (S.fx m) m.F J xs (nOf S σ ρ c) H1 → R J H1) I ⟨ρ, h, m, ok, ?_⟩) fun u s1 ⟨v, H1, I1, rv, d, xs, h', ei, kp, w1, r, q⟩ => ?_
  · cases q : den S.g c ρ h with
    | bad => rw [q] at hp; exact hp.elim
    | err x h' => rw [q] at hp; exact hp
    | ok d h' =>
      rw [q] at hp
      obtain ⟨xs, e, z⟩ := hp
      exact fun v H' kp w r => ⟨d, xs, h', e, kp, w, r, fun J wk => z J H' kp w wk⟩
  · have hk : X.K = (S.fx m).K := o.b.K.symm
    rw [hw] at r
    have r := r.f
    cases d with
    | list ds =>
      cases ei
      obtain ⟨a, vs, rfl, na, ha, ra⟩ := r.list
      obtain rfl : u = .ref a := rv
      refine it_list I1 (SqL.of ha) ?_
      rw [hk]
      exact q _ (wk_list ha (fun z => na z.1) ra)
    | tuple ds =>
      cases ei
      obtain ⟨a, vs, rfl, ha, ra⟩ := r.tuple
      obtain rfl : u = .ref a := rv
      refine it_tup I1 (by rw [hk]; exact sqT_of ha) ?_
      rw [hk]
      exact q _ (wk_tup ha ra)
    | str z =>
      cases ei
      obtain rfl := RepT.str r.top
      exact it_str I1 rv (q _ (wk_str z))
    | _ => cases ei
theorem i_own {x : Str} {i : Nat} (o : XOk X S cx sc n) (hv : isVis sc x = true) (hi : cx.ix x = some i) (ho : i ∈ S.own) : PI X tg (.Name x pos) (tI S (.slot i)) := by
  obtain ⟨d1, d2, _⟩ := plain_ok (vis_plain hv)
  refine ⟨fun pins s σ H R I ⟨ρ, h, m, ok, hp⟩ => ?_⟩
  have P := pe_var (X := X) (pos := pos) (i := i) (by rw [o.N]; exact Cxt.ix_get hi) (isVis_of o hv) d1 d2
  unfold den at hp
  split at hp
  · rename_i d h' e
    split at e
    · rename_i d' e2
      cases e
      obtain ⟨xs, ei, q⟩ := hp
      obtain ⟨a, e1, f1, f2, oa⟩ := ok.e.ow i d e2 ho
      refine thn (P.run pins s σ H (fun v H1 => v = .ref a ∧ H1 = H) I ⟨_, e1, rfl, rfl⟩) fun u s1 ⟨v, H1, I1, rv, ev, eh⟩ => ?_
      subst ev eh
      obtain rfl : u = .ref a := rv
      cases d with
      | list ds =>
        cases ei
        obtain ⟨vs, ha, ra⟩ := oa
        refine it_list I1 (SqL.of ha) ?_
        have hk : X.K = (S.fx m).K := o.b.K.symm
        rw [hk]
        exact q _ _ Keep.refl ok.w (wk_list ha (fun z => z.2 ⟨i, _, rfl, ho, e2, e1⟩) ra)
      | dict ds => cases ei
      | _ => exact oa.elim
    · cases e
  · rename_i e
    split at e <;> cases e
  · exact hp.elim
theorem bltD_r1 {ds : List D} {d : D} (e : bltD .range1 ds = some d) : ∃ n : Int, ds = [.int n] ∧ -(2 ^ 62) ≤ n ∧ n < 2 ^ 62 ∧ d = .list ((List.range n.toNat).map fun k => .int (k : Nat)) := by
  rcases ds with _ | ⟨d0, _ | ⟨d1, r⟩⟩
  · cases e
  · cases d0 <;> try (cases e; done)
    obtain ⟨c, rfl⟩ := ite_some' e
    simp only [Bool.and_eq_true, decide_eq_true_eq] at c
    exact ⟨_, rfl, c.1, c.2, rfl⟩
  · cases d0 <;> cases e
theorem bltD_r2 {ds : List D} {d : D} (e : bltD .range2 ds = some d) : ∃ a b : Int, ds = [.int a, .int b] ∧ -(2 ^ 62) ≤ a ∧ a < 2 ^ 62 ∧ -(2 ^ 62) ≤ b ∧ b < 2 ^ 62 ∧ d = .list ((List.range (b - a).toNat).map fun k => .int (a + (k : Nat))) := by
  rcases ds with _ | ⟨d0, _ | ⟨d1, _ | ⟨d2, r⟩⟩⟩
  · cases e
  · cases d0 <;> cases e
  · cases d0 <;> cases d1 <;> try (cases e; done)
    obtain ⟨c, rfl⟩ := ite_some' e
    simp only [Bool.and_eq_true, decide_eq_true_eq] at c
    exact ⟨_, _, rfl, c.1.1, c.1.2, c.2.1, c.2.2, rfl⟩
  · cases d0 <;> cases d1 <;> cases e
/-- the arguments, then what is walked -/
theorem tA_rng {m : Mem} {ρ : Env} {h : Hs} {b : Blt} {cs : Cs} {Q1 : List V → Hp → Prop} (ok : Ok S m σ ρ h H) (hp : (match den S.g (.blt b cs) ρ h with
  | .ok d h' => ∃ xs, items d = some xs ∧ ∀ J H', KeepC (S.fx m) H H' → Wd (S.fx m) S.T m.F h' H' → Wk (S.fx m) m.F J xs (nOf S σ ρ (.blt b cs)) H' → R J H'
  | .err e h' => ∀ H', KeepC (S.fx m) H H' → Wd (S.fx m) S.T m.F h' H' → ErrP S e (fun c dd => S.wx c dd σ H')
  | .bad => False)) (k : ∀ ds d xs vs H1, bltD b ds = some d → items d = some xs → Reps (S.fx m) m.F0 H1 vs ds → (∀ J, Wk (S.fx m) m.F J xs (nOf S σ ρ (.blt b cs)) H1 → R J H1) → Q1 vs H1) : tA S cs σ H Q1 := by
  refine ⟨ρ, h, m, ok, ?_⟩
  unfold den at hp
  cases q : dens S.g cs ρ h with
  | bad => rw [q] at hp; exact hp.elim
  | err x h' => rw [q] at hp; exact hp
  | ok ds h' =>
    rw [q] at hp
    have hp : (match lift (bltD b ds) h' with
      | .ok d h' => ∃ xs, items d = some xs ∧ ∀ J H', KeepC (S.fx m) H H' → Wd (S.fx m) S.T m.F h' H' → Wk (S.fx m) m.F J xs (nOf S σ ρ (.blt b cs)) H' → R J H'
      | .err e h' => ∀ H', KeepC (S.fx m) H H' → Wd (S.fx m) S.T m.F h' H' → ErrP S e (fun c dd => S.wx c dd σ H')
      | .bad => False) := hp
    cases e : bltD b ds with
    | none => rw [e] at hp; exact hp.elim
    | some d =>
      rw [e] at hp
      obtain ⟨xs, ei, z⟩ := hp
      exact fun vs H' kp w r t => k ds d xs vs H' e ei (RepsG.f0 (ok.keep kp w) r) fun J wk => z J H' kp w wk
/-- range(..) -/
theorem i_rng1 (o : XOk X S cx sc n) (hg : isGl sc "range" = true) (ha : PE X a (tE S ca)) (hs : isStar a = false) : PI X tg (.Call (.Name "range" p) [a] [] pos) (tI S (.blt .range1 (.cons ca .nil))) := by
  refine PI.weak (pi_range1 (isGl_of o hg) (o.b.blt _ (by decide)) (a_cons ha a_nil hs) (each_plain hs _ _)) fun σ H R ⟨ρ, h, m, ok, hp⟩ => ?_
  refine tA_rng ok hp fun ds d xs vs H1 e ei r q => ?_
  obtain ⟨j, rfl, h1, h2, rfl⟩ := bltD_r1 e
  cases ei
  cases r with
  | cons r0 rr =>
    cases rr
    obtain rfl := RepT.int r0.top
    refine ⟨j, rfl, h1, h2, q _ ?_⟩
    have w := wk_rng (fx := S.fx m) (F := m.F) (N := nOf S σ ρ (.blt .range1 (.cons ca .nil))) (H := H1) 0 j.toNat
    simpa using w
theorem i_rng2 (o : XOk X S cx sc n) (hg : isGl sc "range" = true) (ha : PE X a (tE S ca)) (hb : PE X b (tE S cb)) (hs : isStar a = false) (hs2 : isStar b = false) : PI X tg (.Call (.Name "range" p) [a, b] [] pos) (tI S (.blt .range2 (.cons ca (.cons cb .nil)))) := by
  refine PI.weak (pi_range2 (isGl_of o hg) (o.b.blt _ (by decide)) (a_cons ha (a_cons hb a_nil hs2) hs) (by rw [each_plain hs, each_plain hs2]; rfl) (each_plain hs2 _ _)) fun σ H R ⟨ρ, h, m, ok, hp⟩ => ?_
  refine tA_rng ok hp fun ds d xs vs H1 e ei r q => ?_
  obtain ⟨i, j, rfl, h1, h2, h3, h4, rfl⟩ := bltD_r2 e
  cases ei
  cases r with
  | cons r0 rr =>
    cases rr with
    | cons r1 rr =>
      cases rr
      obtain rfl := RepT.int r0.top
      obtain rfl := RepT.int r1.top
      exact ⟨i, j, rfl, ⟨h1, h2, h3, h4⟩, q _ (wk_rng i (j - i).toNat)⟩
/-! ### what a for walks: held by a value -/
structure WkG (fx : Fx) (J : It) (xs : List D) (v : V) (d : D) : Prop where
  run : ∀ F H, Rep fx F H v d → (∀ i, i < xs.length → J.go i H) ∧ (∀ i, xs.length ≤ i → J.stop i H) ∧ ∀ i x H', i < xs.length → J.yld i H x H' → H' = H ∧ ∃ d, xs[i]? = some d ∧ Rep fx F H x d
def tIG (S : Stat) (c : C) : TI := fun σ H R => ∃ ρ h m, Ok S m σ ρ h H ∧ (match den S.g c ρ h with
  | .ok d h' => ∃ xs, items d = some xs ∧ ∀ J v0 d0 H', KeepC (S.fx m) H H' → Wd (S.fx m) S.T m.F h' H' → Rep (S.fx m) m.F H' v0 d0 → WkG (S.fx m) J xs v0 d0 → R J H'
  | .err e h' => ∀ H', KeepC (S.fx m) H H' → Wd (S.fx m) S.T m.F h' H' → ErrP S e (fun c dd => S.wx c dd σ H')
  | .bad => False)
theorem wkg_list {fx : Fx} {a : Addr} {xs : List D} : WkG fx (Itl fx.K a) xs (.ref a) (.list xs) := ⟨fun F H r => by
  obtain ⟨a', vs, e, n, ha, ra⟩ := r.list
  cases e
  have e' : SqL fx.K H a vs := SqL.of ha
  refine ⟨fun i hi => ?_, fun i hi => ⟨vs, e', by rw [ra.length]; exact hi⟩, fun i x H' hi ⟨h1, h2⟩ => ⟨h1, ra.get' (h2 vs e')⟩⟩
  have hi : i < vs.length := by rw [ra.length]; exact hi
  exact ⟨vs, vs[i], e', by simp [hi]⟩⟩
theorem wkg_tup {fx : Fx} {a : Addr} {xs : List D} : WkG fx (Itt fx.K a) xs (.ref a) (.tuple xs) := ⟨fun F H r => by
  obtain ⟨a', vs, e, ha, ra⟩ := r.tuple
  cases e
  have e' : SqT fx.K H a vs := sqT_of ha
  refine ⟨fun i hi => ?_, fun i hi => ⟨vs, e', by rw [ra.length]; exact hi⟩, fun i x H' hi ⟨h1, h2⟩ => ⟨h1, ra.get' (h2 vs e')⟩⟩
  have hi : i < vs.length := by rw [ra.length]; exact hi
  exact ⟨vs, vs[i], e', by simp [hi]⟩⟩
theorem wkg_of {fx : Fx} {J : It} {xs : List D} {v : V} {d : D} (h : ∀ F H, Wk fx F J xs (fun _ => False) H) : WkG fx J xs v d := ⟨fun F H _ => by
  obtain ⟨vs, r, run⟩ := (h F H).run
  obtain ⟨h1, h2, h3⟩ := run H Keep.refl
  exact ⟨h1, h2, fun i x H' hi y => let ⟨e, ex⟩ := h3 i x H' hi y; ⟨e, r.get' ex⟩⟩⟩
theorem i_anyG (o : XOk X S cx sc n) (he : PE X e (tE S c)) (hw : c.knd S.own = 0) : PI X tg e (tIG S c) := by
  refine ⟨fun pins s σ H R I ⟨ρ, h, m, ok, hp⟩ => ?_⟩
  refine thn (he.run pins s σ H (fun v H1 => ∃ d xs h', items d = some xs ∧ KeepC (S.fx m) H H1 ∧ Wd (S.fx m) S.T m.F h' H1 ∧ RepK (S.fx m) m (c.knd S.own) H1 v d ∧ ∀ J v0 d0, Rep (S.fx m) m.F H1 v0 d0 → WkG (S.fx m) J xs v0 d0 → R J H1) I ⟨ρ, h, m, ok, ?_⟩) fun u s1 ⟨v, H1, I1, rv, d, xs, h', ei, kp, w1, r, q⟩ => ?_
  · cases q : den S.g c ρ h with
    | bad => rw [q] at hp; exact hp.elim
    | err x h' => rw [q] at hp; exact hp
    | ok d h' =>
      rw [q] at hp
      obtain ⟨xs, e, z⟩ := hp
      exact fun v H' kp w r => ⟨d, xs, h', e, kp, w, r, fun J v0 d0 r0 wk => z J v0 d0 H' kp w r0 wk⟩
  · have hk : X.K = (S.fx m).K := o.b.K.symm
    rw [hw] at r
    have r := r.f
    cases d with
    | list ds =>
      cases ei
      obtain ⟨a, vs, rfl, na, ha, ra⟩ := r.list
      obtain rfl : u = .ref a := rv
      refine it_list I1 (SqL.of ha) ?_
      rw [hk]
      exact q _ _ _ r wkg_list
    | tuple ds =>
      cases ei
      obtain ⟨a, vs, rfl, ha, ra⟩ := r.tuple
      obtain rfl : u = .ref a := rv
      refine it_tup I1 (by rw [hk]; exact sqT_of ha) ?_
      rw [hk]
      exact q _ _ _ r wkg_tup
    | str z =>
      cases ei
      obtain rfl := RepT.str r.top
      exact it_str I1 rv (q _ _ _ r (wkg_of fun F H => wk_str z))
    | _ => cases ei
theorem tA_rngG {m : Mem} {ρ : Env} {h : Hs} {b : Blt} {cs : Cs} {Q1 : List V → Hp → Prop} (ok : Ok S m σ ρ h H) (hp : (match den S.g (.blt b cs) ρ h with
  | .ok d h' => ∃ xs, items d = some xs ∧ ∀ J v0 d0 H', KeepC (S.fx m) H H' → Wd (S.fx m) S.T m.F h' H' → Rep (S.fx m) m.F H' v0 d0 → WkG (S.fx m) J xs v0 d0 → R J H'
  | .err e h' => ∀ H', KeepC (S.fx m) H H' → Wd (S.fx m) S.T m.F h' H' → ErrP S e (fun c dd => S.wx c dd σ H')
  | .bad => False)) (k : ∀ ds d xs vs H1, bltD b ds = some d → items d = some xs → Reps (S.fx m) m.F0 H1 vs ds → (∀ J v0 d0, Rep (S.fx m) m.F H1 v0 d0 → WkG (S.fx m) J xs v0 d0 → R J H1) → Q1 vs H1) : tA S cs σ H Q1 := by
  refine ⟨ρ, h, m, ok, ?_⟩
  unfold den at hp
  cases q : dens S.g cs ρ h with
  | bad => rw [q] at hp; exact hp.elim
  | err x h' => rw [q] at hp; exact hp
  | ok ds h' =>
    rw [q] at hp
    have hp : (match lift (bltD b ds) h' with
      | .ok d h' => ∃ xs, items d = some xs ∧ ∀ J v0 d0 H', KeepC (S.fx m) H H' → Wd (S.fx m) S.T m.F h' H' → Rep (S.fx m) m.F H' v0 d0 → WkG (S.fx m) J xs v0 d0 → R J H'
      | .err e h' => ∀ H', KeepC (S.fx m) H H' → Wd (S.fx m) S.T m.F h' H' → ErrP S e (fun c dd => S.wx c dd σ H')
      | .bad => False) := hp
    cases e : bltD b ds with
    | none => rw [e] at hp; exact hp.elim
    | some d =>
      rw [e] at hp
      obtain ⟨xs, ei, z⟩ := hp
      exact fun vs H' kp w r t => k ds d xs vs H' e ei (RepsG.f0 (ok.keep kp w) r) fun J v0 d0 r0 wk => z J v0 d0 H' kp w r0 wk
theorem i_rng1G (o : XOk X S cx sc n) (hg : isGl sc "range" = true) (ha : PE X a (tE S ca)) (hs : isStar a = false) : PI X tg (.Call (.Name "range" p) [a] [] pos) (tIG S (.blt .range1 (.cons ca .nil))) := by
  refine PI.weak (pi_range1 (isGl_of o hg) (o.b.blt _ (by decide)) (a_cons ha a_nil hs) (each_plain hs _ _)) fun σ H R ⟨ρ, h, m, ok, hp⟩ => ?_
  refine tA_rngG ok hp fun ds d xs vs H1 e ei r q => ?_
  obtain ⟨j, rfl, h1, h2, rfl⟩ := bltD_r1 e
  cases ei
  cases r with
  | cons r0 rr =>
    cases rr
    obtain rfl := RepT.int r0.top
    refine ⟨j, rfl, h1, h2, q _ .non .none .non (wkg_of fun F H => ?_)⟩
    have w := wk_rng (fx := S.fx m) (F := F) (N := fun _ => False) (H := H) 0 j.toNat
    simpa using w
theorem i_rng2G (o : XOk X S cx sc n) (hg : isGl sc "range" = true) (ha : PE X a (tE S ca)) (hb : PE X b (tE S cb)) (hs : isStar a = false) (hs2 : isStar b = false) : PI X tg (.Call (.Name "range" p) [a, b] [] pos) (tIG S (.blt .range2 (.cons ca (.cons cb .nil)))) := by
  refine PI.weak (pi_range2 (isGl_of o hg) (o.b.blt _ (by decide)) (a_cons ha (a_cons hb a_nil hs2) hs) (by rw [each_plain hs, each_plain hs2]; rfl) (each_plain hs2 _ _)) fun σ H R ⟨ρ, h, m, ok, hp⟩ => ?_
  refine tA_rngG ok hp fun ds d xs vs H1 e ei r q => ?_
  obtain ⟨i, j, rfl, h1, h2, h3, h4, rfl⟩ := bltD_r2 e
  cases ei
  cases r with
  | cons r0 rr =>
    cases rr with
    | cons r1 rr =>
      cases rr
      obtain rfl := RepT.int r0.top
      obtain rfl := RepT.int r1.top
      exact ⟨i, j, rfl, ⟨h1, h2, h3, h4⟩, q _ .non .none .non (wkg_of fun F H => wk_rng i (j - i).toNat)⟩
end
end Mini

set_option Elab.async false
set_option linter.all false
set_option maxRecDepth 100000
set_option maxHeartbeats 4000000
/-! Mini, part F7: comprehensions. -/
namespace Mini
open PySem PySem.Spec PyProof.Rows L2
def Stat.quiet (S : Stat) : Stat := { S with wx := fun _ _ _ _ => False }
theorem EnvOk.keepP {X : Fx} {own : List Nat} {F0 F : Addr → Prop} {σ : L2.St} {ρ : Env} {H H' : Hp} {P : Addr → Prop} (E : EnvOk X own F0 F σ ρ H) (k : Keep P H H') (hP : ∀ b, P b → F0 b) : EnvOk X own F0 F σ ρ H' :=
  ⟨E.len, fun i d h1 h2 => let ⟨v, e, r⟩ := E.val i d h1 h2; ⟨v, e, r.keep (k.mono fun b z => E.sub b (hP b z))⟩,
    fun i d h1 h2 => let ⟨a, e, f, g, o⟩ := E.ow i d h1 h2; ⟨a, e, f, g, o.keep k (fun z => g (hP a z)) fun b z => E.sub b (hP b z)⟩, E.dis, E.sub, E.cel⟩
theorem Wd.upd {X : Fx} {T : List (Addr × Str)} {F : Addr → Prop} {h : Hs} {H : Hp} {p : Addr} {o u : HO} (W : Wd X T F h H) (fp : F p) (e : H p = some o) (mo : mutK o = true) (mu : mutK u = true) (np : p ∉ X.μ) : Wd X T F h (upd H p u) := by
  have kp : Keep F H (L2.upd H p u) := fun b o e n _ => by rw [upd_ne (fun z => n (by rw [z]; exact fp))]; exact e
  refine ⟨W.nd, W.len, fun i a ds h1 h2 => ?_, W.inF, fun a z => ?_, tabs_put W.tab e mo⟩
  · obtain ⟨xs, e1, r⟩ := W.at_ i a ds h1 h2
    have ha : a ≠ p := fun z => np (by rw [← z]; exact List.mem_of_getElem? h1)
    exact ⟨xs, by rw [upd_ne ha]; exact e1, r.keep kp⟩
  · obtain ⟨o, e1, k⟩ := W.kin a z
    by_cases ha : a = p
    · subst ha; exact ⟨u, upd_same, mu⟩
    · exact ⟨o, by rw [upd_ne ha]; exact e1, k⟩
theorem wipe_eq {a b : L2.St} {vs : List Nat} (hl : a.length = b.length) (h : ∀ j, j ∉ vs → a[j]? = b[j]?) : L2.wipe a vs = L2.wipe b vs := by
  have inn : ∀ (s : L2.St) (vs : List Nat) (j : Nat), j ∈ vs → j < s.length → (L2.wipe s vs)[j]? = some none := by
    intro s vs
    induction vs with
    | nil => intro j h; cases h
    | cons v vs ih =>
      intro j hj hl
      unfold L2.wipe
      by_cases hv : v = j
      · subst hv
        rw [List.getElem?_set_self (by rw [L2.wipe_length]; exact hl)]
      · rw [List.getElem?_set_ne hv]
        rcases List.mem_cons.mp hj with z | z
        · exact absurd z.symm hv
        · exact ih j z hl
  apply List.ext_getElem?
  intro j
  by_cases hj : j ∈ vs
  · by_cases hb : j < b.length
    · rw [inn a vs j hj (by omega), inn b vs j hj hb]
    · rw [List.getElem?_eq_none (by rw [L2.wipe_length]; omega), List.getElem?_eq_none (by rw [L2.wipe_length]; omega)]
  · rw [L2.wipe_out hj, L2.wipe_out hj]
    exact h j hj
section
variable {X : Cx} {S : Stat} {cx : Cxt} {sc : Scope} {n : Nat} {pos : Pos} {elt tg iter : Expr} {ifs : List Expr} {scope : Scope} {own : List (Str × Nat)} {cel cit ccond : C} {t : Tg}
theorem blk_ok (o : XOk X S cx sc n) {s : Shared} {H : Hp} {C : Addr} {cl : List (Str × Addr)} {fp : List Addr} : XOk (X.blk s H scope (compEnvC scope cl C X.env) fp) S.quiet cx.noTold (relS scope sc) n :=
  ⟨⟨o.b.K, o.b.w, o.b.calm, o.b.room, (fun _ _ ⟨_, _, _, _, _, _, _, _, _, _, _, _, _, _, _, _, w⟩ => w.elim), o.b.consts, o.b.gd, o.b.blt⟩, o.N, o.nd, o.own, by
    rw [← o.sc]
    rfl, fun z => absurd rfl z⟩
theorem ok_wipe {m : Mem} {σ : L2.St} {ρ : Env} {h : Hs} {H : Hp} {vs : List Nat} (ok : Ok S m σ ρ h H) : Ok S.quiet m (L2.wipe σ vs) (wipeE ρ vs) h H := ⟨ok.e.wipe, ok.w⟩
theorem drop_cons {α : Type} {xs : List α} {i : Nat} {d : α} (h : xs[i]? = some d) : xs.drop i = d :: xs.drop (i + 1) := by
  obtain ⟨hl, e⟩ := List.getElem?_eq_some_iff.mp h
  rw [List.drop_eq_getElem_cons hl, e]
theorem quiet_err {α : Type} {e : Exc} {h : Hs} : quiet (R.err e h : R α) = .bad := rfl
/-- the state of a block -/
theorem blk_state {m : Mem} {σ : L2.St} {ρ : Env} {h h2 : Hs} {H1 H2 : Hp} {D : Addr} {vs : List Nat} (ok : Ok S m σ ρ h H1) (hn : H1 D = none) (W2 : Wd (S.fx (m.add D)) S.T (m.add D).F h2 H2) (K2 : Keep (fun b => b ∈ m.μ ∨ b = D) (L2.upd H1 D (.lst [])) H2) :
    Ok S.quiet (m.add D) (L2.wipe σ vs) (wipeE ρ vs) h2 H2 := by
  have a := (ok.add (u := .lst []) hn rfl)
  exact ⟨(a.e.keepP K2 fun b z => z.elim (fun z => a.e.cel b z) fun z => .inr z).wipe, W2⟩
theorem keepG_of {m : Mem} {σ : L2.St} {ρ : Env} {h : Hs} {H1 H2 : Hp} {D : Addr} {c : C} (ok : Ok S m σ ρ h H1) (hn : H1 D = none) (K2 : Keep (fun b => b ∈ m.μ ∨ b = D) (L2.upd H1 D (.lst [])) H2) : Keep (fun b => m.F b ∧ ¬ nOf S σ ρ c b) H1 H2 := fun b o e n t => by
  have hb : b ≠ D := fun z => by rw [z, hn] at e; cases e
  refine K2 b o (by rw [upd_ne hb]; exact e) (fun z => ?_) t
  rcases z with z | z
  · refine n ⟨ok.w.inF b z, fun ⟨i, d, _, h1, h2, h3⟩ => ?_⟩
    obtain ⟨a, e1, _, f0, _⟩ := ok.e.ow i d h2 h1
    rw [h3] at e1
    cases e1
    exact f0 (ok.e.cel b z)
  · exact hb z
theorem lc_in (hs : ∀ i ∈ t.slots, i ∉ S.own) (hk : cel.knd S.own = 0) {σ : L2.St} {H : Hp} {Q : VK} (hp : tE S (.lc cel t cit ccond) σ H Q) : tLc (tI S cit) (gT S.quiet t) (tT S.quiet ccond) (tE S.quiet cel) t.slots σ H Q := by
  obtain ⟨ρ, h, m, ok, hp⟩ := hp
  have kn : (C.lc cel t cit ccond).knd S.own = 0 := by rw [C.knd]; all_goals (intros; simp_all)
  rw [kn] at hp
  unfold den at hp
  refine ⟨ρ, h, m, ok, ?_⟩
  cases q : den S.g cit ρ h with
  | bad => rw [q] at hp; exact hp.elim
  | err x h' => rw [q] at hp; exact hp
  | ok d h1 =>
    rw [q] at hp
    have hp : post S m 0 σ H Q (match items d with
      | some xs => quiet ((loopC (fun d h => turnC (fun ρ h => den S.g ccond ρ h) (fun ρ h => den S.g cel ρ h) t d (wipeE ρ t.slots) h) xs h1).bind fun ys h => listD ys h)
      | none => .bad) := hp
    cases ei : items d with
    | none => rw [ei] at hp; exact hp.elim
    | some xs =>
      rw [ei] at hp
      refine ⟨xs, ei, fun J H1 kp w1 wk D hn => ?_⟩
      obtain ⟨vs, rx, run⟩ := wk.run
      have ok1 := ok.keep kp w1
      have hp : post S m 0 σ H1 Q (quiet ((loopC (fun d h => turnC (fun ρ h => den S.g ccond ρ h) (fun ρ h => den S.g cel ρ h) t d (wipeE ρ t.slots) h) xs h1).bind fun ys h => listD ([] ++ ys) h)) := post.from hp kp
      generalize hf : (fun d h => turnC (fun ρ h => den S.g ccond ρ h) (fun ρ h => den S.g cel ρ h) t d (wipeE ρ t.slots) h) = f at hp
      have pμ : D ∉ m.μ := fun z => by
        obtain ⟨o, e, _⟩ := ok1.w.kin D (ok1.w.inF D z)
        rw [hn] at e; cases e
      have nFD : ¬ m.F D := fun z => by
        obtain ⟨o, e, _⟩ := ok1.w.kin D z
        rw [hn] at e; cases e
      have rxD := Reps.add hn rx
      refine ⟨fun i mm H2 => mm = xs.length - i ∧ i ≤ xs.length ∧ ∃ h2 acc accd, Wd (S.fx (m.add D)) S.T (m.add D).F h2 H2 ∧ Keep (fun b => b ∈ m.μ ∨ b = D) (L2.upd H1 D (.lst [])) H2 ∧ H2 D = some (.lst acc) ∧ Reps (S.fx m) (m.add D).F H2 acc accd ∧
        post S m 0 σ H1 Q (quiet ((loopC f (xs.drop i) h2).bind fun ys h => listD (accd ++ ys) h)), ⟨xs.length, by simp, Nat.zero_le _, h1, [], [], (ok1.add hn rfl).w, Keep.refl, upd_same, .nil, by rw [List.drop_zero]; exact hp⟩, ?_⟩
      rintro i mm H2 ⟨rfl, hi, h2, acc, accd, W2, K2, eD, rA, hpost⟩
      obtain ⟨go, stop, yld⟩ := run H2 (keepG_of ok1 hn K2)
      by_cases hlt : i < xs.length
      · refine .inr ⟨go i hlt, fun H2 => ∃ h2 acc accd, Wd (S.fx (m.add D)) S.T (m.add D).F h2 H2 ∧ Keep (fun b => b ∈ m.μ ∨ b = D) (L2.upd H1 D (.lst [])) H2 ∧ H2 D = some (.lst acc) ∧ Reps (S.fx m) (m.add D).F H2 acc accd ∧
          post S m 0 σ H1 Q (quiet ((loopC f (xs.drop (i + 1)) h2).bind fun ys h => listD (accd ++ ys) h)), fun H' p => ⟨xs.length - (i + 1), by omega, rfl, hlt, p⟩, fun x H' y => ?_⟩
        obtain ⟨rfl, ex⟩ := yld i x H' hlt y
        obtain ⟨d, ed, rd⟩ := rxD.get' ex
        have okS := blk_state (vs := t.slots) ok1 hn W2 K2
        have KF : Keep (m.add D).F (L2.upd H1 D (.lst [])) H' := K2.mono fun b z => z.elim (fun z => .inl (ok1.w.inF b z)) .inr
        have rd2 : Rep (S.fx m) (m.add D).F H' x d := (rd.keep (Keep.upd hn)).keep KF
        rw [drop_cons ed] at hpost
        unfold loopC at hpost
        have ef : f d h2 = turnC (fun ρ h => den S.g ccond ρ h) (fun ρ h => den S.g cel ρ h) t d (wipeE ρ t.slots) h2 := by rw [← hf]
        rw [ef] at hpost
        unfold turnC at hpost
        cases st : setTg t d (wipeE ρ t.slots) with
        | none => rw [st] at hpost; exact hpost.elim
        | some ρ' =>
          rw [st] at hpost
          dsimp only at hpost
          refine ⟨_, d, ρ', m.add D, h2, okS, rd2, st, hs, fun σ' ok' hl hout => ⟨wipe_eq (by rw [hl, L2.wipe_length]) (fun j hj => by rw [hout j hj, L2.wipe_out hj]), ρ', h2, m.add D, ok', ?_⟩⟩
          show postT S.quiet (m.add D) σ' H' _ (den S.g ccond ρ' h2)
          cases q2 : den S.g ccond ρ' h2 with
          | bad => rw [q2] at hpost; exact hpost.elim
          | err e h3 => rw [q2] at hpost; exact hpost.elim
          | ok bd h3 =>
            rw [q2] at hpost
            have hpost : post S m 0 σ H1 Q (quiet (((match tv bd with
              | some true => (den S.g cel ρ' h3).bind fun y h => .ok (some y) h
              | some false => .ok none h3
              | none => .bad).bind fun o h => (loopC f (xs.drop (i + 1)) h).bind fun ys h => .ok (match o with
                | some y => y :: ys
                | none => ys) h).bind fun ys h => listD (accd ++ ys) h)) := hpost
            cases tb : tv bd with
            | none => rw [tb] at hpost; exact hpost.elim
            | some b =>
              rw [tb] at hpost
              refine ⟨b, tb, fun H3 k3 w3 => ?_⟩
              have K3 : Keep (fun b => b ∈ m.μ ∨ b = D) (L2.upd H1 D (.lst [])) H3 := K2.trans (k3.mono fun b z => .inl z)
              have eD3 : H3 D = some (.lst acc) := k3 D _ eD pμ (fun ps z => by cases z)
              have kμF : ∀ b, b ∈ m.μ → (m.add D).F b := fun b z => .inl (ok1.w.inF b z)
              cases b with
              | false =>
                refine Eq.mpr (if_neg Bool.false_ne_true) ?_
                have hpost : post S m 0 σ H1 Q (quiet (((loopC f (xs.drop (i + 1)) h3).bind fun ys h => .ok ys h).bind fun ys h => listD (accd ++ ys) h)) := hpost
                rw [R.assoc] at hpost
                exact ⟨h3, acc, accd, w3, K3, eD3, rA.keep (k3.mono kμF), hpost⟩
              | true =>
                refine Eq.mpr (if_pos rfl) ?_
                have hpost : post S m 0 σ H1 Q (quiet ((((den S.g cel ρ' h3).bind fun y h => R.ok (some y) h).bind fun o h => (loopC f (xs.drop (i + 1)) h).bind fun ys h => .ok (match o with
                | some y => y :: ys
                | none => ys) h).bind fun ys h => listD (accd ++ ys) h)) := hpost
                refine ⟨ρ', h3, m.add D, ok'.keep k3 w3, ?_⟩
                show post S.quiet (m.add D) (cel.knd S.own) σ' H3 _ (den S.g cel ρ' h3)
                rw [hk]
                cases q3 : den S.g cel ρ' h3 with
                | bad => rw [q3] at hpost; exact hpost.elim
                | err e h4 => rw [q3] at hpost; exact hpost.elim
                | ok y h4 =>
                  rw [q3] at hpost
                  have hpost : post S m 0 σ H1 Q (quiet (((loopC f (xs.drop (i + 1)) h4).bind fun ys h => .ok (y :: ys) h).bind fun ys h => listD (accd ++ ys) h)) := hpost
                  rw [R.assoc] at hpost
                  intro yv H4 k4 w4 r4
                  have r4 := r4.f
                  have eD4 : H4 D = some (.lst acc) := k4 D _ eD3 pμ (fun ps z => by cases z)
                  have K4 : Keep (fun b => b ∈ m.μ ∨ b = D) (L2.upd H1 D (.lst [])) H4 := K3.trans (k4.mono fun b z => .inl z)
                  have rA4 : Reps (S.fx m) (m.add D).F H4 acc accd := rA.keep ((k3.trans k4).mono kμF)
                  have hlen : acc.length < sizeLine := by
                    cases q5 : loopC f (xs.drop (i + 1)) h4 with
                    | bad => rw [q5] at hpost; exact hpost.elim
                    | err e h5 => rw [q5] at hpost; exact hpost.elim
                    | ok ys h5 =>
                      rw [q5] at hpost
                      have hpost : post S m 0 σ H1 Q (quiet (listD (accd ++ (y :: ys)) h5)) := hpost
                      unfold listD at hpost
                      by_cases hl : (accd ++ (y :: ys)).length ≤ bigLine
                      · rw [List.length_append, List.length_cons] at hl
                        rw [rA4.length]
                        exact big_lt (by omega)
                      · rw [if_neg hl] at hpost; exact hpost.elim
                  have kD : Keep (m.add D).F H4 (L2.upd H4 D (.lst (acc ++ [yv]))) := fun b o e n _ => by rw [upd_ne (fun z => n (.inr z))]; exact e
                  refine ⟨acc, eD4, hlen, h4, acc ++ [yv], accd ++ [y], w4.upd (.inr rfl) eD4 rfl rfl pμ, K4.trans fun b o e n _ => ?_, upd_same, (rA4.append (.cons r4 .nil)).keep kD, ?_⟩
                  · rw [upd_ne (fun z => n (.inr z))]; exact e
                  · have ee : (fun ys h => listD (accd ++ [y] ++ ys) h) = fun ys h => listD (accd ++ (y :: ys)) h := by
                      funext ys h
                      rw [List.append_assoc]; rfl
                    rw [ee]
                    exact hpost
      · refine .inl ⟨stop i (by omega), ?_⟩
        have ed : xs.drop i = [] := List.drop_eq_nil_of_le (by omega)
        rw [ed] at hpost
        have hpost : post S m 0 σ H1 Q (quiet (listD (accd ++ []) h2)) := hpost
        rw [List.append_nil] at hpost
        unfold listD at hpost
        by_cases hl : accd.length ≤ bigLine
        · rw [if_pos hl] at hpost
          refine hpost (.ref D) H2 (fun b o e n t => ?_) (W2.less (fun a z => .inl z) ok1.w.inF) (.lst nFD eD (rA.less fun a z => .inl z))
          have hb : b ≠ D := fun z => by rw [z, hn] at e; cases e
          exact K2 b o (by rw [upd_ne hb]; exact e) (fun z => z.elim n hb) t
        · rw [if_neg hl] at hpost; exact hpost.elim
theorem pts_of {X : Cx} {ifs : List Expr} {t : TT} (h : (ifs = [] ∧ t = tT S (.lit (.bool true))) ∨ ∃ c, ifs = [c] ∧ PT X c t) : PTs X ifs t := by
  rcases h with ⟨rfl, rfl⟩ | ⟨c, rfl, h⟩
  · refine ⟨fun pins s σ H Q I ⟨ρ, h, m, ok, hp⟩ => pts_nil.run pins s σ H Q I ?_⟩
    unfold den at hp
    obtain ⟨b, e, q⟩ := hp
    cases e
    exact q H Keep.refl ok.w
  · exact pts_one h
theorem fold_none {k : Nat} {c : C} {e : Expr} (h : compE cx k e sc = some c) : ∀ (env : PySem.Env) (x : Value), foldedSetIterable e env x = pure x := fun env x => by
  cases e <;> try rfl
  cases k <;> cases h
/-- a comprehension of one clause -/
theorem e_lc (o : XOk X S cx sc n) (hb : blkC cx.N sc scope own = true) (hown : own.map (·.2) = t.slots) (hs : ∀ i ∈ t.slots, i ∉ S.own) (hk : cel.knd S.own = 0) (hi : PI X tg iter (tI S cit))
    (hg : ∀ (s : Shared) (H : Hp) (C : Addr) (cl : List (Str × Addr)) (fp : List Addr), PG (X.blk s H scope (compEnvC scope cl C X.env) fp) tg (gT S.quiet t)) (ht : ∀ (s : Shared) (H : Hp) (C : Addr) (cl : List (Str × Addr)) (fp : List Addr), PTs (X.blk s H scope (compEnvC scope cl C X.env) fp) ifs (tT S.quiet ccond))
    (he : ∀ (s : Shared) (H : Hp) (C : Addr) (cl : List (Str × Addr)) (fp : List Addr), PE (X.blk s H scope (compEnvC scope cl C X.env) fp) elt (tE S.quiet cel)) (hf : ∀ x, foldedSetIterable iter X.env x = pure x) :
    PE X (.ListComp elt [⟨tg, iter, ifs, 0⟩] scope pos) (tE S (.lc cel t cit ccond)) := by
  have bo : BlkOk X.N X.env.scope scope own := by rw [o.N, o.sc]; exact blkOk_by hb
  refine PE.weak (pe_lc o.b.calm (by rw [o.N]; exact o.nd) hi bo hg ht he hf) fun σ H Q hp => ?_
  rw [hown]
  exact lc_in hs hk hp
end
end Mini

set_option Elab.async false
set_option linter.all false
set_option maxRecDepth 100000
set_option maxHeartbeats 4000000
/-! Mini, part F8: isinstance, calls of the module's own. -/
namespace Mini
open PySem PySem.Spec PyProof.Rows L2
/-- what a def promises -/
def spF (K : PySem.W.Frag) (w : World) (T : List (Addr × Str)) (exA : Str → Option Addr) (k : Nat) (call : List D → Hs → R D) : Sp := fun vs H Q E => vs.length = k ∧ ∃ μ F h ds, Reps ⟨K, w, μ⟩ F H vs ds ∧ Wd ⟨K, w, μ⟩ T F h H ∧ (match call ds h with
  | .ok d h' => ∀ v H', KeepC ⟨K, w, μ⟩ H H' → Wd ⟨K, w, μ⟩ T F h' H' → Rep ⟨K, w, μ⟩ F H' v d → Q v H'
  | .err e h' => ∀ H', KeepC ⟨K, w, μ⟩ H H' → Wd ⟨K, w, μ⟩ T F h' H' → ∀ C, exA e.cls = some C → E (.ref C) none H'
  | .bad => False)
/-- FnOk, where nothing is being shown -/
structure FnG (P : Program) (w : World) (K : PySem.W.Frag) (mg : Str → Option Value) (base : Heap) (CX : CXT) (k : Nat) (f : Addr) (fd : FuncData) (ps : List Str) (sp : Sp) : Prop where
  len : ∀ vs H Q E, sp vs H Q E → vs.length = ps.length
  run : ∀ (A : Around) (outer : List PySem.Env) (s : Shared) (H : Hp) (args : Args) (us : List Value) (vs : List V) (Q : VK) (E : XK), A.guards = some [] → Room k A → Env0 P w K mg base A outer s H →
    BindsTo s fd args (ps.zip us) → Vals vs us → sp vs H Q E → codeAny (model P w) A (.call (.ref f) args) (CR CX outer P w H s Q E) s
/-- the defs that a body may call, j: how deep -/
def FnsOk (X : Cx) (S : Stat) (sg : Sig) (j : Nat) : Prop := ∀ f k, sg.fns.lookup f = some k → (sg.gfns.contains f = true → sg.rep = true) → ∃ (a : Addr) (fd : FuncData) (ps : List Str), X.mg f = some (.ref a) ∧ PySem.W.keepIn X.K (.ref a) = true ∧ Binds X.K fd ps [] ∧
  ((sg.gfns.contains f = false ∧ FnOk X.prog X.w X.K X.mg X.base (L2N.CX X.prog X.w) j a fd ps (spF S.K S.w S.T S.exA k (S.g.call f))) ∨ (sg.gfns.contains f = true ∧ X.A.guards = some [] ∧ FnG X.prog X.w X.K X.mg X.base (L2N.CX X.prog X.w) j a fd ps (spF S.K S.w S.T S.exA k (S.g.call f))))
/-- a call of such a def -/
theorem pe_callG {X : Cx} {k : Nat} {f : Addr} {fd : FuncData} {ps : List Str} {sp : Sp} {E : L2.St → XK} {x : Str} {p pos : Pos} {e : Expr} {es : List Expr} {t : TA} (F : FnG X.prog X.w X.K X.mg X.base (L2N.CX X.prog X.w) k f fd ps sp) (gd : X.A.guards = some []) (hr : Room k X.A) (hg : Gl X x) (hm : X.mg x = some (.ref f))
    (hk : PySem.W.keepIn X.K (.ref f) = true) (hb : Binds X.K fd ps []) (hx : ∀ σ, PassesAt (L2N.CX X.prog X.w) X σ (E σ)) (ha : PA X (e :: es) t) (hdb : (x == ("__debug__" : Str)) = false) (he : starEach (e :: es) X.env = (false, eval e X.env) :: starEach es X.env)
    (hpl : (backTo pos (starEach es X.env)).any (·.1) = false) : PE X (.Call (.Name x p) (e :: es) [] pos) (tCallS sp E t) := by
  refine ⟨fun pins s σ H Q I h => wpAny_Call_Name_kw (ld_glob I hg hm ?_ hdb)⟩
  have args := ha.run pos pins s σ H _ I h
  refine PySem.W.callWith_K (h₀ := X.base) I.ok.mod.kin hk (thn args fun us s1 hh => ?_) he hpl
  obtain ⟨vs, H1, I1, r, q⟩ := hh
  refine ⟨I1.kIn, ?_⟩
  have hl : us.length = ps.length := r.length.symm.trans (F.len _ _ _ _ q)
  have b : BindsTo s1 fd ⟨us, []⟩ (ps.zip us) := by
    have b0 := hb s1 us I1.kIn (by simpa using hl)
    simpa using b0
  have run := F.run X.A X.stack s1 H1 ⟨us, []⟩ us vs Q (E σ) gd hr I1.env0 b r q
  refine wpAny_call (codeAny_mono run fun res s2 hq => ?_)
  cases res with
  | error e => exact hx σ pins H1 s1 e s2 I1 hq
  | ok fl =>
    cases fl with
    | ret u => exact I1.after hq
    | _ => exact hq.elim
section
variable {K : PySem.W.Frag} {w : World} {μ μ' : List Addr} {F : Addr → Prop} {H : Hp}
mutual
theorem Rep.mu : ∀ {v : V} {d : D}, Rep ⟨K, w, μ⟩ F H v d → noD d = true → Rep ⟨K, w, μ'⟩ F H v d
  | _, _, .non, _ => .non
  | _, _, .bl b, _ => .bl b
  | _, _, .int i, _ => .int i
  | _, _, .str x, _ => .str x
  | _, _, .tup h r, e => .tup h (Reps.mu r (by unfold noD at e; exact e))
  | _, _, .lst n h r, e => .lst n h (Reps.mu r (by unfold noD at e; exact e))
  | _, _, .scr _, e => by unfold Mini.scr noD at e; cases e
  | _, _, .dct _ _ _ _, e => by unfold noD at e; cases e
  | _, _, .kdc _ _, e => by unfold Mini.tbl noD at e; cases e
  | _, _, .cel _, e => by unfold Mini.cel noD at e; cases e
theorem Reps.mu : ∀ {v : List V} {d : List D}, Reps ⟨K, w, μ⟩ F H v d → noDs d = true → Reps ⟨K, w, μ'⟩ F H v d
  | _, _, .nil, _ => .nil
  | _, _, .cons a r, e => by
    unfold noDs at e
    have e' := Bool.and_eq_true_iff.mp e
    exact .cons (Rep.mu a e'.1) (Reps.mu r e'.2)
end
mutual
theorem flat_noD : ∀ {d : D}, flat d = true → noD d = true
  | .none, _ => rfl
  | .bool _, _ => rfl
  | .int _, _ => rfl
  | .str _, _ => rfl
  | .tuple xs, e => by unfold flat at e; unfold noD; exact flats_noDs e
  | .list _, e => by unfold flat at e; cases e
  | .dict _, e => by unfold flat at e; cases e
theorem flats_noDs : ∀ {d : List D}, flats d = true → noDs d = true
  | [], _ => rfl
  | x :: xs, e => by
    unfold flats at e
    have e' := Bool.and_eq_true_iff.mp e
    unfold noDs
    rw [flat_noD e'.1, flats_noDs e'.2]
    rfl
end
end
def Cs.noStar : Cs → Bool
  | .nil => true
  | .cons _ r => r.noStar
  | .star _ _ => false
theorem dens_length {g : G} {ρ : Env} : ∀ {cs : Cs} {h h' : Hs} {ds : List D}, cs.noStar = true → dens g cs ρ h = .ok ds h' → ds.length = cs.len
  | .nil, h, h', ds, _, e => by unfold dens at e; cases e; rfl
  | .cons c r, h, h', ds, n, e => by
    unfold dens at e
    cases q : den g c ρ h with
    | bad => rw [q] at e; cases e
    | err x h1 => rw [q] at e; cases e
    | ok d h1 =>
      rw [q] at e
      have e : ((dens g r ρ h1).bind fun xs h => R.ok (d :: xs) h) = .ok ds h' := e
      cases q2 : dens g r ρ h1 with
      | bad => rw [q2] at e; cases e
      | err x h2 => rw [q2] at e; cases e
      | ok xs h2 =>
        rw [q2] at e
        cases e
        rw [List.length_cons, dens_length (cs := r) n q2]
        rfl
section
variable {X : Cx} {S : Stat} {cx : Cxt} {sc : Scope} {n : Nat} {a b e : Expr} {es : List Expr} {c ca cb : C} {cs : Cs} {pos p p2 : Pos}
/-- the arguments, by what they compute -/
theorem tA_bind2 {m : Mem} {σ : L2.St} {ρ : Env} {h : Hs} {H : Hp} {a : Cs} {kk : Nat} {Q : VK} {Q1 : List V → Hp → Prop} {f : List D → Hs → R D} (o : Ok S m σ ρ h H) (hp : post S m kk σ H Q ((dens S.g a ρ h).bind f))
    (k : ∀ ds h' vs H', dens S.g a ρ h = .ok ds h' → Ok S m σ ρ h' H' → KeepC (S.fx m) H H' → (if a.knd S.own = 0 then Reps (S.fx m) m.F H' vs ds else Reps (S.fx m) m.F0 H' vs ds) → (a.knd S.own ≤ 1 → RepTs (S.fx m) m.F H' vs ds) → post S m kk σ H' Q (f ds h') → Q1 vs H') : tA S a σ H Q1 := by
  refine ⟨ρ, h, m, o, ?_⟩
  cases q : dens S.g a ρ h with
  | ok d h' => rw [q] at hp; exact fun v H' kp w r rt => k d h' v H' q (o.keep kp w) kp r rt (post.from hp kp)
  | err e h' => rw [q] at hp; exact hp
  | bad => rw [q] at hp; exact hp
/-- a call of a def -/
theorem e_call {f : Str} {k : Nat} (x : XOk X S cx sc n) (fo : FnsOk X S cx.sig n) (hgf : cx.sig.gfns.contains f = true → cx.sig.rep = true) (hg : isGl sc f = true) (hl : cx.sig.fns.lookup f = some k) (hn : cs.len = k) (hns : cs.noStar = true) (ha : PA X (a :: es) (tA S cs)) (hs : (a :: es).any isStar = false) :
    PE X (.Call (.Name f p) (a :: es) [] pos) (tE S (.call f (decide (cs.knd S.own ≠ 0)) cs)) := by
  rw [List.any_cons, Bool.or_eq_false_iff] at hs
  obtain ⟨d1, _, _⟩ := plain_ok (gl_plain hg)
  obtain ⟨ad, fd, ps, hm, hk, hb, F⟩ := fo f k hl hgf
  have base : PE X (.Call (.Name f p) (a :: es) [] pos) (tCallS (spF S.K S.w S.T S.exA k (S.g.call f)) (WE S.wx) (tA S cs)) := by
    rcases F with ⟨_, F⟩ | ⟨_, gd, F⟩
    · exact pe_callS F x.b.room (isGl_of x hg) hm hk hb (fun σ => L2N.passAt x.b.tk σ) ha d1 (each_plain hs.1 _ _) (no_star hs.2 _ _)
    · exact pe_callG F gd x.b.room (isGl_of x hg) hm hk hb (fun σ => L2N.passAt x.b.tk σ) ha d1 (each_plain hs.1 _ _) (no_star hs.2 _ _)
  refine PE.weak base fun σ H Q ⟨ρ, h, m, ok, hp⟩ => ?_
  unfold den at hp
  have kn : (C.call f (decide (cs.knd S.own ≠ 0)) cs).knd S.own = 0 := by rw [C.knd]; all_goals (intros; simp_all)
  rw [kn] at hp
  refine tA_bind2 ok hp fun ds h1 vs H1 q0 o1 k1 r1 t1 hp1 => ?_
  have hlen : vs.length = k := by rw [RepsG.length' r1, dens_length hns q0, hn]
  by_cases z : cs.knd S.own = 0
  · rw [if_pos z] at r1
    rw [if_neg (by simp [z])] at hp1
    refine ⟨hlen, m.μ, m.F, h1, ds, r1, o1.w, ?_⟩
    cases q : S.g.call f ds h1 with
    | bad => rw [q] at hp1; exact hp1.elim
    | err e h2 =>
      rw [q] at hp1
      exact fun H' kp w C hC => hp1 H' kp w C hC
    | ok d h2 =>
      rw [q] at hp1
      exact fun v H' kp w r => hp1 v H' kp w r
  · rw [if_neg z] at r1
    rw [if_pos (by simp [z])] at hp1
    unfold callG at hp1
    by_cases nd : noDs ds = true
    · rw [if_pos nd] at hp1
      refine ⟨hlen, [], m.F0, [], ds, Reps.mu r1 nd, ⟨List.nodup_nil, rfl, (fun i a ds e => by simp at e), (fun a e => by cases e), fun a z => o1.w.kin a (o1.e.sub a z), o1.w.tab⟩, ?_⟩
      have up : ∀ H', KeepC ⟨S.K, S.w, []⟩ H1 H' → Wd ⟨S.K, S.w, []⟩ S.T m.F0 [] H' → KeepC (S.fx m) H1 H' ∧ Wd (S.fx m) S.T m.F h1 H' := fun H' kp w => by
        have k0 : Keep (fun _ => False) H1 H' := kp.mono fun b z => by cases z
        refine ⟨k0.mono fun b z => z.elim, o1.w.nd, o1.w.len, fun i a ds e1 e2 => ?_, o1.w.inF, fun a z => ?_, w.tab⟩
        · obtain ⟨xs, e3, r⟩ := o1.w.at_ i a ds e1 e2
          exact ⟨xs, k0 _ _ e3 id (fun ps z => by cases z), r.keep (k0.mono fun b z => z.elim)⟩
        · obtain ⟨o, e3, k⟩ := o1.w.kin a z
          exact ⟨o, k0 _ _ e3 id (fun ps z => by rw [z] at k; cases k), k⟩
      have wl : ∀ {h2 : Hs} {H' : Hp}, Wd ⟨S.K, S.w, []⟩ S.T m.F0 h2 H' → Wd ⟨S.K, S.w, []⟩ S.T m.F0 [] H' := fun w => ⟨List.nodup_nil, rfl, (fun i a ds e => by simp at e), (fun a e => by cases e), w.kin, w.tab⟩
      cases q : S.g.call f ds [] with
      | bad => rw [q] at hp1; exact hp1.elim
      | err e h2 =>
        rw [q] at hp1
        exact fun H' kp w C hC => hp1 H' (up H' kp (wl w)).1 (up H' kp (wl w)).2 C hC
      | ok d h2 =>
        rw [q] at hp1
        by_cases fl : flat d = true
        · have hp1 : post S m 0 σ H1 Q (if flat d = true then R.ok d h1 else .bad) := hp1
          rw [if_pos fl] at hp1
          intro v H' kp w r
          exact hp1 v H' (up H' kp (wl w)).1 (up H' kp (wl w)).2 (Rep.mu (r.ofFlat (up H' kp (wl w)).2.kin fl) (flat_noD fl))
        · have hp1 : post S m 0 σ H1 Q (if flat d = true then R.ok d h1 else .bad) := hp1
          rw [if_neg fl] at hp1
          exact hp1.elim
    · rw [if_neg nd] at hp1; exact hp1.elim
/-! ### isinstance -/
def rIsiX (X : Cx) (b : Blt) (T : String) : List V → Hp → VK → Prop := fun xs H Q => ∃ fx : Fx, fx.K = X.K ∧ rIsiD fx b T xs H Q
theorem e_isi {b : Blt} {T : String} {t : Str} (x : XOk X S cx sc n) (hc : ∀ fx : Fx, fx.K = X.K → CallR X (.builtin "isinstance") (rIsiD fx b T)) (hb : plainB b = true) (hg : isGl sc "isinstance" = true) (hgt : isGl sc t = true) (hm : X.mg t = none) (hv : bootBuiltins t = some (.type T))
    (ha : PE X a (tE S ca)) (hs : isStar a = false) (hfl : ∀ d d', bltD b [d] = some d' → flat d' = true) : PE X (.Call (.Name "isinstance" p) [a, .Name t p2] [] pos) (tE S (.blt b (.cons ca .nil))) := by
  obtain ⟨d1, _, d3⟩ := plain_ok (gl_plain hgt)
  refine PE.weak (pe_callB (r := rIsiX X b T) (fun pins s σ H vs us Q I r ⟨fx, hK, q⟩ => hc fx hK pins s σ H vs us Q I r q) (isGl_of x hg) (x.b.blt _ (by decide)) (by rfl) (pa_cons ha (pa_cons (pe_bltn (isGl_of x hgt) hm hv (v := .ty T) rfl d3 d1) pa_nil) (each_plain hs _ _)) (by decide) (by decide) (each_plain hs _ _)) fun σ H Q ⟨ρ, h, m, ok, hp⟩ => ?_
  unfold den at hp
  have kn : (C.blt b (.cons ca .nil)).knd S.own = if 2 ≤ (Cs.cons ca .nil).knd S.own then 2 else 0 := by cases b <;> first | rfl | cases hb
  rw [kn, dens_one, R.assoc] at hp
  refine tE_bind ok hp fun d h1 v H1 o1 k1 r1 hp1 => ?_
  obtain ⟨d', e, hp2⟩ := lift_some hp1
  refine ⟨S.fx m, x.b.K, m.F0, v, d, d', rfl, rep0 o1 r1, e, fun v' H' ex r => ?_⟩
  refine hp2 v' H' (Keep.of ex) (o1.w.ext ex) ?_
  refine ite_le o1.e.sub (k := 0) ?_ (Nat.zero_le _)
  exact Rep.ofFlat (o1.w.ext ex).kin r (hfl d d' e)
end
end Mini

set_option Elab.async false
set_option linter.all false
set_option maxRecDepth 100000
set_option maxHeartbeats 4000000
/-! Mini, part G1: statements. -/
namespace Mini
open PySem PySem.Spec PyProof.Rows L2
theorem PS.weak {X : Cx} {e : Stmt} {t t' : TS} (h : PS X e t) (w : ∀ D σ H, t' D σ H → t D σ H) : PS X e t' := ⟨fun pins s σ H D I q => h.run pins s σ H D I (w D σ H q)⟩
theorem PSs.weak {X : Cx} {e : List Stmt} {t t' : TS} (h : PSs X e t) (w : ∀ D σ H, t' D σ H → t D σ H) : PSs X e t' := ⟨fun pins s σ H D I q => h.run pins s σ H D I (w D σ H q)⟩
/-- the state of a body; HB: the heap at its entry -/
structure OkS (S : Stat) (m : Mem) (HB : Hp) (G : List (V × Mini.D)) (σ : L2.St) (ρ : Env) (h : Hs) (H : Hp) : Prop where
  ok : Ok S m σ ρ h H
  kb : KeepC (S.fx m) HB H
  nw : ∀ a, m.F a → m.F0 a ∨ ∀ o, HB a = some o → ¬ NoTbl o
  gv : ∀ p ∈ G, Rep (S.fx m) m.F H p.1 p.2
def postS (S : Stat) (μ : List Addr) (F0 : Addr → Prop) (HB : Hp) (G : List (V × Mini.D)) (D : Ends) : RS → Prop
  | .next ρ' h' => ∀ σ' H' F', OkS S ⟨μ, F0, F'⟩ HB G σ' ρ' h' H' → D.nx σ' H'
  | .brk ρ' h' => ∀ σ' H' F', OkS S ⟨μ, F0, F'⟩ HB G σ' ρ' h' H' → D.bk σ' H'
  | .cnt ρ' h' => ∀ σ' H' F', OkS S ⟨μ, F0, F'⟩ HB G σ' ρ' h' H' → D.ct σ' H'
  | .ret d h' => ∀ v H', KeepC ⟨S.K, S.w, μ⟩ HB H' → Wd ⟨S.K, S.w, μ⟩ S.T F0 h' H' → Rep ⟨S.K, S.w, μ⟩ F0 H' v d → D.rt v H'
  | .err e h' => ∀ σ' H', KeepC ⟨S.K, S.w, μ⟩ HB H' → Wd ⟨S.K, S.w, μ⟩ S.T F0 h' H' → ErrP S e (fun c dd => S.wx c dd σ' H')
  | .bad => False
def tS (S : Stat) (s : Mini.S) : TS := fun D σ H => ∃ ρ h m HB G, OkS S m HB G σ ρ h H ∧ postS S m.μ m.F0 HB G D (denS S.g s ρ h)
def tSs (S : Stat) (s : Ss) : TS := fun D σ H => ∃ ρ h m HB G, OkS S m HB G σ ρ h H ∧ postS S m.μ m.F0 HB G D (denSs S.g s ρ h)
section
variable {S : Stat} {m : Mem} {σ σ' : L2.St} {ρ ρ' : Env} {h h' : Hs} {H H' HB : Hp} {De : Ends} {G : List (V × Mini.D)} {c : C} {Q1 : VK}
theorem OkS.keep (o : OkS S m HB G σ ρ h H) (kp : KeepC (S.fx m) H H') (w : Wd (S.fx m) S.T m.F h' H') : OkS S m HB G σ ρ h' H' := ⟨o.ok.keep kp w, o.kb.trans kp, o.nw, fun p hp => (o.gv p hp).keep (kp.mono fun b z => o.ok.w.inF b z)⟩
theorem OkS.wd0 (o : OkS S m HB G σ ρ h H) (kp : KeepC (S.fx m) H H') (w : Wd (S.fx m) S.T m.F h' H') : Wd (S.fx m) S.T m.F0 h' H' := w.less o.ok.e.sub o.ok.e.cel
/-- a value, then the rest -/
theorem tE_then {f : D → Hs → RS} (o : OkS S m HB G σ ρ h H) (hp : postS S m.μ m.F0 HB G De ((den S.g c ρ h).thenS f))
    (k : ∀ d h' v H', OkS S m HB G σ ρ h' H' → KeepC (S.fx m) H H' → RepK (S.fx m) m (c.knd S.own) H' v d → postS S m.μ m.F0 HB G De (f d h') → Q1 v H') : tE S c σ H Q1 := by
  refine ⟨ρ, h, m, o.ok, ?_⟩
  cases q : den S.g c ρ h with
  | ok d h' => rw [q] at hp; exact fun v H' kp w r => k d h' v H' (o.keep kp w) kp r hp
  | err e h' => rw [q] at hp; exact fun H' kp w => hp σ H' (o.kb.trans kp) (o.wd0 kp w)
  | bad => rw [q] at hp; exact hp.elim
theorem tT_then {Q1 : Bool → Hp → Prop} {f : D → Hs → RS} (o : OkS S m HB G σ ρ h H) (hp : postS S m.μ m.F0 HB G De ((den S.g c ρ h).thenS f)) (hn : ∀ d h', tv d = none → f d h' = .bad)
    (k : ∀ d h' b H', tv d = some b → OkS S m HB G σ ρ h' H' → postS S m.μ m.F0 HB G De (f d h') → Q1 b H') : tT S c σ H Q1 := by
  refine ⟨ρ, h, m, o.ok, ?_⟩
  cases q : den S.g c ρ h with
  | ok d h' =>
    rw [q] at hp
    have hp : postS S m.μ m.F0 HB G De (f d h') := hp
    cases t : tv d with
    | none => rw [hn d h' t] at hp; exact hp.elim
    | some b => exact ⟨b, t, fun H' kp w => k d h' b H' t (o.keep kp w) hp⟩
  | err e h' => rw [q] at hp; exact fun H' kp w => hp σ H' (o.kb.trans kp) (o.wd0 kp w)
  | bad => rw [q] at hp; exact hp.elim
theorem tA_then {cs : Cs} {Q1 : List V → Hp → Prop} {f : List D → Hs → RS} (o : OkS S m HB G σ ρ h H) (hp : postS S m.μ m.F0 HB G De ((dens S.g cs ρ h).thenS f))
    (k : ∀ ds h' vs H', OkS S m HB G σ ρ h' H' → KeepC (S.fx m) H H' → (if cs.knd S.own = 0 then Reps (S.fx m) m.F H' vs ds else Reps (S.fx m) m.F0 H' vs ds) → postS S m.μ m.F0 HB G De (f ds h') → Q1 vs H') : tA S cs σ H Q1 := by
  refine ⟨ρ, h, m, o.ok, ?_⟩
  cases q : dens S.g cs ρ h with
  | ok d h' => rw [q] at hp; exact fun v H' kp w r _ => k d h' v H' (o.keep kp w) kp r hp
  | err e h' => rw [q] at hp; exact fun H' kp w => hp σ H' (o.kb.trans kp) (o.wd0 kp w)
  | bad => rw [q] at hp; exact hp.elim
/-- x = e -/
theorem in_asgT {t : Tg} (hs : ∀ i ∈ t.slots, i ∉ S.own) (hk : c.knd S.own = 0) (hp : tS S (.asg t c) De σ H) : tE S c σ H fun x H1 => gT S t x σ H1 De.nx := by
  obtain ⟨ρ, h, m, HB, G, o, hp⟩ := hp
  unfold denS at hp
  refine tE_then o hp fun d h1 v H1 o1 k1 r1 hp1 => ?_
  rw [hk] at r1
  cases st : setTg t d ρ with
  | none => rw [st] at hp1; exact hp1.elim
  | some ρ' =>
    rw [st] at hp1
    exact ⟨ρ, d, ρ', m, h1, o1.ok, r1.f, st, hs, fun σ' ok' _ _ => hp1 σ' H1 m.F ⟨ok', o1.kb, o1.nw, o1.gv⟩⟩
theorem in_asgN {i : Nat} (hs : i ∉ S.own) (hk : c.knd S.own = 0) (hp : tS S (.asg (.nm i) c) De σ H) : tE S c σ H fun x H1 => gName i x σ H1 De.nx := by
  obtain ⟨ρ, h, m, HB, G, o, hp⟩ := hp
  unfold denS at hp
  refine tE_then o hp fun d h1 v H1 o1 k1 r1 hp1 => ?_
  rw [hk] at r1
  exact hp1 (σ.set i (some v)) H1 m.F ⟨⟨o1.ok.e.set hs r1.f, o1.ok.w⟩, o1.kb, o1.nw, o1.gv⟩
/-- the slot's own new object -/
theorem EnvOk.setOwn {X : Fx} {own : List Nat} {F0 F : Addr → Prop} {i : Nat} {a : Addr} {d : Mini.D} (E : EnvOk X own F0 F σ ρ H) (hi : i ∈ own) (fa : F a) (na : ¬ F0 a) (oa : OwnAt X F H a d)
    (ne : ∀ (j : Nat) e, j ∈ own → j ≠ i → ρ[j]? = some (some e) → σ[j]? ≠ some (some (.ref a))) : EnvOk X own F0 F (σ.set i (some (.ref a))) (ρ.set i (some d)) H := by
  refine ⟨by rw [List.length_set, List.length_set]; exact E.len, fun j e h1 h2 => ?_, fun j e h1 h2 => ?_, fun j k b e f h1 h2 h3 h4 h5 h6 => ?_, E.sub, E.cel⟩
  · have hj : i ≠ j := fun z => h2 (by rw [← z]; exact hi)
    rw [List.getElem?_set_ne hj] at h1
    rw [List.getElem?_set_ne hj]
    exact E.val j e h1 h2
  · by_cases hj : i = j
    · subst hj
      by_cases hl : i < ρ.length
      · rw [List.getElem?_set_self hl] at h1
        cases h1
        exact ⟨a, by rw [List.getElem?_set_self (by rw [E.len]; exact hl)], fa, na, oa⟩
      · rw [List.getElem?_eq_none (by rw [List.length_set]; omega)] at h1
        cases h1
    · rw [List.getElem?_set_ne hj] at h1
      rw [List.getElem?_set_ne hj]
      exact E.ow j e h1 h2
  · by_cases hj : i = j
    · by_cases hk : i = k
      · omega
      · subst hj
        rw [List.getElem?_set_ne hk] at h4 h6
        have hl : i < σ.length := by
          by_cases z : i < σ.length
          · exact z
          · rw [List.getElem?_eq_none (by rw [List.length_set]; omega)] at h5; cases h5
        rw [List.getElem?_set_self hl] at h5
        cases h5
        exact absurd h6 (ne k f h2 (fun z => hk z.symm) h4)
    · by_cases hk : i = k
      · subst hk
        rw [List.getElem?_set_ne hj] at h3 h5
        have hl : i < σ.length := by
          by_cases z : i < σ.length
          · exact z
          · rw [List.getElem?_eq_none (by rw [List.length_set]; omega)] at h6; cases h6
        rw [List.getElem?_set_self hl] at h6
        cases h6
        exact absurd h5 (ne j e h1 (fun z => hj z.symm) h3)
      · rw [List.getElem?_set_ne hj] at h3 h5
        rw [List.getElem?_set_ne hk] at h4 h6
        exact E.dis j k b e f h1 h2 h3 h4 h5 h6
theorem Ok.own {p : Addr} {u : HO} {i : Nat} {d : Mini.D} (hn : H p = none) (mu : mutK u = true) (ok : Ok S m σ ρ h H) (hi : i ∈ S.own) (od : OwnAt (S.fx m) (m.add p).F (upd H p u) p d) :
    Ok S ⟨m.μ, m.F0, fun a => m.F a ∨ a = p⟩ (σ.set i (some (.ref p))) (ρ.set i (some d)) h (upd H p u) := by
  have a := ok.add hn mu
  have np : ∀ b, m.F b → b ≠ p := fun b z e => by
    obtain ⟨o, e1, _⟩ := ok.w.kin b z
    rw [e, hn] at e1; cases e1
  have E : EnvOk (S.fx m) S.own m.F0 (fun a => m.F a ∨ a = p) σ ρ (upd H p u) :=
    ⟨a.e.len, a.e.val, fun j e h1 h2 => let ⟨b, e1, f1, f2, o⟩ := a.e.ow j e h1 h2; ⟨b, e1, f1, fun z => f2 (.inl z), o⟩, a.e.dis, fun b z => .inl (ok.e.sub b z), fun b z => ok.e.cel b z⟩
  refine ⟨E.setOwn hi (.inr rfl) (fun z => np p (ok.e.sub p z) rfl) od fun j e h1 h2 h3 h4 => ?_, ⟨a.w.nd, a.w.len, a.w.at_, a.w.inF, a.w.kin, a.w.tab⟩⟩
  obtain ⟨b, e1, f1, _, _⟩ := ok.e.ow j e h3 h1
  rw [h4] at e1
  cases e1
  exact np p f1 rfl
theorem OkS.own {p : Addr} {u : HO} {i : Nat} {d : Mini.D} (hn : H p = none) (mu : mutK u = true) (o : OkS S m HB G σ ρ h H) (hi : i ∈ S.own) (od : OwnAt (S.fx m) (m.add p).F (upd H p u) p d) :
    OkS S ⟨m.μ, m.F0, fun a => m.F a ∨ a = p⟩ HB G (σ.set i (some (.ref p))) (ρ.set i (some d)) h (upd H p u) :=
  by
  refine ⟨o.ok.own hn mu hi od, o.kb.trans (Keep.upd hn), fun a z => z.elim (o.nw a) fun z => ?_, fun q hq => (Rep.add hn (o.gv q hq)).keep (Keep.upd hn)⟩
  subst z
  refine .inr fun b e t => ?_
  by_cases q : a ∈ m.μ
  · obtain ⟨o', e', _⟩ := o.ok.w.kin a (o.ok.w.inF a q)
    rw [hn] at e'; cases e'
  · have := o.kb a b e q t
    rw [hn] at this; cases this
theorem in_ownLst {i : Nat} {cs : Cs} (hi : i ∈ S.own) (hk : cs.knd S.own = 0) (hp : tS S (.asg (.nm i) (.lst cs)) De σ H) : tLst (tA S cs) σ H fun x H1 => gName i x σ H1 De.nx := by
  obtain ⟨ρ, h, m, HB, G, o, hp⟩ := hp
  unfold denS den at hp
  have hp : postS S m.μ m.F0 HB G De (((dens S.g cs ρ h).bind fun xs h => if xs.length ≤ bigLine then .ok (.list xs) h else .bad).thenS fun x h => (match setTg (.nm i) x ρ with
    | some ρ => .next ρ h
    | none => .bad)) := hp
  have e : ∀ r : R (List Mini.D), ((r.bind fun xs h => if xs.length ≤ bigLine then R.ok (PyData.list xs) h else .bad).thenS fun x h => (match setTg (.nm i) x ρ with
    | some ρ => RS.next ρ h
    | none => .bad)) = r.thenS fun xs h => if xs.length ≤ bigLine then .next (ρ.set i (some (.list xs))) h else .bad := by
    intro r
    cases r with
    | ok xs h =>
      show R.thenS (if xs.length ≤ bigLine then R.ok (PyData.list xs) h else .bad) _ = (if xs.length ≤ bigLine then _ else _)
      split <;> rfl
    | err _ _ => rfl
    | bad => rfl
  rw [e] at hp
  refine tA_then o hp fun ds h1 vs H1 o1 k1 r1 hp1 => ?_
  rw [if_pos hk] at r1
  by_cases l : ds.length ≤ bigLine
  · rw [if_pos l] at hp1
    refine ⟨by rw [r1.length]; exact big_line l, fun p hn => ?_⟩
    exact hp1 _ _ _ (o1.own hn rfl hi ⟨vs, upd_same, (Reps.add hn r1).keep (Keep.upd hn)⟩)
  · rw [if_neg l] at hp1; exact hp1.elim
end
end Mini

set_option Elab.async false
set_option linter.all false
set_option maxRecDepth 100000
set_option maxHeartbeats 4000000
/-! Mini, part G2: statements' rules. -/
namespace Mini
open PySem PySem.Spec PyProof.Rows L2
section
variable {S : Stat} {m : Mem} {σ σ' : L2.St} {ρ ρ' : Env} {h h' : Hs} {H H' HB : Hp} {De : Ends} {G : List (V × Mini.D)} {c : C} {Q1 : VK}
/-- an owned object is written -/
theorem OkS.write {i : Nat} {a : Addr} {d0 d : Mini.D} {u : HO} (o : OkS S m HB G σ ρ h H) (hi : i ∈ S.own) (e0 : ρ[i]? = some (some d0)) (ea : σ[i]? = some (some (.ref a))) (mu : mutK u = true) (od : OwnAt (S.fx m) m.F (upd H a u) a d) :
    OkS S m HB G σ (ρ.set i (some d)) h (upd H a u) := by
  obtain ⟨a', e1, f1, f2, o1⟩ := o.ok.e.ow i d0 e0 hi
  rw [ea] at e1
  cases e1
  obtain ⟨ob, e2, m2⟩ := o.ok.w.kin a f1
  have nμ : a ∉ m.μ := fun z => f2 (o.ok.e.cel a z)
  have kp : Keep m.F H (upd H a u) := fun b ob e n _ => by rw [upd_ne (fun z => n (by rw [z]; exact f1))]; exact e
  have k1 : Keep (fun b => b = a) H (upd H a u) := fun b ob e n _ => by rw [upd_ne n]; exact e
  refine ⟨⟨⟨by rw [List.length_set]; exact o.ok.e.len, fun j e h1 h2 => ?_, fun j e h1 h2 => ?_, fun j k b e f h1 h2 h3 h4 h5 h6 => ?_, o.ok.e.sub, o.ok.e.cel⟩, o.ok.w.upd f1 e2 m2 mu nμ⟩, fun b ob e n t => ?_, o.nw, fun p hp => (o.gv p hp).keep kp⟩
  · have hj : i ≠ j := fun z => h2 (by rw [← z]; exact hi)
    rw [List.getElem?_set_ne hj] at h1
    obtain ⟨v, e1, r⟩ := o.ok.e.val j e h1 h2
    exact ⟨v, e1, r.keep kp⟩
  · by_cases hj : i = j
    · subst hj
      have hl : i < ρ.length := (List.getElem?_eq_some_iff.mp e0).1
      rw [List.getElem?_set_self hl] at h1
      cases h1
      exact ⟨a, ea, f1, f2, od⟩
    · rw [List.getElem?_set_ne hj] at h1
      obtain ⟨b, e1, g1, g2, ob⟩ := o.ok.e.ow j e h1 h2
      have ne : b ≠ a := fun z => hj (o.ok.e.dis i j a d0 e hi h2 e0 h1 ea (by rw [← z]; exact e1))
      exact ⟨b, e1, g1, g2, ob.keep k1 ne fun b z => by rw [z]; exact f1⟩
  · have key : ∀ (j : Nat) e, (ρ.set i (some d))[j]? = some (some e) → ∃ e', ρ[j]? = some (some e') := fun j e z => by
      by_cases hj : i = j
      · subst hj; exact ⟨d0, e0⟩
      · rw [List.getElem?_set_ne hj] at z; exact ⟨e, z⟩
    obtain ⟨e', h3⟩ := key j e h3
    obtain ⟨f', h4⟩ := key k f h4
    exact o.ok.e.dis j k b e' f' h1 h2 h3 h4 h5 h6
  · have hb : b ≠ a := fun z => by
      subst z
      rcases o.nw b f1 with q | q
      · exact f2 q
      · exact q ob e t
    rw [upd_ne hb]
    exact o.kb b ob e n t
/-- x.append(e) -/
theorem in_app {K : PySem.W.Frag} {i : Nat} (hi : i ∈ S.own) (hk : c.knd S.own = 0) (hp : tS S (.app i c) De σ H) : tBM K "list" rAppend (tVar i) (tA S (.cons c .nil)) σ H fun _ H1 => De.nx σ H1 := by
  obtain ⟨ρ, h, m, HB, G, o, hp⟩ := hp
  unfold denS at hp
  split at hp
  · rename_i xs e
    obtain ⟨a, e1, f1, f2, vs, ha, ra⟩ := o.ok.e.ow i _ e hi
    refine ⟨.ref a, e1, .inl ⟨rfl, vs, SqL.of ha⟩, ?_⟩
    have hp : postS S m.μ m.F0 HB G De ((dens S.g (.cons c .nil) ρ h).thenS fun ys h => match ys with
      | [y] => if xs.length < bigLine then .next (ρ.set i (some (.list (xs ++ [y])))) h else .bad
      | _ => .bad) := by
      rw [dens_one]
      cases q : den S.g c ρ h with
      | ok d h1 => rw [q] at hp; exact hp
      | err x h1 => rw [q] at hp; exact hp
      | bad => rw [q] at hp; exact hp
    refine tA_then o hp fun ds h1 us H1 o1 k1 r1 hp1 => ?_
    have kc : (Cs.cons c .nil).knd S.own = 0 := by rw [Cs.knd, Cs.knd, hk]; rfl
    rw [if_pos kc] at r1
    split at hp1
    · rename_i y
      cases r1 with
      | @cons yv _ _ _ ry rr =>
        cases rr
        obtain ⟨a', e1', _, _, vs', ha', ra'⟩ := o1.ok.e.ow i _ e hi
        rw [e1] at e1'
        cases e1'
        by_cases l : xs.length < bigLine
        · rw [if_pos l] at hp1
          refine ⟨a, vs', _, rfl, rfl, ha', by rw [ra'.length]; exact big_lt l, ?_⟩
          have kp : Keep m.F H1 (upd H1 a (.lst (vs' ++ [yv]))) := fun b ob e n _ => by rw [upd_ne (fun z => n (by rw [z]; exact f1))]; exact e
          exact hp1 σ _ m.F (o1.write hi e e1 rfl ⟨_, upd_same, (ra'.append (.cons ry .nil)).keep kp⟩)
        · rw [if_neg l] at hp1; exact hp1.elim
    · exact hp1.elim
  · exact hp.elim
/-- a cell is written -/
theorem OkS.cell {n : Nat} {a : Addr} {xs : List Mini.D} {vs : List V} (o : OkS S m HB G σ ρ h H) (hm : m.μ[n]? = some a) (r : Reps (S.fx m) m.F H vs xs) (hn : n < h.length) : OkS S m HB G σ ρ (h.set n xs) (upd H a (.lst vs)) := by
  have ha : a ∈ m.μ := List.mem_of_getElem? hm
  have fa := o.ok.w.inF a ha
  obtain ⟨ob, e2, m2⟩ := o.ok.w.kin a fa
  have kp : Keep m.F H (upd H a (.lst vs)) := fun b ob e n _ => by rw [upd_ne (fun z => n (by rw [z]; exact fa))]; exact e
  have kc : KeepC (S.fx m) H (upd H a (.lst vs)) := fun b ob e n _ => by rw [upd_ne (fun z => n (by rw [z]; exact ha))]; exact e
  refine ⟨⟨o.ok.e.keep kc, ⟨o.ok.w.nd, by rw [List.length_set]; exact o.ok.w.len, fun i b ds h1 h2 => ?_, o.ok.w.inF, fun b z => ?_, tabs_put o.ok.w.tab e2 m2⟩⟩, o.kb.trans kc, o.nw, fun p hp => (o.gv p hp).keep kp⟩
  · by_cases hi : n = i
    · subst hi
      have h1 : m.μ[n]? = some b := h1
      rw [hm] at h1
      cases h1
      rw [List.getElem?_set_self hn] at h2
      cases h2
      exact ⟨vs, upd_same, r.keep kp⟩
    · rw [List.getElem?_set_ne hi] at h2
      obtain ⟨ys, e3, r3⟩ := o.ok.w.at_ i b ds h1 h2
      have hb : b ≠ a := fun z => by
        subst z
        have h1 : m.μ[i]? = some b := h1
        exact hi ((List.getElem?_inj (List.getElem?_eq_some_iff.mp hm).1 o.ok.w.nd).mp (hm.trans h1.symm))
      exact ⟨ys, by rw [upd_ne hb]; exact e3, r3.keep kp⟩
  · obtain ⟨o', e3, k⟩ := o.ok.w.kin b z
    by_cases hb : b = a
    · subst hb; exact ⟨_, upd_same, rfl⟩
    · exact ⟨o', by rw [upd_ne hb]; exact e3, k⟩
/-- state[k] = v -/
theorem in_csub {i : Nat} {cv ck : C} (hi : i ∉ S.own) (hv : cv.knd S.own = 0) (hp : tS S (.csub i ck cv) De σ H) : tAsg (tE S cv) (gSub (tVar i) (tE S ck) rSetL) De σ H := by
  obtain ⟨ρ, h, m, HB, G, o, hp⟩ := hp
  unfold denS at hp
  refine tE_then o hp fun d h1 v H1 o1 k1 r1 hp1 => ?_
  rw [hv] at r1
  split at hp1
  · rename_i n e
    obtain ⟨x, e1, rx⟩ := o1.ok.e.val i _ e hi
    obtain ⟨a, nn, rfl, rfl, hm⟩ := rx.cell
    refine ⟨.ref a, e1, ?_⟩
    refine tE_then o1 hp1 fun dk h2 vk H2 o2 k2 r2 hp2 => ?_
    rw [Int.toNat_natCast] at hp2
    split at hp2
    · rename_i k xs e2
      obtain rfl := (rep0 o2.ok r2).int
      split at hp2
      · rename_i j e3
        obtain ⟨vs, e4, r4⟩ := o2.ok.w.at_ nn a xs hm e2
        have r1 : Rep (S.fx m) m.F H2 v d := r1.f.keep (k2.mono fun b z => o1.ok.w.inF b z)
        refine ⟨a, vs, k, j, rfl, rfl, e4, by rw [r4.length]; exact e3, ?_⟩
        exact hp2 σ _ m.F (o2.cell hm (r4.set j r1) (List.getElem?_eq_some_iff.mp e2).1)
      · exact hp2.elim
    · exact hp2.elim
  · exact hp1.elim
/-- if -/
theorem in_if {sa sb : Ss} (hp : tS S (.ife c sa sb) De σ H) : tIfS (tT S c) (tSs S sa) (tSs S sb) De σ H := by
  obtain ⟨ρ, h, m, HB, G, o, hp⟩ := hp
  unfold denS at hp
  refine tT_then o hp (fun d h' e => by simp only [e]) fun d h1 b H1 e o1 hp1 => ?_
  rw [e] at hp1
  cases b with
  | true => exact Eq.mpr (if_pos rfl) ⟨ρ, h1, m, HB, G, o1, hp1⟩
  | false => exact Eq.mpr (if_neg Bool.false_ne_true) ⟨ρ, h1, m, HB, G, o1, hp1⟩
/-- for -/
theorem in_for {t : Tg} {it : C} {b : Ss} (hs : ∀ i ∈ t.slots, i ∉ S.own) (hp : tS S (.for_ t it b) De σ H) : tFor (tIG S it) (gT S t) (tSs S b) De σ H := by
  obtain ⟨ρ, h, m, HB, G, o, hp⟩ := hp
  unfold denS at hp
  refine ⟨ρ, h, m, o.ok, ?_⟩
  cases q : den S.g it ρ h with
  | bad => rw [q] at hp; exact hp.elim
  | err x h' => rw [q] at hp; exact fun H' kp w => hp σ H' (o.kb.trans kp) (o.wd0 kp w)
  | ok d h1 =>
    rw [q] at hp
    have hp : postS S m.μ m.F0 HB G De (match items d with
      | some xs => loopF t (fun ρ h => denSs S.g b ρ h) xs ρ h1
      | none => .bad) := hp
    cases ei : items d with
    | none => rw [ei] at hp; exact hp.elim
    | some xs =>
      rw [ei] at hp
      refine ⟨xs, ei, fun J v0 d0 H1 kp w1 r0 wk => ?_⟩
      have o1 := o.keep kp w1
      refine ⟨fun i mm σ2 H2 => mm = xs.length - i ∧ i ≤ xs.length ∧ ∃ ρ2 h2 F2, OkS S ⟨m.μ, m.F0, F2⟩ HB ((v0, d0) :: G) σ2 ρ2 h2 H2 ∧ postS S m.μ m.F0 HB G De (loopF t (fun ρ h => denSs S.g b ρ h) (xs.drop i) ρ2 h2),
        ⟨xs.length, by simp, Nat.zero_le _, ρ, h1, m.F, ⟨o1.ok, o1.kb, o1.nw, fun p hp => ?_⟩, by rw [List.drop_zero]; exact hp⟩, ?_⟩
      · rcases List.mem_cons.mp hp with rfl | z
        · exact r0
        · exact o1.gv p z
      rintro i mm σ2 H2 ⟨rfl, hi, ρ2, h2, F2, o2, hp2⟩
      have fin : ∀ {σ3 : L2.St} {ρ3 : Env} {h3 : Hs} {H3 : Hp} {F3 : Addr → Prop}, OkS S ⟨m.μ, m.F0, F3⟩ HB ((v0, d0) :: G) σ3 ρ3 h3 H3 → OkS S ⟨m.μ, m.F0, F3⟩ HB G σ3 ρ3 h3 H3 := fun z => ⟨z.ok, z.kb, z.nw, fun p hp => z.gv p (List.mem_cons_of_mem _ hp)⟩
      obtain ⟨go, stop, yld⟩ := wk.run F2 H2 (o2.gv (v0, d0) List.mem_cons_self)
      by_cases hlt : i < xs.length
      · refine .inr ⟨go i hlt, fun σ2 H2 => ∃ ρ2 h2 F2, OkS S ⟨m.μ, m.F0, F2⟩ HB ((v0, d0) :: G) σ2 ρ2 h2 H2 ∧ postS S m.μ m.F0 HB G De (loopF t (fun ρ h => denSs S.g b ρ h) (xs.drop (i + 1)) ρ2 h2), fun σ' H' p => ⟨xs.length - (i + 1), by omega, rfl, hlt, p⟩, fun x H' y => ?_⟩
        obtain ⟨rfl, d, ed, rd⟩ := yld i x H' hlt y
        rw [drop_cons ed] at hp2
        unfold loopF at hp2
        cases st : setTg t d ρ2 with
        | none => rw [st] at hp2; exact hp2.elim
        | some ρ' =>
          rw [st] at hp2
          dsimp only at hp2
          refine ⟨ρ2, d, ρ', ⟨m.μ, m.F0, F2⟩, h2, o2.ok, rd, st, hs, fun σ' ok' _ _ => ?_⟩
          refine ⟨ρ', h2, ⟨m.μ, m.F0, F2⟩, HB, (v0, d0) :: G, ⟨ok', o2.kb, o2.nw, o2.gv⟩, ?_⟩
          cases q2 : denSs S.g b ρ' h2 with
          | next ρ3 h3 => rw [q2] at hp2; exact fun σ3 H3 F3 o3 => ⟨ρ3, h3, F3, o3, hp2⟩
          | cnt ρ3 h3 => rw [q2] at hp2; exact fun σ3 H3 F3 o3 => ⟨ρ3, h3, F3, o3, hp2⟩
          | brk ρ3 h3 => rw [q2] at hp2; exact fun σ3 H3 F3 o3 => hp2 σ3 H3 F3 (fin o3)
          | ret d3 h3 => rw [q2] at hp2; exact hp2
          | err e3 h3 => rw [q2] at hp2; exact hp2
          | bad => rw [q2] at hp2; exact hp2.elim
      · have ed : xs.drop i = [] := List.drop_eq_nil_of_le (by omega)
        rw [ed] at hp2
        exact .inl ⟨stop i (by omega), hp2 σ2 H2 F2 (fin o2)⟩
theorem in_ret (hk : c.knd S.own ≤ 1) (hp : tS S (.ret c) De σ H) : tE S c σ H De.rt := by
  obtain ⟨ρ, h, m, HB, G, o, hp⟩ := hp
  unfold denS at hp
  refine tE_then o hp fun d h1 v H1 o1 k1 r1 hp1 => ?_
  refine hp1 v H1 o1.kb (o1.wd0 Keep.refl o1.ok.w) ?_
  exact RepK.rep0 o1.ok.e.sub r1
theorem in_expr (hp : tS S (.expr c) De σ H) : tE S c σ H fun _ H1 => De.nx σ H1 := by
  obtain ⟨ρ, h, m, HB, G, o, hp⟩ := hp
  unfold denS at hp
  exact tE_then o hp fun d h1 v H1 o1 k1 r1 hp1 => hp1 σ H1 m.F o1
theorem in_seq {s : Mini.S} {r : Ss} (hp : tSs S (.cons s r) De σ H) : tSeq (tS S s) (tSs S r) De σ H := by
  obtain ⟨ρ, h, m, HB, G, o, hp⟩ := hp
  unfold denSs at hp
  refine ⟨ρ, h, m, HB, G, o, ?_⟩
  cases q : denS S.g s ρ h with
  | next ρ3 h3 => rw [q] at hp; exact fun σ3 H3 F3 o3 => ⟨ρ3, h3, ⟨m.μ, m.F0, F3⟩, HB, G, o3, hp⟩
  | cnt ρ3 h3 => rw [q] at hp; exact hp
  | brk ρ3 h3 => rw [q] at hp; exact hp
  | ret d3 h3 => rw [q] at hp; exact hp
  | err e3 h3 => rw [q] at hp; exact hp
  | bad => rw [q] at hp; exact hp.elim
end
end Mini

set_option Elab.async false
set_option linter.all false
set_option maxRecDepth 100000
set_option maxHeartbeats 4000000
/-! Mini, part H1: what is compiled is sound: expressions. -/
namespace Mini
open PySem PySem.Spec PyProof.Rows L2
/-- the lambdas -/
def ToldOk (X : Cx) (S : Stat) (cx : Cxt) (sc : Scope) (n : Nat) : Prop := ∀ (ps : Arguments) (body : Expr) (lsc : Scope) (lp p pos : Pos) (c : C), noPs ps = true → lamB sc lsc = true → isGl sc cx.sig.told = true →
  (∀ X' S', (∃ W, S' = { S with wx := W }) → XOk X' S' cx.lam lsc n → FnsOk X' S' cx.lam.sig n → PE X' body (tE S' c)) → PE X (.Call (.Name cx.sig.told p) [.Lambda ps body lsc lp] [] pos) (tE S (.told c))
/-- the built-ins -/
structure LeafOk (X : Cx) : Prop where
  rep : X.A.guards = some [] → ∀ fx : Fx, fx.K = X.K → CallR X (.builtin "repr") (rBlt fx .repr)
  dic : ∀ fx : Fx, fx.K = X.K → CallR X (.type "dict") (rBlt fx .dict)
  sset : ∀ (S : Stat) (cx : Cxt) (sc : Scope) (n : Nat) (a : Expr) (ca : C) (p p2 pos pos2 : Pos), XOk X S cx sc n → isGl sc "sorted" = true → isGl sc "set" = true → isStar a = false → PE X a (tE S ca) → PE X (.Call (.Name "sorted" p) [.Call (.Name "set" p2) [a] [] pos2] [] pos) (tE S (.blt .sortedSet (.cons ca .nil)))
  nxt : ∀ (S : Stat) (cx : Cxt) (sc : Scope) (n : Nat) (a b : Expr) (ca cb : C) (p p2 pos pos2 : Pos), XOk X S cx sc n → isLc ca = true → isGl sc "next" = true → isGl sc "iter" = true → isStar a = false → isStar b = false → PE X a (tE S ca) → PE X b (tE S cb) → PE X (.Call (.Name "next" p) [.Call (.Name "iter" p2) [a] [] pos2, b] [] pos) (tE S (.blt .nextIter (.cons ca (.cons cb .nil))))
section
variable {X : Cx} {S : Stat} {cx : Cxt} {sc : Scope} {n k : Nat} {a b e : Expr} {es : List Expr} {c ca cb : C} {cs : Cs} {pos p p2 : Pos}
theorem args_ok {f : Expr → Option C} (x : XOk X S cx sc n) (hf : ∀ e c, f e = some c → PE X e (tE S c)) (hs : ∀ e c, f e = some c → isStar e = false) : ∀ {es : List Expr} {cs : Cs}, argsC f es = some cs → PA X es (tA S cs) ∧ (es.any isStar = false → cs.noStar = true ∧ cs.len = es.length)
  | [], cs, h => by
    cases h
    exact ⟨a_nil, fun _ => ⟨rfl, rfl⟩⟩
  | e :: es, cs, h => by
    unfold argsC at h
    split at h
    · rename_i e p
      split at h
      · rename_i c r h1 h2
        cases h
        obtain ⟨q1, q2⟩ := args_ok x hf hs h2
        exact ⟨a_star x (hf _ _ h1) q1, fun z => by cases z⟩
      · cases h
    · split at h
      · rename_i c r h1 h2
        cases h
        obtain ⟨q1, q2⟩ := args_ok x hf hs h2
        refine ⟨a_cons (hf _ _ h1) q1 (hs _ _ h1), fun z => ?_⟩
        rw [List.any_cons, Bool.or_eq_false_iff] at z
        obtain ⟨z1, z2⟩ := q2 z.2
        exact ⟨z1, by show r.len + 1 = _; rw [z2]; rfl⟩
      · cases h
theorem keys_ok {f : Expr → Option C} (hf : ∀ e c, f e = some c → PE X e (tE S c)) : ∀ {ks : List (Option Expr)} {cs : Cs}, keysC f ks = some cs → cs.pure = true → KeysOk X S ks cs
  | [], cs, h, _ => by
    cases h
    exact .nil
  | none :: _, _, h, _ => by cases h
  | some e :: ks, cs, h, hp => by
    unfold keysC at h
    split at h
    · rename_i c r h1 h2
      cases h
      unfold Cs.pure at hp
      rw [Bool.and_eq_true] at hp
      exact .cons (hf _ _ h1) hp.1 (keys_ok hf h2 hp.2)
    · cases h
theorem vals_ok {f : Expr → Option C} (hf : ∀ e c, f e = some c → PE X e (tE S c)) : ∀ {es : List Expr} {cs : Cs}, argsC f es = some cs → es.any isStar = false → ValsOk X S es cs
  | [], cs, h, _ => by
    cases h
    exact .nil
  | e :: es, cs, h, hs => by
    rw [List.any_cons, Bool.or_eq_false_iff] at hs
    unfold argsC at h
    split at h
    · cases hs.1
    · split at h
      · rename_i c r h1 h2
        cases h
        exact .cons (hf _ _ h1) (vals_ok hf h2 hs.2)
      · cases h
theorem star_none {k : Nat} {c : C} (h : compE cx k e sc = some c) : isStar e = false := by
  cases e <;> try rfl
  cases k <;> cases h
theorem bool_ok {f : Expr → Option C} {op : BoolOp} {g : C → C → C} (x : XOk X S cx sc n) (hf : ∀ e c, f e = some c → PE X e (tE S c) ∧ (isIfE e = false → PT X e (tT S c)))
    (h1 : ∀ {a b : Expr} {r : List Expr} {ca cb : C}, PE X a (tE S ca) → PE X (.BoolOp op (b :: r) pos) (tE S cb) → PE X (.BoolOp op (a :: b :: r) pos) (tE S (g ca cb)))
    (h2 : ∀ {a b : Expr} {r : List Expr} {ca cb : C}, PT X a (tT S ca) → PW X (.BoolOp op (b :: r) pos) (tT S cb) → PW X (.BoolOp op (a :: b :: r) pos) (tT S (g ca cb))) :
    ∀ {es : List Expr} {c : C}, boolC f g es = some c → PE X (.BoolOp op es pos) (tE S c) ∧ PW X (.BoolOp op es pos) (tT S c)
  | [], c, h => by cases h
  | [a], c, h => by
    unfold boolC at h
    split at h
    · cases h
    · rename_i hi
      obtain ⟨q1, q2⟩ := hf _ _ h
      exact ⟨⟨fun pins s σ H Q I q => BoolOp_one (q1.run pins s σ H Q I q)⟩, w_one (q2 (by simpa using hi))⟩
  | a :: b :: r, c, h => by
    unfold boolC at h
    split at h
    · cases h
    · rename_i hi
      split at h
      · rename_i ca cr e1 e2
        cases h
        obtain ⟨q1, q2⟩ := hf _ _ e1
        obtain ⟨r1, r2⟩ := bool_ok x hf h1 h2 e2
        exact ⟨h1 q1 r1, h2 (q2 (by simpa using hi)) r2⟩
      · cases h
/-- what is walked, compiled -/
theorem iter_ok {f : Expr → Option C} {tg : Expr} (x : XOk X S cx sc n) (hf : ∀ e c, f e = some c → PE X e (tE S c)) (hs : ∀ e c, f e = some c → isStar e = false) (hn : ∀ y p c, f (.Name y p) = some c → (∃ i, c = .slot i ∧ isVis sc y = true ∧ cx.ix y = some i) ∨ c.knd S.own = 0)
    (hl : ∀ c : C, c.knd S.own ≠ 0 → iterC f sc e = some c → ∃ y p, e = .Name y p) {c : C} (h : iterC f sc e = some c) (hw : walkOk S.own [] c = true) : PI X tg e (tI S c) := by
  have gen : ∀ {c : C}, iterC f sc e = some c → f e = some c → walkOk S.own [] c = true → PI X tg e (tI S c) := fun {c} hi h hw => by
    by_cases hk : c.knd S.own = 0
    · exact i_any x (hf _ _ h) hk
    · unfold walkOk at hw
      rw [Bool.or_eq_true, decide_eq_true_eq] at hw
      rcases hw with hw | hw
      · exact absurd hw hk
      · cases c with
        | slot i =>
          obtain ⟨y, p, rfl⟩ := hl _ hk hi
          rcases hn y p _ h with ⟨j, e1, e2, e3⟩ | z
          · cases e1
            have ho : i ∈ S.own := by
              rw [C.knd] at hk
              by_cases z : S.own.contains i = true
              · simpa using z
              · rw [if_neg z] at hk; exact absurd rfl hk
            exact i_own x e2 e3 ho
          · exact absurd z hk
        | _ => cases hw
  have h0 := h
  unfold iterC at h
  split at h
  · rename_i g pg a pp
    by_cases q : (isGl sc g && decide (g = "range") && !isStar a) = true
    · rw [if_pos q] at h
      simp only [Bool.and_eq_true, decide_eq_true_eq, Bool.not_eq_true'] at q
      obtain ⟨⟨q1, rfl⟩, q3⟩ := q
      obtain ⟨ca, e1, e2⟩ := Option.map_eq_some_iff.mp h
      subst e2
      exact i_rng1 x q1 (hf _ _ e1) q3
    · rw [if_neg q] at h
      exact gen h0 h hw
  · rename_i g pg a b pp
    by_cases q : (isGl sc g && decide (g = "range") && !isStar a && !isStar b) = true
    · rw [if_pos q] at h
      simp only [Bool.and_eq_true, decide_eq_true_eq, Bool.not_eq_true'] at q
      obtain ⟨⟨⟨q1, rfl⟩, q3⟩, q4⟩ := q
      split at h
      · rename_i ca cb e1 e2
        cases h
        exact i_rng2 x q1 (hf _ _ e1) (hf _ _ e2) q3 q4
      · cases h
    · rw [if_neg q] at h
      exact gen h0 h hw
  · exact gen h0 h hw
/-- .. by a for -/
theorem iter_okG {f : Expr → Option C} {tg : Expr} (x : XOk X S cx sc n) (hf : ∀ e c, f e = some c → PE X e (tE S c)) {c : C} (h : iterC f sc e = some c) (hk : c.knd S.own = 0) : PI X tg e (tIG S c) := by
  unfold iterC at h
  split at h
  · rename_i g pg a pp
    by_cases q : (isGl sc g && decide (g = "range") && !isStar a) = true
    · rw [if_pos q] at h
      simp only [Bool.and_eq_true, decide_eq_true_eq, Bool.not_eq_true'] at q
      obtain ⟨⟨q1, rfl⟩, q3⟩ := q
      obtain ⟨ca, e1, e2⟩ := Option.map_eq_some_iff.mp h
      subst e2
      exact i_rng1G x q1 (hf _ _ e1) q3
    · rw [if_neg q] at h
      exact i_anyG x (hf _ _ h) hk
  · rename_i g pg a b pp
    by_cases q : (isGl sc g && decide (g = "range") && !isStar a && !isStar b) = true
    · rw [if_pos q] at h
      simp only [Bool.and_eq_true, decide_eq_true_eq, Bool.not_eq_true'] at q
      obtain ⟨⟨⟨q1, rfl⟩, q3⟩, q4⟩ := q
      split at h
      · rename_i ca cb e1 e2
        cases h
        exact i_rng2G x q1 (hf _ _ e1) (hf _ _ e2) q3 q4
      · cases h
    · rw [if_neg q] at h
      exact i_anyG x (hf _ _ h) hk
  · exact i_anyG x (hf _ _ h) hk
/-! ### targets -/
theorem mapM_own {cx : Cxt} : ∀ {es : List Expr} {xs : List Str} {is : List Nat} {own : List (Str × Nat)}, es.mapM nameE = some xs → es.mapM (fun e => (nameE e).bind cx.ix) = some is → withIx cx xs = some own → own.map (·.2) = is
  | [], xs, is, own, h1, h2, h3 => by
    cases h1
    cases h2
    cases h3
    rfl
  | e :: es, xs, is, own, h1, h2, h3 => by
    rw [List.mapM_cons] at h1 h2
    obtain ⟨x, a1, a2⟩ := Option.bind_eq_some_iff.mp h1
    obtain ⟨r, a3, a4⟩ := Option.bind_eq_some_iff.mp a2
    cases a4
    obtain ⟨i, b1, b2⟩ := Option.bind_eq_some_iff.mp h2
    obtain ⟨q, b3, b4⟩ := Option.bind_eq_some_iff.mp b2
    cases b4
    unfold withIx at h3
    rw [List.mapM_cons] at h3
    obtain ⟨y, c1, c2⟩ := Option.bind_eq_some_iff.mp h3
    obtain ⟨u, c3, c4⟩ := Option.bind_eq_some_iff.mp c2
    cases c4
    have b1 : (nameE e).bind cx.ix = some i := b1
    rw [a1] at b1
    have b1 : cx.ix x = some i := b1
    rw [b1] at c1
    cases c1
    rw [List.map_cons, mapM_own a3 b3 c3]
theorem own_slots {tg : Expr} {xs : List Str} {t : Tg} {own : List (Str × Nat)} (h1 : tgNames tg = some xs) (h2 : tgOf cx tg = some t) (h3 : withIx cx xs = some own) : own.map (·.2) = t.slots := by
  unfold tgNames at h1
  split at h1
  · rename_i x p
    cases h1
    unfold tgOf at h2
    dsimp only at h2
    obtain ⟨i, e1, e2⟩ := Option.map_eq_some_iff.mp h2
    subst e2
    unfold withIx at h3
    rw [List.mapM_cons, List.mapM_nil, e1] at h3
    cases h3
    rfl
  · rename_i es q p
    unfold tgOf at h2
    dsimp only at h2
    obtain ⟨is, e1, e2⟩ := Option.map_eq_some_iff.mp h2
    subst e2
    exact mapM_own h1 e1 h3
  · cases h1
/-- a comprehension's target -/
theorem tg_blk {tg : Expr} {xs : List Str} {t : Tg} {X' : Cx} {S' : Stat} {cx' : Cxt} {sc' scope : Scope} (x : XOk X' S' cx' sc' n) (hix : cx'.ix = cx.ix) (hfn : ∀ y, X'.fn y = (scope.names.lookup y == some .cell)) (h1 : tgNames tg = some xs) (h2 : tgOf cx tg = some t) (hl : tgLocal sc' scope xs = true) : PG X' tg (gT S' t) := by
  have may : ∀ y ∈ xs, MaySet X' y := fun y hy => by
    unfold tgLocal at hl
    have z := List.all_eq_true.mp hl y hy
    simp only [Bool.or_eq_true, Bool.and_eq_true, beq_iff_eq] at z
    unfold MaySet L2.Loc
    rw [x.sc, hfn]
    rcases z with z | ⟨z1, z2⟩
    · exact ⟨.inl z, .inr z⟩
    · exact ⟨.inr z1, .inl (by rw [z2]; rfl)⟩
  unfold tgNames at h1
  split at h1
  · rename_i y p
    cases h1
    refine pg_tg (f := fun e => match e with
      | .Name z _ => if z = y then cx.ix z else none
      | _ => none) x (fun e i h => ?_) (.inl ?_)
    · split at h
      · rename_i z q
        by_cases hz : z = y
        · rw [if_pos hz] at h
          exact ⟨z, q, rfl, by rw [hix]; exact h, may z (by rw [hz]; exact List.mem_singleton.mpr rfl)⟩
        · rw [if_neg hz] at h; cases h
      · cases h
    · unfold tgOf at h2
      dsimp only at h2
      obtain ⟨i, e1, e2⟩ := Option.map_eq_some_iff.mp h2
      subst e2
      exact ⟨i, by simp [e1], rfl⟩
  · rename_i es q p
    unfold tgOf at h2
    dsimp only at h2
    obtain ⟨is, e1, e2⟩ := Option.map_eq_some_iff.mp h2
    subst e2
    refine pg_tg (f := fun e => match nameE e with
      | some z => if z ∈ xs then cx.ix z else none
      | none => none) x (fun e i h => ?_) (.inr ⟨es, q, p, is, rfl, ?_, rfl⟩)
    · split at h
      · rename_i z hz
        by_cases hm : z ∈ xs
        · rw [if_pos hm] at h
          cases e <;> try (cases hz; done)
          cases hz
          exact ⟨_, _, rfl, by rw [hix]; exact h, may _ hm⟩
        · rw [if_neg hm] at h; cases h
      · cases h
    · have key : ∀ (es : List Expr) (ys : List Str) (is : List Nat), es.mapM nameE = some ys → (∀ y ∈ ys, y ∈ xs) → es.mapM (fun e => (nameE e).bind cx.ix) = some is → es.mapM (fun e => match nameE e with
          | some z => if z ∈ xs then cx.ix z else none
          | none => none) = some is := by
        intro es
        induction es with
        | nil => intro ys is _ _ h; exact h
        | cons e es ih =>
          intro ys is h1 hy h2
          rw [List.mapM_cons] at h1 h2 ⊢
          obtain ⟨z, a1, a2⟩ := Option.bind_eq_some_iff.mp h1
          obtain ⟨r, a3, a4⟩ := Option.bind_eq_some_iff.mp a2
          cases a4
          obtain ⟨i, b1, b2⟩ := Option.bind_eq_some_iff.mp h2
          obtain ⟨q, b3, b4⟩ := Option.bind_eq_some_iff.mp b2
          cases b4
          have b1 : (nameE e).bind cx.ix = some i := b1
          rw [a1] at b1
          have b1 : cx.ix z = some i := b1
          have e1 : (match nameE e with
            | some z => if z ∈ xs then cx.ix z else none
            | none => none) = some i := by
            rw [a1]
            show (if z ∈ xs then cx.ix z else none) = some i
            rw [if_pos (hy z List.mem_cons_self), b1]
          rw [e1, ih r q a3 (fun y h => hy y (List.mem_cons_of_mem _ h)) b3]
          rfl
      exact key es xs is h1 (fun _ h => h) e1
  · cases h1
end
end Mini

set_option Elab.async false
set_option linter.all false
set_option maxRecDepth 100000
set_option maxHeartbeats 4000000
/-! Mini, part H2: what is compiled is sound: expressions, the theorem. -/
namespace Mini
open PySem PySem.Spec PyProof.Rows L2
section
variable {X : Cx} {S : Stat} {cx : Cxt} {sc : Scope} {n k : Nat} {a b e : Expr} {es : List Expr} {c ca cb : C} {cs : Cs} {pos p p2 : Pos}
/-- a built-in of the text -/
theorem blt_ok {f : Str} {b : Blt} (x : XOk X S cx sc n) (lf : LeafOk X) (hg : isGl sc f = true) (hb : bltOf f (a :: es).length = some b) (hrep : isRep b = true → cx.sig.rep = true) (ha : PA X (a :: es) (tA S cs)) (hs : (a :: es).any isStar = false) : PE X (.Call (.Name f p) (a :: es) [] pos) (tE S (.blt b cs)) := by
  have mg : ∀ y, y ∈ (["len", "all", "any", "sum", "min", "max", "abs", "int", "tuple", "list", "sorted", "dict", "repr", "set", "next", "iter", "isinstance", "str", "range"] : List Str) → X.mg y = none := x.b.blt
  generalize (a :: es).length = nn at hb
  unfold bltOf at hb
  by_cases q : f = "len"
  · rw [if_pos q] at hb
    subst q
    by_cases q : nn = 1
    · rw [if_pos q] at hb
      cases hb
      exact e_bltF x rfl (fun fx hK => cr_len hK) hg (mg _ (by decide)) rfl ha hs
    rw [if_neg q] at hb
    cases hb
  rw [if_neg q] at hb
  by_cases q : f = "all"
  · rw [if_pos q] at hb
    subst q
    by_cases q : nn = 1
    · rw [if_pos q] at hb
      cases hb
      exact e_bltF x rfl (fun fx hK => cr_all' x.b.calm) hg (mg _ (by decide)) rfl ha hs
    rw [if_neg q] at hb
    cases hb
  rw [if_neg q] at hb
  by_cases q : f = "any"
  · rw [if_pos q] at hb
    subst q
    by_cases q : nn = 1
    · rw [if_pos q] at hb
      cases hb
      exact e_bltF x rfl (fun fx hK => cr_any' x.b.calm) hg (mg _ (by decide)) rfl ha hs
    rw [if_neg q] at hb
    cases hb
  rw [if_neg q] at hb
  by_cases q : f = "sum"
  · rw [if_pos q] at hb
    subst q
    by_cases q : nn = 1
    · rw [if_pos q] at hb
      cases hb
      exact e_bltF x rfl (fun fx hK => cr_sum' x.b.calm) hg (mg _ (by decide)) rfl ha hs
    rw [if_neg q] at hb
    cases hb
  rw [if_neg q] at hb
  by_cases q : f = "min"
  · rw [if_pos q] at hb
    subst q
    by_cases q : nn = 1
    · rw [if_pos q] at hb
      cases hb
      exact e_bltF x rfl (fun fx hK => cr_min' x.b.calm) hg (mg _ (by decide)) rfl ha hs
    rw [if_neg q] at hb
    by_cases q : nn = 2
    · rw [if_pos q] at hb
      cases hb
      exact e_bltF x rfl (fun fx hK => cr_min2 x.b.calm) hg (mg _ (by decide)) rfl ha hs
    rw [if_neg q] at hb
    cases hb
  rw [if_neg q] at hb
  by_cases q : f = "max"
  · rw [if_pos q] at hb
    subst q
    by_cases q : nn = 1
    · rw [if_pos q] at hb
      cases hb
      exact e_bltF x rfl (fun fx hK => cr_max' x.b.calm) hg (mg _ (by decide)) rfl ha hs
    rw [if_neg q] at hb
    by_cases q : nn = 2
    · rw [if_pos q] at hb
      cases hb
      exact e_bltF x rfl (fun fx hK => cr_max2 x.b.calm) hg (mg _ (by decide)) rfl ha hs
    rw [if_neg q] at hb
    cases hb
  rw [if_neg q] at hb
  by_cases q : f = "abs"
  · rw [if_pos q] at hb
    subst q
    by_cases q : nn = 1
    · rw [if_pos q] at hb
      cases hb
      exact e_bltF x rfl (fun fx hK => cr_abs) hg (mg _ (by decide)) rfl ha hs
    rw [if_neg q] at hb
    cases hb
  rw [if_neg q] at hb
  by_cases q : f = "int"
  · rw [if_pos q] at hb
    subst q
    by_cases q : nn = 1
    · rw [if_pos q] at hb
      cases hb
      exact e_bltT x rfl (fun fx hK => cr_int) hg (mg _ (by decide)) rfl ha hs
    rw [if_neg q] at hb
    cases hb
  rw [if_neg q] at hb
  by_cases q : f = "tuple"
  · rw [if_pos q] at hb
    subst q
    by_cases q : nn = 1
    · rw [if_pos q] at hb
      cases hb
      exact e_bltT x rfl (fun fx hK => cr_tuple hK) hg (mg _ (by decide)) rfl ha hs
    rw [if_neg q] at hb
    cases hb
  rw [if_neg q] at hb
  by_cases q : f = "list"
  · rw [if_pos q] at hb
    subst q
    by_cases q : nn = 1
    · rw [if_pos q] at hb
      cases hb
      exact e_bltT x rfl (fun fx hK => cr_list hK) hg (mg _ (by decide)) rfl ha hs
    rw [if_neg q] at hb
    cases hb
  rw [if_neg q] at hb
  by_cases q : f = "dict"
  · rw [if_pos q] at hb
    subst q
    by_cases q : nn = 1
    · rw [if_pos q] at hb
      cases hb
      exact e_bltT x rfl lf.dic hg (mg _ (by decide)) rfl ha hs
    rw [if_neg q] at hb
    cases hb
  rw [if_neg q] at hb
  by_cases q : f = "repr"
  · rw [if_pos q] at hb
    subst q
    by_cases q : nn = 1
    · rw [if_pos q] at hb
      cases hb
      exact e_bltF x rfl (lf.rep (x.b.gd (hrep rfl))) hg (mg _ (by decide)) rfl ha hs
    rw [if_neg q] at hb
    cases hb
  rw [if_neg q] at hb
  cases hb
/-- what viewC sees -/
theorem view_sset {f : Str} {e : Expr} {q1 q2 : Pos} (h : viewC f es = .sset e q1 q2) : ∃ p p2, f = "sorted" ∧ es = [.Call (.Name "set" p2) [e] [] p] := by
  unfold viewC at h
  split at h
  · rename_i z
    subst z
    split at h
    · split at h
      · rename_i g pg e' pp z
        subst z
        cases h
        exact ⟨_, _, rfl, rfl⟩
      · cases h
    · cases h
  · split at h
    · split at h
      · split at h <;> cases h
      · cases h
    · split at h
      · split at h
        · split at h <;> cases h
        · cases h
      · split at h
        · split at h <;> cases h
        · split at h <;> cases h
theorem view_nxt {f : Str} {e d : Expr} (h : viewC f es = .nxt e d) : ∃ p p2, f = "next" ∧ es = [.Call (.Name "iter" p2) [e] [] p, d] := by
  unfold viewC at h
  split at h
  · split at h
    · split at h <;> cases h
    · cases h
  · split at h
    · split at h
      · split at h <;> cases h
      · cases h
    · split at h
      · rename_i z
        subst z
        split at h
        · split at h
          · rename_i g pg e' pp d' z
            subst z
            cases h
            exact ⟨_, _, rfl, rfl⟩
          · cases h
        · cases h
      · split at h
        · split at h <;> cases h
        · split at h <;> cases h
theorem view_isi {f t : Str} {e : Expr} (h : viewC f es = .isi e t) : ∃ p, f = "isinstance" ∧ es = [e, .Name t p] := by
  unfold viewC at h
  split at h
  · split at h
    · split at h <;> cases h
    · cases h
  · split at h
    · split at h
      · split at h <;> cases h
      · cases h
    · split at h
      · split at h
        · split at h <;> cases h
        · cases h
      · split at h
        · rename_i z
          subst z
          split at h <;> cases h
          exact ⟨_, rfl, rfl⟩
        · split at h <;> cases h
theorem view_lam {f : Str} {ps : Arguments} {body : Expr} {lsc : Scope} (h : viewC f es = .lam ps body lsc) : ∃ p, es = [.Lambda ps body lsc p] := by
  unfold viewC at h
  split at h
  · split at h
    · split at h <;> cases h
    · cases h
  · split at h
    · split at h
      · split at h <;> cases h
      · cases h
    · split at h
      · split at h
        · split at h <;> cases h
        · cases h
      · split at h
        · split at h <;> cases h
        · split at h <;> cases h
          exact ⟨_, rfl⟩
theorem isi_ok {t : Str} {b : Blt} (x : XOk X S cx sc n) (hb : isiOf t = some b) (hg : isGl sc "isinstance" = true) (hgt : isGl sc t = true) (ha : PE X a (tE S ca)) (hs : isStar a = false) : PE X (.Call (.Name "isinstance" p) [a, .Name t p2] [] pos) (tE S (.blt b (.cons ca .nil))) := by
  have mg : ∀ y, y ∈ (["len", "all", "any", "sum", "min", "max", "abs", "int", "tuple", "list", "sorted", "dict", "repr", "set", "next", "iter", "isinstance", "str", "range"] : List Str) → X.mg y = none := x.b.blt
  have fl : ∀ b : Blt, (b = .isInt ∨ b = .isStr ∨ b = .isTuple) → ∀ d d', bltD b [d] = some d' → flat d' = true := fun b hb d d' e => by
    rcases hb with rfl | rfl | rfl <;> cases d <;> cases e <;> rfl
  unfold isiOf at hb
  split at hb
  · rename_i q; subst q
    cases hb
    exact e_isi x (fun fx hK => cr_isInt) rfl hg hgt (mg _ (by decide)) rfl ha hs (fl _ (.inl rfl))
  split at hb
  · rename_i q; subst q
    cases hb
    exact e_isi x (fun fx hK => cr_isStr) rfl hg hgt (mg _ (by decide)) rfl ha hs (fl _ (.inr (.inl rfl)))
  split at hb
  · rename_i q; subst q
    cases hb
    exact e_isi x (fun fx hK => cr_isTuple hK) rfl hg hgt (mg _ (by decide)) rfl ha hs (fl _ (.inr (.inr rfl)))
  · cases hb
theorem call_ok {g : Expr → Option C} {gl : Expr → Scope → Option C} {f : Str} {c : C} (x : XOk X S cx sc n) (lf : LeafOk X) (fo : FnsOk X S cx.sig n) (td : cx.sig.told ≠ "" → ToldOk X S cx sc n) (hf : ∀ e c, g e = some c → PE X e (tE S c)) (hst : ∀ e c, g e = some c → isStar e = false)
    (hgl : ∀ body lsc c, gl body lsc = some c → ∀ X' S', (∃ W, S' = { S with wx := W }) → XOk X' S' cx.lam lsc n → FnsOk X' S' cx.lam.sig n → PE X' body (tE S' c)) (h : callC cx g gl sc f es = some c) : PE X (.Call (.Name f p) es [] pos) (tE S c) := by
  unfold callC at h
  by_cases hgf : isGl sc f = true
  · rw [hgf] at h
    rw [if_neg (by simp)] at h
    split at h
    · rename_i e q1 q2 hv
      obtain ⟨pp, pp2, rfl, rfl⟩ := view_sset hv
      by_cases q : (isGl sc "set" && !isStar e) = true
      · rw [if_pos q] at h
        simp only [Bool.and_eq_true, Bool.not_eq_true'] at q
        obtain ⟨ca, e1, e2⟩ := Option.map_eq_some_iff.mp h
        subst e2
        exact lf.sset S cx sc n e ca _ _ _ _ x hgf q.1 q.2 (hf _ _ e1)
      · rw [if_neg q] at h; cases h
    · cases h
    · rename_i e d hv
      obtain ⟨pp, pp2, rfl, rfl⟩ := view_nxt hv
      by_cases q : (isGl sc "iter" && !isStar e && !isStar d) = true
      · rw [if_pos q] at h
        simp only [Bool.and_eq_true, Bool.not_eq_true'] at q
        split at h
        · rename_i c1 c2 e1 e2
          obtain ⟨z, rfl⟩ := ite_some' h
          exact lf.nxt S cx sc n e d c1 c2 _ _ _ _ x z hgf q.1.1 q.1.2 q.2 (hf _ _ e1) (hf _ _ e2)
        · cases h
      · rw [if_neg q] at h; cases h
    · rename_i e t hv
      obtain ⟨pp, rfl, rfl⟩ := view_isi hv
      by_cases q : (isGl sc t && !isStar e) = true
      · rw [if_pos q] at h
        simp only [Bool.and_eq_true, Bool.not_eq_true'] at q
        split at h
        · rename_i c1 b e1 e2
          cases h
          exact isi_ok x e2 hgf q.1 (hf _ _ e1) q.2
        · cases h
      · rw [if_neg q] at h; cases h
    · rename_i ps body lsc hv
      obtain ⟨pp, rfl⟩ := view_lam hv
      by_cases q : (decide (f = cx.sig.told) && noPs ps && lamB sc lsc && decide (cx.sig.told ≠ "")) = true
      · rw [if_pos q] at h
        simp only [Bool.and_eq_true, decide_eq_true_eq] at q
        obtain ⟨⟨⟨rfl, q2⟩, q3⟩, ht⟩ := q
        obtain ⟨ca, e1, e2⟩ := Option.map_eq_some_iff.mp h
        subst e2
        exact td ht ps body lsc pp p pos ca q2 q3 hgf (hgl body lsc ca e1)
      · rw [if_neg q] at h; cases h
    · rename_i hv
      by_cases hs : es.any isStar = true
      · rw [if_pos hs] at h; cases h
      · rw [if_neg hs] at h
        rw [Bool.not_eq_true] at hs
        split at h
        · rename_i cs e1
          obtain ⟨ha, hl⟩ := args_ok x hf hst e1
          obtain ⟨l1, l2⟩ := hl hs
          unfold plainC at h
          split at h
          · rename_i kk e2
            by_cases q : (decide (kk = es.length) && decide (1 ≤ es.length) && (!cx.sig.gfns.contains f || cx.sig.rep)) = true
            · rw [if_pos q] at h
              simp only [Bool.and_eq_true, decide_eq_true_eq] at q
              cases h
              cases es with
              | nil => simp at q
              | cons a es =>
                have kn := q.1.1
                rw [x.own.symm]
                exact e_call x fo (fun z => by
                  have := q.2
                  rw [z] at this
                  simpa using this) hgf e2 (by rw [l2]; exact kn.symm) l1 ha hs
            · rw [if_neg q] at h; cases h
          · obtain ⟨b, e2, h⟩ := Option.bind_eq_some_iff.mp h
            have hrep : isRep b = true → cx.sig.rep = true := fun z => by
              rw [z] at h
              cases q : cx.sig.rep with
              | true => rfl
              | false => rw [q] at h; cases h
            have e3 : C.blt b cs = c := by
              split at h
              · cases h
              · exact Option.some.inj h
            subst e3
            cases es with
            | nil =>
              exfalso
              have bn : bltOf f 0 = none := by
                unfold bltOf
                simp only [Nat.zero_ne_one, if_false, ite_self, show ¬ ((0:Nat) = 2) by decide]
              have e2 : bltOf f 0 = some b := e2
              rw [bn] at e2
              cases e2
            | cons a es => exact blt_ok x lf hgf e2 hrep ha hs
        · cases h
  · rw [Bool.not_eq_true] at hgf
    rw [hgf] at h
    cases h
end
end Mini

set_option Elab.async false
set_option linter.all false
set_option maxRecDepth 100000
set_option maxHeartbeats 4000000
/-! Mini, part M1: sets of texts (lines turned from the kit's sets of ints). -/
namespace Mini
open PySem PySem.Spec PyProof.Rows L2
def keyX (e : Int × Value) : Str := match e.2 with | .str k _ => k | _ => Str.empty
def GoodX (w : World) (e : Int × Value) : Prop := ∃ k tk, e.2 = Value.str k tk ∧ e.1 = hashStr w k

/-- the set of ints at a: S its members, n their number; its table rises and can be walked -/
def SetX (w : World) (h : Heap) (a : Addr) (S : Str → Bool) (n : Nat) : Prop :=
  ∃ o es ep t, h.get? a = some o ∧ o.ExactSet ∧ o.data = .set es ep t ∧ (∀ e ∈ es.toList, GoodX w e) ∧ (es.toList.map keyX).Nodup ∧ (∀ k, S k = true ↔ k ∈ es.toList.map keyX) ∧
    es.size < scanBound ∧ t.fits es.size = true ∧ es.size = n ∧ Ris t.place.toList ∧ (w.params.followText "set-order" = true ∨ t.led = true)

section
variable {P : Program} {w : World} {h h' : Heap} {a : Addr} {S : Str → Bool} {n : Nat}
theorem SetX.at (R : SetX w h a S n) (k : ∀ o, h.get? a = some o → h'.get? a = some o) : SetX w h' a S n := by
  obtain ⟨o, es, ep, t, ho, r⟩ := R
  exact ⟨o, es, ep, t, k o ho, r⟩
theorem SetX.lt (R : SetX w h a S n) : a < h.objs.size := by
  obtain ⟨o, es, ep, t, ho, r⟩ := R
  exact Heap.lt_size ho
theorem SetX.congr {S' : Str → Bool} (R : SetX w h a S n) (e : ∀ k, S' k = S k) : SetX w h a S' n := by
  have q : S' = S := funext e
  rw [q]; exact R
theorem goodX_elems {l : List (Int × Value)} (g : ∀ e ∈ l, GoodX w e) : ElemsOf (strKind P w) l := fun e he => by
  obtain ⟨k, tk, h1, h2⟩ := g e he
  exact ⟨⟨k, by rw [h1]; exact strKind_is P w k tk, h2⟩, by rw [h1] <;> rfl⟩
theorem goodX_is {e : Int × Value} (g : GoodX w e) (k : Str) : (strKind P w).is k e.2 = true ↔ keyX e = k := by
  obtain ⟨k0, tk, h1, _⟩ := g
  unfold keyX
  rw [h1]
  show ((k0 == k) = true) ↔ k0 = k
  exact beq_iff_eq
theorem goodX_mem {l : List (Int × Value)} (g : ∀ e ∈ l, GoodX w e) (k : Str) : k ∈ l.map keyX ↔ ∃ e ∈ l, (strKind P w).is k e.2 = true := by
  rw [List.mem_map]
  constructor
  · rintro ⟨e, he, q⟩
    exact ⟨e, he, (goodX_is (g e he) k).2 q⟩
  · rintro ⟨e, he, q⟩
    exact ⟨e, he, (goodX_is (g e he) k).1 q⟩
theorem SetX.setOf (R : SetX w h a S n) : h.SetOf (strKind P w) a S n := by
  obtain ⟨o, es, ep, t, ho, hx, hd, g, nd, hm, hb, hf, hn, _⟩ := R
  exact ⟨o, es, ep, t, ho, hx, hd, goodX_elems g, fun k => (hm k).trans (goodX_mem g k), hb, hf, hn⟩
end
section
variable {P : Program} {w : World} {A : Around} {E : Value → Shared → Prop} {s : Shared} {a : Addr} {S : Str → Bool} {n : Nat}
theorem setX_add_tail {g : Bool → Sem Unit} (hg : ∀ (b : Bool) (s₁ : Shared) (Q' : Unit → Shared → Prop), Q' () s₁ → wpAny (model P w) A (g b) Q' E s₁)
    {o : Obj} {es : Array (Int × Value)} {ep : Nat} {t : SetTable} (ho : s.heap.get? a = some o) (hex : o.ExactSet) (hd : o.data = .set es ep t)
    {es1 : Array (Int × Value)} {t2 : SetTable} {S' : Str → Bool} (g1 : ∀ e ∈ es1.toList, GoodX w e) (nd1 : (es1.toList.map keyX).Nodup) (m1 : ∀ k, S' k = true ↔ k ∈ es1.toList.map keyX)
    (hb1 : es1.size < scanBound) (hf2 : t2.fits es1.size = true) (hr : Ris t2.place.toList) (hl : w.params.followText "set-order" = true ∨ t2.led = true) {wasDummy : Bool} {R : Option Bool → Shared → Prop}
    (hR : ∀ h', Heap.SameBut a s.heap h' → SetX w h' a S' es1.size → R (some true) { s with heap := h' }) :
    wpAny (model P w) A (do
        storeSet a es1 t2
        if (!wasDummy && t2.tooFull) = true then do
            g (relayAll t2 es1 (SetTable.grown es1.size)).2.2
            storeSet a (relayAll t2 es1 (SetTable.grown es1.size)).1 (relayAll t2 es1 (SetTable.grown es1.size)).2.1
            pure (some true)
          else pure (some true)) R E s := by
  refine wpAny_bind (wpAny_storeSet_of ho hd ?_ (fits_of_scanBound hb1))
  have ho1 := store_at (es' := es1) (t' := t2) ho hd
  have sb1 := Heap.SameBut.update s.heap a (Obj.putSet es1 t2)
  split
  · have pm := relayAll_perm t2 es1 (SetTable.grown es1.size)
    have hf3 := relayAll_fits t2 es1 (SetTable.grown es1.size)
    have hr3 := relayAll_ris t2 es1 (SetTable.grown es1.size)
    have hl3 := relayAll_led t2 es1 (SetTable.grown es1.size)
    generalize relayAll t2 es1 (SetTable.grown es1.size) = Z at pm hf3 hr3 hl3 ⊢
    obtain ⟨es2, t3, gave⟩ := Z
    dsimp only at pm hf3 hr3 hl3 ⊢
    have hsz : es2.size = es1.size := by rw [← Array.length_toList, pm.length_eq, Array.length_toList]
    have hb2 : es2.size < scanBound := by rw [hsz]; exact hb1
    refine wpAny_bind (hg _ _ _ ?_)
    refine wpAny_bind (wpAny_storeSet_of ho1 rfl ?_ (fits_of_scanBound hb2))
    have ho2 := store_at (es' := es2) (t' := t3) ho1 rfl
    refine wpAny_pure (hR _ (sb1.trans (Heap.SameBut.update _ a _)) ?_)
    exact ⟨_, es2, _, t3, ho2, hex, rfl, fun e he => g1 e (pm.mem_iff.mp he), (pm.map keyX).nodup_iff.mpr nd1, fun k => (m1 k).trans (pm.map keyX).mem_iff.symm, hb2, hf3, hsz, hr3,
      hl.imp id fun z => by rw [hl3]; exact z⟩
  · exact wpAny_pure (hR _ sb1 ⟨_, es1, _, t2, ho1, hex, rfl, g1, nd1, m1, hb1, hf2, rfl, hr, hl⟩)

theorem setX_add_hashed {k : Str} {tk : Tok} {Q : Bool → Shared → Prop} (R : SetX w s.heap a S n) (room : n + 1 < scanBound)
    (hQ : ∀ h', Heap.SameBut a s.heap h' → SetX w h' a (fun j => S j || decide (j = k)) (if S k = true then n else n + 1) → Q (!S k) { s with heap := h' }) :
    wpAny (model P w) A (setAddHashed a (.str k tk) ((strKind P w).hash k)) Q E s := by
  obtain ⟨o, es, ep, t, ho, hex, hd, g, nd, hm, hb, hf, hn, hr, hl⟩ := R
  have hkey : (strKind P w).is k (.str k tk) = true := strKind_is P w k tk
  have hsc : (Value.str k tk).scannable = true := rfl
  have hel : ElemsOf (strKind P w) es.toList := goodX_elems g
  unfold setAddHashed setAddHashedIn
  refine wpAny_holding (wpAny_bind (wpAny_setState_of ho hd hf ?_))
  dsimp only
  rw [byScan_of hsc hb hel]
  simp only [↓reduceIte]
  unfold setAddByScan
  refine wpAny_bind ?_
  refine wpAny_bind (wpAny_rule ?_)
  refine wpAny_bind (wpAny_setScan_of hkey ho hd hf hel ?_)
  cases hfi : List.findIdx? (fun e => (strKind P w).is k e.2) es.toList with
  | some j =>
    dsimp only
    obtain ⟨hj, pj, _⟩ := List.findIdx?_eq_some_iff_getElem.mp hfi
    have hSk : S k = true := (hm k).2 ((goodX_mem (P := P) (w := w) g k).2 ⟨es.toList[j], List.getElem_mem hj, pj⟩)
    refine wpAny_pure (wpAny_pure ?_)
    have q := hQ s.heap (Heap.SameBut.refl a s.heap) ⟨o, es, ep, t, ho, hex, hd, g, nd, fun i => by
      rw [Bool.or_eq_true, decide_eq_true_eq, ← hm i]
      exact ⟨fun z => z.elim id (fun e => e ▸ hSk), .inl⟩, hb, hf, by rw [if_pos hSk]; exact hn, hr, hl⟩
    rw [hSk] at q
    exact q
  | none =>
    dsimp only
    have hnk : k ∉ es.toList.map keyX := fun z => by
      obtain ⟨e, he, q⟩ := (goodX_mem (P := P) (w := w) g k).1 z
      have c := List.findIdx?_eq_none_iff.mp hfi e he
      rw [q] at c
      cases c
    have hSk : S k = false := by
      cases q : S k with
      | false => rfl
      | true => exact absurd ((hm k).1 q) hnk
    have hgw : ∀ (b : Bool) {s₁ : Shared} {Q' : Unit → Shared → Prop}, Q' () s₁ → wpAny (model P w) A (match b with | true => rule "set.scan.the-table-gave-way" | false => pure ()) Q' E s₁ :=
      fun b s₁ Q' q => by cases b <;> first | exact wpAny_pure q | exact wpAny_rule q
    have pm := layNew_perm t es ((strKind P w).hash k) (.str k tk)
    have hf1 := layNew_fits t es ((strKind P w).hash k) (.str k tk)
    have hr1 := layNew_ris t es ((strKind P w).hash k) (.str k tk) hr
    have hl1 := layNew_led t es ((strKind P w).hash k) (.str k tk)
    generalize layNew t es ((strKind P w).hash k) (.str k tk) = Z at pm hf1 hr1 hl1 ⊢
    obtain ⟨es1, t1, wasDummy, gave⟩ := Z
    dsimp only at pm hf1 hr1 hl1 ⊢
    rw [Array.toList_push] at pm
    have pc : es1.toList.Perm (((strKind P w).hash k, Value.str k tk) :: es.toList) := pm.trans (List.perm_append_singleton _ _)
    have pk : (es1.toList.map keyX).Perm (k :: es.toList.map keyX) := pc.map keyX
    have g1 : ∀ e ∈ es1.toList, GoodX w e := fun e he => by
      rcases List.mem_cons.mp (pc.mem_iff.mp he) with z | z
      · rw [z]; exact ⟨k, tk, rfl, rfl⟩
      · exact g e z
    have nd1 : (es1.toList.map keyX).Nodup := pk.nodup_iff.mpr (List.nodup_cons.mpr ⟨hnk, nd⟩)
    have m1 : ∀ i, (S i || decide (i = k)) = true ↔ i ∈ es1.toList.map keyX := fun i => by
      rw [Bool.or_eq_true, decide_eq_true_eq, hm i, pk.mem_iff, List.mem_cons]
      exact Or.comm
    have hsz : es1.size = n + 1 := by rw [← Array.length_toList, pc.length_eq, List.length_cons, Array.length_toList, hn]
    have hb1 : es1.size < scanBound := by rw [hsz]; exact room
    have hled : w.params.followText "set-order" = true ∨ t1.led = true := hl.imp id fun z => by rw [hl1]; exact z
    have fin : ∀ h', Heap.SameBut a s.heap h' → SetX w h' a (fun j => S j || decide (j = k)) es1.size → Q true { s with heap := h' } := fun h' sb r => by
      have q := hQ h' sb
      rw [hSk] at q
      rw [hsz] at r
      exact q r
    refine wpAny_bind (hgw _ ?_)
    split
    · refine wpAny_bind ?_
      rw [hashByValue_scannable 8 hsc]
      refine wpAny_pure ?_
      refine setX_add_tail ?_ ho hex hd g1 nd1 m1 hb1 ?_ ?_ ?_ ?_
      · intro b s₁ Q' q; cases b <;> first | exact wpAny_pure q | exact wpAny_rule q
      · first | (split <;> first | exact hf1 | exact SetTable.fits_plain_off hf1) | exact hf1
      · first | (split <;> exact hr1) | exact hr1
      · first | (split <;> exact hled) | exact hled
      · intro h' sb r; dsimp only; exact wpAny_pure (fin h' sb r)
    · refine wpAny_bind (wpAny_pure ?_)
      simp only [↓reduceIte]
      refine setX_add_tail ?_ ho hex hd g1 nd1 m1 hb1 hf1 hr1 hled ?_
      · intro b s₁ Q' q; cases b <;> first | exact wpAny_pure q | exact wpAny_rule q
      · intro h' sb r; dsimp only; exact wpAny_pure (fin h' sb r)

end
theorem setX_new_at {w : World} {h : Heap} {a : Addr} {ns : List Str} (ho : h.get? a = some { cls := .type "set", dict := none, data := .set #[] 0 (.fresh 0 0 (!w.params.followText "set-order")) }) : SetX w h a (fun j => decide (j ∈ ns.take 0)) 0 :=
  ⟨_, #[], 0, _, ho, ⟨rfl, rfl, rfl⟩, rfl, (fun e he => by simp at he), (by simp), (fun k => by simp), (by decide), (by rfl), rfl, List.Pairwise.nil, by
    show _ ∨ (!w.params.followText "set-order") = true
    cases w.params.followText "set-order"
    · exact .inr rfl
    · exact .inl rfl⟩
section
variable {P : Program} {w : World} {A : Around} {E : Value → Shared → Prop} {s : Shared}
theorem set_update_strs {I : Addr} {fp wr : List Addr} {G : Array GenState → Array GenState → Prop} {n : Nat} {Pv : Nat → Value → Prop} {St : Nat → Shared → Prop} {R : Result → Shared → Prop}
    (W : WalksS P w A.in1 I fp wr G n Pv St) (S : Addr) (hSf : S ∉ fp) (ns : List Str) (hn : n = ns.length) (hb : ns.length + 1 < scanBound) (hval : ∀ i v, Pv i v → ∃ k t, ns[i]? = some k ∧ v = .str k t) :
    ∀ (k i : Nat) (s : Shared), n - i = k → i ≤ n → St i s → (∃ c, c ≤ i ∧ SetX w s.heap S (fun j => decide (j ∈ ns.take i)) c) →
      (∀ s' c, Moved (S :: wr) G s s' → c ≤ n → SetX w s'.heap S (fun j => decide (j ∈ ns)) c → R (.ok (.ret .none)) s') →
      codeAny (model P w) A (.builtin "set.update.loop" ⟨[.ref S, .ref I], []⟩) R s := by
  have hSw : S ∉ wr := fun h => hSf (W.sub _ h)
  have hsub : ∀ b ∈ wr, b ∈ S :: wr := fun b hb => List.mem_cons_of_mem _ hb
  intro k
  induction k with
  | zero =>
    intro i s hk' hi hst ⟨c, hc, hS⟩ hR
    have hin : i = n := by omega
    subst hin
    refine codeAny_builtin F.entry_set_update_loop ?_
    rw [Around.under_plainId F.plain_set_update_loop _]
    show wpAny _ A.in1 (pyNext (.ref I) >>= _) _ _ s
    refine wpAny_bind (W.done s _ _ hst fun s' hm => ?_)
    show wpAny _ A.in1 (ret Value.none) _ _ s'
    have e : ns.take i = ns := List.take_of_length_le (by omega)
    rw [e] at hS
    exact wpAny_pure (hR s' c (hm.mono hsub) hc (hS.at fun o e => hm.heap S o hSw e))
  | succ k ih =>
    intro i s hk' hi hst ⟨c, hc, hS⟩ hR
    have hlt : i < n := by omega
    refine codeAny_builtin F.entry_set_update_loop ?_
    rw [Around.under_plainId F.plain_set_update_loop _]
    show wpAny _ A.in1 (pyNext (.ref I) >>= _) _ _ s
    refine wpAny_bind (W.item i s _ _ hlt hst fun v s' hP hst' hm => ?_)
    obtain ⟨z, t, hz, rfl⟩ := hval i v hP
    have hS' : SetX w s'.heap S (fun j => decide (j ∈ ns.take i)) c := hS.at fun o e => hm.heap S o hSw e
    show wpAny _ A.in1 (holding [Value.str z t] (setAdd S (.str z t)) >>= _) _ _ s'
    refine wpAny_bind (wpAny_holding ?_)
    unfold setAdd
    refine wpAny_holding ?_
    refine wpAny_bind ((strKind P w).pyHash (k := z) (strKind_is _ _ _ _) ?_)
    refine setX_add_hashed (s := { s' with toks := s'.toks + 1 }) hS' (by omega) fun h' hsb hS2 => ?_
    have hS3 : SetX w h' S (fun j => decide (j ∈ ns.take (i + 1))) (if decide (z ∈ ns.take i) = true then c else c + 1) := hS2.congr fun j => by
      rw [List.take_add_one, hz]
      simp [List.mem_append]
    have hc3 : (if decide (z ∈ ns.take i) = true then c else c + 1) ≤ i + 1 := by
      split <;> omega
    refine wpAny_pure ⟨plainId_quiet F.plain_set_update_loop _, ih (i + 1) _ (by omega) hlt (W.frame _ s' _ _ hst' (Nat.le_succ _) fun b hb o e => ?_) ⟨_, hc3, hS3⟩ fun s'' c2 hm'' hc'' hS'' => ?_⟩
    · rw [hsb.2 b (fun h : b = S => hSf (by rw [← h]; exact hb))]; exact e
    · refine hR s'' c2 (Moved.trans W.gtrans ((hm.mono hsub).then_heap (Nat.le_succ _) fun b o hb e => ?_) hm'') hc'' hS''
      rw [hsb.2 b (fun h : b = S => hb (by rw [h]; exact List.mem_cons_self))]; exact e

set_option maxHeartbeats 6400000 in
theorem call_set_tupX {l : Addr} {items : Array Value} (ns : List Str) {Q : Value → Shared → Prop} (hh : A.handled = none) (hl : s.heap.IsTuple l items) (hit : StrsAre items.toList ns) (hb : ns.length + 1 < scanBound)
    (h : ∀ (h' : Heap) (tk c : Nat), SetX w h' s.heap.objs.size (fun j => decide (j ∈ ns)) c → c ≤ ns.length → (∀ b o, s.heap.get? b = some o → h'.get? b = some o) → Q (.ref s.heap.objs.size) { s with heap := h', toks := tk }) :
    wpAny (model P w) A (call (.type "set") [.ref l]) Q E s := by
  have hisz : items.size = ns.length := by
    have q := StrsAre.length hit
    rw [Array.length_toList] at q
    exact q
  obtain ⟨c, tl, hmro⟩ := F.called_set.mro
  have hmade := F.called_set.made
  have hsub := F.called_set.sub
  refine wpAny_call (codeAny_of_tree ?_)
  show wpAny _ _ (callAny (.type "set") _) _ _ _
  refine wpAny_pure ⟨Code.quiet_builtin _ (by decide +kernel), codeAny_builtin F.entry_type_call ?_⟩
  rw [Around.under_plain (weight_type_call_type "set" [.ref l] []) rfl]
  have h1 := F.called_set.notType
  have h2 := F.called_set.canCreate
  have hct := F.typeCall_set_1 (.ref l)
  repeat (any_goals (first | assumption | wp_step))

  refine codeAny_mono (code_set_led1 (.ref l) (E := E) (Q₁ := fun obj s₁ => obj = .ref s.heap.objs.size ∧ s₁ = { s with heap := s.heap.push { cls := .type "set", dict := none, data := .set #[] 0 (.fresh 0 0 (!w.params.followText "set-order")) } }) ⟨rfl, rfl⟩) fun r s₁ hr => ?_
  cases r with
  | error e => exact hr
  | ok fl =>
    cases fl with
    | ret obj =>
      obtain ⟨rfl, rfl⟩ := hr
      have hS : (s.heap.push { cls := .type "set", dict := none, data := .set #[] 0 (.fresh 0 0 (!w.params.followText "set-order")) }).get? s.heap.objs.size = some { cls := .type "set", dict := none, data := .set #[] 0 (.fresh 0 0 (!w.params.followText "set-order")) } := Heap.get?_push_size _ rfl
      have hT : Shared.TypeIs { s with heap := s.heap.push { cls := .type "set", dict := none, data := .set #[] 0 (.fresh 0 0 (!w.params.followText "set-order")) } } (.ref s.heap.objs.size) "set" := ⟨_, hS, rfl⟩
      have hli := F.called_set.init.lookup
      have hbi := F.called_set.init.bind (.ref s.heap.objs.size)
      repeat (any_goals (first | assumption | wp_step))

      refine codeAny_mono (codeAny_call_builtin (R := wants (fun r s₂ => r = .none ∧ ∃ h' tk c, s₂ = { s with heap := h', toks := tk } ∧ SetX w h' s.heap.objs.size (fun j => decide (j ∈ ns)) c ∧ c ≤ ns.length ∧
          (∀ b o, s.heap.get? b = some o → h'.get? b = some o)) E) F.called_set.init.plain F.entry_set_init (check_set_init_1 hT ?_)) fun r₂ s₂ hr₂ => ?_
      · obtain ⟨ol, hol, hcl, nl, hdl⟩ := hl
        obtain ⟨ocls, odict, odata, oslots⟩ := ol
        simp only at hcl hdl
        subst hcl; subst hdl
        have hol' : (s.heap.push { cls := .type "set", dict := none, data := .set #[] 0 (.fresh 0 0 (!w.params.followText "set-order")) }).get? l = some { cls := .type "tuple", dict := odict, data := .seq items nl, slots := oslots } := Heap.get?_push_of_some _ hol
        have hsls := F.sub_tuple_set
        have hslf := F.sub_tuple_frozenset
        have hne : (Value.type "tuple" == Value.type "dict") = false := by decide
        have hl1 : (s.heap.push { cls := .type "set", dict := none, data := .set #[] 0 (.fresh 0 0 (!w.params.followText "set-order")) }).IsTuple l items := ⟨_, hol', rfl, nl, rfl⟩
        unfold Builtin.«set.__init__» noKeywords Builtin.Frozenset.updateFrom
        generalize hPI : pyIter = PI
        wp_walk
        subst hPI

        refine wpAny_pyIter_tuple hl1 ?_
        refine wpAny_bind (wpAny_runValue ?_)
        have hlS : l < s.heap.objs.size := Heap.lt_size hol
        have hh3 : A.in1.in1.in1.handled = none := by simp [hh]
        have hz1 : (s.heap.push { cls := .type "set", dict := none, data := .set #[] 0 (.fresh 0 0 (!w.params.followText "set-order")) }).objs.size = s.heap.objs.size + 1 := Heap.size_push ..
        have hneI : l ≠ (s.heap.push { cls := .type "set", dict := none, data := .set #[] 0 (.fresh 0 0 (!w.params.followText "set-order")) }).objs.size := by
          rw [Heap.size_push]; exact Nat.ne_of_lt (Nat.lt_succ_of_lt hlS)
        have hSf : s.heap.objs.size ∉ [(s.heap.push { cls := .type "set", dict := none, data := .set #[] 0 (.fresh 0 0 (!w.params.followText "set-order")) }).objs.size, l] := by
          rw [Heap.size_push]; simp only [List.mem_cons, List.mem_singleton, List.not_mem_nil, or_false, not_or]
          exact ⟨Nat.ne_of_lt (Nat.lt_succ_self _), Nat.ne_of_gt hlS⟩
        have hval : ∀ (i : Nat) (v : Value), items[i]? = some v → ∃ k t, ns[i]? = some k ∧ v = .str k t := fun i v hv => by
          have hi : i < ns.length := by rw [← hisz]; exact (Array.getElem?_eq_some_iff.mp hv).1
          obtain ⟨t, e⟩ := SS.strs_at hit i v (by rw [Array.getElem?_toList]; exact hv)
          refine ⟨ns[i], t, List.getElem?_eq_getElem hi, ?_⟩
          rw [e, List.getD_eq_getElem?_getD, List.getElem?_eq_getElem hi] <;> rfl
        refine set_update_strs ((Walks.tuple hh3 _ l hneI items).toS) s.heap.objs.size
          hSf ns hisz hb hval (items.size - 0) 0 _ (by omega) (Nat.zero_le _)
          ⟨⟨_, Heap.get?_push_size _ rfl, rfl, rfl⟩, (hl1.push _)⟩ ?hS0 ?hR
        case hS0 =>
          have hget : ((s.heap.push { cls := .type "set", dict := none, data := .set #[] 0 (.fresh 0 0 (!w.params.followText "set-order")) }).push { cls := .type "tuple_iterator", data := .fields #[.ref l, .int 0 0] }).get? s.heap.objs.size
              = some { cls := .type "set", dict := none, data := .set #[] 0 (.fresh 0 0 (!w.params.followText "set-order")) } := Heap.get?_push_of_some _ hS
          exact ⟨0, Nat.le_refl 0, setX_new_at hget⟩
        case hR =>
          intro s' c' hm hc' hS'
          obtain ⟨h', g2, d', tk', os'⟩ := s'
          have eg : g2 = s.gens := hm.gens
          have ed : d' = s.drawn := hm.drawn
          have eo : os' = s.os := hm.os
          subst eg; subst ed; subst eo
          show wpAny _ _ _ _ _ _
          refine wpAny_pure ?_
          show wpAny _ _ (ret Value.none) _ _ _
          rw [hisz] at hc'
          refine wpAny_pure ⟨rfl, h', tk', c', rfl, hS', hc', fun b o e => ?_⟩
          have hb0 : b < s.heap.objs.size := Heap.lt_size e
          have hb1 : b ≠ s.heap.objs.size := Nat.ne_of_lt hb0
          have hb2 : b ≠ (s.heap.push { cls := .type "set", dict := none, data := .set #[] 0 (.fresh 0 0 (!w.params.followText "set-order")) }).objs.size := by
            rw [Heap.size_push]; exact Nat.ne_of_lt (Nat.lt_succ_of_lt hb0)
          exact hm.heap b o (by simp only [List.mem_cons, List.mem_singleton, List.not_mem_nil, or_false, not_or]; exact ⟨hb1, hb2⟩) (Heap.get?_push_of_some _ (Heap.get?_push_of_some _ e))

      · cases r₂ with
        | error e => exact hr₂
        | ok fl₂ =>
          cases fl₂ with
          | ret r =>
            obtain ⟨rfl, h', tk, c', rfl, hS', hc', hk'⟩ := hr₂
            repeat (any_goals (first | assumption | wp_step))
            exact h _ _ _ hS' hc' hk'
          | _ => exact hr₂.elim
    | _ => exact hr.elim

set_option maxHeartbeats 6400000 in
theorem call_set_listX {l : Addr} {items : Array Value} (ns : List Str) {Q : Value → Shared → Prop} (hh : A.handled = none) (hl : s.heap.IsList l items) (hit : StrsAre items.toList ns) (hb : ns.length + 1 < scanBound)
    (h : ∀ (h' : Heap) (tk c : Nat), SetX w h' s.heap.objs.size (fun j => decide (j ∈ ns)) c → c ≤ ns.length → (∀ b o, s.heap.get? b = some o → h'.get? b = some o) → Q (.ref s.heap.objs.size) { s with heap := h', toks := tk }) :
    wpAny (model P w) A (call (.type "set") [.ref l]) Q E s := by
  have hisz : items.size = ns.length := by
    have q := StrsAre.length hit
    rw [Array.length_toList] at q
    exact q
  obtain ⟨c, tl, hmro⟩ := F.called_set.mro
  have hmade := F.called_set.made
  have hsub := F.called_set.sub
  refine wpAny_call (codeAny_of_tree ?_)
  show wpAny _ _ (callAny (.type "set") _) _ _ _
  refine wpAny_pure ⟨Code.quiet_builtin _ (by decide +kernel), codeAny_builtin F.entry_type_call ?_⟩
  rw [Around.under_plain (weight_type_call_type "set" [.ref l] []) rfl]
  have h1 := F.called_set.notType
  have h2 := F.called_set.canCreate
  have hct := F.typeCall_set_1 (.ref l)
  repeat (any_goals (first | assumption | wp_step))

  refine codeAny_mono (code_set_led1 (.ref l) (E := E) (Q₁ := fun obj s₁ => obj = .ref s.heap.objs.size ∧ s₁ = { s with heap := s.heap.push { cls := .type "set", dict := none, data := .set #[] 0 (.fresh 0 0 (!w.params.followText "set-order")) } }) ⟨rfl, rfl⟩) fun r s₁ hr => ?_
  cases r with
  | error e => exact hr
  | ok fl =>
    cases fl with
    | ret obj =>
      obtain ⟨rfl, rfl⟩ := hr
      have hS : (s.heap.push { cls := .type "set", dict := none, data := .set #[] 0 (.fresh 0 0 (!w.params.followText "set-order")) }).get? s.heap.objs.size = some { cls := .type "set", dict := none, data := .set #[] 0 (.fresh 0 0 (!w.params.followText "set-order")) } := Heap.get?_push_size _ rfl
      have hT : Shared.TypeIs { s with heap := s.heap.push { cls := .type "set", dict := none, data := .set #[] 0 (.fresh 0 0 (!w.params.followText "set-order")) } } (.ref s.heap.objs.size) "set" := ⟨_, hS, rfl⟩
      have hli := F.called_set.init.lookup
      have hbi := F.called_set.init.bind (.ref s.heap.objs.size)
      repeat (any_goals (first | assumption | wp_step))

      refine codeAny_mono (codeAny_call_builtin (R := wants (fun r s₂ => r = .none ∧ ∃ h' tk c, s₂ = { s with heap := h', toks := tk } ∧ SetX w h' s.heap.objs.size (fun j => decide (j ∈ ns)) c ∧ c ≤ ns.length ∧
          (∀ b o, s.heap.get? b = some o → h'.get? b = some o)) E) F.called_set.init.plain F.entry_set_init (check_set_init_1 hT ?_)) fun r₂ s₂ hr₂ => ?_
      · obtain ⟨ol, hol, hcl, nl, hdl⟩ := hl
        obtain ⟨ocls, odict, odata, oslots⟩ := ol
        simp only at hcl hdl
        subst hcl; subst hdl
        have hol' : (s.heap.push { cls := .type "set", dict := none, data := .set #[] 0 (.fresh 0 0 (!w.params.followText "set-order")) }).get? l = some { cls := .type "list", dict := odict, data := .seq items nl, slots := oslots } := Heap.get?_push_of_some _ hol
        have hsls := F.sub_list_set
        have hslf := F.sub_list_frozenset
        have hne : (Value.type "list" == Value.type "dict") = false := by decide
        have hl1 : (s.heap.push { cls := .type "set", dict := none, data := .set #[] 0 (.fresh 0 0 (!w.params.followText "set-order")) }).IsList l items := ⟨_, hol', rfl, nl, rfl⟩
        unfold Builtin.«set.__init__» noKeywords Builtin.Frozenset.updateFrom
        generalize hPI : pyIter = PI
        wp_walk
        subst hPI

        refine wpAny_pyIter_list hl1 ?_
        refine wpAny_bind (wpAny_runValue ?_)
        have hlS : l < s.heap.objs.size := Heap.lt_size hol
        have hh3 : A.in1.in1.in1.handled = none := by simp [hh]
        have hz1 : (s.heap.push { cls := .type "set", dict := none, data := .set #[] 0 (.fresh 0 0 (!w.params.followText "set-order")) }).objs.size = s.heap.objs.size + 1 := Heap.size_push ..
        have hneI : l ≠ (s.heap.push { cls := .type "set", dict := none, data := .set #[] 0 (.fresh 0 0 (!w.params.followText "set-order")) }).objs.size := by
          rw [Heap.size_push]; exact Nat.ne_of_lt (Nat.lt_succ_of_lt hlS)
        have hSf : s.heap.objs.size ∉ [(s.heap.push { cls := .type "set", dict := none, data := .set #[] 0 (.fresh 0 0 (!w.params.followText "set-order")) }).objs.size, l] := by
          rw [Heap.size_push]; simp only [List.mem_cons, List.mem_singleton, List.not_mem_nil, or_false, not_or]
          exact ⟨Nat.ne_of_lt (Nat.lt_succ_self _), Nat.ne_of_gt hlS⟩
        have hval : ∀ (i : Nat) (v : Value), items[i]? = some v → ∃ k t, ns[i]? = some k ∧ v = .str k t := fun i v hv => by
          have hi : i < ns.length := by rw [← hisz]; exact (Array.getElem?_eq_some_iff.mp hv).1
          obtain ⟨t, e⟩ := SS.strs_at hit i v (by rw [Array.getElem?_toList]; exact hv)
          refine ⟨ns[i], t, List.getElem?_eq_getElem hi, ?_⟩
          rw [e, List.getD_eq_getElem?_getD, List.getElem?_eq_getElem hi] <;> rfl
        refine set_update_strs ((Walks.list hh3 _ l hneI items).toS) s.heap.objs.size
          hSf ns hisz hb hval (items.size - 0) 0 _ (by omega) (Nat.zero_le _)
          ⟨⟨_, Heap.get?_push_size _ rfl, rfl, rfl⟩, (hl1.push _)⟩ ?hS0 ?hR
        case hS0 =>
          have hget : ((s.heap.push { cls := .type "set", dict := none, data := .set #[] 0 (.fresh 0 0 (!w.params.followText "set-order")) }).push { cls := .type "list_iterator", data := .fields #[.ref l, .int 0 0] }).get? s.heap.objs.size
              = some { cls := .type "set", dict := none, data := .set #[] 0 (.fresh 0 0 (!w.params.followText "set-order")) } := Heap.get?_push_of_some _ hS
          exact ⟨0, Nat.le_refl 0, setX_new_at hget⟩
        case hR =>
          intro s' c' hm hc' hS'
          obtain ⟨h', g2, d', tk', os'⟩ := s'
          have eg : g2 = s.gens := hm.gens
          have ed : d' = s.drawn := hm.drawn
          have eo : os' = s.os := hm.os
          subst eg; subst ed; subst eo
          show wpAny _ _ _ _ _ _
          refine wpAny_pure ?_
          show wpAny _ _ (ret Value.none) _ _ _
          rw [hisz] at hc'
          refine wpAny_pure ⟨rfl, h', tk', c', rfl, hS', hc', fun b o e => ?_⟩
          have hb0 : b < s.heap.objs.size := Heap.lt_size e
          have hb1 : b ≠ s.heap.objs.size := Nat.ne_of_lt hb0
          have hb2 : b ≠ (s.heap.push { cls := .type "set", dict := none, data := .set #[] 0 (.fresh 0 0 (!w.params.followText "set-order")) }).objs.size := by
            rw [Heap.size_push]; exact Nat.ne_of_lt (Nat.lt_succ_of_lt hb0)
          exact hm.heap b o (by simp only [List.mem_cons, List.mem_singleton, List.not_mem_nil, or_false, not_or]; exact ⟨hb1, hb2⟩) (Heap.get?_push_of_some _ (Heap.get?_push_of_some _ e))

      · cases r₂ with
        | error e => exact hr₂
        | ok fl₂ =>
          cases fl₂ with
          | ret r =>
            obtain ⟨rfl, h', tk, c', rfl, hS', hc', hk'⟩ := hr₂
            repeat (any_goals (first | assumption | wp_step))
            exact h _ _ _ hS' hc' hk'
          | _ => exact hr₂.elim
    | _ => exact hr.elim

end
end Mini

set_option Elab.async false
set_option linter.all false
set_option maxRecDepth 100000
set_option maxHeartbeats 4000000
/-! Mini, part M2: sorted(set(..)) of texts. -/
namespace Mini
open PySem PySem.Spec PyProof.Rows L2
/-- a value's text -/
def textV : Value → Str
  | .str k _ => k
  | _ => Str.empty
theorem strs_of : ∀ (l : List Value), (∀ v ∈ l, ∃ k tk, v = Value.str k tk) → StrsAre l (l.map textV)
  | [], _ => .nil
  | v :: l, h => by
    obtain ⟨k, tk, rfl⟩ := h v List.mem_cons_self
    exact .cons k tk (strs_of l fun u hu => h u (List.mem_cons_of_mem _ hu))
section
variable {P : Program} {w : World} {A : Around} {E : Value → Shared → Prop} {s : Shared} {a : Addr} {S : Str → Bool} {n : Nat}
theorem sorted_setX {Q : Value → Shared → Prop} (R : SetX w s.heap a S n) (hh : A.handled = none) (hL : n ≤ sizeLine)
    (hQ : ∀ s' p (out : Array Value) (c : Nat) (ns : List Str), (∀ b o, s.heap.get? b = some o → s'.heap.get? b = some o) → s'.gens = s.gens → s'.os = s.os → s.heap.objs.size ≤ p →
      s'.heap.get? p = some (seqObj "list" out c) → StrsAre out.toList ns → ns.Nodup → sortedS ns = true → (∀ k, k ∈ ns ↔ S k = true) → ns.length = n → Q (.ref p) s') :
    wpAny (model P w) A (call (.builtin "sorted") [.ref a]) Q E s := by
  obtain ⟨o, es, ep, t, ho, hex, hd, g, nd, hm, hb, hf, hn, hr, hl⟩ := R
  refine Calls.call_function_entry kind_sorted plain_sorted entry_sorted (args_sorted1 _) ?_
  unfold Builtin.«sorted»
  refine wpAny_bind (m := checkCount "sorted" 1 1 _) (wpAny_pure ?_)
  refine wpAny_bind (collect_set (A := A.in1) hh ⟨o, ho, hex.1, hd⟩ hf hb hr hl fun s1 vs k1 hz g1 o1 pm => ?_)
  have hvl : vs.length = n := by rw [pm.length_eq, List.length_map, Array.length_toList]; exact hn
  have hI : StrsAre vs (vs.map textV) := strs_of vs fun v hv => by
    obtain ⟨e, he, q⟩ := List.mem_map.mp (pm.mem_iff.mp hv)
    obtain ⟨k, tk, h1, _⟩ := g e he
    exact ⟨k, tk, by rw [← q]; exact h1⟩
  have pk : (vs.map textV).Perm (es.toList.map keyX) := by
    have q := pm.map textV
    rw [List.map_map] at q
    exact q
  refine wpAny_bind (wpAny_newList ?_ (by rw [hvl]; exact hL))
  have hoL : (s1.heap.push (seqObj "list" vs.toArray 0)).get? s1.heap.objs.size = some (seqObj "list" vs.toArray 0) := Heap.get?_push_size _ rfl
  refine wpAny_bind (wpAny_holding (wpAny_call_entry slot_list_sort ⟨_, hoL, rfl⟩ entry_list_sort (list_sort_treeKAny strKind_oneLt hoL hI.keysOf (fun v₁ v₂ rest e => keyKind_strs (by rw [← e]; exact hI)) (by rw [hvl]; exact hL) fun st' hp hs => ⟨_, rfl, ?_⟩) (args_list_sort _)))
  obtain ⟨ns', a1, a2, a3⟩ := sorted_out_str hI hp hs
  obtain ⟨c, hc⟩ := sortedHeap_at (vs := vs) (out := (arrOf st').map (·.2)) hoL
  have pn : ns'.Perm (es.toList.map keyX) := a2.trans pk
  refine wpAny_pure ⟨_, rfl, hQ _ s1.heap.objs.size _ c ns' (fun b u e => ?_) g1 o1 hz hc a1 (pn.nodup_iff.mpr nd) a3 (fun k => by rw [pn.mem_iff, ← hm k]) ?_⟩
  · have q := k1 b u e
    have hlt := Heap.lt_size q
    show (sortedHeap (s1.heap.push (seqObj "list" vs.toArray 0)) s1.heap.objs.size vs _).get? b = some u
    rw [sortedHeap_old (Nat.ne_of_lt hlt) (by rw [size_push']; exact Nat.lt_succ_of_lt hlt)]
    exact Heap.get?_push_of_some _ q
  · rw [pn.length_eq, List.length_map, Array.length_toList]; exact hn
end
end Mini

set_option Elab.async false
set_option linter.all false
set_option maxRecDepth 100000
set_option maxHeartbeats 4000000
/-! Mini, part M3: the ascending list of a set's texts. -/
namespace Mini
open PySem PySem.Spec PyProof.Rows L2
theorem ltS_irr (a : Str) : ltS a a = false := PyProof.Rows.strKind.irrefl a.cps.toList
theorem ltS_trans {a b c : Str} (h1 : ltS a b = true) (h2 : ltS b c = true) : ltS a c = true := PyProof.Rows.strKind.trans a.cps.toList b.cps.toList c.cps.toList h1 h2
theorem ltS_total {a b : Str} (h1 : ltS a b = false) (h2 : ltS b a = false) : a = b := by
  have e : a.cps.toList = b.cps.toList := PyProof.Rows.strKind.total a.cps.toList b.cps.toList h1 h2
  cases a
  cases b
  exact congrArg _ (Array.toList_inj.mp e)
theorem ltS_of {a b : Str} (h1 : ltS b a = false) (n : a ≠ b) : ltS a b = true := by
  cases h : ltS a b with
  | true => rfl
  | false => exact absurd (ltS_total h h1) n
theorem mem_insS {x y : Str} : ∀ {l : List Str}, y ∈ insS x l ↔ y = x ∨ y ∈ l
  | [] => by simp [insS]
  | z :: r => by
    unfold insS
    split
    · rename_i e
      subst e
      simp
    · split
      · simp
      · rw [List.mem_cons, mem_insS, List.mem_cons]
        constructor
        · rintro (h | h | h)
          · exact .inr (.inl h)
          · exact .inl h
          · exact .inr (.inr h)
        · rintro (h | h | h)
          · exact .inr (.inl h)
          · exact .inl h
          · exact .inr (.inr h)
theorem asc_insS {x : Str} : ∀ {l : List Str}, l.Pairwise (fun a b => ltS a b = true) → (insS x l).Pairwise (fun a b => ltS a b = true)
  | [], _ => by
    show List.Pairwise _ [x]
    simp
  | z :: r, h => by
    obtain ⟨h1, h2⟩ := List.pairwise_cons.mp h
    unfold insS
    split
    · exact h
    · rename_i n
      split
      · rename_i c
        refine List.pairwise_cons.mpr ⟨fun y hy => ?_, h⟩
        rcases List.mem_cons.mp hy with e | e
        · rw [e]; exact c
        · exact ltS_trans c (h1 y e)
      · rename_i c
        have c : ltS x z = false := by simpa using c
        refine List.pairwise_cons.mpr ⟨fun y hy => ?_, asc_insS h2⟩
        rcases mem_insS.mp hy with e | e
        · rw [e]; exact ltS_of c fun q => n q.symm
        · exact h1 y e
theorem asc_sortS : ∀ l : List Str, (sortS l).Pairwise (fun a b => ltS a b = true)
  | [] => List.Pairwise.nil
  | x :: r => asc_insS (asc_sortS r)
theorem mem_sortS {y : Str} : ∀ {l : List Str}, y ∈ sortS l ↔ y ∈ l
  | [] => Iff.rfl
  | x :: r => by
    show y ∈ insS x (sortS r) ↔ _
    rw [mem_insS, mem_sortS, List.mem_cons]
theorem asc_rising : ∀ {l : List Str} {x : Str}, risingS x l = true → (x :: l).Nodup → (x :: l).Pairwise (fun a b => ltS a b = true)
  | [], x, _, _ => by simp
  | y :: r, x, h, n => by
    have h : (!ltCps y.cps.toList x.cps.toList && risingS y r) = true := h
    rw [Bool.and_eq_true, Bool.not_eq_true', ltCps_eq] at h
    have ih := asc_rising h.2 (List.nodup_cons.mp n).2
    have lt : ltS x y = true := ltS_of h.1 fun q => (List.nodup_cons.mp n).1 (q ▸ List.mem_cons_self)
    refine List.pairwise_cons.mpr ⟨fun z hz => ?_, ih⟩
    rcases List.mem_cons.mp hz with e | e
    · rw [e]; exact lt
    · exact ltS_trans lt ((List.pairwise_cons.mp ih).1 z e)
theorem asc_sorted {l : List Str} (h : sortedS l = true) (n : l.Nodup) : l.Pairwise (fun a b => ltS a b = true) := by
  cases l with
  | nil => exact List.Pairwise.nil
  | cons x r => exact asc_rising h n
theorem asc_eq : ∀ {l r : List Str}, l.Pairwise (fun a b => ltS a b = true) → r.Pairwise (fun a b => ltS a b = true) → (∀ k, k ∈ l ↔ k ∈ r) → l = r
  | [], [], _, _, _ => rfl
  | [], y :: r, _, _, m => absurd ((m y).mpr List.mem_cons_self) (by simp)
  | x :: l, [], _, _, m => absurd ((m x).mp List.mem_cons_self) (by simp)
  | x :: l, y :: r, h1, h2, m => by
    obtain ⟨a1, a2⟩ := List.pairwise_cons.mp h1
    obtain ⟨b1, b2⟩ := List.pairwise_cons.mp h2
    have no : ∀ {a b : Str}, ltS a b = true → ltS b a = true → False := fun p q => by
      have := ltS_trans p q
      rw [ltS_irr] at this
      cases this
    have e : x = y := by
      rcases List.mem_cons.mp ((m x).mp List.mem_cons_self) with e | e
      · exact e
      · rcases List.mem_cons.mp ((m y).mpr List.mem_cons_self) with q | q
        · exact q.symm
        · exact (no (a1 y q) (b1 x e)).elim
    subst e
    have nx : x ∉ l := fun q => no (a1 x q) (a1 x q)
    have ny : x ∉ r := fun q => no (b1 x q) (b1 x q)
    rw [asc_eq a2 b2 fun k => ?_]
    constructor
    · intro q
      rcases List.mem_cons.mp ((m k).mp (List.mem_cons_of_mem _ q)) with e | e
      · exact absurd (e ▸ q) nx
      · exact e
    · intro q
      rcases List.mem_cons.mp ((m k).mpr (List.mem_cons_of_mem _ q)) with e | e
      · exact absurd (e ▸ q) ny
      · exact e
theorem eq_sortS {ns l : List Str} (n : ns.Nodup) (h : sortedS ns = true) (m : ∀ k, k ∈ ns ↔ k ∈ l) : ns = sortS l :=
  asc_eq (asc_sorted h n) (asc_sortS l) fun k => (m k).trans mem_sortS.symm
end Mini

set_option Elab.async false
set_option linter.all false
set_option maxRecDepth 100000
set_option maxHeartbeats 4000000
/-! Mini, part M4: sorted(set(..)) of texts, the rule. -/
namespace Mini
open PySem PySem.Spec PyProof.Rows L2
/-- the set of texts at a -/
def SetXO (w : World) (a : Addr) (S : Str → Bool) (n : Nat) : HO := .ext fun h => SetX w h a S n
section
variable {X : Cx}
theorem setXO_new {w : World} {P : Program} {H : Hp} {h : Heap} {a : Addr} {S : Str → Bool} {n : Nat} (R : SetX w h a S n) : ObjOk P w H h a (SetXO w a S n) := by
  have ⟨o, _, _, _, ho, _⟩ := R
  exact ⟨R, ⟨o, ho⟩, fun h1 h2 p k => SetX.at p k⟩
theorem setXO_get {pins : List (Addr × Obj)} {σ : L2.St} {H : Hp} {s : Shared} {a : Addr} {S : Str → Bool} {n : Nat} (I : Inv X pins σ H s) (ha : H a = some (SetXO X.w a S n)) : SetX X.w s.heap a S n := (I.hok a _ ha).1
/-- set(xs) of texts -/
def rSetX (K : PySem.W.Frag) (w : World) : List V → Hp → VK → Prop := fun xs H Q => ∃ (a : Addr) (l : List Str), xs = [.ref a] ∧ (SqL K H a (l.map V.str) ∨ SqT K H a (l.map V.str)) ∧ l.length + 1 < scanBound ∧
  ∀ p c, c ≤ l.length → H p = none → Q (.ref p) (upd H p (SetXO w p (fun j => decide (j ∈ l)) c))
theorem cr_setX (hc : X.calm = true) : CallR X (.type "set") (rSetX X.K X.w) := by
  intro pins s σ H xs us Q I r h
  obtain ⟨a, l, rfl, hq, hb, q⟩ := h
  rw [Vals.ref1 r]
  have fin : ∀ (h' : Heap) (tk c : Nat), SetX X.w h' s.heap.objs.size (fun j => decide (j ∈ l)) c → c ≤ l.length → (∀ b o, s.heap.get? b = some o → h'.get? b = some o) → EP X pins σ Q (.ref s.heap.objs.size) { s with heap := h', toks := tk } := fun h' tk c R hl hk =>
    ⟨.ref _, _, I.laid (t' := tk) hk (Nat.le_refl _) (setXO_new R), rfl, q _ c hl (I.hok.fresh (Nat.le_refl _))⟩
  rcases hq with hq | hq
  · obtain ⟨its, rv, pl, hz⟩ := I.list hq
    exact call_set_listX (P := X.prog) l (I.ok.hd hc) pl.isList (by simpa using strsAre_of rv) hb fun h' tk c R hl hk => fin h' tk c R hl hk
  · obtain ⟨its, rv, pl, hz⟩ := I.tuple hq
    exact call_set_tupX (P := X.prog) l (I.ok.hd hc) pl (by simpa using strsAre_of rv) hb fun h' tk c R hl hk => fin h' tk c R hl hk
/-- sorted(s) of a set of texts -/
def rSortedX (w : World) : List V → Hp → VK → Prop := fun vs H Q => ∃ (a : Addr) (S : Str → Bool) (n : Nat), vs = [V.ref a] ∧ H a = some (SetXO w a S n) ∧ n ≤ sizeLine ∧
  ∀ (ns : List Str) (p : Addr), ns.Nodup → sortedS ns = true → (∀ k : Str, k ∈ ns ↔ S k = true) → ns.length = n → H p = none → Q (.ref p) (upd H p (.lst (ns.map V.str)))
theorem cr_sortedX (hc : X.calm = true) : CallR X (.builtin "sorted") (rSortedX X.w) := by
  intro pins s σ H vs us Q I r h
  obtain ⟨a, S, n, rfl, ha, h64, q⟩ := h
  have R := setXO_get I ha
  rw [Vals.ref1 r]
  refine sorted_setX R (I.ok.hd hc) h64 fun s' p out c ns k g o hp hg hi hd hs hm hl => ?_
  have hlen : (ns.map V.str).length ≤ sizeLine := by rw [List.length_map, hl]; exact h64
  have hn : H p = none := I.hok.fresh hp
  have J : Inv X pins σ (upd H p (.lst (ns.map V.str))) { s with heap := s'.heap, gens := s'.gens, drawn := s'.drawn, toks := s'.toks } :=
    I.call (ch := []) (Un.laid k hp hn) (I.hok.laid k hp ⟨hlen, out.toList, c, vals_of_strs hi, hg⟩) (by rw [g]; exact I.bare) (fun _ z => nomatch z)
  have e : s' = { s with heap := s'.heap, gens := s'.gens, drawn := s'.drawn, toks := s'.toks } := by
    cases s'
    cases s
    cases o
    rfl
  rw [e]
  exact ⟨.ref p, _, J, rfl, q ns p hd hs hm hl hn⟩
variable {S : Stat} {cx : Cxt} {sc : Scope} {n : Nat} {a : Expr} {ca : C} {p p2 pos pos2 : Pos}
theorem strs_reps {fx : Fx} {G : Addr → Prop} {H : Hp} : ∀ (l : List Str), Reps fx G H (l.map V.str) (l.map PyData.str)
  | [] => .nil
  | x :: r => .cons (.str x) (strs_reps r)
theorem sset_in {fx : Fx} {vs : List V} {H : Hp} {Q : VK} (hK : fx.K = X.K) (h : rBlt fx .sortedSet vs H Q) : rSetX X.K X.w vs H (fun x H2 => rSortedX X.w [x] H2 Q) := by
  obtain ⟨G, ds, d, k, hd, e, q⟩ := h
  rcases ds with _ | ⟨d0, _ | ⟨d1, r⟩⟩
  · cases e
  · obtain ⟨v, rfl, hv⟩ := hd.one
    have main : ∀ (xs : List D) (ad : Addr) (ws : List V), (if xs.length < 64 then (strsOf xs).map fun l => PyData.list ((sortS l).map .str) else none) = some d → Reps fx G H ws xs → (SqL X.K H ad ws ∨ SqT X.K H ad ws) → rSetX X.K X.w [.ref ad] H (fun x H2 => rSortedX X.w [x] H2 Q) := fun xs ad ws e ra hq => by
      split at e
      · rename_i h64
        obtain ⟨l, e1, e2⟩ := Option.map_eq_some_iff.mp e
        subst e2
        have ew := ra.strs e1
        subst ew
        have hl : l.length = xs.length := by have := ra.length; rw [List.length_map] at this; exact this
        refine ⟨ad, l, rfl, hq, by unfold scanBound; omega, fun p1 c hc hn => ⟨p1, _, c, rfl, upd_same, by rw [sizeLine_eq]; omega, fun ns p2 nd hs hm _ hn2 => ?_⟩⟩
        have es : ns = sortS l := eq_sortS nd hs fun k => (hm k).trans decide_eq_true_iff
        subst es
        have hn3 : H p2 = none := by
          by_cases z : p2 = p1
          · rw [z]; exact hn
          · rw [upd_ne z] at hn2; exact hn2
        exact q _ _ (fun b o z => ext_upd hn2 b o (ext_upd hn b o z)) (.lst (k.new hn3) upd_same (strs_reps _))
      · cases e
    cases d0 <;> try (cases e; done)
    · obtain ⟨ad, ws, rfl, ha, ra⟩ := hv
      exact main _ ad ws e ra (.inl (SqL.of ha))
    · obtain ⟨ad, ws, rfl, ha, ra⟩ := Rep.tuple hv
      have z := sqT_of ha
      rw [hK] at z
      exact main _ ad ws e ra (.inr z)
  · cases d0 <;> cases e
theorem tA_mono {cs : Cs} {σ : L2.St} {H : Hp} {Q Q' : List V → Hp → Prop} (h : tA S cs σ H Q) (i : ∀ vs H1, Q vs H1 → Q' vs H1) : tA S cs σ H Q' := by
  obtain ⟨ρ, hh, m, ok, hp⟩ := h
  refine ⟨ρ, hh, m, ok, ?_⟩
  cases q : dens S.g cs ρ hh with
  | ok d h' => rw [q] at hp; exact fun v H' kp w r rt => i _ _ (hp v H' kp w r rt)
  | err e h' => rw [q] at hp; exact hp
  | bad => rw [q] at hp; exact hp
theorem e_sset (x : XOk X S cx sc n) (hg : isGl sc "sorted" = true) (hg2 : isGl sc "set" = true) (hs : isStar a = false) (ha : PE X a (tE S ca)) :
    PE X (.Call (.Name "sorted" p) [.Call (.Name "set" p2) [a] [] pos2] [] pos) (tE S (.blt .sortedSet (.cons ca .nil))) := by
  have i1 : PE X (.Call (.Name "set" p2) [a] [] pos2) (tCB (rSetX X.K X.w) (tA S (.cons ca .nil))) :=
    pe_callTy (cr_setX x.b.calm) (isGl_of x hg2) (x.b.blt _ (by decide)) (by rfl) (a_cons ha a_nil hs) (by decide) (by decide) (each_plain hs _ _) rfl
  refine PE.weak (pe_callB (cr_sortedX x.b.calm) (isGl_of x hg) (x.b.blt _ (by decide)) (by rfl) (pa_cons i1 pa_nil) (by decide) (by decide) rfl rfl) fun σ H Q hp => ?_
  have h1 := blt_in x rfl hp
  exact tA_mono h1 fun vs H1 ⟨fx, hK, h2⟩ => sset_in hK h2
end
end Mini

set_option Elab.async false
set_option linter.all false
set_option maxRecDepth 100000
set_option maxHeartbeats 4000000
/-! Mini, part H3: what is compiled is sound: expressions, the end. -/
namespace Mini
open PySem PySem.Spec PyProof.Rows L2
section
variable {cx : Cxt} {k : Nat} {sc : Scope}
theorem compE_un {o : UnaryOp} {a : Expr} {p : Pos} : compE cx (k + 1) (.UnaryOp o a p) sc = (match o, compE cx k a sc with
      | .USub, some a => some (.neg a)
      | .Not, some c => if isIfE a then none else some (.notv c)
      | _, _ => none) := rfl
theorem compE_cmp {a : Expr} {ops : List CmpOp} {cs : List Expr} {p : Pos} : compE cx (k + 1) (.Compare a ops cs p) sc = (match ops, cs with
      | [o], [b] => (match copOf o, compE cx k a sc, compE cx k b sc with
        | some o, some a, some b => some (.cmp o a b)
        | _, _, _ => none)
      | [o, p], [b, c] => (match copOf o, copOf p, compE cx k a sc, compE cx k b sc, compE cx k c sc with
        | some o, some p, some a, some b, some c => some (.chn o p a b c)
        | _, _, _, _, _ => none)
      | _, _ => none) := rfl
theorem compE_slc {a : Expr} {l u s : Option Expr} {p p2 : Pos} : compE cx (k + 1) (.Subscript a (.Slice l u s p2) p) sc = (match s, compE cx k a sc, optC (fun e => compE cx k e sc) l, optC (fun e => compE cx k e sc) u with
        | none, some a, some l, some u => some (.slc a l u)
        | _, _, _, _ => none) := rfl
def isSl : Expr → Bool
  | .Slice .. => true
  | _ => false
theorem compE_ix {a b : Expr} {p : Pos} (hb : isSl b = false) : compE cx (k + 1) (.Subscript a b p) sc = (match compE cx k a sc, compE cx k b sc with
        | some a, some b => some (.idx a b)
        | _, _ => none) := by
  cases b <;> first | rfl | cases hb
theorem compE_name {y : Str} {p : Pos} : compE cx (k + 1) (.Name y p) sc = if isVis sc y then (cx.ix y).map .slot else if isGl sc y then (cx.sig.consts.lookup y).map .lit else none := rfl
end
theorem name_ok {cx : Cxt} {sc : Scope} : ∀ {k : Nat} {y : Str} {p : Pos} {c : C} {own : List Nat}, compE cx k (.Name y p) sc = some c → (∃ i, c = .slot i ∧ isVis sc y = true ∧ cx.ix y = some i) ∨ c.knd own = 0
  | 0, _, _, _, _, h => by cases h
  | k + 1, y, p, c, own, h => by
    rw [compE_name] at h
    by_cases hv : isVis sc y = true
    · rw [if_pos hv] at h
      obtain ⟨i, e1, e2⟩ := Option.map_eq_some_iff.mp h
      exact .inl ⟨i, e2.symm, hv, e1⟩
    · rw [if_neg hv] at h
      by_cases hg : isGl sc y = true
      · rw [if_pos hg] at h
        obtain ⟨i, e1, e2⟩ := Option.map_eq_some_iff.mp h
        subst e2
        exact .inr (by rw [C.knd]; all_goals (intros; simp_all))
      · rw [if_neg hg] at h; cases h
theorem isNameE_of {e : Expr} (h : isNameE e = true) : ∃ y p, e = .Name y p := by
  cases e <;> first | exact ⟨_, _, rfl⟩ | cases h
theorem fold_it {cx : Cxt} {sc : Scope} {k : Nat} {e : Expr} {c : C} (h : iterC (fun e => compE cx k e sc) sc e = some c) {env : PySem.Env} : ∀ x, foldedSetIterable e env x = pure x := fun x => by
  cases e <;> try rfl
  cases k <;> cases h
theorem leaf_ok {X : Cx} {S : Stat} {cx : Cxt} {sc : Scope} {n : Nat} (x : XOk X S cx sc n) : LeafOk X where
  rep := fun gd fx hK => cr_repr hK gd (room66 x)
  dic := fun fx hK => cr_dict hK x.b.calm
  sset := fun S cx sc n a ca p p2 pos pos2 x hg hg2 hs ha => e_sset x hg hg2 hs ha
  nxt := fun S cx sc n a b ca cb p p2 pos pos2 x hl hg hg2 hs hs2 ha hb => e_next x hl hg hg2 hs hs2 ha hb
theorem cond_ok {X : Cx} {S : Stat} {f : Expr → Option C} {ifs : List Expr} {c : C} (hf : ∀ e c, f e = some c → isIfE e = false → PT X e (tT S c)) (h : condC f ifs = some c) : PTs X ifs (tT S c) := by
  unfold condC at h
  split at h
  · cases h
    exact pts_of (.inl ⟨rfl, rfl⟩)
  · split at h
    · cases h
    · rename_i hi
      exact pts_of (S := S) (.inr ⟨_, rfl, hf _ _ h (by simpa using hi)⟩)
  · cases h
theorem comp_ok {n : Nat} : ∀ (k : Nat) {cx : Cxt} {sc : Scope} {e : Expr} {c : C} {X : Cx} {S : Stat}, compE cx k e sc = some c → XOk X S cx sc n → FnsOk X S cx.sig n → (cx.sig.told ≠ "" → ToldOk X S cx sc n) →
    PE X e (tE S c) ∧ (isIfE e = false → PT X e (tT S c))
  | 0, _, _, _, _, _, _, h, _, _, _ => by cases h
  | k + 1, cx, sc, e, c, X, S, h, x, fo, td => by
    have ih : ∀ e c, compE cx k e sc = some c → PE X e (tE S c) ∧ (isIfE e = false → PT X e (tT S c)) := fun e c h => comp_ok k h x fo td
    have ihE : ∀ e c, compE cx k e sc = some c → PE X e (tE S c) := fun e c h => (ih e c h).1
    have st : ∀ e c, compE cx k e sc = some c → isStar e = false := fun e c h => star_none h
    cases e with
    | Name y p =>
      have h : (if isVis sc y then (cx.ix y).map .slot else if isGl sc y then (cx.sig.consts.lookup y).map .lit else none) = some c := h
      have q : PE X (.Name y p) (tE S c) := by
        by_cases hv : isVis sc y = true
        · rw [if_pos hv] at h
          obtain ⟨i, e1, e2⟩ := Option.map_eq_some_iff.mp h
          subst e2
          exact e_slot x hv e1
        · rw [if_neg hv] at h
          by_cases hg : isGl sc y = true
          · rw [if_pos hg] at h
            obtain ⟨i, e1, e2⟩ := Option.map_eq_some_iff.mp h
            subst e2
            exact e_glob x hg e1
          · rw [if_neg hg] at h; cases h
      exact ⟨q, fun _ => t_gen x q (fun _ => rfl)⟩
    | Constant c' j p =>
      have h : (constD c').map C.lit = some c := h
      obtain ⟨i, e1, e2⟩ := Option.map_eq_some_iff.mp h
      subst e2
      have q := e_const (X := X) (S := S) (k := j) (pos := p) e1
      exact ⟨q, fun _ => t_gen x q (fun _ => rfl)⟩
    | UnaryOp o a p =>
      rw [compE_un] at h
      split at h
      · rename_i o' ca e1
        cases h
        have q := e_neg (pos := p) x (ihE _ _ e1)
        exact ⟨q, fun _ => t_gen x q (fun _ => rfl)⟩
      · rename_i o' ca e1
        split at h
        · cases h
        · rename_i hi
          cases h
          exact ⟨e_notv x (ihE _ _ e1), fun _ => t_not x ((ih _ _ e1).2 (by simpa using hi))⟩
      · cases h
    | BinOp a o b p =>
      have h : (match bopOf o, compE cx k a sc, compE cx k b sc with
        | some o, some a, some b => some (.bin o a b)
        | _, _, _ => none) = some c := h
      split at h
      · rename_i o' ca cb e0 e1 e2
        cases h
        rw [bop_eq e0]
        have q := e_bin (pos := p) (o := o') x (ihE _ _ e1) (ihE _ _ e2)
        exact ⟨q, fun _ => t_gen x q (fun _ => rfl)⟩
      · cases h
    | BoolOp op es p =>
      cases op with
      | And =>
        have h : boolC (fun e => compE cx k e sc) .and2 es = some c := h
        obtain ⟨q1, q2⟩ := bool_ok (pos := p) (op := .And) x ih (fun ha hb => e_and x ha hb) (fun ha hb => w_and ha hb) h
        exact ⟨q1, fun _ => q2.pt⟩
      | Or =>
        have h : boolC (fun e => compE cx k e sc) .or2 es = some c := h
        obtain ⟨q1, q2⟩ := bool_ok (pos := p) (op := .Or) x ih (fun ha hb => e_or x ha hb) (fun ha hb => w_or ha hb) h
        exact ⟨q1, fun _ => q2.pt⟩
    | Compare a ops cs p =>
      rw [compE_cmp] at h
      split at h
      · split at h
        · rename_i o' ca cb e0 e1 e2
          cases h
          rw [cop_eq e0]
          exact ⟨e_cmp x (ihE _ _ e1) (ihE _ _ e2) (no_marks e2 _), fun _ => t_cmp x (ihE _ _ e1) (ihE _ _ e2) (no_marks e2 _)⟩
        · cases h
      · split at h
        · rename_i o' p' ca cb cc e0 e0' e1 e2 e3
          cases h
          rw [cop_eq e0, cop_eq e0']
          exact ⟨e_chn x (ihE _ _ e1) (ihE _ _ e2) (ihE _ _ e3) (no_marks e3 _), fun _ => t_chn x (ihE _ _ e1) (ihE _ _ e2) (ihE _ _ e3) (no_marks e3 _)⟩
        · cases h
      · cases h
    | IfExp t a b p =>
      have h : (if isIfE t then none else (match compE cx k t sc, compE cx k a sc, compE cx k b sc with
        | some t, some a, some b => some (.ite t a b)
        | _, _, _ => none)) = some c := h
      by_cases hi : isIfE t = true
      · rw [if_pos hi] at h; cases h
      · rw [if_neg hi] at h
        split at h
        · rename_i ct ca cb e0 e1 e2
          cases h
          exact ⟨e_ite ((ih _ _ e0).2 (by simpa using hi)) (ihE _ _ e1) (ihE _ _ e2), fun z => by cases z⟩
        · cases h
    | Tuple es j p =>
      have h : (argsC (fun e => compE cx k e sc) es).map C.tup = some c := h
      obtain ⟨cs, e1, e2⟩ := Option.map_eq_some_iff.mp h
      subst e2
      have q := e_tup (x1 := j) (pos := p) (args_ok x ihE st e1).1
      exact ⟨q, fun _ => t_gen x q (fun _ => rfl)⟩
    | List es p =>
      have h : (argsC (fun e => compE cx k e sc) es).map C.lst = some c := h
      obtain ⟨cs, e1, e2⟩ := Option.map_eq_some_iff.mp h
      subst e2
      have q := e_lst (pos := p) (args_ok x ihE st e1).1
      exact ⟨q, fun _ => t_gen x q (fun _ => rfl)⟩
    | Dict ks vs p =>
      have h : (match keysC (fun e => compE cx k e sc) ks, argsC (fun e => compE cx k e sc) vs with
        | some k, some v => if k.len = v.len && decide (k.len ≤ 15) && !(vs.any isStar) && k.pure && decide (ks.length = vs.length) then some (.dct k v) else none
        | _, _ => none) = some c := h
      split at h
      · rename_i ck cv e1 e2
        obtain ⟨q, rfl⟩ := ite_some' h
        simp only [Bool.and_eq_true, decide_eq_true_eq, Bool.not_eq_true'] at q
        obtain ⟨⟨⟨⟨q1, q2⟩, q3⟩, q4⟩, q5⟩ := q
        have ko := keys_ok ihE e1 q4
        have kl : ks.length ≤ 15 := by
          have : ∀ {ks : List (Option Expr)} {kc : Cs}, KeysOk X S ks kc → kc.len = ks.length := by
            intro ks kc z
            induction z with
            | nil => rfl
            | cons _ _ _ ih => unfold Cs.len; rw [ih]; rfl
          rw [← this ko]; exact q2
        have q := e_dct (pos := p) ko (vals_ok ihE e2 q3) q5 kl
        exact ⟨q, fun _ => t_gen x q (fun _ => rfl)⟩
      · cases h
    | Subscript a b p =>
      cases b with
      | Slice l u s p2 =>
        rw [compE_slc] at h
        have oo : ∀ (l : Option Expr) c, optC (fun e => compE cx k e sc) l = some c → PO X l (tO S c) := fun l c h => by
          cases l with
          | none => cases h; exact o_none
          | some e =>
            have h : (compE cx k e sc).bind (fun c => if c.isNo then none else some c) = some c := h
            obtain ⟨c', e1, e2⟩ := Option.bind_eq_some_iff.mp h
            by_cases z : c'.isNo = true
            · rw [if_pos z] at e2; cases e2
            · rw [if_neg z] at e2
              cases e2
              exact o_some (ihE _ _ e1) (by simpa using z)
        split at h
        · rename_i ca cl cu e1 e2 e3
          cases h
          have q := e_slc (pos := p) (p2 := p2) x (ihE _ _ e1) (oo _ _ e2) (oo _ _ e3)
          exact ⟨q, fun _ => t_gen x q (fun _ => rfl)⟩
        · cases h
      | _ =>
        all_goals
          rw [compE_ix rfl] at h
          split at h
          · rename_i ca cb e1 e2
            cases h
            have q := e_idx (pos := p) x (ihE _ _ e1) (ihE _ _ e2) (plainIx e2)
            exact ⟨q, fun _ => t_gen x q (fun _ => rfl)⟩
          · cases h
    | ListComp elt gs scope p =>
      have h : lcC cx (compE cx k) (compE cx.noTold k) sc elt gs scope = some c := h
      have q : PE X (.ListComp elt gs scope p) (tE S c) := by
        unfold lcC at h
        split at h
        · rename_i tg iter ifs
          split at h
          · rename_i xs e0
            split at h
            · rename_i t own it el cond e1 e2 e3 e4 e5
              obtain ⟨q, rfl⟩ := ite_some' h
              simp only [Bool.and_eq_true, decide_eq_true_eq, Bool.not_eq_true'] at q
              obtain ⟨⟨⟨⟨⟨q1, q2⟩, q3⟩, q4⟩, q5⟩, q6⟩ := q
              rw [← x.own] at q3 q4 q5 q6
              have hs : ∀ i ∈ t.slots, i ∉ S.own := fun i hi ho => by
                unfold inter at q3
                have := List.any_eq_false.mp q3 i hi
                exact this (by simpa using ho)
              have ihB : ∀ (s : Shared) (H : Hp) (C : Addr) (cl : List (Str × Addr)) (fp : List Addr) e c, compE cx.noTold k e (relS scope sc) = some c → PE (X.blk s H scope (compEnvC scope cl C X.env) fp) e (tE S.quiet c) ∧ (isIfE e = false → PT (X.blk s H scope (compEnvC scope cl C X.env) fp) e (tT S.quiet c)) :=
                fun s H C cl fp e c h => comp_ok k h (blk_ok x) fo (fun z => absurd rfl z)
              refine e_lc x q1 (own_slots e0 e1 e2) hs q4 (iter_ok x ihE st (fun y p c h => ?_) (fun c' hk' h' => ?_) e3 q5) (fun s H C cl fp => tg_blk (blk_ok x) rfl (fun _ => rfl) e0 e1 q2) (fun s H C cl fp => cond_ok (fun e c h hi => (ihB s H C cl fp e c h).2 hi) e5) (fun s H C cl fp => (ihB s H C cl fp elt el e4).1) ?_
              · exact name_ok h
              · rw [e3] at h'
                cases h'
                rw [Bool.or_eq_true, decide_eq_true_eq] at q6
                rcases q6 with q6 | q6
                · exact absurd q6 hk'
                · exact isNameE_of q6
              · exact fold_it e3
            · cases h
          · cases h
        · cases h
      exact ⟨q, fun _ => t_gen x q (fun _ => rfl)⟩
    | Call f es kw p =>
      have q : PE X (.Call f es kw p) (tE S c) := by
        cases kw with
        | cons _ _ => cases f <;> cases h
        | nil =>
          cases f with
          | Name f pf =>
            have h : callC cx (fun e => compE cx k e sc) (compE cx.lam k) sc f es = some c := h
            refine call_ok x (leaf_ok x) fo td ihE st (fun body lsc c h X' S' hS x' fo' => ?_) h
            obtain ⟨W, rfl⟩ := hS
            exact (comp_ok k h x' fo' (fun z => absurd rfl z)).1
          | Attribute o m ap =>
            have h : (if es.any isStar || !(ap.endLine == p.line) then none else (match compE cx k o sc, argsC (fun e => compE cx k e sc) es, metOf m es.length with
              | some o, some cs, some mt => some (.met mt o cs)
              | _, _, _ => none)) = some c := h
            by_cases hs : (es.any isStar || !(ap.endLine == p.line)) = true
            · rw [if_pos hs] at h; cases h
            · rw [if_neg hs] at h
              simp only [Bool.or_eq_true, not_or, Bool.not_eq_true, Bool.not_eq_false'] at hs
              split at h
              · rename_i co cs mt e1 e2 e3
                cases h
                unfold metOf at e3
                split at e3
                · rename_i hm
                  subst hm
                  split at e3
                  · rename_i hl
                    cases e3
                    match es, hl, e2, hs with
                    | [a], _, e2, hs =>
                      have hsa : isStar a = false := by
                        have := hs.1
                        rw [List.any_cons, Bool.or_eq_false_iff] at this
                        exact this.1
                      cases vals_ok ihE e2 hs.1 with
                      | cons ha hr =>
                        cases hr
                        exact e_get1 x (ihE _ _ e1) ha (m1_ok e1 hsa hs.2)
                  · split at e3
                    · rename_i hl
                      cases e3
                      match es, hl, e2, hs with
                      | [a, b], _, e2, hs =>
                        have hsa : isStar a = false ∧ isStar b = false := by
                          have := hs.1
                          rw [List.any_cons, List.any_cons, Bool.or_eq_false_iff, Bool.or_eq_false_iff] at this
                          exact ⟨this.1, this.2.1⟩
                        cases vals_ok ihE e2 hs.1 with
                        | cons ha hr =>
                          cases hr with
                          | cons hb hr =>
                            cases hr
                            exact e_get2 x (ihE _ _ e1) ha hb (m2_ok e1 hsa.1 hsa.2 hs.2)
                    · cases e3
                · cases e3
              · cases h
          | _ => cases h
      exact ⟨q, fun _ => t_gen x q (fun _ => rfl)⟩
    | _ => cases h
end Mini

set_option Elab.async false
set_option linter.all false
set_option maxRecDepth 100000
set_option maxHeartbeats 4000000
/-! Mini, part H4: what is compiled is sound: statements. -/
namespace Mini
open PySem PySem.Spec PyProof.Rows L2
/-- the classes that are raised -/
def ExcsOk (X : Cx) (S : Stat) (sg : Sig) : Prop := ∀ x, x ∈ sg.excs → ∃ C, S.exA x = some C ∧ ∀ (m : Str) (j : Nat) (p p2 pos : Pos), Gl X x → (x == ("__debug__" : Str)) = false → L2N.PMk X (.Call (.Name x p) [.Constant (.str m) j p2] [] pos) (fun _ H Q => Q (.ref C) none H)
/-- a body's own context -/
structure FOk (X : Cx) (S : Stat) (cx : Cxt) (sc : Scope) (n : Nat) : Prop where
  x : XOk X S cx sc n
  fo : FnsOk X S cx.sig n
  td : cx.sig.told ≠ "" → ToldOk X S cx sc n
  ex : ExcsOk X S cx.sig
  po : PassesOwn (model X.prog X.w) X.A X.env X.xe
  fn : ∀ y, X.fn y = true
mutual
def S.noCell : Mini.S → Bool
  | .newcell _ _ => false
  | .ife _ a b => a.noCell && b.noCell
  | .for_ _ _ b => b.noCell
  | .whl _ b => b.noCell
  | _ => true
def Ss.noCell : Ss → Bool
  | .nil => true
  | .cons s r => s.noCell && r.noCell
end
section
variable {X : Cx} {S : Stat} {cx : Cxt} {sc : Scope} {n k : Nat} {a b e v : Expr} {es : List Expr} {c ca cb : C} {cs : Cs} {pos p p2 : Pos} {x : Str} {i : Nat} {t : Tg}
theorem FOk.may (o : FOk X S cx sc n) {y : Str} (h : sc.names.lookup y = some .local ∨ sc.names.lookup y = some .cell) : MaySet X y := ⟨by
  unfold L2.Loc
  rw [o.x.sc]
  exact h, .inl (o.fn y)⟩
theorem locIx_of {y : Str} {i : Nat} (h : locIx cx sc y = some i) : (sc.names.lookup y = some .local ∨ sc.names.lookup y = some .cell) ∧ cx.ix y = some i := by
  unfold locIx at h
  by_cases q : (sc.names.lookup y == some .local || sc.names.lookup y == some .cell) = true
  · rw [if_pos q] at h
    simp only [Bool.or_eq_true, beq_iff_eq] at q
    exact ⟨q, h⟩
  · rw [if_neg q] at h; cases h
/-- a statement's target -/
theorem tg_stm {tg : Expr} (o : FOk X S cx sc n) (h : tgOfS cx sc tg = some t) : PG X tg (gT S t) := by
  unfold tgOfS at h
  split at h
  · rename_i y p
    obtain ⟨i, e1, e2⟩ := Option.map_eq_some_iff.mp h
    subst e2
    refine pg_tg (f := fun e => match e with
      | .Name z _ => locIx cx sc z
      | _ => none) o.x (fun e i h => ?_) (.inl ⟨i, e1, rfl⟩)
    split at h
    · obtain ⟨h1, h2⟩ := locIx_of h
      exact ⟨_, _, rfl, h2, o.may h1⟩
    · cases h
  · rename_i es q p
    obtain ⟨is, e1, e2⟩ := Option.map_eq_some_iff.mp h
    subst e2
    refine pg_tg (f := fun e => (nameE e).bind (locIx cx sc)) o.x (fun e i h => ?_) (.inr ⟨es, q, p, is, rfl, e1, rfl⟩)
    obtain ⟨z, h1, h2⟩ := Option.bind_eq_some_iff.mp h
    obtain ⟨h3, h4⟩ := locIx_of h2
    cases e <;> try (cases h1; done)
    cases h1
    exact ⟨_, _, rfl, h4, o.may h3⟩
  · cases h
def isLC : Expr → Bool
  | .ListComp .. => true
  | _ => false
theorem swaps_no {k : Nat} (h : compE cx k v sc = some c) (hl : isLC v = false) (tg : Option Expr) (l : Nat) (env : PySem.Env) : swapsWith v tg l env = pure false := by
  cases v <;> first | rfl | (cases hl; done) | (cases k <;> cases h)
/-- the parts of a comprehension -/
theorem lc_parts {k : Nat} {elt : Expr} {gs : List Comprehension} {scope : Scope} (x : XOk X S cx sc n) (fo : FnsOk X S cx.sig n) (td : cx.sig.told ≠ "" → ToldOk X S cx sc n) (h : compE cx (k + 1) (.ListComp elt gs scope p) sc = some c) :
    ∃ (tg iter : Expr) (ifs : List Expr) (t : Tg) (own : List (Str × Nat)) (it el cond : C), gs = [⟨tg, iter, ifs, 0⟩] ∧ c = .lc el t it cond ∧ blkC cx.N sc scope own = true ∧ own.map (·.2) = t.slots ∧ (∀ i ∈ t.slots, i ∉ S.own) ∧ el.knd S.own = 0 ∧ PI X tg iter (tI S it) ∧
      (∀ (s : Shared) (H : Hp) (C : Addr) (cl : List (Str × Addr)) (fp : List Addr), PG (X.blk s H scope (compEnvC scope cl C X.env) fp) tg (gT S.quiet t)) ∧ (∀ (s : Shared) (H : Hp) (C : Addr) (cl : List (Str × Addr)) (fp : List Addr), PTs (X.blk s H scope (compEnvC scope cl C X.env) fp) ifs (tT S.quiet cond)) ∧
      (∀ (s : Shared) (H : Hp) (C : Addr) (cl : List (Str × Addr)) (fp : List Addr), PE (X.blk s H scope (compEnvC scope cl C X.env) fp) elt (tE S.quiet el)) ∧ (∀ y, foldedSetIterable iter X.env y = pure y) := by
  have h : lcC cx (compE cx k) (compE cx.noTold k) sc elt gs scope = some c := h
  have st : ∀ e c, compE cx k e sc = some c → isStar e = false := fun e c h => star_none h
  unfold lcC at h
  split at h
  · rename_i tg iter ifs
    split at h
    · rename_i xs e0
      split at h
      · rename_i t own it el cond e1 e2 e3 e4 e5
        obtain ⟨q, rfl⟩ := ite_some' h
        simp only [Bool.and_eq_true, decide_eq_true_eq, Bool.not_eq_true'] at q
        obtain ⟨⟨⟨⟨⟨q1, q2⟩, q3⟩, q4⟩, q5⟩, q6⟩ := q
        rw [← x.own] at q3 q4 q5 q6
        have hs : ∀ i ∈ t.slots, i ∉ S.own := fun i hi ho => by
          unfold inter at q3
          have := List.any_eq_false.mp q3 i hi
          exact this (by simpa using ho)
        have ihB : ∀ (s : Shared) (H : Hp) (C : Addr) (cl : List (Str × Addr)) (fp : List Addr) e c, compE cx.noTold k e (relS scope sc) = some c → PE (X.blk s H scope (compEnvC scope cl C X.env) fp) e (tE S.quiet c) ∧ (isIfE e = false → PT (X.blk s H scope (compEnvC scope cl C X.env) fp) e (tT S.quiet c)) :=
          fun s H C cl fp e c h => comp_ok k h (blk_ok x) fo (fun z => absurd rfl z)
        refine ⟨_, _, _, t, own, it, el, cond, rfl, rfl, q1, own_slots e0 e1 e2, hs, q4, iter_ok x (fun e c h => (comp_ok k h x fo td).1) st (fun y p c h => name_ok h) (fun c' hk' h' => ?_) e3 q5, fun s H C cl fp => tg_blk (blk_ok x) rfl (fun _ => rfl) e0 e1 q2, fun s H C cl fp => cond_ok (fun e c h hi => (ihB s H C cl fp e c h).2 hi) e5, fun s H C cl fp => (ihB s H C cl fp elt el e4).1, fold_it e3⟩
        rw [e3] at h'
        cases h'
        rw [Bool.or_eq_true, decide_eq_true_eq] at q6
        rcases q6 with q6 | q6
        · exact absurd q6 hk'
        · exact isNameE_of q6
      · cases h
    · cases h
  · cases h
theorem swaps_lc {elt : Expr} {gs : List Comprehension} {scope : Scope} {y : Str} {py lp : Pos} {l : Nat} {env : PySem.Env} : swapsWith (.ListComp elt gs scope lp) (some (.Name y py)) l env = pure (env.blockKind == .function && env.kindOf y == some .local && py.line == lp.line
      && !(scope.names.any fun (n, k) => n == y && (k == .local || k == .cell))) := rfl
/-- x = v -/
theorem s_name {k : Nat} (o : FOk X S cx sc n) (hi : locIx cx sc x = some i) (h : compE cx k v sc = some c) : PS X (.Assign [.Name x p] v pos) (tAsg (tE S c) (gName i)) := by
  obtain ⟨hl, hx⟩ := locIx_of hi
  have he := (comp_ok k h o.x o.fo o.td).1
  have nd : X.N.Nodup := by rw [o.x.N]; exact o.x.nd
  have ni : X.N[i]? = some x := by rw [o.x.N]; exact Cxt.ix_get hx
  by_cases lc : isLC v = true
  · cases v <;> try (cases lc; done)
    rename_i elt gs scope lp
    cases k with
    | zero => cases h
    | succ k =>
      obtain ⟨tg, iter, ifs, t, own, it, el, cond, rfl, rfl, q1, q2, hs, hk, hi', hg, ht, hel, hf⟩ := lc_parts o.x o.fo o.td h
      have bo : BlkOk X.N X.env.scope scope own := by rw [o.x.N, o.x.sc]; exact blkOk_by q1
      cases hb : (X.env.blockKind == .function && X.env.kindOf x == some .local && p.line == lp.line && !(scope.names.any fun (n, k) => n == x && (k == .local || k == .cell))) with
      | false => exact ps_set nd ni (o.may hl).1 he (by rw [swaps_lc, hb]) (.inl (o.fn x))
      | true =>
        have hb' := hb
        simp only [Bool.and_eq_true, beq_iff_eq] at hb'
        have hloc : X.env.scope.names.lookup x = some .local := hb'.1.1.2
        refine PS.weak (ps_setLc (i := i) o.x.b.calm nd ni hloc (by rw [swaps_lc, hb]) hi' bo hg ht hel hf) fun D σ H hp => ?_
        have hp : tE S (.lc el t it cond) σ H (fun x H1 => gName i x σ H1 D.nx) := hp
        show tLc (tI S it) (gT S.quiet t) (tT S.quiet cond) (tE S.quiet el) (own.map (·.2)) σ H (fun x H1 => gName i x σ H1 D.nx)
        rw [q2]
        exact lc_in hs hk hp
  · rw [Bool.not_eq_true] at lc
    exact ps_set nd ni (o.may hl).1 he (swaps_no h lc _ _ _) (.inl (o.fn x))
theorem s_asgT {k : Nat} {ts : List Expr} {j : Nat} (o : FOk X S cx sc n) (ht : tgOfS cx sc (.Tuple ts j p) = some t) (hv : isTupE v = false) (h : compE cx k v sc = some c) : PS X (.Assign [.Tuple ts j p] v pos) (tAsg (tE S c) (gT S t)) := by
  refine ps_asg ((comp_ok k h o.x o.fo o.td).1) (tg_stm o ht) ?_ ?_
  · show swapsWith v (some (.Tuple ts j p)) pos.line X.env = pure false
    cases v <;> first | rfl | (cases k <;> cases h)
  · cases v <;> first | rfl | cases hv
/-- the receiver -/
theorem e_recv (o : FOk X S cx sc n) (hv : isVis sc x = true) (hi : cx.ix x = some i) : PE X (.Name x p) (tVar i) := by
  obtain ⟨d1, d2, _⟩ := plain_ok (vis_plain hv)
  exact pe_var (by rw [o.x.N]; exact Cxt.ix_get hi) (isVis_of o.x hv) d1 d2
theorem metCall_of {m : Str} {i : Nat} {a : Expr} (h : metCall cx sc e m = some (i, a)) : ∃ x p ap cp, e = .Call (.Attribute (.Name x p) m ap) [a] [] cp ∧ isVis sc x = true ∧ isStar a = false ∧ (ap.endLine == cp.line) = true ∧ cx.ix x = some i := by
  unfold metCall at h
  split at h
  · rename_i x p kk ap a' cp
    by_cases q : (decide (kk = m) && isVis sc x && !isStar a' && (ap.endLine == cp.line)) = true
    · rw [if_pos q] at h
      simp only [Bool.and_eq_true, decide_eq_true_eq, Bool.not_eq_true'] at q
      obtain ⟨⟨⟨rfl, q2⟩, q3⟩, q4⟩ := q
      obtain ⟨j, e1, e2⟩ := Option.map_eq_some_iff.mp h
      cases e2
      exact ⟨x, p, ap, cp, rfl, q2, q3, q4, e1⟩
    · rw [if_neg q] at h; cases h
  · cases h
theorem s_app {k : Nat} {ap cp : Pos} (o : FOk X S cx sc n) (hv : isVis sc x = true) (hi : cx.ix x = some i) (hs : isStar a = false) (hl : (ap.endLine == cp.line) = true) (h : compE cx k a sc = some c) :
    PS X (.Expr (.Call (.Attribute (.Name x p) "append" ap) [a] [] cp) pos) (tDrop (tBM X.K "list" rAppend (tVar i) (tA S (.cons c .nil)))) := by
  have q := pe_bm (X := X) (o := .Name x p) (name := "append") (apos := ap) (cpos := cp) PySem.F.plainAttrs_list PySem.F.slot_list_append PySem.F.type_list_append mt_append (e_recv (p := p) o hv hi) (a_cons ((comp_ok k h o.x o.fo o.td).1) a_nil hs) rfl (by rw [each_plain hs]; rfl) hl (each_plain hs _ _)
  exact ps_expr q
theorem s_csub {k k2 : Nat} {kk : Expr} {ck cv : C} {p3 : Pos} (o : FOk X S cx sc n) (hv : isVis sc x = true) (hi : cx.ix x = some i) (hk : compE cx k kk sc = some ck) (hx : compE cx k2 v sc = some cv) : PS X (.Assign [.Subscript (.Name x p) kk p3] v pos) (tAsg (tE S cv) (gSub (tVar i) (tE S ck) rSetL)) := by
  refine ps_asg ((comp_ok k2 hx o.x o.fo o.td).1) (pg_sub (e_recv o hv hi) ((comp_ok k hk o.x o.fo o.td).1) set_list ?_) ?_ ?_
  · intro v
    cases kk <;> first | rfl | (cases k <;> cases hk)
  · show swapsWith v (some (.Subscript (.Name x p) kk p3)) pos.line X.env = pure false
    cases v <;> first | rfl | (cases k2 <;> cases hx)
  · rfl
end
end Mini

set_option Elab.async false
set_option linter.all false
set_option maxRecDepth 100000
set_option maxHeartbeats 4000000
/-! Mini, part H5: what is compiled is sound: statements, the theorem; defs. -/
namespace Mini
open PySem PySem.Spec PyProof.Rows L2
section
variable {X : Cx} {S : Stat} {cx : Cxt} {sc : Scope} {n : Nat}
theorem inter_no {a b : List Nat} (h : inter a b = false) : ∀ i ∈ a, i ∉ b := fun i hi ho => by
  unfold inter at h
  exact List.any_eq_false.mp h i hi (by simpa using ho)
theorem iter_okS {k : Nat} {it tg : Expr} {c : C} (o : FOk X S cx sc n) (h : iterC (fun e => compE cx k e sc) sc it = some c) (hk : c.knd S.own = 0) : PI X tg it (tIG S c) := iter_okG o.x (fun e c h => (comp_ok k h o.x o.fo o.td).1) h hk
theorem asg_ok {k : Nat} {x : Str} {v : Expr} {px p : Pos} {c : Mini.S} (o : FOk X S cx sc n) (h : asgC cx (fun e => compE cx k e sc) sc x v = some c) (nc : c.noCell = true) : PS X (.Assign [.Name x px] v p) (tS S c) := by
  unfold asgC at h
  obtain ⟨i, hi, h⟩ := Option.bind_eq_some_iff.mp h
  by_cases hc : x = cx.sig.cellv
  · exfalso
    rw [if_pos hc] at h
    unfold cellC at h
    split at h
    · split at h
      · cases h
      · obtain ⟨cs, e1, e2⟩ := Option.bind_eq_some_iff.mp h
        split at e2
        · cases e2; cases nc
        · cases e2
    · cases h
  · rw [if_neg hc, ← o.x.own] at h
    by_cases ho : S.own.contains i = true
    · rw [if_pos ho] at h
      have hi' : i ∈ S.own := by simpa using ho
      unfold ownC at h
      split at h
      · rename_i es pe
        obtain ⟨cs, e1, e2⟩ := Option.bind_eq_some_iff.mp h
        obtain ⟨kz, rfl⟩ := ite_someP e2
        rw [← o.x.own] at kz
        obtain ⟨hl, hx⟩ := locIx_of hi
        have pa := (args_ok o.x (fun e c h => (comp_ok k h o.x o.fo o.td).1) (fun e c h => star_none h) e1).1
        exact PS.weak (ps_set (i := i) (by rw [o.x.N]; exact o.x.nd) (by rw [o.x.N]; exact Cxt.ix_get hx) (o.may hl).1 (pe_lst pa) rfl (.inl (o.fn x))) fun D σ H hp => in_ownLst hi' kz hp
      · cases h
    · rw [if_neg ho] at h
      obtain ⟨cv, e1, e2⟩ := Option.bind_eq_some_iff.mp h
      obtain ⟨kz, rfl⟩ := ite_someP e2
      exact PS.weak (s_name o hi e1) fun D σ H hp => in_asgN (by simpa using ho) kz hp
theorem tup_ok {k : Nat} {ts : List Expr} {j : Nat} {v : Expr} {p2 p : Pos} {c : Mini.S} (o : FOk X S cx sc n) (h : tupC cx (fun e => compE cx k e sc) sc (.Tuple ts j p2) v = some c) : PS X (.Assign [.Tuple ts j p2] v p) (tS S c) := by
  unfold tupC at h
  by_cases ht : isTupE v = true
  · rw [if_pos ht] at h; cases h
  · rw [if_neg ht] at h
    obtain ⟨t, e1, h⟩ := Option.bind_eq_some_iff.mp h
    obtain ⟨cv, e2, h⟩ := Option.bind_eq_some_iff.mp h
    obtain ⟨q, rfl⟩ := ite_some' h
    rw [← o.x.own] at q
    simp only [Bool.and_eq_true, decide_eq_true_eq, Bool.not_eq_true'] at q
    exact PS.weak (s_asgT o e1 (by simpa using ht) e2) fun D σ H hp => in_asgT (inter_no q.1) q.2 hp
theorem sub_ok {k : Nat} {x : Str} {kk v : Expr} {px p2 p : Pos} {c : Mini.S} (o : FOk X S cx sc n) (h : subC cx (fun e => compE cx k e sc) sc x kk v = some c) : PS X (.Assign [.Subscript (.Name x px) kk p2] v p) (tS S c) := by
  unfold subC at h
  obtain ⟨i, e1, h⟩ := Option.bind_eq_some_iff.mp h
  obtain ⟨ck, e2, h⟩ := Option.bind_eq_some_iff.mp h
  obtain ⟨cv, e3, h⟩ := Option.bind_eq_some_iff.mp h
  obtain ⟨q, rfl⟩ := ite_some' h
  rw [← o.x.own] at q
  simp only [Bool.and_eq_true, decide_eq_true_eq, Bool.not_eq_true'] at q
  exact PS.weak (s_csub o q.1.1.1 e1 e2 e3) fun D σ H hp => in_csub (by simpa using q.1.2) q.2 hp
theorem expr_ok {k : Nat} {e : Expr} {p : Pos} {c : Mini.S} (o : FOk X S cx sc n) (h : exprC cx (fun e => compE cx k e sc) sc e = some c) : PS X (.Expr e p) (tS S c) := by
  unfold exprC at h
  split at h
  · rename_i i a hm
    obtain ⟨x, px, ap, cp, rfl, q1, q2, q3, q4⟩ := metCall_of hm
    obtain ⟨ca, e1, h⟩ := Option.bind_eq_some_iff.mp h
    obtain ⟨q, rfl⟩ := ite_some' h
    rw [← o.x.own] at q
    simp only [Bool.and_eq_true, decide_eq_true_eq] at q
    exact PS.weak (s_app o q1 q4 q2 q3 e1) fun D σ H hp => in_app (by simpa using q.1) q.2 hp
  · by_cases hc : isCallE e = true
    · rw [if_pos hc] at h
      obtain ⟨ce, e1, e2⟩ := Option.map_eq_some_iff.mp h
      subst e2
      refine PS.weak (ps_expr ((comp_ok k e1 o.x o.fo o.td).1) ?_) fun D σ H hp => in_expr hp
      cases e <;> first | rfl | cases hc
    · rw [if_neg hc] at h; cases h
theorem raise_ok {v w : Option Expr} {p : Pos} {c : Mini.S} (o : FOk X S cx sc n) (h : raiseC cx sc v w = some c) : PS X (.Raise v w p) (tS S c) := by
  unfold raiseC at h
  split at h
  · rename_i x px m j p2 p3
    obtain ⟨q, rfl⟩ := ite_some' h
    rw [Bool.and_eq_true] at q
    obtain ⟨C, e1, mk⟩ := o.ex x (by simpa using q.2)
    obtain ⟨d1, _, _⟩ := plain_ok (gl_plain q.1)
    refine PS.weak (L2N.ps_raise o.x.b.calm o.x.b.tk (mk m j px p2 p3 (isGl_of o.x q.1) d1)) fun D σ H ⟨ρ, h, m, HB, G, ok, hp⟩ => ?_
    unfold denS at hp
    exact hp σ H ok.kb (ok.wd0 Keep.refl ok.ok.w) C e1
  · cases h
theorem stm_ok (o : FOk X S cx sc n) : ∀ k, (∀ s c, compS cx sc k s = some c → c.noCell = true → PS X s (tS S c)) ∧ (∀ ss c, compSs cx sc k ss = some c → c.noCell = true → PSs X ss (tSs S c))
  | 0 => ⟨fun s c h _ => (by cases h), fun s c h _ => (by cases h)⟩
  | k + 1 => by
    obtain ⟨ih1, ih2⟩ := stm_ok o k
    refine ⟨fun s c h nc => ?_, fun ss c h nc => ?_⟩
    · cases s with
      | Assign ts v p =>
        cases ts with
        | nil => cases h
        | cons t r =>
          cases r with
          | cons u r => cases t <;> first | (cases h; done) | (rename_i a b c; cases a <;> cases h)
          | nil =>
            cases t with
            | Name x px => exact asg_ok o h nc
            | Tuple ts j p2 => exact tup_ok o h
            | Subscript a kk p2 =>
              cases a with
              | Name x px => exact sub_ok o h
              | _ => cases h
            | _ => cases h
      | Expr e p => exact expr_ok o h
      | If c' a b p =>
        have h : (if isIfE c' then none else (match compE cx k c' sc, compSs cx sc k a, compSs cx sc k b with
          | some c, some a, some b => some (Mini.S.ife c a b)
          | _, _, _ => none)) = some c := h
        by_cases hi : isIfE c' = true
        · rw [if_pos hi] at h; cases h
        · rw [if_neg hi] at h
          split at h
          · rename_i cc ca cb e1 e2 e3
            cases h
            have nc : (ca.noCell && cb.noCell) = true := nc
            rw [Bool.and_eq_true] at nc
            exact PS.weak (ps_if ((comp_ok k e1 o.x o.fo o.td).2 (by simpa using hi)) (ih2 _ _ e2 nc.1) (ih2 _ _ e3 nc.2)) fun D σ H hp => in_if hp
          · cases h
      | For tg it b els p =>
        cases els with
        | cons _ _ => cases h
        | nil =>
          have h : (match tgOfS cx sc tg, iterC (fun e => compE cx k e sc) sc it, compSs cx sc k b with
            | some t, some i, some b => if !inter t.slots cx.own && decide (i.knd cx.own = 0) then some (Mini.S.for_ t i b) else none
            | _, _, _ => none) = some c := h
          split at h
          · rename_i t ci cb e1 e2 e3
            obtain ⟨q, rfl⟩ := ite_some' h
            rw [← o.x.own] at q
            simp only [Bool.and_eq_true, decide_eq_true_eq, Bool.not_eq_true'] at q
            have nc : cb.noCell = true := nc
            exact PS.weak (ps_for o.po o.x.b.calm (iter_okS o e2 q.2) (tg_stm o e1) (ih2 _ _ e3 nc) (fold_it e2)) fun D σ H hp => in_for (inter_no q.1) hp
          · cases h
      | Return v p =>
        cases v with
        | none =>
          cases h
          refine PS.weak ps_retN fun D σ H ⟨ρ, h, m, HB, G, o, hp⟩ => ?_
          unfold denS den at hp
          exact hp _ H o.kb (o.wd0 Keep.refl o.ok.w) .non
        | some v =>
          have h : (compE cx k v sc).bind (fun c => if c.knd cx.own ≤ 1 then some (Mini.S.ret c) else none) = some c := h
          obtain ⟨cv, e1, e2⟩ := Option.bind_eq_some_iff.mp h
          obtain ⟨q, rfl⟩ := ite_someP e2
          rw [← o.x.own] at q
          exact PS.weak (ps_ret ((comp_ok k e1 o.x o.fo o.td).1)) fun D σ H hp => in_ret q hp
      | Raise v w p => exact raise_ok o h
      | Break p =>
        cases h
        refine PS.weak ps_break fun D σ H ⟨ρ, h, m, HB, G, o, hp⟩ => ?_
        unfold denS at hp
        exact hp σ H m.F o
      | Continue p =>
        cases h
        refine PS.weak ps_continue fun D σ H ⟨ρ, h, m, HB, G, o, hp⟩ => ?_
        unfold denS at hp
        exact hp σ H m.F o
      | Pass p =>
        cases h
        refine PS.weak ps_pass fun D σ H ⟨ρ, h, m, HB, G, o, hp⟩ => ?_
        unfold denS at hp
        exact hp σ H m.F o
      | _ => cases h
    · cases ss with
      | nil =>
        cases h
        refine PSs.weak pss_nil fun D σ H ⟨ρ, h, m, HB, G, o, hp⟩ => ?_
        unfold denSs at hp
        exact hp σ H m.F o
      | cons s r =>
        have h : (match compS cx sc k s, compSs cx sc k r with
          | some s, some r => some (Ss.cons s r)
          | _, _ => none) = some c := h
        split at h
        · rename_i cs cr e1 e2
          cases h
          have nc : (cs.noCell && cr.noCell) = true := nc
          rw [Bool.and_eq_true] at nc
          exact PSs.weak (pss_cons (ih1 _ _ e1 nc.1) (ih2 _ _ e2 nc.2)) fun D σ H hp => in_seq hp
        · cases h
end
end Mini

set_option Elab.async false
set_option linter.all false
set_option maxRecDepth 100000
set_option maxHeartbeats 4000000
/-! Mini, part H6: defs. -/
namespace Mini
open PySem PySem.Spec PyProof.Rows L2
/-- a compiled def -/
structure Df where
  name : Str
  st : Stmt
  ps : List Str
  N : List Str
  own : List Nat
  code : Ss
  gd : Bool
  lam : Bool
def Df.sig (sig : Sig) (d : Df) : Sig := { sig with rep := d.gd, told := if d.lam = true then sig.told else "" }
def Df.cx (sig : Sig) (d : Df) : Cxt := ⟨d.sig sig, d.N, d.own⟩
def Df.fn (d : Df) : Fn := ⟨d.name, d.ps.length, d.N.length, d.code⟩
/-- what is seen of the text -/
structure DfOk (sig : Sig) (d : Df) : Prop where
  sc : FnScope d.N d.ps (defScope d.st)
  cp : ∃ k, compSs (d.cx sig) (defScope d.st) k (defBody d.st) = some d.code
  nc : d.code.noCell = true
  ow : ∀ i ∈ d.own, d.ps.length ≤ i
  bd : ∀ (kV doc pm : Value) (an : Option Addr) (cdv ct : Value) (us : List Value), us.length = d.ps.length → bindArgs (PySem.W.fnOf d.name d.name (defArgs d.st) (defBody d.st) (defScope d.st) .none kV doc pm an cdv ct) ⟨us, []⟩ = pure (d.ps.zip us)
abbrev DfAt (K : PySem.W.Frag) (d : Df) (f : Addr) (fd : FuncData) : Prop := FunD K d.name d.name (defArgs d.st) (defBody d.st) (defScope d.st) [] [] f fd
/-- v is the code of the def of that name -/
def CodeAt (K : PySem.W.Frag) (mg : Str → Option Value) (name : Str) (v : Value) : Prop := ∃ (f c : Addr) (oc : Value) (od : Option Addr) (osl : Array (Option Value)) (fd : FuncData), mg name = some (.ref f) ∧ K.lookup f = some ⟨oc, od, .func fd, osl⟩ ∧ fd.code = .ref c ∧ v = .ref c
/-- the world that the defs stand in -/
structure Wld (P : Program) (w : World) (K : PySem.W.Frag) (mg : Str → Option Value) (base : Heap) (T : List (Addr × Str)) (exA : Str → Option Addr) (sig : Sig) (ds : List Df) (L : Nat) : Prop where
  consts : ∀ x d, sig.consts.lookup x = some d → ∃ v u, mg x = some u ∧ RelV v u ∧ ∀ μ F H, Rep ⟨K, w, μ⟩ F H v d
  blt : ∀ x ∈ (["len", "all", "any", "sum", "min", "max", "abs", "int", "tuple", "list", "sorted", "dict", "repr", "set", "next", "iter", "isinstance", "str", "range"] : List Str), mg x = none
  exc : ∀ (X : Cx) (S : Stat), X.prog = P → X.w = w → X.K = K → X.mg = mg → S.exA = exA → ExcsOk X S sig
  gf : ∀ d ∈ ds, sig.gfns.contains d.name = d.gd
  ok : ∀ d ∈ ds, DfOk sig d
  at_ : ∀ d ∈ ds, ∃ f fd, DfAt K d f fd ∧ mg d.name = some (.ref f)
  fns : ∀ f k, sig.fns.lookup f = some k → ∃ d ∈ ds, d.name = f ∧ d.ps.length = k
  find : ∀ d ∈ ds, (ds.map Df.fn).find? (fun e => e.name == d.name) = some d.fn
  told : ∀ (n : Nat) (d : Df) (X : Cx) (S : Stat), d ∈ ds → X.prog = P → X.w = w → X.K = K → X.mg = mg → X.base = base → X.env.qual = d.name ++ ".<locals>." → CodeAt K mg d.name X.env.code → S.K = K → S.w = w → S.T = T → S.exA = exA → S.own = d.own → (d.sig sig).told ≠ "" → XOk X S (d.cx sig) (defScope d.st) n → FnsOk X S (d.sig sig) n → ToldOk X S (d.cx sig) (defScope d.st) n
section
variable {P : Program} {w : World} {K : PySem.W.Frag} {mg : Str → Option Value} {base : Heap} {T : List (Addr × Str)} {exA : Str → Option Addr} {sig : Sig} {ds : List Df} {L : Nat}
theorem callN_at (W : Wld P w K mg base T exA sig ds L) {d : Df} (hd : d ∈ ds) {n : Nat} {xs : List D} {h : Hs} (hl : xs.length = d.ps.length) :
    callN (ds.map Df.fn) L (n + 1) d.name xs h = (denSs ⟨callN (ds.map Df.fn) L n, L⟩ d.code (xs.map some ++ List.replicate (d.N.length - d.ps.length) none) h).out := by
  show (match (ds.map Df.fn).find? (fun e => e.name == d.name) with
    | some e => if xs.length = e.np then (denSs ⟨callN (ds.map Df.fn) L n, L⟩ e.body (xs.map some ++ List.replicate (e.nv - e.np) none) h).out else .bad
    | none => .bad) = _
  rw [W.find d hd]
  exact if_pos hl
/-- the state at the entry -/
theorem start_ok {S : Stat} {μ : List Addr} {F : Addr → Prop} {H : Hp} {h : Hs} {vs : List V} {xs : List D} {N : List Str} {np : Nat} (r : Reps ⟨S.K, S.w, μ⟩ F H vs xs) (W : Wd ⟨S.K, S.w, μ⟩ S.T F h H) (hl : vs.length = np) (ow : ∀ i ∈ S.own, np ≤ i) :
    OkS S ⟨μ, F, F⟩ H [] (L2.start N vs) (xs.map some ++ List.replicate (N.length - np) none) h H := by
  have none_of : ∀ (i : Nat) d, (xs.map some ++ List.replicate (N.length - np) (none : Option D))[i]? = some (some d) → xs[i]? = some d := fun i d e => by
    by_cases hi : i < xs.length
    · rw [List.getElem?_append_left (by simpa using hi), List.getElem?_map] at e
      cases q : xs[i]? with
      | none => rw [q] at e; cases e
      | some y => rw [q] at e; cases e; rfl
    · rw [List.getElem?_append_right (by simpa using hi), List.getElem?_replicate] at e
      split at e <;> cases e
  refine ⟨⟨⟨?_, fun i d e ho => ?_, fun i d e ho => ?_, fun i j a d e h1 h2 h3 => ?_, fun _ z => z, W.inF⟩, W⟩, Keep.refl, fun a z => .inl z, fun p hp => by cases hp⟩
  · unfold L2.start
    rw [List.length_append, List.length_append, List.length_map, List.length_map, List.length_replicate, List.length_replicate, r.length, hl.symm.trans r.length]
  · obtain ⟨v, h1, h2⟩ := r.get (none_of i d e)
    refine ⟨v, ?_, h2⟩
    unfold L2.start
    have hi : i < vs.length := (List.getElem?_eq_some_iff.mp h1).1
    rw [List.getElem?_append_left (by simpa using hi), List.getElem?_map, h1]
    rfl
  · have hi : i < xs.length := (List.getElem?_eq_some_iff.mp (none_of i d e)).1
    have := ow i ho
    have := r.length
    omega
  · have hi : i < xs.length := (List.getElem?_eq_some_iff.mp (none_of i d h3)).1
    have := ow i h1
    have := r.length
    omega
theorem code_ref {cdv : Value} {q : Str} (h : PySem.W.codeIn K cdv q = true) : ∃ c, cdv = .ref c := by
  unfold PySem.W.codeIn at h
  split at h
  · exact ⟨_, rfl⟩
  · cases h
/-- a def by its body, where nothing is being shown -/
theorem fn_ofG {CX : CXT} {k : Nat} {f : Addr} {name qual : Str} {params : Arguments} {body : List Stmt} {scope : Scope} {dV kV doc pm cdv ct oc : Value} {an od : Option Addr} {osl : Array (Option Value)} {N ps : List Str} {sp : Sp}
    (lk : K.lookup f = some ⟨oc, od, .func (PySem.W.fnOf name qual params body scope dV kV doc pm an cdv ct), osl⟩) (hcd : PySem.W.codeIn K cdv qual = true) (S : FnScope N ps scope) (len : ∀ vs H Q E, sp vs H Q E → vs.length = ps.length)
    (hbody : ∀ (A : Around) (outer : List PySem.Env) (s : Shared) (H : Hp) (vs : List V) (Q : VK) (E : XK), A.guards = some [] → Room k (A.deeper (envOfC qual scope s.heap.objs.size f cdv)) → sp vs H Q E →
      ∃ t, PSs (cxOf CX P w K mg base N qual scope f cdv A outer s H E) body t ∧ t { nx := fun _ H' => Q .non H', rt := Q } (L2.start N vs) H) :
    FnG P w K mg base CX (k + 1) f (PySem.W.fnOf name qual params body scope dV kV doc pm an cdv ct) ps sp where
  len := len
  run := by
    intro A outer s H args us vs Q E gd hr e0 hb r hsp
    have hl := len _ _ _ _ hsp
    have kept : ∀ {b : Addr} {o : Obj}, base.get? b = some o → s.heap.get? b = some o := fun e => (e0.bs _ _ e).1
    have KX : K.In s.heap := e0.mod.kin.keeps fun _ _ e => kept e
    have lim : s.heap.NoLimit := e0.mod.nolimit.keeps fun _ _ e => kept e
    have hkind : ∀ y ∈ ps.zip us, scope.names.lookup y.1 = some .local ∨ (scope.names.lookup y.1 = some .cell ∧ ((cellsFrom (s.heap.objs.size + 1) scope.names []).lookup y.1).isSome = true) := by
      rintro ⟨x, v⟩ hy
      exact (S.par x (List.of_mem_zip hy).1).imp id fun q => ⟨q, PySem.W.cellsFrom_some _ _ _ (.inl q)⟩
    refine codeAny_call_function hr.depth (KX _ _ lk) rfl S.co S.gen rfl (PySem.W.codeRec_of KX hcd) (hb _ _ _ _ ?_)
    refine wpAny_newFunctionEnv_cells S.kind hkind ?_
    intro env he s1 st
    subst he
    refine ⟨lim.keeps st.toInCall.keep, codeAny_func ?_⟩
    obtain ⟨t, ht, hq⟩ := hbody A outer s H vs Q E gd (hr.deeper _) hsp
    have J : Inv (cxOf CX P w K mg base N qual scope f cdv A outer s H E) [] (L2.start N vs) H s1 := inv_start S hr.hd e0 hl r st
    have fin : ∀ {σ' : L2.St} {H' : Hp} {v : V} {u : Value} {s' : Shared}, Inv (cxOf CX P w K mg base N qual scope f cdv A outer s H E) [] σ' H' s' → RelV v u → Q v H' → CE outer P w H s Q u s' :=
      fun {_ H' v _ _} I rv q => ⟨v, H', I.os, I.bare, I.base, I.hok, rv, q⟩
    refine wpAny_mono (ht.run [] s1 _ H _ J hq) (fun fl s' hs => ?_) fun _ _ z => z
    cases fl with
    | next =>
      obtain ⟨_, _, I, q⟩ := hs
      exact fin (v := V.non) (u := Value.none) I rfl q
    | ret u =>
      obtain ⟨_, _, _, I, rv, q⟩ := hs
      exact fin I rv q
    | brk =>
      obtain ⟨_, _, _, q⟩ := hs
      exact q.elim
    | cont =>
      obtain ⟨_, _, _, q⟩ := hs
      exact q.elim
/-- every def keeps its promise, n deep -/
theorem defs_ok (W : Wld P w K mg base T exA sig ds L) : ∀ (n : Nat) (d : Df), d ∈ ds → ∀ f fd, DfAt K d f fd → mg d.name = some (.ref f) → (d.gd = false → FnOk P w K mg base (L2N.CX P w) (3 * n) f fd d.ps (spF K w T exA d.ps.length (callN (ds.map Df.fn) L n d.name))) ∧ FnG P w K mg base (L2N.CX P w) (3 * n) f fd d.ps (spF K w T exA d.ps.length (callN (ds.map Df.fn) L n d.name))
  | 0, d, hd, f, fd, F, _ => ⟨fun _ => ⟨fun vs H Q E h => h.1, fun A outer s H args us vs Q E hr e0 hb r h => by
    obtain ⟨_, μ, F, h, xs, r, wd, hp⟩ := h
    exact hp.elim⟩, ⟨fun vs H Q E h => h.1, fun A outer s H args us vs Q E gd hr e0 hb r h => by
    obtain ⟨_, μ, F, h, xs, r, wd, hp⟩ := h
    exact hp.elim⟩⟩
  | n + 1, d, hd, f, fd, F, hmf => by
    have D := W.ok d hd
    have ih := defs_ok W n
    obtain ⟨k, hcp⟩ := D.cp
    obtain ⟨oc, od, dV, kV, doc, pm, an, cdv, ct, osl, rfl, lk, hcd, hD, hK⟩ := F.ex
    have body : ∀ (A : Around) (outer : List PySem.Env) (s : Shared) (H : Hp) (vs : List V) (Q : VK) (E : XK), (d.gd = true → A.guards = some []) → Room (3 * n + 2) (A.deeper (envOfC d.name (defScope d.st) s.heap.objs.size f cdv)) → spF K w T exA d.ps.length (callN (ds.map Df.fn) L (n + 1) d.name) vs H Q E →
        ∃ t, PSs (cxOf (L2N.CX P w) P w K mg base d.N d.name (defScope d.st) f cdv A outer s H E) (defBody d.st) t ∧ t { nx := fun _ H' => Q .non H', rt := Q } (L2.start d.N vs) H := by
      intro A outer s H vs Q E gd hr hsp
      obtain ⟨hl, μ, F0, h, xs, rx, wd, hp⟩ := hsp
      let S : Stat := ⟨K, w, T, d.own, ⟨callN (ds.map Df.fn) L n, L⟩, fun cls dd _ H' => E cls dd H', exA⟩
      have hxl : xs.length = d.ps.length := by rw [← rx.length]; exact hl
      have hx : XOk (cxOf (L2N.CX P w) P w K mg base d.N d.name (defScope d.st) f cdv A outer s H E) S (d.cx sig) (defScope d.st) (3 * n) :=
        ⟨⟨rfl, rfl, rfl, hr.mono (by omega), L2N.takes_of rfl rfl rfl rfl, W.consts, gd, W.blt⟩, rfl, D.sc.nd, rfl, rfl, fun _ => hr⟩
      have fo : FnsOk (cxOf (L2N.CX P w) P w K mg base d.N d.name (defScope d.st) f cdv A outer s H E) S (d.sig sig) (3 * n) := fun g kk hg hgf => by
        obtain ⟨e, he, rfl, rfl⟩ := W.fns g kk hg
        obtain ⟨f2, fd2, F2, hm⟩ := W.at_ e he
        obtain ⟨i1, i2⟩ := ih e he f2 fd2 F2 hm
        have hgf : sig.gfns.contains e.name = true → d.gd = true := hgf
        have gfe := W.gf e he
        rw [gfe] at hgf
        refine ⟨f2, fd2, e.ps, hm, F2.kp, F2.bindsN ((W.ok e he).bd), ?_⟩
        cases q : e.gd with
        | false => exact .inl ⟨gfe.trans q, i1 q⟩
        | true => exact .inr ⟨gfe.trans q, gd (hgf q), i2⟩
      have fok : FOk (cxOf (L2N.CX P w) P w K mg base d.N d.name (defScope d.st) f cdv A outer s H E) S (d.cx sig) (defScope d.st) (3 * n) := by
        refine ⟨hx, fo, fun ht => ?_, W.exc _ S rfl rfl rfl rfl rfl, passes_of rfl, fun _ => rfl⟩
        obtain ⟨c, rfl⟩ := code_ref hcd
        exact W.told (3 * n) d _ S hd rfl rfl rfl rfl rfl rfl ⟨f, c, _, _, _, _, hmf, lk, rfl, rfl⟩ rfl rfl rfl rfl rfl ht hx fo
      refine ⟨tSs S d.code, (stm_ok fok k).2 _ _ hcp D.nc, _, h, ⟨μ, F0, F0⟩, H, [], start_ok (S := S) (N := d.N) rx wd hl D.ow, ?_⟩
      rw [callN_at W hd hxl] at hp
      show postS S μ F0 H [] _ (denSs ⟨callN (ds.map Df.fn) L n, L⟩ d.code (xs.map some ++ List.replicate (d.N.length - d.ps.length) none) h)
      cases q : denSs ⟨callN (ds.map Df.fn) L n, L⟩ d.code (xs.map some ++ List.replicate (d.N.length - d.ps.length) none) h with
      | next ρ h' =>
        rw [q] at hp
        exact fun σ' H' F' o => hp .non H' o.kb (o.wd0 Keep.refl o.ok.w) .non
      | ret y h' =>
        rw [q] at hp
        exact fun v H' kp w r => hp v H' kp w r
      | err e h' =>
        rw [q] at hp
        exact fun σ' H' kp w C hC => hp H' kp w C hC
      | brk ρ h' => rw [q] at hp; exact hp.elim
      | cnt ρ h' => rw [q] at hp; exact hp.elim
      | bad => rw [q] at hp; exact hp.elim
    refine ⟨fun hg => FnOk.mono (j := 3 * n + 3) (fn_of (k := 3 * n + 2) lk hcd D.sc (fun vs H Q E h => h.1) fun A outer s H vs Q E hr hsp => body A outer s H vs Q E (fun z => by rw [hg] at z; cases z) hr hsp) (by omega), ?_⟩
    have G := fn_ofG (P := P) (w := w) (mg := mg) (base := base) (CX := L2N.CX P w) (k := 3 * n + 2) lk hcd D.sc (fun vs H Q E (h : spF K w T exA d.ps.length (callN (ds.map Df.fn) L (n + 1) d.name) vs H Q E) => h.1) fun A outer s H vs Q E gd hr hsp => body A outer s H vs Q E (fun _ => gd) hr hsp
    exact ⟨G.len, fun A outer s H args us vs Q E gd hr => G.run A outer s H args us vs Q E gd (hr.mono (by omega))⟩
end
end Mini

set_option Elab.async false
set_option linter.all false
set_option maxRecDepth 100000
set_option maxHeartbeats 4000000
/-! Mini, part P1: several clauses 'except X as n' (lines turned from the kit's ps_try_many and ps_try_as). -/
namespace Mini
open PySem PySem.Spec PyProof.Rows L2 L2N
/-- the suite's ends: slot i is emptied -/
def endAs (i : Nat) (D : Ends) : Ends := { nx := fun σ' H' => D.nx (σ'.set i none) H', rt := D.rt, bk := fun σ' H' => D.bk (σ'.set i none) H', ct := fun σ' H' => D.ct (σ'.set i none) H' }
/-- what the clauses 'except x as n' wish of an exception of the body, one after the other -/
def wManyAs (K : PySem.W.Frag) (i : Nat) (Wout : WX) (D : Ends) : List (Value × (Addr → Value → Option Addr → TS)) → WX
  | [] => Wout
  | (c, ts) :: r => fun cls d σ H => ∃ b, PySem.W.exmOne K cls c = some b ∧ (b = true → ∀ a, H a = none → ts a cls d (endAs i D) (σ.set i (some (.ref a))) H) ∧ (b = false → wManyAs K i Wout D r cls d σ H)
inductive HdsAs (X : Cx) (n : Str) : List ExceptHandler → List (Value × (Addr → Value → Option Addr → TS)) → Prop
  | nil : HdsAs X n [] []
  | cons {x : Str} {c : Value} {ts : Addr → Value → Option Addr → TS} {b₀ : Stmt} {suite : List Stmt} {np pos' : Pos} {hds : List ExceptHandler} {l : List (Value × (Addr → Value → Option Addr → TS))} (hc : Names X x c)
      (hsu : ∀ (a : Addr) (oe : Obj) (cls : Value) (d : Option Addr) (pn : List (Addr × Obj)), Zn cls d oe → (∃ vs, oe.data = .fields vs) → PSs (X.suite a ((a, oe) :: pn)) (b₀ :: suite) (ts a cls d)) (r : HdsAs X n hds l) :
      HdsAs X n (.ExceptHandler (some (.Name x np)) (some n) (b₀ :: suite) pos' :: hds) ((c, ts) :: l)
section
variable {X : Cx} {n : Str} {i : Nat} {body : List Stmt} {h₀ : ExceptHandler} {hds : List ExceptHandler} {l : List (Value × (Addr → Value → Option Addr → TS))} {pos : Pos} {tb : WX → TS} {Wout : WX}
theorem ps_try_manyAs (hs : X.stack = X.env :: X.outer) (hf : X.env.frame = some X.env.locals) (hN : X.N.Nodup) (hi : X.N[i]? = some n) (hln : X.env.kindOf n = some .local) (tk : L2N.Takes X Wout)
    (hb : ∀ (W : WX) (pn : List (Addr × Obj)) (xe : Value → Shared → Prop), L2N.Takes (X.tr pn xe) W → PassesOwn (model X.prog X.w) X.A X.env xe → PSs (X.tr pn xe) body (tb W))
    (hh : HdsAs X n (h₀ :: hds) l) : PS X (.Try body (h₀ :: hds) [] [] pos) (fun D σ H => tb (wManyAs X.K i Wout D l) D σ H) := by
  refine ⟨fun pins s σ H D I h => ?_⟩
  have ok := I.ok
  have hfr : X.A.frames = some (X.env :: X.outer) := by rw [ok.frames, hs]
  have hloc : Loc X.env.scope n := .inl hln
  refine wpAny_Try_except ?_
  refine wpAny_mono ((hb (wManyAs X.K i Wout D l) (X.pn ++ pins) (fun e s₁ => wpAny (model X.prog X.w) X.A (noteFrame e X.env) (fun _ s₂ => wpAny (model X.prog X.w) X.A (setFlight e none) (fun _ s₃ =>
    wpAny (model X.prog X.w) X.A (handleBy e X.env (h₀ :: hds)) (SP X pins D) X.xe s₃) X.xe s₂) X.xe s₁) (fun u s' xx => ?_) PassesOwn.looking).run [] s σ H D (I.toTry _) h) (fun f s1 hsp => ?_) (fun e s1 he => he)
  · -- the catch
    obtain ⟨a, B, sI, pins', σ', H', cls, d, rfl, J', nb, up, sky, na, os, ag, w⟩ := xx
    have J : Inv X pins σ' H' sI := J'.ofTry ok
    have sky' : Sky B (X.env :: X.outer) a (Zn cls d) X.env.locals s'.heap := by rw [← hs]; exact sky
    show wpAny (model X.prog X.w) X.A (noteFrame (.ref a) X.env) _ _ _
    refine L2N.Sky.land Zn.steady hfr hf sky' fun h3 fl3 up3 => ?_
    have J3 : Inv X pins σ' H' { s' with heap := h3 } := J.landed nb fl3.1 (up.trans up3) os ag
    obtain ⟨oe3, vs3, he3, hz3, hd3⟩ := fl3.there
    have notFr : ∀ {h : Heap} {o : Obj} {vs : Array Value}, h.FunFrames B (X.env :: X.outer) → h.get? a = some o → o.data = .fields vs → a ∉ frs (X.env :: X.outer) := fun {h o vs} ff e dd hm => by
      obtain ⟨_, o', e', hnf⟩ := ff.mem hm
      rw [e] at e'; cases e'
      exact hnf _ dd
    have nfr := notFr fl3.2.2.1 he3 hd3
    have nL : a ≠ X.env.locals := fun z => nfr (List.mem_filterMap.mpr ⟨X.env, List.mem_cons_self, by rw [hf, z]⟩)
    have nF : a ∉ X.fs := fun hm => by
      obtain ⟨e, he, q⟩ := List.mem_filterMap.mp hm
      exact nfr (List.mem_filterMap.mpr ⟨e, List.mem_cons_of_mem _ he, q⟩)
    have S3 := J3.suite he3 hd3 na nL nF
    have go : ∀ {hds' : List ExceptHandler} {l' : List (Value × (Addr → Value → Option Addr → TS))}, HdsAs X n hds' l' → wManyAs X.K i Wout D l' cls d σ' H' →
        wpAny (model X.prog X.w) X.A (handleBy (.ref a) X.env hds') (SP X pins D) X.xe { s' with heap := h3 } := by
      intro hds' l' hk
      induction hk with
      | nil =>
        intro w
        refine wpAny_handleBy_nil ?_
        obtain ⟨k1, k2, k3, oe, vs, T, oT, ts', he, hz, hd, h1, hr⟩ := id fl3
        unfold PySem.passOn
        refine wpAny_bind (wpAny_field he hd h1 ?_)
        rw [if_neg (show ¬ ((Value.ref T == Value.none) = true) from by simp)]
        have fin : wpAny (model X.prog X.w) X.A (setFlight (.ref a) X.env.frame) (fun _ s4 => wpAny (model X.prog X.w) X.A (throw (.ref a) : Sem Flow) (SP X pins D) X.xe s4) X.xe { s' with heap := h3 } := by
          rw [hf]
          refine HandSPX.setFlight_upZ fl3 fun h4 hh4 up4 => wpAny_throw (tk _ _ ?_)
          exact ⟨a, B, sI, pins, σ', H', cls, d, rfl, J, nb, (up.trans up3).trans up4, .inr (.inr (by rw [hs]; exact hh4)), na, os, ag, w⟩
        first
          | exact wpAny_bind (wpAny_pure (wpAny_bind fin))
          | exact wpAny_bind fin
      | @cons x c ts b₀ suite np pos' hds2 l2 hc hsu r ih =>
        intro w
        obtain ⟨b, hb1, hyes, hno⟩ := w
        refine wpAny_handleBy_cons (codeAny_handlers_test ?_) (by intro q; cases q)
        have LT : PySem.W.Looks (model X.prog X.w) h3 (typeOf (.ref a)) cls := fun A Q E s k q => wpAny_typeOf_ref (k _ _ he3) (by rw [hz3.1]; exact q)
        have LM := PySem.W.exm_one (M := model X.prog X.w) (J3.kIn) LT hb1
        have test : ∀ {Q : Value → Shared → Prop} {E : Value → Shared → Prop}, Q c { s' with heap := h3 } → wpAny (model X.prog X.w) (X.A.mark (some (.ref a))) (eval (.Name x np) X.env) Q E { s' with heap := h3 } := fun {Q E} q => by
          obtain ⟨hg, hdbg, hm | ⟨hm, hv, hnn⟩⟩ := hc
          · exact ld_glob (X := X.suite a ((a, oe3) :: (X.pn ++ pins))) S3 hg hm q hdbg
          · exact ld_blt (X := X.suite a ((a, oe3) :: (X.pn ++ pins))) S3 hg hm hv q hnn hdbg
        refine test (LM.here ?_)
        cases b with
        | true =>
          refine codeAny_handlers_suite_as ?_
          refine HandSPX.lands_againZ fl3 fun h4 fl4 up4 => ?_
          have J4 : Inv X pins σ' H' { s' with heap := h4 } := J.landed nb fl4.1 ((up.trans up3).trans up4) os ag
          obtain ⟨oe4, vs4, he4, hz4, hd4⟩ := fl4.there
          have S4 := J4.suite he4 hd4 na nL nF
          refine store_ok (X := X.suite a ((a, oe4) :: (X.pn ++ pins))) (v := .ref a) S4 hN hi hloc rfl (fun s5 S5 => ?_) (.inr hln)
          refine wpAny_mono ((hsu a oe4 cls d (X.pn ++ pins) hz4 ⟨_, hd4⟩).run [] s5 _ H' _ S5 (hyes rfl a na)) (fun f s6 hsp => ?_) (fun _ _ z => False.elim z)
          have end_ : ∀ {σ6 : L2.St} {H6 : Hp} {Q : Shared → Prop}, Inv (X.suite a ((a, oe4) :: (X.pn ++ pins))) [] σ6 H6 s6 → (∀ s7, Inv X pins (σ6.set i none) H6 s7 → Q s7) →
              wpAny (model X.prog X.w) X.A (do bindName X.env n .none; unbindBehindTheSuite X.env n pos') (fun _ s7 => Q s7) X.xe s6 := fun {σ6 H6 Q} S6 hq => gone_ok (S6.unsuite ok) hN hi hln hq
          cases f with
          | next =>
            obtain ⟨σ6, H6, S6, q6⟩ := hsp
            exact end_ S6 fun s7 J7 => ⟨_, _, J7, q6⟩
          | brk =>
            obtain ⟨σ6, H6, S6, q6⟩ := hsp
            exact end_ S6 fun s7 J7 => ⟨_, _, J7, q6⟩
          | cont =>
            obtain ⟨σ6, H6, S6, q6⟩ := hsp
            exact end_ S6 fun s7 J7 => ⟨_, _, J7, q6⟩
          | ret u =>
            obtain ⟨v6, σ6, H6, S6, r6, q6⟩ := hsp
            exact end_ S6 fun s7 J7 => ⟨_, _, _, J7, r6, q6⟩
        | false =>
          show wpAny _ X.A (handleBy (.ref a) X.env hds2) _ _ _
          exact ih (hno rfl)
    exact go hh w
  · cases f with
    | next =>
      obtain ⟨σ', H', J', q⟩ := hsp
      exact wpAny_execs_nil ⟨σ', H', J'.ofTry ok, q⟩
    | brk =>
      obtain ⟨σ', H', J', q⟩ := hsp
      exact ⟨σ', H', J'.ofTry ok, q⟩
    | cont =>
      obtain ⟨σ', H', J', q⟩ := hsp
      exact ⟨σ', H', J'.ofTry ok, q⟩
    | ret u =>
      obtain ⟨v, σ', H', J', r, q⟩ := hsp
      exact ⟨v, σ', H', J'.ofTry ok, r, q⟩

end
end Mini

set_option Elab.async false
set_option linter.all false
set_option maxRecDepth 100000
set_option maxHeartbeats 4000000
/-! Mini, part P2: a list comprehension while an exception is handled (lines turned from the kit's lc_core and ps_setLc). -/
namespace Mini
open PySem PySem.Spec PyProof.Rows L2 L2H
/-- the block's context, its maker's pins kept -/
abbrev blkH (X : Cx) (s : Shared) (H : Hp) (scope : Scope) (cenv : PySem.Env) (fp : List Addr) : Cx := { X.blk s H scope cenv fp with pn := X.pn }
section
variable {X : Cx} {pins : List (Addr × Obj)} {σ : L2.St} {H : Hp} {s : Shared}
theorem block_startH {scope : Scope} {own : List (Str × Nat)} {fp : List Addr} (I : Inv X pins σ H s) (ok : BlkOk X.N X.env.scope scope own) (hN : X.N.Nodup) (hfp : ∀ b ∈ fp, FpOk X pins H b ∧ b < s.heap.objs.size) :
    Inv (blkH X s H scope (compEnvC scope (cellsFrom (s.heap.objs.size + 1) scope.names (cloFrom X.env.cells scope.names [])) s.heap.objs.size X.env) fp) [] (wipe σ (own.map (·.2))) H { s with heap := pushCells (s.heap.push { cls := .type "dict", data := .dict #[] }) scope.names } := by
  have J := block_start I ok hN hfp
  refine ⟨⟨J.ok.mod, J.ok.kind, J.ok.glob, J.ok.blt, J.ok.above, J.ok.inj, J.ok.has, J.ok.cab, J.ok.hd, J.ok.frames, J.ok.stk, J.ok.exf, J.ok.bs, J.ok.bsz, J.ok.noex, J.ok.exfs, J.ok.funs, J.ok.frf⟩, J.os, J.bare, J.base, J.loc, J.cell, J.free, J.freeC, fun p hp => ?_, J.hok, J.len⟩
  have hp : p ∈ X.pn ++ [] := hp
  rw [List.append_nil] at hp
  obtain ⟨g1, g2, g3, g4, g5⟩ := I.pin p (List.mem_append_left _ hp)
  refine ⟨pushCells_keeps _ _ _ _ (Heap.get?_push_of_some _ g1), g2, fun z => ?_, fun z => ?_, g5⟩
  · have z : p.1 = s.heap.objs.size := z
    exact Nat.lt_irrefl _ (z ▸ Heap.lt_size g1)
  · rcases List.mem_cons.mp (I.stkSub _ z) with e | e
    · exact g3 e
    · exact g4 e
theorem lc_coreH {pins : List (Addr × Obj)} {s : Shared} {σ : L2.St} {H : Hp} {Q : VK} {elt tg iter : Expr} {ifs : List Expr} {scope : Scope} {own : List (Str × Nat)} {pos pos' : Pos} {wi : TI} {g : TG} {tt : TT} {te : TE} {use : Option (Value → Sem Unit)} {Qf : Value → Shared → Prop}
    (hc : HotC X) (hN : X.N.Nodup) (I : Inv X pins σ H s) (hi : PIH X tg iter wi) (ok : BlkOk X.N X.env.scope scope own)
    (hg : ∀ (s : Shared) (H : Hp) (C : Addr) (cl : List (Str × Addr)) (fp : List Addr), PG (blkH X s H scope (compEnvC scope cl C X.env) fp) tg g) (ht : ∀ (s : Shared) (H : Hp) (C : Addr) (cl : List (Str × Addr)) (fp : List Addr), PTs (blkH X s H scope (compEnvC scope cl C X.env) fp) ifs tt)
    (he : ∀ (s : Shared) (H : Hp) (C : Addr) (cl : List (Str × Addr)) (fp : List Addr), PE (blkH X s H scope (compEnvC scope cl C X.env) fp) elt te) (hs : ∀ x, foldedSetIterable iter X.env x = pure x)
    (h : tLc wi g tt te (own.map (·.2)) σ H Q)
    (hRR : ∀ D C s' m H', Inv X pins σ H' s' → Q (.ref D) H' → s'.heap.Ns C m → FpOk X pins H' C → compPost (model X.prog X.w) X.A X.xe use Qf (.ref D) C (.ok .next) s') :
    wpAny (model X.prog X.w) X.A (comprehension (.ListComp elt [⟨tg, iter, ifs, 0⟩] scope pos) scope X.env pos' (newList []) false (eval iter X.env) use) Qf X.xe s := by
  have hfree : ∀ y ∈ scope.names, y.2 = .free → ∃ c, X.env.cells.lookup y.1 = some c := fun y hy e => by
    rcases ok.free y hy e with k | k
    · exact I.ok.has _ (.inl k)
    · exact I.ok.has _ (.inr k)
  refine wpAny_comprehension_free (use := use) rfl hs (closure_ok hfree) ok.kind (fun y hy e => by rw [ok.uniq y hy, e])
    (thn (hi.run pins s σ H _ I h) fun xv s1 hx => thn hx fun itv s2 h2 => ?_)
  obtain ⟨it, fp, tn, J, H2, e, I2, T, st2, f2, q⟩ := h2
  subst e
  refine wpAny_newObj_type (newEnv_comp ?_) (by show 0 ≤ sizeLine; decide)
  generalize hD : s2.heap.objs.size = D
  have hDn : H2 D = none := I2.hok.fresh (Nat.le_of_eq hD)
  obtain ⟨W, ⟨m0, w0⟩, turn⟩ := q D hDn
  -- the new list
  generalize hs3 : ({ s2 with heap := s2.heap.push { cls := .type "list", data := .seq ([] : List Value).toArray } } : Shared) = s3
  have I3 : Inv X pins σ (upd H2 D (.lst [])) s3 := by
    rw [← hs3]
    refine I2.laid (t' := s2.toks) (fun b o e => Heap.get?_push_of_some _ e) (Nat.le_of_eq hD) ⟨Nat.zero_le _, [], 0, .nil, ?_⟩
    rw [← hD]
    exact Heap.get?_push_size _ rfl
  have h3 : s3.heap = s2.heap.push { cls := .type "list", data := .seq ([] : List Value).toArray } := by rw [← hs3]
  have sz : ∀ b ∈ fp, b < s2.heap.objs.size := fun b hb => by
    obtain ⟨o, e, _⟩ := T.obj _ _ st2 b hb
    exact Heap.lt_size e
  have f3 : ∀ b ∈ fp, FpOk X pins (upd H2 D (.lst [])) b ∧ b < s3.heap.objs.size := fun b hb => by
    have hlt := sz b hb
    refine ⟨⟨?_, (f2 b hb).2⟩, by rw [h3, Heap.size_push]; exact Nat.lt_succ_of_lt hlt⟩
    rw [upd_ne (by rw [← hD]; exact Nat.ne_of_lt hlt)]
    exact (f2 b hb).1
  have st3 : tn 0 s3.heap := T.keep _ _ _ st2 fun b _ o e => by rw [h3]; exact Heap.get?_push_of_some _ e
  have I4 := block_startH I3 ok hN f3
  have pg := hg s3 (upd H2 D (.lst [])) s3.heap.objs.size (cellsFrom (s3.heap.objs.size + 1) scope.names (cloFrom X.env.cells scope.names [])) fp
  have pt := ht s3 (upd H2 D (.lst [])) s3.heap.objs.size (cellsFrom (s3.heap.objs.size + 1) scope.names (cloFrom X.env.cells scope.names [])) fp
  have pe := he s3 (upd H2 D (.lst [])) s3.heap.objs.size (cellsFrom (s3.heap.objs.size + 1) scope.names (cloFrom X.env.cells scope.names [])) fp
  show codeAny _ _ (.compStart (.ListComp elt [⟨tg, iter, ifs, 0⟩] scope pos) 0 (.ref it) (.ref D) (compEnvC scope (cellsFrom (s3.heap.objs.size + 1) scope.names (cloFrom X.env.cells scope.names [])) s3.heap.objs.size X.env)) (compPost (model X.prog X.w) X.A X.xe use Qf (.ref D) s3.heap.objs.size) { s3 with heap := pushCells (s3.heap.push { cls := .type "dict", data := .dict #[] }) scope.names }
  have nfp : ∀ b ∈ fp, (upd H2 D (.lst [])) b = none := fun b hb => (f3 b hb).1.1
  generalize hce : compEnvC scope (cellsFrom (s3.heap.objs.size + 1) scope.names (cloFrom X.env.cells scope.names [])) s3.heap.objs.size X.env = ce at I4 pg pt pe ⊢
  have cL : ce.locals = s3.heap.objs.size := by subst hce; rfl
  generalize hH3 : upd H2 D (.lst []) = H3 at I3 I4 pg pt pe w0 nfp f3
  generalize hs4 : ({ s3 with heap := pushCells (s3.heap.push { cls := .type "dict", data := .dict #[] }) scope.names } : Shared) = s4 at I4 ⊢
  have st4 : tn 0 s4.heap := T.keep _ _ _ st3 fun b _ o e => by rw [← hs4]; exact pushCells_keeps _ _ _ _ (Heap.get?_push_of_some _ e)
  have stat : ∀ {σ' : L2.St} {H' : Hp} {s' : Shared}, Inv (blkH X s3 H3 scope ce fp) [] σ' H' s' → (∀ b ∈ fp, H' b = none) → ∀ b ∈ fp, FpOk (blkH X s3 H3 scope ce fp) [] H' b := fun {σ' H' s'} I' hn b hb =>
    ⟨hn b hb, (I'.ok.exf b hb).1, I'.ok.exfs b hb, .inl hb, fun x c e => (I'.ok.exf b hb).2 x c e, fun p hp => (f3 b hb).1.2.2.2.2.2 p (List.mem_append_left _ (by rw [List.append_nil] at hp; exact hp))⟩
  have hcB : HotC (blkH X s3 H3 scope ce fp) := hc
  have loop : codeAny (model X.prog X.w) X.A (.compLoop (.ListComp elt [⟨tg, iter, ifs, 0⟩] scope pos) 0 (.ref it) (.ref D) ce) (compPost (model X.prog X.w) X.A X.xe use Qf (.ref D) s3.heap.objs.size) s4 := by
    refine compLoop_any (fun n s' => ∃ i H', Inv (blkH X s3 H3 scope ce fp) [] (wipe σ (own.map (·.2))) H' s' ∧ tn i s'.heap ∧ (∀ b ∈ fp, H' b = none) ∧ W i n H') ?_ m0 ⟨0, H3, I4, st4, nfp, w0⟩
    rintro n s5 ⟨i, H5, I5, st5, n5, w5⟩
    rcases turn i n H5 w5 with ⟨stop, qq⟩ | ⟨go, Nx, hNx, step⟩
    · have td := T.done (blkH X s3 H3 scope ce fp) rfl rfl rfl hcB i [] s5 _ H5 (fun _ _ => False) I5 (stat I5 n5) st5 stop
      refine thnF td fun r s6 ⟨hr, I6⟩ => ?_
      subst hr
      -- back in the def's context
      have I7 : Inv X pins σ H5 s6 := I3.call' (ch := fp) I6.os I6.base I6.hok I6.bare fun b hb => ⟨(f3 b hb).1.2.2.2.1, (f3 b hb).1.2.1, (f3 b hb).1.2.2.2.2.1, (f3 b hb).1.2.2.2.2.2⟩
      have nC : H5 s3.heap.objs.size = none := by
        have z : H5 ce.locals = none := I6.free
        rw [cL] at z
        exact z
      obtain ⟨m, hn, _⟩ := I6.loc
      have hn : s6.heap.Ns ce.locals m := hn
      rw [cL] at hn
      exact hRR D s3.heap.objs.size s6 m H5 I7 qq hn (I3.fpOk (Nat.le_refl _) nC)
    · have ti := T.item (blkH X s3 H3 scope ce fp) rfl rfl rfl hcB i [] s5 _ H5 (fun _ _ => False) I5 (stat I5 n5) st5 go
      refine thnF ti fun r s6 ⟨u, hr, h6⟩ => ?_
      subst hr
      refine thnF h6 fun _ s7 ⟨x, H7, I7, r7, y7, st7, n7⟩ => ?_
      have I7' := I7.pinned (stat I7 n7) (T.obj _ _ st7)
      refine thnF (pg.run _ s7 _ H7 x u _ I7' r7 (step x H7 y7)) fun _ s8 ⟨σ8, H8, I8, hw8, q8⟩ => ?_
      refine thnF (pt.run _ s8 σ8 H8 _ I8 q8) fun b s9 ⟨H9, I9, q9⟩ => ?_
      -- the turn's end
      have fin : ∀ {s' : Shared} {H' : Hp}, Inv (blkH X s3 H3 scope ce fp) ([] ++ pinsAt fp s7.heap) σ8 H' s' → Nx H' → ∃ m, m < n ∧ ∃ i H', Inv (blkH X s3 H3 scope ce fp) [] (wipe σ (own.map (·.2))) H' s' ∧ tn i s'.heap ∧ (∀ b ∈ fp, H' b = none) ∧ W i m H' := fun {s' H'} I' nx => by
        obtain ⟨m', hm, w'⟩ := hNx H' nx
        have pin' : ∀ b ∈ fp, ∀ o, s7.heap.get? b = some o → s'.heap.get? b = some o ∧ H' b = none := fun b hb o e =>
          let z := I'.pin (b, o) (List.mem_append_right _ (List.mem_append_right _ (mem_pinsAt hb e)))
          ⟨z.1, z.2.1⟩
        have hl : (wipe σ (own.map (·.2))).length = σ8.length := by rw [← hw8, wipe_length]
        refine ⟨m', hm, i + 1, H', (I'.unpinned (pins := [])).weak hl (fun j v e => ?_), T.keep _ _ _ st7 fun b hb o e => (pin' b hb o e).1, fun b hb => ?_, w'⟩
        · rw [← hw8] at e
          exact (wipe_some e).1
        · obtain ⟨o, e, _⟩ := T.obj _ _ st7 b hb
          exact (pin' b hb o e).2
      cases b with
      | false =>
        simp only [Bool.false_eq_true, if_false] at q9 ⊢
        exact fin I9 q9
      | true =>
        simp only [if_true] at q9 ⊢
        refine thnF (pe.run _ s9 σ8 H9 _ I9 q9) fun z s10 ⟨yv, H10, I10, r10, acc, hD10, hz10, nx⟩ => ?_
        exact app_ok (X := blkH X s3 H3 scope ce fp) I10 hD10 hz10 r10 fun s11 I11 => fin I11 nx
  exact codeAny_compStart_list loop (T.self X.A 0 _ _ _ st4 loop)

theorem ps_setLcH {i : Nat} {y : Str} {py : Pos} {elt tg iter : Expr} {ifs : List Expr} {scope : Scope} {own : List (Str × Nat)} {pos spos : Pos} {wi : TI} {g : TG} {tt : TT} {te : TE} (hc : HotC X) (hN : X.N.Nodup) (hy : X.N[i]? = some y) (hyl : X.env.scope.names.lookup y = some .local)
    (hsw : swapsWith (.ListComp elt [⟨tg, iter, ifs, 0⟩] scope pos) (some (.Name y py)) spos.line X.env = pure true) (hi : PIH X tg iter wi) (ok : BlkOk X.N X.env.scope scope own)
    (hg : ∀ (s : Shared) (H : Hp) (C : Addr) (cl : List (Str × Addr)) (fp : List Addr), PG (blkH X s H scope (compEnvC scope cl C X.env) fp) tg g) (ht : ∀ (s : Shared) (H : Hp) (C : Addr) (cl : List (Str × Addr)) (fp : List Addr), PTs (blkH X s H scope (compEnvC scope cl C X.env) fp) ifs tt)
    (he : ∀ (s : Shared) (H : Hp) (C : Addr) (cl : List (Str × Addr)) (fp : List Addr), PE (blkH X s H scope (compEnvC scope cl C X.env) fp) elt te) (hs : ∀ x, foldedSetIterable iter X.env x = pure x := by intro _; rfl) :
    PS X (.Assign [.Name y py] (.ListComp elt [⟨tg, iter, ifs, 0⟩] scope pos) spos) (tAsg (tLc wi g tt te (own.map (·.2))) (gName i)) := by
  refine ⟨fun pins s σ H D I h => ?_⟩
  rw [exec_Assign_Name_used _ _ _ _ hsw]
  refine wpAny_bind (wpAny_standAt (wpAny_bind ?_))
  show wpAny _ X.A (do let _ ← comprehension (.ListComp elt [⟨tg, iter, ifs, 0⟩] scope pos) scope X.env (firstIterPos [⟨tg, iter, ifs, 0⟩] pos) (newList []) false (eval iter X.env) (some (assign (.Name y py) X.env))) _ _ s
  have h : tLc wi g tt te (own.map (·.2)) σ H (fun x H1 => gName i x σ H1 D.nx) := h
  refine wpAny_bind (thn (lc_coreH (Qf := fun _ s' => SP X pins D .next s') hc hN I hi ok hg ht he hs h fun L C s' m H' I' q hn f => ?_) fun _ s' hq => wpAny_pure (wpAny_pure hq))
  show wpAny _ _ (assign (.Name y py) X.env (.ref L)) _ _ _
  refine wpAny_assign_Name (store_ok2 (v := V.ref L) I' hN hy (.inl hyl) rfl (fun s2 I2 ⟨a, sb, ha⟩ => ?_) (.inr hyl))
  obtain ⟨f0, f1, f2, f3, f4, f5⟩ := f
  have haC : C ≠ a := by
    rcases ha with z | z
    · rw [z]; exact f1
    · exact fun e => f4 y a z e.symm
  refine ⟨m, hn.sameBut sb haC, fun h3 sb3 => ?_⟩
  exact ⟨_, H', I2.turned (t' := s2.toks) (fun b o hb e => (sb3.2 b hb).trans e) f0 f1 f3 f4 f5, q⟩

end
end Mini

set_option Elab.async false
set_option linter.all false
set_option maxRecDepth 100000
set_option maxHeartbeats 4000000
/-! Mini, part P3: a lambda handed to a def, over L2N (lines turned from the kit's LamX). -/
namespace MiniL
open PySem PySem.Spec PyProof.Rows L2
open LamX (CodeO Tabs TabS ExtN LamS TabB lamEnv run_ofS lam_make2)
/-- the context of the lambda's body, entered at s from the frames outer -/
def lamCx (X : Cx) (A : Around) (outer : List Env) (s : Shared) (H : Hp) (E : XK) (scope : Scope) (f c' : Addr) : Cx where
  prog := X.prog
  w := X.w
  K := X.K
  mg := X.mg
  base := X.base
  A := A.deeper (lamEnv X scope s.heap.objs.size f c')
  N := X.N
  s_0 := s
  H_0 := H
  env := lamEnv X scope s.heap.objs.size f c'
  outer := outer
  stack := lamEnv X scope s.heap.objs.size f c' :: outer
  ex := []
  fn := fun _ => false
  calm := true
  pn := []
  xe := fun e s' => wpAny (model X.prog X.w) (A.deeper (lamEnv X scope s.heap.objs.size f c')) (leaving (lamEnv X scope s.heap.objs.size f c') e) (fun _ s'' => L2N.CX X.prog X.w outer H s E e s'') (fun e' s'' => L2N.CX X.prog X.w outer H s E e' s'') s'
section
variable {X : Cx} {pins : List (Addr × Obj)} {σ : L2.St} {H HZ : Hp} {s s1 : Shared}
theorem lam_start2 {A : Around} {outer : List Env} {E : XK} {scope : Scope} {f c' : Addr} {h₁ : Heap} {tk : Nat} (I : Inv X pins σ H s) (L : LamS X.env.scope scope) (e0 : Env0 X.prog X.w X.K X.mg X.base A outer s1 HZ) (hd : A.handled = none)
    (un : Un (frs X.stack) [] H HZ s.heap s1.heap) (hns : h₁.Ns s1.heap.objs.size fun y => ([] : List (Str × Value)).reverse.lookup y) (kp : ∀ b o, s1.heap.get? b = some o → h₁.get? b = some o) :
    Inv (lamCx X A outer s1 HZ E scope f c') [] σ HZ { s1 with heap := h₁, toks := tk } := by
  have hfree := L.has I.ok
  have cm : ∀ {y c}, (cloFrom X.env.cells scope.names []).lookup y = some c → X.env.cells.lookup y = some c := fun {y c} e => by
    rcases cloFrom_mem (PySem.mem_of_lookup e) with hm | ⟨h1, h2⟩
    · cases hm
    · obtain ⟨c1, hc⟩ := hfree _ h1 rfl
      have hc : X.env.cells.lookup y = some c1 := hc
      have e2 : c = c1 := by
        rw [h2, hc] <;> rfl
      rw [e2]
      exact hc
  have look : ∀ {y}, scope.names.lookup y = some .free → ∃ c, (cloFrom X.env.cells scope.names []).lookup y = some c := fun {y} hl => by
    have hy : (y, NameKind.free) ∈ scope.names := PySem.mem_of_lookup hl
    exact mem_lookup (cloFrom_has (cells := X.env.cells) (acc := []) hy)
  have cellK : ∀ {c : Addr} {v : Option Value}, H c = none → s.heap.IsCell c v → h₁.IsCell c v := fun {c v} n ⟨o, ho, hd⟩ => by
    obtain ⟨sl, q⟩ := un.any ho n (by simp)
    exact ⟨_, kp _ _ q, hd⟩
  have noA : ∀ b : Addr, b ∉ (lamCx X A outer s1 HZ E scope f c').ex := fun b z => absurd (show b ∈ ([] : List Addr) from z) (by simp)
  refine ⟨⟨e0.mod, L.kind, rfl, rfl, Nat.le_refl _, fun y z c e1 e2 => I.ok.inj y z c (cm e1) (cm e2), fun y hy => ?_, fun y c z _ => ?_, fun _ => hd, Around.frames_deeper e0.frames, .inr ⟨rfl, rfl⟩, fun b z => absurd z (noA b), e0.bs, e0.bsz, fun b _ _ => noA b,
      fun b z => absurd z (noA b), e0.funs, e0.frf⟩,
    rfl, e0.bare, Un.kept kp, ⟨_, hns, fun i y v e1 e2 e3 => ?_⟩, fun y c e => ?_, e0.hok.fresh (Nat.le_refl _), fun y c e => ?_, fun q hq => absurd (show q ∈ ([] : List (Addr × Obj)) ++ [] from hq) (by simp), e0.hok.kept kp, I.len⟩
  · have hy : scope.names.lookup y = some .cell ∨ scope.names.lookup y = some .free := hy
    rcases hy with hy | hy
    · exact absurd rfl (L.own _ (PySem.mem_of_lookup hy)).2
    · exact look hy
  · have z : false = true := z
    cases z
  · have e3 : Vis scope y := e3
    rcases e3 with k | k | k
    · exact absurd rfl (L.own _ (PySem.mem_of_lookup k)).1
    · exact absurd rfl (L.own _ (PySem.mem_of_lookup k)).2
    · obtain ⟨m, hn, hl⟩ := I.loc
      have hvis : Vis X.env.scope y := (L.free _ (PySem.mem_of_lookup k) rfl).elim (fun k => .inr (.inl k)) (fun k => .inr (.inr k))
      obtain ⟨w', r, q⟩ := hl i y v e1 e2 hvis
      obtain ⟨c2, h2⟩ := look k
      refine ⟨w', r, .inr ⟨.inr k, c2, h2, ?_⟩⟩
      have c1 := cm h2
      rcases q with ⟨k', _⟩ | ⟨_, c3, e', z⟩
      · have k' : X.env.scope.names.lookup y = some .local := k'
        rcases L.free _ (PySem.mem_of_lookup k) rfl with k2 | k2 <;> rw [show X.env.scope.names.lookup y = _ from k2] at k' <;> cases k'
      · rw [c1] at e'
        cases e'
        exact cellK (I.freeC y _ c1) z
  · obtain ⟨w', z⟩ := I.cell y c (cm e)
    exact ⟨w', cellK (I.freeC y c (cm e)) z⟩
  · obtain ⟨v, o, ho, hd⟩ := I.cell y c (cm e)
    exact un.free c o ho (I.freeC y c (cm e)) (by simp)
/-- x(), in the def that got the lambda: Z is that def's context, entered at s -/
theorem pe_act {CXg : CXT} {Eg : XK} {Ng : List Str} {qg : Str} {sg : Scope} {g f c' : Addr} {cdg pm ctv : Value} {params : Arguments} {body : Expr} {scope : Scope} {k i : Nat} {a : Str} {pn : List (Addr × Obj)} {xe : Value → Shared → Prop} {W : WX} {tb : XK → TE} {p1 p2 : Pos}
    (I : Inv X pins σ H s) (L : LamS X.env.scope scope) (hf : s.heap.get? f = some (PySem.W.kla_obj "<lambda>" (X.env.qual ++ "<lambda>") params body scope (cloFrom X.env.cells scope.names []) pm c' ctv)) (hfn : H f = none) (hfr : f ∉ frs X.stack)
    (hbind : bindArgs (PySem.W.kla_fn "<lambda>" (X.env.qual ++ "<lambda>") params body scope (cloFrom X.env.cells scope.names []) pm (.ref c') ctv) ⟨[], []⟩ = pure [])
    (tk : L2N.Takes ((cxOf CXg X.prog X.w X.K X.mg X.base Ng qg sg g cdg X.A X.stack s H Eg).tr pn xe) W) (hr : Room (k + 1) (X.A.deeper (envOfC qg sg s.heap.objs.size g cdg)))
    (hbody : ∀ (A : Around) (outer : List Env) (s : Shared) (H : Hp) (E : XK), Room k (A.deeper (lamEnv X scope s.heap.objs.size f c')) → PE (lamCx X A outer s H E scope f c') body (tb E))
    (hN : Ng[i]? = some a) (hv : Vis sg a) (hd : (a == ("__debug__" : Str)) = false := by decide) (hcd : (a == ("__classdict__" : Str)) = false := by decide) :
    PE ((cxOf CXg X.prog X.w X.K X.mg X.base Ng qg sg g cdg X.A X.stack s H Eg).tr pn xe) (.Call (.Name a p1) [] [] p2)
      (fun σZ HZ Q => σZ[i]? = some (some (.ref f)) ∧ HZ c' = some (CodeO c' (X.env.qual ++ "<lambda>")) ∧ ∃ E : XK, (∀ cls d H', E cls d H' → W cls d σZ H') ∧ tb E σ HZ Q) := by
  refine ⟨fun pinsZ sZ σZ HZ Q IZ h => ?_⟩
  obtain ⟨hs, hc, E, hW, ht⟩ := h
  refine wpAny_Call_Name_kw (thn ((pe_var (pos := p1) (i := i) hN hv hd hcd).run pinsZ sZ σZ HZ (fun v H1 => v = .ref f ∧ H1 = HZ) IZ ⟨.ref f, hs, rfl, rfl⟩) fun u s1 ⟨v, H1, I1, r1, q1⟩ => ?_)
  obtain ⟨ev, eH⟩ := q1
  subst ev
  rw [eH] at I1
  obtain rfl : u = Value.ref f := r1
  have of1 : s1.heap.get? f = some (PySem.W.kla_obj "<lambda>" (X.env.qual ++ "<lambda>") params body scope (cloFrom X.env.cells scope.names []) pm c' ctv) := I1.base.keep f _ hf hfn hfr (fun z => nomatch (show f ∈ ([] : List Addr) from z))
  refine PySem.W.callWith_F0 ⟨_, _, _, _, of1⟩ ?_
  have un : Un (frs X.stack) [] H HZ s.heap s1.heap := I1.base
  obtain ⟨⟨oc, vs, t, hoc, hdc, hvc⟩, _, _⟩ := I1.hok c' _ hc
  have rc : codeAny (model X.prog X.w) (X.A.deeper (envOfC qg sg s.heap.objs.size g cdg)) (.call (.ref f) ⟨[], []⟩) (CR (L2N.CX X.prog X.w) (envOfC qg sg s.heap.objs.size g cdg :: X.stack) X.prog X.w HZ s1 Q E) s1 := by
    refine PySem.W.kla_callFunE hr.depth of1 rfl L.co L.gen rfl ⟨c', oc, vs, t, rfl, hoc, hdc, hvc⟩ ?_
    rw [hbind]
    refine wpAny_pure (wpAny_newFunctionEnv (fun y hy => (L.own y hy).2) (fun y hy => absurd hy (by simp)) (fun h₁ hns hsb => ⟨I1.nolimit.fresh _ hsb, ?_⟩) L.kind)
    show codeAny _ _ (.expr body (lamEnv X scope s1.heap.objs.size f c')) _ _
    have kp : ∀ b o, s1.heap.get? b = some o → h₁.get? b = some o := fun b o e => hsb.extBut b o (Nat.ne_of_lt (Heap.lt_size e)) (Heap.get?_push_of_some _ e)
    have J : Inv (lamCx X (X.A.deeper (envOfC qg sg s.heap.objs.size g cdg)) (envOfC qg sg s.heap.objs.size g cdg :: X.stack) s1 HZ E scope f c') [] σ HZ { s1 with heap := h₁, toks := s1.toks + ([] : List (Str × Value)).length } :=
      lam_start2 I L I1.env0 hr.hd un hns kp
    refine PySem.W.kla_codeExpr (wpAny_mono ((hbody _ _ s1 HZ E (hr.deeper _)).run [] _ _ HZ Q J ht) (fun v s' hq => ?_) fun e s' hq => hq)
    obtain ⟨w', H', J', rv, q⟩ := hq
    exact ⟨w', H', J'.os, J'.bare, J'.base, J'.hok, rv, q⟩
  refine wpAny_call (codeAny_mono rc fun r s' hq => ?_)
  cases r with
  | error e => exact tk _ _ (L2N.XE.of_call I1 hW hq)
  | ok fl =>
    cases fl with
    | ret u => exact I1.after hq
    | next => exact False.elim hq
    | brk => exact False.elim hq
    | cont => exact False.elim hq
end
/-- the def that calls what it got: a calls it; TT: what it makes of the lambda's reading -/
def GivesTo (X : Cx) (Ng : List Str) (x : Str) (sg : Scope) (g : Addr) (cdg : Value) (bg : List Stmt) (a : Str) (q : Str) (TT : (XK → Hp → VK → Prop) → Hp → VK → Prop) : Prop :=
  ∀ (f c' : Addr) (s : Shared) (H : Hp) (Q : VK) (tl : XK → Hp → VK → Prop),
    (∀ (W : WX) (pn : List (Addr × Obj)) (xe : Value → Shared → Prop) (p1 p2 : Pos), L2N.Takes ((cxOf C8.CX0 X.prog X.w X.K X.mg X.base Ng x sg g cdg X.A X.stack s H C8.E0).tr pn xe) W →
      PE ((cxOf C8.CX0 X.prog X.w X.K X.mg X.base Ng x sg g cdg X.A X.stack s H C8.E0).tr pn xe) (.Call (.Name a p1) [] [] p2) (fun σZ HZ Q => σZ[0]? = some (some (.ref f)) ∧ HZ c' = some (CodeO c' q) ∧ ∃ E : XK, (∀ cls d H', E cls d H' → W cls d σZ H') ∧ tl E HZ Q)) →
    H c' = some (CodeO c' q) → TT tl H Q →
    ∃ t, PSs (cxOf C8.CX0 X.prog X.w X.K X.mg X.base Ng x sg g cdg X.A X.stack s H C8.E0).nox bg t ∧ t { nx := fun _ H' => Q .non H', rt := Q } (L2.start Ng [.ref f]) H
def tLam (T : List (Addr × Str)) (TT : (XK → Hp → VK → Prop) → Hp → VK → Prop) (t : XK → TE) : TE := fun σ H Q => Tabs T H ∧ ∀ H1, ExtN H H1 → Tabs T H1 → TT (fun E H' Q' => t E σ H' Q') H1 Q
section
variable {X : Cx}
/-- x(lambda: body) -/
theorem pe_lamcall {T : List (Addr × Str)} {TT : (XK → Hp → VK → Prop) → Hp → VK → Prop} {x a : Str} {g c P : Addr} {k : Nat} {pg : Arguments} {bg : List Stmt} {sg : Scope} {dV kV doc pm cdv ct oc : Value} {an od : Option Addr} {osl : Array (Option Value)} {Ng : List Str}
    {params : Arguments} {body : Expr} {scope : Scope} {t : XK → TE} {p lpos pos : Pos} (hg : Gl X x) (hm : X.mg x = some (.ref g)) (hk : PySem.W.keepIn X.K (.ref g) = true)
    (lk : X.K.lookup g = some ⟨oc, od, .func (PySem.W.fnOf x x pg bg sg dV kV doc pm an cdv ct), osl⟩) (hcg : PySem.W.codeIn X.K cdv x = true) (hb : L2.Binds X.K (PySem.W.fnOf x x pg bg sg dV kV doc pm an cdv ct) [a] []) (Sg : FnScope Ng [a] sg) (hNg : Ng[0]? = some a) (hva : Vis sg a)
    (hG : GivesTo X Ng x sg g cdv bg a (X.env.qual ++ "<lambda>") TT)
    (TB : TabB X.base X.mg c P) (hcode : X.env.code = .ref c) (hmT : (P, X.env.qual ++ "<lambda>") ∈ T) (hu : ∀ p ∈ T, p.1 = P → p.2 = X.env.qual ++ "<lambda>") (hr : Room (k + 2) X.A) (L : LamS X.env.scope scope) (hdef : defaultsOf params X.env = ([], []))
    (hbind : ∀ (q : Str) (cl : List (Str × Addr)) (pm cv ctv : Value), bindArgs (PySem.W.kla_fn "<lambda>" q params body scope cl pm cv ctv) ⟨[], []⟩ = pure [])
    (hbody : ∀ (A : Around) (outer : List Env) (s : Shared) (H : Hp) (E : XK) (f c' : Addr), Room k (A.deeper (lamEnv X scope s.heap.objs.size f c')) → PE (lamCx X A outer s H E scope f c') body (t E))
    (hdb : (x == ("__debug__" : Str)) = false := by decide) (hd : (a == ("__debug__" : Str)) = false := by decide) (hcd : (a == ("__classdict__" : Str)) = false := by decide) :
    PE X (.Call (.Name x p) [.Lambda params body scope lpos] [] pos) (tLam T TT t) := by
  refine ⟨fun pins s σ H Q I h => ?_⟩
  obtain ⟨hT, h⟩ := h
  refine wpAny_Call_Name_kw (ld_glob I hg hm ?_ hdb)
  refine PySem.W.callWith_K (h₀ := X.base) I.ok.mod.kin hk ?_ (by rfl) (by rfl)
  show wpAny _ _ (spliced ((false, eval (.Lambda params body scope lpos) X.env) :: backTo pos (starEach [] X.env))) _ _ s
  refine Calls.spliced_cons (lam_make2 I TB hcode hmT hu hT hdef (L.has I.ok) fun f c' pm' ctv H1 s' I1 eN T1 hf hfn hfr hco => ?_)
  refine Calls.spliced_nil ⟨I1.kIn, ?_⟩
  have rc : codeAny (model X.prog X.w) X.A (.call (.ref g) ⟨[.ref f], []⟩) (CR C8.CX0 X.stack X.prog X.w H1 s' Q C8.E0) s' := by
    refine run_ofS (N := Ng) (ps := [a]) (us := [.ref f]) (vs := [.ref f]) lk hcg Sg hr I1.env0 (hb s' [.ref f] I1.kIn rfl) (.cons rfl .nil) rfl fun hr' => ?_
    obtain ⟨t', ht', hq'⟩ := hG f c' s' H1 Q (fun E H' Q' => t E σ H' Q') (fun W pn xe p1 p2 tk => pe_act (i := 0) (tb := t) I1 L hf hfn hfr (hbind _ _ _ _ _) tk hr' (fun A outer s H E hr2 => hbody A outer s H E f c' hr2) hNg hva hd hcd) hco (h H1 eN T1)
    exact ⟨t', ht'.nox, hq'⟩
  refine wpAny_call (codeAny_mono rc fun r s2 hq => ?_)
  cases r with
  | error e => exact (show False from hq).elim
  | ok fl =>
    cases fl with
    | ret u => exact I1.after hq
    | next => exact False.elim hq
    | brk => exact False.elim hq
    | cont => exact False.elim hq
end

end MiniL

set_option Elab.async false
set_option linter.all false
set_option maxRecDepth 100000
set_option maxHeartbeats 4000000
/-! Mini, part P4: the def that calls the lambda and tells how it went. -/
namespace Mini
open PySem PySem.Spec PyProof.Rows L2 L2N L2H HotX MiniL
open LamX (CodeO Tabs TabS ExtN LamS TabB lamEnv)
def tStm : Stmt := PySem.Challenge.pw_stilljoined_k00_whole_tasks_and_what_is.main.body.getD 46 (.Pass ⟨0, 0, 0, 0⟩)
def tBody : List Stmt := defBody tStm
def tScope : Scope := defScope tStm
def tSuite : List Stmt := match tBody with
  | [.Try _ [_, _, .ExceptHandler _ _ su _] _ _ _] => su
  | _ => []
def tcScope : Scope := match tSuite with
  | [_, .Assign _ (.ListComp _ _ sc _) _, _] => sc
  | _ => tScope
def Ngt : List Str := ["call", "e", "kinds", "names", "k"]
/-- what is told of the four classes -/
def tnm : List Str := ["refused", "large", "missing", "paper"]
structure ToldH (K : PySem.W.Frag) (mg : Str → Option Value) (b0 b1 b2 : Addr) (c : Nat → Addr) : Prop where
  m0 : mg "Broken" = some (.ref b0)
  m1 : mg "BadForm" = some (.ref b1)
  m2 : mg "NetError" = some (.ref b2)
  n0 : mg "NotAllowed" = some (.ref (c 0))
  n1 : mg "TooLarge" = some (.ref (c 1))
  n2 : mg "Missing" = some (.ref (c 2))
  n3 : mg "BadPaper" = some (.ref (c 3))
  iso : mg "isinstance" = none
  rng : mg "range" = none
  int : mg "int" = none
  len : mg "len" = none
  x0 : ∀ j, j < 4 → PySem.W.exmOne K (.ref (c j)) (.ref b0) = some false
  x1 : ∀ j, j < 4 → PySem.W.exmOne K (.ref (c j)) (.ref b1) = some false
  x2 : ∀ j, j < 4 → PySem.W.exmOne K (.ref (c j)) (.ref b2) = some true
  exc : ∀ j, j < 4 → ExcC K (c j)
  kit : ∀ j i, j < 4 → i < 4 → PySem.W.kitOne K (.ref (c j)) (.ref (c i)) = some (decide (j = i))
/-- all that is there stays -/
def Ext (H H' : Hp) : Prop := ∀ b x, H b = some x → H' b = some x
theorem Ext.refl (H : Hp) : Ext H H := fun _ _ h => h
theorem Ext.trans {H H1 H2 : Hp} (a : Ext H H1) (b : Ext H1 H2) : Ext H H2 := fun c x h => b c x (a c x h)
theorem Ext.new {H H1 : Hp} {p : Addr} {o : HO} (a : Ext H H1) (h : H1 p = none) : Ext H (upd H1 p o) := a.trans (ext_upd h)
/-- the suite's end -/
def Fin1 (nm : Str) (Q : VK) (H : Hp) : Prop := ∀ p o H2, Ext H H2 → PlainT o → H2 p = none → Q (.ref p) (upd H2 p (.frz o (.tup [.str nm])))
def Eof (c : Nat → Addr) (Q : VK) : XK := fun cls d H' => d = none ∧ ∃ j nm, j < 4 ∧ cls = .ref (c j) ∧ tnm[j]? = some nm ∧ Fin1 nm Q H'
def TTold (c : Nat → Addr) : (XK → Hp → VK → Prop) → Hp → VK → Prop := fun tl H Q => tl (Eof c Q) H fun v H1 => ([V.str "told", v] : List V).length ≤ sizeLine ∧ ∀ p o, PlainT o → H1 p = none → Q (.ref p) (upd H1 p (.frz o (.tup [.str "told", v])))
def kbs (j : Nat) : List V := [.bl (decide (j = 0)), .bl (decide (j = 1)), .bl (decide (j = 2)), .bl (decide (j = 3))]
def tvs : List V := [.str "refused", .str "large", .str "missing", .str "paper"]
def accs (j : Nat) : Nat → List V
  | 0 => []
  | i + 1 => accs j i ++ (if i = j then (match tvs[i]? with
    | some v => [v]
    | none => []) else [])
theorem accs_len (j : Nat) : ∀ i, (accs j i).length ≤ i
  | 0 => Nat.le_refl _
  | i + 1 => by
    have := accs_len j i
    unfold accs
    rw [List.length_append]
    split
    · split <;> simp <;> omega
    · simp
      omega
theorem accs4 {j : Nat} {nm : Str} (hj : j < 4) (h : tnm[j]? = some nm) : accs j 4 = [.str nm] := by
  match j, hj with
  | 0, _ => cases h; rfl
  | 1, _ => cases h; rfl
  | 2, _ => cases h; rfl
  | 3, _ => cases h; rfl
theorem pssW {X : Cx} {ss : List Stmt} {t t' : TS} (h : PSs X ss t) (w : ∀ D σ H, t' D σ H → t D σ H) : PSs X ss t' := ⟨fun pins s σ H D I q => h.run pins s σ H D I (w D σ H q)⟩
section
variable {X : Cx} {b0 b1 b2 : Addr} {c : Nat → Addr}
/-- the suite's reading -/
def tS3 (j : Nat) (f a : Addr) : TS := fun D σ H => σ = [some (.ref f), some (.ref a), none, none, none] ∧ ∃ nm, j < 4 ∧ tnm[j]? = some nm ∧ Fin1 nm D.rt H
theorem suite_ok {Y : Cx} {f a : Addr} {oe : Obj} {pn : List (Addr × Obj)} {j : Nat} (T : ToldH Y.K Y.mg b0 b1 b2 c) (hN : Y.N = Ngt) (hsc : Y.env.scope = tScope) (hfn : ∀ y, Y.fn y = true) (hj : j < 4) (hz : Zn (.ref (c j)) none oe) (hf : ∃ vs, oe.data = .fields vs) :
    PSs (Y.suite a ((a, oe) :: pn)) tSuite (tS3 j f a) := by
  have gl : ∀ x : Str, tScope.names.lookup x = some .globalImplicit → Gl (Y.suite a ((a, oe) :: pn)) x := fun x h => by
    show Y.env.scope.names.lookup x = _
    rw [hsc]
    exact h
  have hv1 : Vis (Y.suite a ((a, oe) :: pn)).env.scope "e" := by
    show Vis Y.env.scope "e"
    rw [hsc]
    exact .inl rfl
  have hv3 : Vis (Y.suite a ((a, oe) :: pn)).env.scope "names" := by
    show Vis Y.env.scope "names"
    rw [hsc]
    exact .inl rfl
  have hN' : (Y.suite a ((a, oe) :: pn)).N = Ngt := hN
  have iso : ∀ (x : Str) (i : Nat) (p1 p2 p3 p4 : Pos), i < 4 → tScope.names.lookup x = some .globalImplicit → (x == ("__debug__" : Str)) = false → Y.mg x = some (.ref (c i)) → PE (Y.suite a ((a, oe) :: pn)) (.Call (.Name "isinstance" p1) [.Name "e" p2, .Name x p3] [] p4) (fun σ H Q => σ[1]? = some (some (.ref a)) ∧ Q (.bl (decide (i = j))) H) := fun x i p1 p2 p3 p4 hi hx hdb hm => by
    refine PE.weak (pe_callB (call_isE (T.exc j hj) hz.zc hf) (gl _ rfl) T.iso rfl (pa_cons (pe_var (i := 1) (by rw [hN']; rfl) hv1) (pa_cons (pe_glob (v := .ref (c i)) (gl x hx) hm rfl hdb) pa_nil))) fun σ H Q ⟨h1, q⟩ => ?_
    refine ⟨_, h1, .ref (c i), .ref (c i), decide (j = i), rfl, fun u hu => hu, T.kit j i hj hi, ?_⟩
    rwa [show decide (j = i) = decide (i = j) from by simp [eq_comm]]
  have hc : HotC (Y.suite a ((a, oe) :: pn)) := ⟨(a, oe), ⟨rfl, hf.imp fun vs e => ⟨e, hz.2.2 vs e⟩⟩, List.mem_cons_self ..⟩
  have nd : (Y.suite a ((a, oe) :: pn)).N.Nodup := by rw [hN']; decide
  have knd : Y.env.scope.kind = .function := by rw [hsc]; rfl
  have bk : BlkOk (Y.suite a ((a, oe) :: pn)).N (Y.suite a ((a, oe) :: pn)).env.scope tcScope [("k", 4)] := by
    show BlkOk Y.N Y.env.scope tcScope [("k", 4)]
    rw [hN, hsc]
    exact blkOk_by (by decide +kernel)
  refine pssW (pss_cons (ps_set (i := 2) nd (by rw [hN']; rfl) (by
    show Loc Y.env.scope "kinds"
    rw [hsc]
    exact .inr rfl) (pe_lst (pa_cons (iso "NotAllowed" 0 _ _ _ _ (by omega) rfl (by decide) T.n0) (pa_cons (iso "TooLarge" 1 _ _ _ _ (by omega) rfl (by decide) T.n1) (pa_cons (iso "Missing" 2 _ _ _ _ (by omega) rfl (by decide) T.n2) (pa_cons (iso "BadPaper" 3 _ _ _ _ (by omega) rfl (by decide) T.n3) pa_nil))))) rfl (.inl (hfn _)))
    (pss_cons (ps_setLcH (i := 3) (own := [("k", 4)]) hc nd (by rw [hN']; rfl) (by
      show Y.env.scope.names.lookup ("names" : Str) = _
      rw [hsc]
      rfl) (sw_true knd (by
      show Y.env.scope.names.lookup ("names" : Str) = _
      rw [hsc]
      rfl) rfl (by decide)) (pi_range1H (gl "range" rfl) T.rng (pa_cons pe_int pa_nil)) bk
      (fun s H C cl fp => pg_name (i := 4) nd (by
        show Y.N[4]? = _
        rw [hN]
        rfl) (.inl rfl) (.inr rfl))
      (fun s H C cl fp => pts_one (pt_val (pe_ix (show IxR (blkH (Y.suite a ((a, oe) :: pn)) s H tcScope (compEnvC tcScope cl C (Y.suite a ((a, oe) :: pn)).env) fp) (rIxL Y.K) from ix_list) (pe_var (i := 2) (by
        show Y.N[2]? = _
        rw [hN]
        rfl) (.inr (.inl (by
        show (relS tcScope Y.env.scope).names.lookup ("kinds" : Str) = _
        rw [hsc]
        rfl)))) (pe_var (i := 4) (by
        show Y.N[4]? = _
        rw [hN]
        rfl) (.inl rfl)) (fun _ _ => rfl))))
      (fun s H C cl fp => pe_ix (show IxR (blkH (Y.suite a ((a, oe) :: pn)) s H tcScope (compEnvC tcScope cl C (Y.suite a ((a, oe) :: pn)).env) fp) (rIxL Y.K) from ix_list) (pe_lst (pa_cons pe_str (pa_cons pe_str (pa_cons pe_str (pa_cons pe_str pa_nil))))) (pe_var (i := 4) (by
        show Y.N[4]? = _
        rw [hN]
        rfl) (.inl rfl)) (fun _ _ => rfl)))
    (pss_one (ps_ret (pe_tupZ (pa_cons (pe_ix ix_list (pe_lst (pa_cons pe_str (pa_cons (pe_ix ix_list (pe_op (op_bin (X := Y.suite a ((a, oe) :: pn)) (fx := ⟨Y.K, Y.w, []⟩) rfl .add) (pe_var (i := 3) (by rw [hN']; rfl) hv3) (pe_lst (pa_cons pe_str pa_nil))) pe_int (fun _ _ => rfl)) pa_nil)))
      (pe_callTy (cr_int (fx := ⟨Y.K, Y.w, []⟩)) (gl "int" rfl) T.int rfl (pa_cons (pe_cmp (pc_eqI (pe_callB call_len_seq (gl "len" rfl) T.len rfl (pa_cons (pe_var (i := 3) (by rw [hN']; rfl) hv3) pa_nil)) pe_int)) pa_nil)) (fun _ _ => rfl)) pa_nil)))))) fun D σ H h => ?_
  obtain ⟨rfl, nm, _, hnm, hF⟩ := h
  refine ⟨rfl, rfl, rfl, rfl, big_line (n := 4) (by unfold bigLine; omega), fun p hp => ?_⟩
  refine ⟨4, rfl, by omega, by omega, fun C hC => ?_⟩
  have hpC : upd H p (.lst [.bl (decide (0 = j)), .bl (decide (1 = j)), .bl (decide (2 = j)), .bl (decide (3 = j))]) p = some (.lst [.bl (decide (0 = j)), .bl (decide (1 = j)), .bl (decide (2 = j)), .bl (decide (3 = j))]) := upd_same
  have eHp : Ext H (upd H p (.lst [.bl (decide (0 = j)), .bl (decide (1 = j)), .bl (decide (2 = j)), .bl (decide (3 = j))])) := (Ext.refl H).new hp
  generalize hH1 : upd H p (.lst [.bl (decide (0 = j)), .bl (decide (1 = j)), .bl (decide (2 = j)), .bl (decide (3 = j))]) = H1 at *
  refine lc_range (lo := 0) (n := 4) (fun i H' => H' C = some (.lst (accs j i)) ∧ Ext H1 H') ⟨upd_same, (Ext.refl H1).new hC⟩ (fun i H' hi ⟨e1, e2⟩ => ?_) fun H' ⟨e1, e2⟩ => ?_
  · have hp2 := e2 p _ hpC
    refine ⟨rfl, .ref p, rfl, .int (0 + i), rfl, p, _, 0 + i, .bl (decide (i = j)), rfl, rfl, .inl (.inl hp2), ?_, decide (i = j), rfl, ?_⟩
    · match i, hi with
      | 0, _ => rfl
      | 1, _ => rfl
      | 2, _ => rfl
      | 3, _ => rfl
    by_cases hij : i = j
    · rw [decide_eq_true hij]
      refine ⟨big_line (n := 4) (by unfold bigLine; omega), fun q hq => ⟨.int (0 + i), rfl, q, tvs, 0 + i, (tvs[i]?).getD .non, rfl, rfl, .inl (.inl upd_same), ?_, accs j i, ?_, ?_, ?_, ?_⟩⟩
      · match i, hi with
        | 0, _ => rfl
        | 1, _ => rfl
        | 2, _ => rfl
        | 3, _ => rfl
      · rw [upd_ne (ne_of_none e1 hq)]
        exact e1
      · have := accs_len j i
        exact big_lt (by unfold bigLine; omega)
      · rw [upd_same]
        conv => rhs; unfold accs
        rw [if_pos hij]
        match i, hi with
        | 0, _ => rfl
        | 1, _ => rfl
        | 2, _ => rfl
        | 3, _ => rfl
      · intro b x h
        rw [upd_ne (ne_of_none h hC)]
        exact ext_upd hq _ _ (e2 _ _ h)
    · rw [decide_eq_false hij]
      refine ⟨?_, e2⟩
      unfold accs
      rw [if_neg hij, List.append_nil]
      exact e1
  · have e1 : H' C = some (.lst [.str nm]) := by rw [e1, accs4 hj hnm]
    have e2 := eHp.trans e2
    refine ⟨.ref C, rfl, big_line (n := 1) (by unfold bigLine; omega), fun q1 hq1 => ?_⟩
    have c1 := ext_upd (o := HO.lst [.str ""]) hq1
    refine ⟨fun _ => False, .list [.str nm], .list [.str ""], .list [.str nm, .str ""], fun _ z => z.elim, (Rep.lst (fun z => z) (c1 _ _ e1) (.cons (.str _) .nil)).top, (Rep.lst (fun z => z) upd_same (.cons (.str _) .nil)).top, by show (if 1 + 1 ≤ bigLine then some (PyData.list _) else none) = _; rw [if_pos (by unfold bigLine; omega)]; rfl, fun v H2 x2 r => ?_⟩
    cases r with
    | lst _ er rr =>
      cases rr with
      | cons ra rr =>
        cases ra
        cases rr with
        | cons rb rr =>
          cases rb
          cases rr
          refine ⟨_, _, 0, .str nm, rfl, rfl, .inl (.inl er), rfl, big_line (n := 2) (by unfold bigLine; omega), fun q2 hq2 => ?_⟩
          have c2 := ext_upd (o := HO.lst [.str "odd", .str nm]) hq2
          refine ⟨.ref C, rfl, C, [.str nm], rfl, .inl (.inl (.inl (c2 _ _ (x2 _ _ (c1 _ _ e1))))), 1, 1, rfl, rfl, ?_⟩
          refine ⟨fun _ => False, [.bool true], .int 1, fun _ z => z.elim, .cons (Rep.bl true).top .nil, rfl, fun v5 H5 x5 r5 => ?_⟩
          cases r5
          refine ⟨q2, _, 1, .str nm, rfl, rfl, .inl (.inl (x5 _ _ upd_same)), rfl, big_line (n := 1) (by unfold bigLine; omega), fun p5 o5 z5 n5 => ?_⟩
          exact hF p5 o5 H5 (fun b x h => x5 _ _ (c2 _ _ (x2 _ _ (c1 _ _ (e2 _ _ h))))) z5 n5
theorem takes0N {X : Cx} : L2N.Takes X (fun _ _ _ _ => False) := fun _ _ x => by
  obtain ⟨_, _, _, _, _, _, _, _, _, _, _, _, _, _, _, _, z⟩ := x
  exact z.elim
theorem told_gives {x q : Str} {g : Addr} {cdg : Value} (T : ToldH X.K X.mg b0 b1 b2 c) : GivesTo X Ngt x tScope g cdg tBody "call" q (TTold c) := by
  intro f c' s H Q tl act hc h
  have gl : ∀ y : Str, tScope.names.lookup y = some .globalImplicit → Gl (cxOf C8.CX0 X.prog X.w X.K X.mg X.base Ngt x tScope g cdg X.A X.stack s H C8.E0).nox y := fun y h => h
  refine ⟨_, pss_one (ps_try_manyAs (X := (cxOf C8.CX0 X.prog X.w X.K X.mg X.base Ngt x tScope g cdg X.A X.stack s H C8.E0).nox) (n := "e") (i := 1) (Wout := fun _ _ _ _ => False) (l := [(.ref b0, fun _ _ _ => tNever), (.ref b1, fun _ _ _ => tNever), (.ref b2, fun a cls d D σ H => ∃ j, j < 4 ∧ cls = .ref (c j) ∧ d = none ∧ tS3 j f a D σ H)])
    (tb := fun W => tRet (tTupZ (tCons (tC (.str "told")) (tCons (fun σZ HZ Q => σZ[0]? = some (some (.ref f)) ∧ HZ c' = some (CodeO c' q) ∧ ∃ E : XK, (∀ cls d H', E cls d H' → W cls d σZ H') ∧ tl E HZ Q) tNil))))
    rfl rfl (by show Ngt.Nodup; decide) rfl rfl takes0N (fun W pn xe tk _ => pss_one (ps_ret (pe_tupZ (pa_cons pe_str (pa_cons (act W pn xe _ _ tk) pa_nil)))))
    (.cons ⟨gl _ rfl, by decide, .inl T.m0⟩ (fun _ _ _ _ _ _ _ => pss_never) (.cons ⟨gl _ rfl, by decide, .inl T.m1⟩ (fun _ _ _ _ _ _ _ => pss_never) (.cons ⟨gl _ rfl, by decide, .inl T.m2⟩ (fun a oe cls d pn hz hf => ?_) .nil)))), ?_⟩
  · refine ⟨fun pins s' σ H' D I h' => ?_⟩
    obtain ⟨j, hj, rfl, rfl, h'⟩ := h'
    exact (suite_ok (Y := (cxOf C8.CX0 X.prog X.w X.K X.mg X.base Ngt x tScope g cdg X.A X.stack s H C8.E0).nox) (f := f) T rfl rfl (fun _ => rfl) hj hz hf).run pins s' σ H' D I h'
  · refine ⟨rfl, hc, Eof c Q, ?_, ?_⟩
    · rintro cls d H' ⟨rfl, j, nm, hj, rfl, hnm, hF⟩
      exact ⟨false, T.x0 j hj, fun h => (by cases h), fun _ => ⟨false, T.x1 j hj, fun h => (by cases h), fun _ => ⟨true, T.x2 j hj, fun _ a ha => ⟨j, hj, rfl, rfl, rfl, nm, hj, hnm, hF⟩, fun h => (by cases h)⟩⟩⟩
    · show tl (Eof c Q) H _
      exact h
end
end Mini


set_option Elab.async false
set_option linter.all false
set_option maxRecDepth 100000
set_option maxHeartbeats 4000000
/-! Mini, part P5: the lambdas. -/
namespace Mini
open PySem PySem.Spec PyProof.Rows L2 L2N L2H HotX MiniL
open LamX (CodeO Tabs TabS ExtN LamS TabB lamEnv lamS_by)
/-- the four classes by their names -/
structure ExH (exA : Str → Option Addr) (c : Nat → Addr) : Prop where
  e0 : exA "NotAllowed" = some (c 0)
  e1 : exA "TooLarge" = some (c 1)
  e2 : exA "Missing" = some (c 2)
  e3 : exA "BadPaper" = some (c 3)
theorem toldExc_at {exA : Str → Option Addr} {c : Nat → Addr} (E : ExH exA c) {e : Exc} {dd : D} (h : toldExc e = some dd) : ∃ j nm, j < 4 ∧ exA e.cls = some (c j) ∧ tnm[j]? = some nm ∧ dd = .tuple [.str nm] := by
  unfold toldExc at h
  split at h
  · rename_i q
    cases h
    exact ⟨0, _, by omega, by rw [q]; exact E.e0, rfl, rfl⟩
  · split at h
    · rename_i q
      cases h
      exact ⟨1, _, by omega, by rw [q]; exact E.e1, rfl, rfl⟩
    · split at h
      · rename_i q
        cases h
        exact ⟨2, _, by omega, by rw [q]; exact E.e2, rfl, rfl⟩
      · split at h
        · rename_i q
          cases h
          exact ⟨3, _, by omega, by rw [q]; exact E.e3, rfl, rfl⟩
        · cases h
theorem noPs_eq {ps : Arguments} (h : noPs ps = true) : ps = ⟨[], [], none, [], [], none, []⟩ := by
  unfold noPs at h
  obtain ⟨a, b, c, d, e, f, g⟩ := ps
  simp only [Bool.and_eq_true, List.isEmpty_iff, Option.isNone_iff_eq_none] at h
  obtain ⟨⟨⟨⟨⟨⟨rfl, rfl⟩, rfl⟩, rfl⟩, rfl⟩, rfl⟩, rfl⟩ := h
  rfl
theorem tSc : FnScope Ngt ["call"] tScope := by
  refine ⟨by decide +kernel, by decide +kernel, by decide +kernel, by decide +kernel, by decide +kernel, ?_, ?_⟩
  · intro x hx
    rw [List.mem_singleton.mp hx]
    exact .inl (by decide +kernel)
  · decide +kernel
/-- the reading: what is told -/
theorem told_read {S : Stat} {exA : Str → Option Addr} {c : Nat → Addr} (he : S.exA = exA) (E : ExH exA c) {cd : C} {σ : L2.St} {H : Hp} {Q : VK} (h : tE S (.told cd) σ H Q) :
    MiniL.tLam S.T (TTold c) (fun E => tE { S with wx := fun cls d _ H' => E cls d H' } cd) σ H Q := by
  obtain ⟨ρ, h, m, ok, hp⟩ := h
  refine ⟨ok.w.tab, fun H1 eN T1 => ?_⟩
  have kp : KeepC (S.fx m) H H1 := fun b o e _ t => eN b o e t
  have w1 : Wd (S.fx m) S.T m.F h H1 := ⟨ok.w.nd, ok.w.len, fun i a ds h1 h2 => let ⟨xs, e1, r⟩ := ok.w.at_ i a ds h1 h2; ⟨xs, eN _ _ e1 (fun ps z => by cases z), r.keep fun b o e _ t => eN b o e t⟩, ok.w.inF,
    fun a z => let ⟨o, e1, k⟩ := ok.w.kin a z; ⟨o, eN _ _ e1 (fun ps z => by rw [z] at k; cases k), k⟩, T1⟩
  refine ⟨ρ, h, m, ⟨ok.e.keep kp, w1⟩, ?_⟩
  show post { S with wx := fun cls d _ H' => Eof c Q cls d H' } m (cd.knd S.own) σ H1 _ (den S.g cd ρ h)
  unfold den at hp
  have kn : (C.told cd).knd S.own = if cd.knd S.own = 0 then 0 else 2 := by rw [C.knd]
  rw [kn] at hp
  cases q : den S.g cd ρ h with
  | ok d h' =>
    rw [q] at hp
    intro v H' k w r
    refine ⟨big_line (n := 2) (by unfold bigLine; omega), fun p o z n => ?_⟩
    refine hp _ _ (kp.trans (k.trans (Keep.upd n))) (w.new n) ?_
    have nF : ¬ m.F p := fun z => by
      obtain ⟨o2, e2, _⟩ := w.kin p z
      rw [n] at e2
      cases e2
    by_cases z0 : cd.knd S.own = 0
    · rw [if_pos z0]
      rw [z0] at r
      exact Rep.tup (.inl ⟨nF, o, z, upd_same⟩) (.cons (.str _) (.cons (Rep.keep (show Rep (S.fx m) m.F H' v d from r) (Keep.upd n)) .nil))
    · rw [if_neg z0]
      exact Rep.tup (.inl ⟨fun z => nF (ok.e.sub _ z), o, z, upd_same⟩) (.cons (.str _) (.cons ((RepK.rep0 ok.e.sub r).keep (Keep.upd n)) .nil))
  | err e h' =>
    rw [q] at hp
    dsimp only at hp
    intro H' k w C hC
    have hC : S.exA e.cls = some C := hC
    cases qt : toldExc e with
    | none =>
      rw [qt] at hp
      exact hp.elim
    | some dd =>
      rw [qt] at hp
      obtain ⟨j, nm, hj, ec, en, rfl⟩ := toldExc_at E qt
      rw [he, ec] at hC
      cases hC
      refine ⟨rfl, j, nm, hj, rfl, en, fun p o H2 x z n => ?_⟩
      have w2 := w.ext x
      refine hp _ _ (kp.trans (k.trans ((Keep.of x).trans (Keep.upd n)))) (w2.new n) ?_
      have nF : ¬ m.F p := fun z => by
        obtain ⟨o2, e2, _⟩ := w2.kin p z
        rw [n] at e2
        cases e2
      exact RepK.ofRep ok.e.sub (Rep.tup (.inl ⟨nF, o, z, upd_same⟩) (.cons (.str _) .nil))
  | bad =>
    rw [q] at hp
    exact hp.elim
section
variable {P : Program} {w : World} {K : PySem.W.Frag} {mg : Str → Option Value} {base : Heap} {T : List (Addr × Str)} {exA : Str → Option Addr} {sig : Sig}
/-- a def's table -/
def TabD (K : PySem.W.Frag) (mg : Str → Option Value) (base : Heap) (T : List (Addr × Str)) (name : Str) : Prop :=
  ∀ v, CodeAt K mg name v → ∃ c Pt, v = .ref c ∧ TabB base mg c Pt ∧ (Pt, name ++ ".<locals>." ++ "<lambda>") ∈ T ∧ ∀ p ∈ T, p.1 = Pt → p.2 = name ++ ".<locals>." ++ "<lambda>"
theorem told_all {b0 b1 b2 g : Addr} {c : Nat → Addr} {fd : FuncData} (TH : ToldH K mg b0 b1 b2 c) (E : ExH exA c) (hs : sig.told = "_law_told") (F : FunD K "_law_told" "_law_told" (defArgs tStm) tBody tScope [] [] g fd) (hm : mg "_law_told" = some (.ref g))
    (hb : ∀ (kV doc pm : Value) (an : Option Addr) (cdv ct : Value) (us : List Value), us.length = 1 → bindArgs (PySem.W.fnOf "_law_told" "_law_told" (defArgs tStm) tBody tScope .none kV doc pm an cdv ct) ⟨us, []⟩ = pure ((["call"] : List Str).zip us))
    {n : Nat} {d : Df} {X : Cx} {S : Stat} (tb : TabD K mg base T d.name) (e1 : X.prog = P) (e2 : X.w = w) (e3 : X.K = K) (e4 : X.mg = mg) (e5 : X.base = base) (hq : X.env.qual = d.name ++ ".<locals>.") (hc : CodeAt K mg d.name X.env.code)
    (s1 : S.K = K) (s2 : S.w = w) (s3 : S.T = T) (s4 : S.exA = exA) (s5 : S.own = d.own) (ht : (d.sig sig).told ≠ "") (x : XOk X S (d.cx sig) (defScope d.st) n) (fo : FnsOk X S (d.sig sig) n) : ToldOk X S (d.cx sig) (defScope d.st) n := by
  intro ps body lsc lp p pos cd hps hl hg hbody
  have hd : (d.sig sig).told = "_law_told" := by
    unfold Df.sig at ht ⊢
    dsimp only at ht ⊢
    split at ht
    · rename_i q
      rw [if_pos q]
      exact hs
    · exact absurd rfl ht
  have hd' : (d.cx sig).sig.told = "_law_told" := hd
  rw [hd'] at hg ⊢
  obtain ⟨ac, Pt, hac, tB1, tM, tU⟩ := tb _ hc
  obtain ⟨oc, od, dV, kV, doc, pm, an, cdv, ct, osl, rfl, lk, hcd, hD, hK⟩ := F.ex
  have hps' := noPs_eq hps
  subst hps'
  have hr := x.r2 ht
  have L : LamS X.env.scope lsc := by
    rw [x.sc]
    exact lamS_by hl
  subst e1 e2 e3 e4 e5
  have G := told_gives (X := X) (x := "_law_told") (q := X.env.qual ++ "<lambda>") (g := g) (cdg := cdv) TH
  have M := MiniL.pe_lamcall (X := X) (T := S.T) (TT := TTold c) (x := "_law_told") (a := "call") (g := g) (c := ac) (P := Pt) (k := n) (bg := tBody) (sg := tScope) (Ng := Ngt) (params := ⟨[], [], none, [], [], none, []⟩) (body := body) (scope := lsc) (t := fun E => tE { S with wx := fun cls d _ H' => E cls d H' } cd) (p := p) (lpos := lp) (pos := pos)
    (isGl_of x hg) hm F.kp lk hcd (F.bindsN hb) tSc rfl (.inl (by decide +kernel)) G tB1 hac (by rw [s3, hq]; exact tM) (by rw [s3, hq]; exact tU) hr L rfl (fun _ _ _ _ _ => rfl) (fun A outer s H E f c' hr2 => ?_)
  · exact PE.weak M fun σ H Q h => told_read s4 E h
  · refine hbody (MiniL.lamCx X A outer s H E lsc f c') { S with wx := fun cls d _ H' => E cls d H' } ⟨_, rfl⟩ ⟨⟨x.b.K, x.b.w, rfl, hr2, L2N.takes_of rfl rfl rfl rfl, x.b.consts, fun h => (by cases h), x.b.blt⟩, x.N, x.nd, x.own, rfl, fun h => absurd rfl h⟩ fun f k hl hgf => ?_
    obtain ⟨a, fd, ps, hm, hk, hb, F⟩ := fo f k hl fun h => (by cases (hgf h))
    refine ⟨a, fd, ps, hm, hk, hb, ?_⟩
    rcases F with F | ⟨h1, _⟩
    · exact .inl F
    · cases hgf h1
end
end Mini

set_option Elab.async false
set_option linter.all false
set_option maxRecDepth 100000
set_option maxHeartbeats 4000000
/-! Mini, part P6: a law's end (lines turned from the kit's EndTab). -/
namespace MiniE
open PySem PySem.Spec PyProof.Rows L2
open LamX (CodeO Tabs TabS ExtN LamS TabB)
theorem law_callTG {P : Program} {w : World} {K : PySem.W.Frag} {mg mb : Str → Option Value} {CX : CXT} {k : Nat} {fa a : Addr} {cs : List (Addr × Addr)} {fd : FuncData} {x : Str} {sp : Sp} {s₁ : Shared} {vs : List Value} {ns : List Int}
    (KX : K.In s₁.heap) (hns : s₁.heap.Ns mainGlobals mg) (hb : s₁.heap.Ns builtinsNs mb) (hbb : ∀ x : Str, x ≠ "__name__" → mb x = bootBuiltins x) (hlim : s₁.heap.NoLimit) (hg : s₁.gens = #[])
    (hT : ∀ p ∈ cs, s₁.heap.get? p.2 = some { cls := .none, data := .fields #[] }) (nT : ∀ p ∈ cs, K.lookup p.2 = none) (C : ∀ p ∈ cs, PySem.W.CodeHd s₁.heap p.1 p.2)
    (hbm : ∃ (bm : Addr) (ob : Obj), mg "__builtins__" = some (.ref bm) ∧ bm ≠ builtinsNs ∧ s₁.heap.get? bm = some ob ∧ ob.cls = .type "module" ∧ ob.dict = some builtinsNs ∧ ob.data = .plain)
    (ha : s₁.heap.get? a = some { cls := .type "list", data := .seq vs.toArray }) (hi : IntsAre vs ns) (hl : ns.length ≤ sizeLine) (hr : Room k callerA)
    (F : ∀ base : Heap, K.In base → base.Ns mainGlobals mg → (∀ p ∈ cs, TabB base mg p.1 p.2) → Mini.FnG P w K mg base CX k fa fd [x] sp) (hbind : ∀ (s : Shared) (u : Value), BindsTo s fd ⟨[u], []⟩ [(x, u)])
    (hsp : ∀ H : Hp, (∀ p ∈ cs, H p.2 = some (.tbl #[])) → SqL K H a (ns.map V.int) → sp [.ref a] H (fun v _ => v = .bl true) fun _ _ _ => False)
    (hCX : ∀ H e s', CX [] H s₁ (fun _ _ _ => False) e s' → False) :
    codeAny (model P w) callerA (.call (.ref fa) ⟨[.ref a], []⟩) (fun r s' => r = .ok (.ret (.bool true)) ∧ OldK s₁.heap s'.heap ∧ s'.os = s₁.os ∧ AllBare s'.gens) s₁ := by
  have rv := vals_ints hi
  have lenV := hi.length
  have isT : ∀ b : Addr, b ∈ cs.map (·.2) → s₁.heap.get? b = some { cls := .none, data := .fields #[] } := fun b hb => by
    obtain ⟨p, hp, e⟩ := List.mem_map.mp hb
    rw [← e]
    exact hT p hp
  have aT : a ∉ cs.map (·.2) := fun z => by
    have q := isT a z
    rw [ha] at q
    have z' : Data.seq vs.toArray _ = Data.fields #[] := congrArg Obj.data (Option.some.inj q)
    cases z'
  have memT : ∀ p ∈ cs, p.2 ∈ cs.map (·.2) := fun p hp => List.mem_map.mpr ⟨p, hp, rfl⟩
  -- from an abstract heap in which nothing but the script and the tables may be tracked
  have core : ∀ H : Hp, (∀ p ∈ cs, H p.2 = some (.tbl #[])) → (∀ b, H b = none ∨ b ∈ cs.map (·.2) ∨ ∃ o xs, H b = some (.frz o (.lst xs))) → SqL K H a (ns.map V.int) → HOk P w H s₁.heap → (∀ b, H b ≠ none → b = a ∨ b ∈ cs.map (·.2)) → (H a ≠ none → K.lookup a = none) →
      codeAny (model P w) callerA (.call (.ref fa) ⟨[.ref a], []⟩) (fun r s' => r = .ok (.ret (.bool true)) ∧ OldK s₁.heap s'.heap ∧ s'.os = s₁.os ∧ AllBare s'.gens) s₁ := by
    intro H hH hO hS hok hA hK
    have base_of : ∀ {b : Addr} {o : Obj}, s₁.heap.get? b = some o → H b = none → (hidT s₁.heap H).get? b = some o := fun e n => hidT_get e n
    have noD : ∀ {b : Addr} {o : Obj}, s₁.heap.get? b = some o → (∀ vs n, o.data ≠ .seq vs n) → o.data ≠ .fields #[] → H b = none := fun {b o} e h1 h2 => by
      cases q : H b with
      | none => rfl
      | some u =>
        rcases hA b (by rw [q]; simp) with e' | e'
        · rw [e', ha] at e
          cases e
          exact (h1 _ _ rfl).elim
        · rw [isT b e'] at e
          cases e
          exact (h2 rfl).elim
    have noA : ∀ {b : Addr} {o : Obj} {es : Array DictEntry} {ep : Nat}, s₁.heap.get? b = some o → o.data = .dict es ep → H b = none := fun {b o es ep} e d => by
      refine noD e (fun vs n z => ?_) fun z => ?_
      · rw [d] at z
        cases z
      · rw [d] at z
        cases z
    have nsK : ∀ {b : Addr} {m : Str → Option Value}, s₁.heap.Ns b m → (hidT s₁.heap H).Ns b m := fun {b m} ⟨o, es, ep, e, d, r⟩ => ⟨o, es, ep, base_of e (noA e d), d, r⟩
    have hKb : K.In (hidT s₁.heap H) := fun b o e => base_of (KX b o e) (by
      cases q : H b with
      | none => rfl
      | some u =>
        rcases hA b (by rw [q]; simp) with e' | e'
        · rw [e'] at e q
          rw [hK (by rw [q]; simp)] at e
          cases e
        · obtain ⟨p, hp, ep⟩ := List.mem_map.mp e'
          rw [← ep, nT p hp] at e
          cases e)
    have hM : L2.Mod K mg (hidT s₁.heap H) := ⟨hKb, nsK hns, ⟨mb, nsK hb, hbb⟩, let ⟨mc, h1, h2⟩ := hlim; ⟨mc, nsK h1, h2⟩⟩
    have TB : ∀ p ∈ cs, TabB (hidT s₁.heap H) mg p.1 p.2 := fun p hp => by
      have hTp := hT p hp
      refine ⟨?_, ?_, fun z => ?_⟩
      · obtain ⟨o, us, file, tf, flags, tg, inF, text, tt, e1, r1, r2, r3, r4, r5, r6, r7, r8, hne⟩ := C p hp
        refine ⟨o, us, file, tf, flags, tg, inF, text, tt, base_of e1 (noD e1 (fun vs n z => ?_) fun z => ?_), r1, r2, r3, r4, r5, r6, r7, r8, hne⟩
        · rw [r2] at z
          cases z
        · rw [r2] at z
          cases z
          simp at r3
      · obtain ⟨bm, ob, b1, b2, b3, b4, b5, b6⟩ := hbm
        have nG : bm ≠ mainGlobals := fun q => by
          obtain ⟨o, es, ep, e, hd, _⟩ := hns
          rw [q, e] at b3
          cases b3
          rw [hd] at b6
          cases b6
        have nP : bm ≠ p.2 := fun q => by
          rw [q, hTp] at b3
          cases b3
          cases b6
        refine ⟨bm, ob, b1, b2, nG, nP, base_of b3 (noD b3 (fun vs n z => ?_) fun z => ?_), b4, b5, b6⟩
        · rw [b6] at z
          cases z
        · rw [b6] at z
          cases z
      · obtain ⟨o, es, ep, e, hd, _⟩ := hns
        rw [z, hTp] at e
        cases e
        cases hd
    have e0 : Env0 P w K mg (hidT s₁.heap H) callerA [] s₁ H := ⟨rfl, hM, fun b o e => of_hidT e, Nat.le_of_eq (hidT_size _ _), trivial, fun b hb => absurd (show b ∈ ([] : List Addr) from hb) (by simp), hok, .of_eq hg⟩
    refine codeAny_mono ((F _ hKb (nsK hns) TB).run callerA [] s₁ H ⟨[.ref a], []⟩ [.ref a] [.ref a] _ _ rfl hr e0 (hbind s₁ (.ref a)) (.cons rfl .nil) (hsp H hH hS)) fun r s' h => ?_
    cases r with
    | error e => exact (hCX H e s' h).elim
    | ok fl =>
      cases fl with
      | next => exact False.elim h
      | brk => exact False.elim h
      | cont => exact False.elim h
      | ret u =>
        obtain ⟨v, H', os, bare, un, hok', r', q⟩ := h
        have q' : v = .bl true := q
        subst q'
        obtain rfl : u = Value.bool true := r'
        have key : ∀ b o, b ∉ cs.map (·.2) → s₁.heap.get? b = some o → s'.heap.get? b = some o := fun b o nb e => by
          cases q : H b with
          | none => exact un.keep b o e q (by intro z; exact absurd (show b ∈ ([] : List Addr) from z) (by simp)) (by simp)
          | some u =>
            rcases hO b with z | z | ⟨ob, xs, z⟩
            · rw [q] at z; cases z
            · exact absurd z nb
            · have z2 := un.frzs b ob _ z
              obtain ⟨e1, _⟩ := hok b _ z
              obtain ⟨e2, _⟩ := hok' b _ z2
              rw [e] at e1; cases e1
              exact e2
        have grown : ∀ p ∈ cs, ∃ more : Array Value, s'.heap.get? p.2 = some { cls := .none, data := .fields more } := fun p hp => by
          obtain ⟨more, z⟩ := un.tbls p.2 #[] (hH p hp)
          exact ⟨_, hok' p.2 _ z⟩
        refine ⟨rfl, ⟨fun b o e => ?_, fun b o e => ?_⟩, os, bare⟩
        · by_cases hb : b ∈ cs.map (·.2)
          · obtain ⟨p, hp, ep⟩ := List.mem_map.mp hb
            obtain ⟨more, hm⟩ := grown p hp
            rw [← ep] at e ⊢
            rw [hT p hp] at e
            cases e
            exact .inr (.inl ⟨((C p hp).tab (hT p hp)).isCodeTable, rfl, #[], more, rfl, by rw [Array.empty_append]; exact hm⟩)
          · exact .inl (key b o hb e)
        · by_cases hb : b ∈ cs.map (·.2)
          · obtain ⟨p, hp, ep⟩ := List.mem_map.mp hb
            obtain ⟨more, hm⟩ := grown p hp
            rw [← ep]
            exact ⟨_, hm⟩
          · exact ⟨o, key b o hb e⟩
  cases hk : K.lookup a with
  | some o =>
    have e := KX a o hk
    rw [ha] at e
    cases e
    refine core (fun b => if b ∈ cs.map (·.2) then some (.tbl #[]) else none) (fun p hp => if_pos (memT p hp)) (fun b => ?_) (.inr ⟨_, vs.toArray, _, hk, rfl, rfl, rfl, by rw [List.size_toArray, lenV]; exact hl, by simpa using rv⟩) (fun b u z => ?_) (fun b z => ?_) fun z => absurd (show (if a ∈ cs.map (·.2) then some (HO.tbl #[]) else none) = none from if_neg aT) z
    · by_cases hb : b ∈ cs.map (·.2)
      · exact .inr (.inl hb)
      · exact .inl (if_neg hb)
    · by_cases hb : b ∈ cs.map (·.2)
      · have z' := (if_pos hb).symm.trans z
        cases z'
        exact isT b hb
      · have z' := (if_neg hb).symm.trans z
        cases z'
    · by_cases hb : b ∈ cs.map (·.2)
      · exact .inr hb
      · exact absurd (if_neg hb) z
  | none =>
    refine core (fun b => if b = a then some (.frz { cls := .type "list", data := .seq vs.toArray } (.lst (ns.map V.int))) else if b ∈ cs.map (·.2) then some (.tbl #[]) else none) (fun p hp => (if_neg (show ¬ p.2 = a from fun z => aT (by rw [← z]; exact memT p hp))).trans (if_pos (memT p hp))) (fun b => ?_)
      (.inl (.inr ⟨{ cls := .type "list", data := .seq vs.toArray }, if_pos rfl⟩)) (fun b u z => ?_) (fun b z => ?_) fun _ => hk
    · by_cases hb : b = a
      · exact .inr (.inr ⟨_, _, if_pos hb⟩)
      · by_cases hb2 : b ∈ cs.map (·.2)
        · exact .inr (.inl hb2)
        · exact .inl ((if_neg hb).trans (if_neg hb2))
    · by_cases hb : b = a
      · have z' := (if_pos hb).symm.trans z
        cases z'
        rw [hb]
        exact ⟨ha, by rw [List.length_map]; exact hl, vs, _, rv, ha⟩
      · have z1 := (if_neg hb).symm.trans z
        by_cases hb2 : b ∈ cs.map (·.2)
        · have z' := (if_pos hb2).symm.trans z1
          cases z'
          exact isT b hb2
        · have z' := (if_neg hb2).symm.trans z1
          cases z'
    · by_cases hb : b = a
      · exact .inl hb
      · by_cases hb2 : b ∈ cs.map (·.2)
        · exact .inr hb2
        · exact absurd ((if_neg hb).trans (if_neg hb2)) z
def LawAtG (l : PySem.W.OpenLaw) (w : World) (K : PySem.W.Frag) (CX : CXT) (k n : Nat) (x : Str) (mg : Str → Option Value) (fa : Addr) (h : Heap) : Prop :=
  ∃ (fd : FuncData) (cs : List (Addr × Addr)) (sp : Sp), (∀ p ∈ cs, h.get? p.2 = some { cls := .none, data := .fields #[] }) ∧ (∀ p ∈ cs, K.lookup p.2 = none) ∧ (∀ p ∈ cs, PySem.W.CodeHd h p.1 p.2) ∧ (∀ (s : Shared) (u : Value), BindsTo s fd ⟨[u], []⟩ [(x, u)]) ∧
    (∀ (H : Hp) (a : Addr) (ns : List Int), ns.length ≤ n → (∀ z ∈ ns, Builtin.Int.intBits z ≤ 1048576) → (∀ p ∈ cs, H p.2 = some (.tbl #[])) → SqL K H a (ns.map V.int) → sp [.ref a] H (fun v _ => v = .bl true) fun _ _ _ => False) ∧
    ∀ base : Heap, K.In base → base.Ns mainGlobals mg → (∀ p ∈ cs, TabB base mg p.1 p.2) → Mini.FnG l.prog w K mg base CX k fa fd [x] sp
theorem walk_ofTG {l : PySem.W.OpenLaw} {n k : Nat} {q : Program} {loose : List Str} {XP : (Str → Option Value) → Heap → Prop} {YP : World → Heap → Prop} {d : DefRec} {CX : World → CXT} {x : Str}
    (hn : l.most = some n) (hn2 : n ≤ sizeLine) (hdf : d.params.defaults = []) (hr : Room k callerA)
    (F : ∀ (w : World) (mg : Str → Option Value) (fa : Addr) (h : Heap), YP w h → h.Ns mainGlobals mg → mg d.name = some (.ref fa) → ∃ K : PySem.W.Frag, K.In h ∧ LawAtG l w K (CX w) k n x mg fa h)
    (hCX : ∀ (w : World) (H : Hp) (s : Shared) (e : Value) (s' : Shared), CX w [] H s (fun _ _ _ => False) e s' → False) :
    PySem.W.WalkO q loose XP YP l.row.toRowW d [] (fun f vs => PySem.call f vs) := by
  refine Att.attach_callB hn hdf fun w s₀ s₁ mg mb fa o pm cd doc a vs ns G Y ho hd hcd hmg hobj hints hlen hbits hg => ?_
  obtain ⟨K, KX, fd, cs, sp, hT, nT, C, hb, hsp, hF⟩ := F w mg fa _ Y G.T.g hmg
  exact law_callTG KX G.T.g G.T.b G.T.builtins G.T.nolimit hg hT nT C G.T.bmain hobj hints (Nat.le_trans hlen hn2) hr hF hb (fun H hH hS => hsp H a ns hlen hbits hH hS) fun H e s' => hCX w H s₁ e s'

end MiniE

set_option Elab.async false
set_option linter.all false
set_option maxRecDepth 100000
set_option maxHeartbeats 0
/-! the head of k00: what the module's top leaves. -/
namespace HeadK
open PySem PySem.Spec PyProof.Rows L2
def top (i : Nat) : Stmt := PySem.Challenge.pw_stilljoined_k00_whole_tasks_and_what_is.main.body.getD i (.Pass ⟨0, 0, 0, 0⟩)
def defD (i : Nat) (n : Str) : He.DefD := ⟨(n, none), n, n, defArgs (top i), defBody (top i), defScope (top i), [], []⟩
abbrev R : PySem.W.OpenRow := PySem.W.OpenLaw.row PySem.Challenge.rw_stilljoined_k00_whole_tasks_and_what_is
def fn : List He.DefD := [defD 19 "is_name", defD 20 "is_whole", defD 21 "ascends", defD 22 "are_places", defD 23 "is_link", defD 24 "is_wish", defD 25 "is_limit", defD 26 "is_break", defD 27 "are_rows", defD 28 "check_task", defD 29 "link_names", defD 30 "check_net", defD 31 "known_break", defD 32 "check_break", defD 33 "known_left", defD 34 "left_of", defD 35 "known_cost", defD 36 "cost_of", defD 37 "links_at", defD 38 "known_at", defD 39 "known_over", defD 40 "over_limits", defD 41 "with_costs", defD 43 "_law_same", defD 44 "_law_stream", defD 45 "_law_next", defD 46 "_law_told", defD 47 "_law_one", defD 48 "_law_links", defD 49 "_law_wish", defD 50 "_law_task", defD 51 "_law_names", defD 52 "_law_break", defD 53 "_law_left", defD 54 "_law_over", defD 55 "_law_cost", defD 56 "_law_is_name", defD 57 "_law_spoilt", defD 58 "law"]
def fa : List He.Fa := [.glo "is_name", .glo "is_whole", .glo "ascends", .glo "are_places", .glo "is_link", .glo "is_wish", .glo "is_limit", .glo "is_break", .glo "are_rows", .glo "check_task", .glo "link_names", .glo "check_net", .glo "known_break", .glo "check_break", .glo "known_left", .glo "left_of", .glo "known_cost", .glo "cost_of", .glo "links_at", .glo "known_at", .glo "known_over", .glo "over_limits", .glo "with_costs", .glo "_law_same", .glo "_law_stream", .glo "_law_next", .glo "_law_told", .glo "_law_one", .glo "_law_links", .glo "_law_wish", .glo "_law_task", .glo "_law_names", .glo "_law_break", .glo "_law_left", .glo "_law_over", .glo "_law_cost", .glo "_law_is_name", .glo "_law_spoilt", .glo "law", .glo "NetError", .glo "NotAllowed", .glo "TooLarge", .glo "Missing", .glo "BadPaper", .glo "Broken", .glo "BadForm", .glo "KINDS", .glo "WORDS", .glo "MOST", .int "MAX_PLACES" 10, .int "MAX_LINKS" 14, .int "MAX_WISHES" 8, .int "MAX_BREAKS" 6, .int "MAX_COST" 1000, .int "MAX_SIZE" 50, .str "SMALL" "abcdefghijklmnopqrstuvwxyz", .free "len", .free "all", .free "any", .free "sum", .free "min", .free "max", .free "abs", .free "int", .free "tuple", .free "list", .free "sorted", .free "dict", .free "repr", .free "set", .free "next", .free "iter", .free "isinstance", .free "str", .free "range", .exm "NotAllowed" "Broken" false, .exm "NotAllowed" "BadForm" false, .exm "NotAllowed" "NetError" true, .exm "TooLarge" "Broken" false, .exm "TooLarge" "BadForm" false, .exm "TooLarge" "NetError" true, .exm "Missing" "Broken" false, .exm "Missing" "BadForm" false, .exm "Missing" "NetError" true, .exm "BadPaper" "Broken" false, .exm "BadPaper" "BadForm" false, .exm "BadPaper" "NetError" true, .keep "NetError", .keep "NotAllowed", .keep "TooLarge", .keep "Missing", .keep "BadPaper"]
def loose0 : List Str := ["NetError", "NotAllowed", "TooLarge", "Missing", "BadPaper", "BadForm", "Broken", "MAX_PLACES", "MAX_LINKS", "MAX_WISHES", "MAX_BREAKS", "MAX_COST", "MAX_SIZE", "KINDS", "MOST", "SMALL", "WORDS", "is_name", "is_whole", "ascends"]
def loose1 : List Str := ["are_places", "is_link", "is_wish", "is_limit", "is_break", "are_rows", "check_task", "link_names", "check_net", "known_break", "check_break", "known_left", "left_of", "known_cost", "cost_of", "links_at", "known_at", "known_over", "over_limits", "with_costs"]
def loose2 : List Str := ["_law_same", "_law_stream", "_law_next", "_law_told", "_law_one", "_law_links", "_law_wish", "_law_task", "_law_names", "_law_break", "_law_left", "_law_over", "_law_cost", "_law_is_name", "_law_spoilt"]
def loose : List Str := loose0 ++ loose1 ++ loose2
def excNm : Nat → Str
  | 0 => "NotAllowed"
  | 1 => "TooLarge"
  | 2 => "Missing"
  | _ => "BadPaper"
def eB : List Value := [.type "Exception", .type "BaseException", .type "object"]
def tupZB (K : PySem.W.Frag) (x : Str) (vs : List Str) : Bool := match K.lookup (He.ga K x) with
  | some ⟨.type c, none, .seq its _, _⟩ => decide (c = "tuple") && (decide (its.size ≤ sizeLine) && He.relAll (vs.map V.str) its.toList)
  | _ => false
def tabEB : List DictEntry → List (Str × Int) → Bool
  | [], [] => true
  | e :: r, (x, i) :: l => (match e.key, e.val with
    | .str y _, .int j _ => decide (y = x) && decide (j = i)
    | _, _ => false) && tabEB r l
  | _, _ => false
def tabB (K : PySem.W.Frag) (x : Str) (l : List (Str × Int)) : Bool := (match K.lookup (He.ga K x) with
  | some ⟨_, _, .dict es _, _⟩ => tabEB es.toList l
  | _ => false) && l.all fun p => match PySem.W.nsIn K (He.ga K x) p.1 with
    | some (some (.int j _)) => decide (j = p.2)
    | _ => false
def excB (K : PySem.W.Frag) (x : Str) : Bool := PySem.W.excIn K (He.ga K x) eB "Exception.__new__" && (decide (PySem.W.subIn K (.ref (He.ga K x)) (.type "BaseException") = some true) && decide (PySem.W.typeIn K (.ref (He.ga K x)) = some (.type "type")))
def excCB (K : PySem.W.Frag) (x : Str) : Bool := decide (PySem.W.findIn K (.ref (He.ga K x)) "__getattribute__" = some (some (.builtin "BaseException.__getattribute__"))) && (decide (PySem.W.findIn K (.ref (He.ga K x)) "__getattr__" = some none) && (decide (PySem.W.subIn K (.ref (He.ga K x)) (.type "BaseException") = some true) &&
  (PySem.W.hasDictIn K (He.ga K x) && (decide (PySem.W.findIn K (.ref (He.ga K x)) "__class__" = some (some (.builtin "object.__class__"))) && (decide (PySem.W.specialIn K (.builtin "object.__class__") "__get__" = some (some (.builtin "getset_descriptor.__get__"))) && (decide (PySem.W.takesIn K (.builtin "object.__class__") = some true) && decide (PySem.W.mroIn K (He.ga K x) (.type "object") = some true)))))))
def kitB4 (K : PySem.W.Frag) : Bool := (List.range 4).all fun j => (List.range 4).all fun i => decide (PySem.W.kitOne K (.ref (He.ga K (excNm j))) (.ref (He.ga K (excNm i))) = some (decide (j = i)))
def tf : List He.Defn := [("_law_spoilt", none), ("law", none)]
def ex (K : PySem.W.Frag) : Bool := tupZB K "KINDS" ["apart", "carry", "near", "places"] && (tupZB K "WORDS" ["apart", "barred", "bound", "break", "carry", "case", "cut", "far", "flow", "lay", "limit", "link", "links", "near", "net", "none", "place", "places", "price", "void", "way", "ways", "wish", "without"] && (tabB K "MOST" [("apart", 4), ("carry", 200), ("near", 9), ("places", 4)] && ((["NetError", "NotAllowed", "TooLarge", "Missing", "BadPaper"] : List Str).all (excB K) && ((List.range 4).all (fun j => excCB K (excNm j)) && (kitB4 K && (decide ((tf.map fun p => (He.cT K p).2).Nodup)))))))
def ts : List He.Tab := [(fun K => He.ga K "MOST", ["apart", "carry", "near", "places"])]
abbrev hk : PySem.W.Hook := He.hookX 6 fa fn ts tf ex
def ob (s : PySem.W.SharedT) : He.AlX := He.obsX 6 fa fn ts tf ex (HandSHeadRun.getT s)
theorem ob_eq (s : PySem.W.SharedT) : ob s = hk.obs s.abs := He.obsX_eq (HandSHeadRun.getT_eq s)
abbrev qv : Program := PySem.W.view R.prog [58]
theorem run_f (w : World) : HandSHeadRun.RunEq R qv hk ob 4000 loose (w.withFollow "special-get-raises" false) := by
  intro os
  kernel_rfl
theorem run_t (w : World) : HandSHeadRun.RunEq R qv hk ob 4000 loose (w.withFollow "special-get-raises" true) := by
  intro os
  kernel_rfl
theorem run (w : World) : HandSHeadRun.RunEq R qv hk ob 4000 loose w := PySem.W.byRow2 "special-get-raises" (P := fun w => HandSHeadRun.RunEq R qv hk ob 4000 loose w) run_f run_t w
end HeadK

set_option Elab.async false
set_option linter.all false
set_option maxRecDepth 100000
set_option maxHeartbeats 4000000
/-! k00: what its defs compile to (printed by PrintK.lean). -/
namespace K00
open PySem Mini
def c_is_name : Ss := (.cons (.ife (.or2 (.notv (.blt .isStr (.cons (.slot 0) .nil))) (.or2 (.notv (.chn .le .le (.lit (.int 1)) (.blt .len (.cons (.slot 0) .nil)) (.lit (.int 8)))) (.cmp .in_ (.slot 0) (.lit (.tuple [(.str "apart"), (.str "barred"), (.str "bound"), (.str "break"), (.str "carry"), (.str "case"), (.str "cut"), (.str "far"), (.str "flow"), (.str "lay"), (.str "limit"), (.str "link"), (.str "links"), (.str "near"), (.str "net"), (.str "none"), (.str "place"), (.str "places"), (.str "price"), (.str "void"), (.str "way"), (.str "ways"), (.str "wish"), (.str "without")]))))) (.cons (.ret (.lit (.bool false))) .nil) .nil) (.cons (.ret (.blt .all (.cons (.lc (.cmp .in_ (.slot 1) (.lit (.str "abcdefghijklmnopqrstuvwxyz"))) (.nm 1) (.slot 0) (.lit (.bool true))) .nil))) .nil))
def c_is_whole : Ss := (.cons (.ret (.and2 (.blt .isInt (.cons (.slot 0) .nil)) (.chn .le .le (.slot 1) (.slot 0) (.slot 2)))) .nil)
def c_ascends : Ss := (.cons (.ret (.cmp .eq (.blt .list (.cons (.slot 0) .nil)) (.blt .sortedSet (.cons (.slot 0) .nil)))) .nil)
def c_are_places : Ss := (.cons (.ret (.and2 (.cmp .le (.blt .len (.cons (.slot 0) .nil)) (.lit (.int 10))) (.and2 (.blt .all (.cons (.lc (.call "is_name" false (.cons (.slot 1) .nil)) (.nm 1) (.slot 0) (.lit (.bool true))) .nil)) (.call "ascends" false (.cons (.slot 0) .nil))))) .nil)
def c_is_link : Ss := (.cons (.ife (.or2 (.cmp .ne (.blt .len (.cons (.slot 1) .nil)) (.lit (.int 5))) (.or2 (.notv (.call "is_name" false (.cons (.idx (.slot 1) (.lit (.int 0))) .nil))) (.or2 (.cmp .nin (.idx (.slot 1) (.lit (.int 1))) (.slot 0)) (.or2 (.cmp .nin (.idx (.slot 1) (.lit (.int 2))) (.slot 0)) (.notv (.cmp .lt (.idx (.slot 1) (.lit (.int 1))) (.idx (.slot 1) (.lit (.int 2))))))))) (.cons (.ret (.lit (.bool false))) .nil) .nil) (.cons (.ret (.and2 (.call "is_whole" false (.cons (.idx (.slot 1) (.lit (.int 3))) (.cons (.lit (.int 0)) (.cons (.lit (.int 1000)) .nil)))) (.call "is_whole" false (.cons (.idx (.slot 1) (.lit (.int 4))) (.cons (.lit (.int 1)) (.cons (.lit (.int 50)) .nil)))))) .nil))
def c_is_wish : Ss := (.cons (.ife (.or2 (.cmp .ne (.blt .len (.cons (.slot 1) .nil)) (.lit (.int 5))) (.or2 (.notv (.call "is_name" false (.cons (.idx (.slot 1) (.lit (.int 0))) .nil))) (.cmp .nin (.idx (.slot 1) (.lit (.int 1))) (.lit (.tuple [(.str "apart"), (.str "carry"), (.str "near"), (.str "places")]))))) (.cons (.ret (.lit (.bool false))) .nil) .nil) (.cons (.ret (.and2 (.cmp .in_ (.idx (.slot 1) (.lit (.int 2))) (.slot 0)) (.and2 (.cmp .in_ (.idx (.slot 1) (.lit (.int 3))) (.slot 0)) (.and2 (.cmp .lt (.idx (.slot 1) (.lit (.int 2))) (.idx (.slot 1) (.lit (.int 3)))) (.call "is_whole" false (.cons (.idx (.slot 1) (.lit (.int 4))) (.cons (.lit (.int 1)) (.cons (.idx (.lit (.dict [(.none, (.bool true)), ((.str "apart"), (.int 4)), ((.str "carry"), (.int 200)), ((.str "near"), (.int 9)), ((.str "places"), (.int 4))])) (.idx (.slot 1) (.lit (.int 1)))) .nil)))))))) .nil))
def c_is_limit : Ss := (.cons (.ret (.and2 (.cmp .eq (.blt .len (.cons (.slot 1) .nil)) (.lit (.int 2))) (.and2 (.cmp .in_ (.idx (.slot 1) (.lit (.int 0))) (.slot 0)) (.call "is_whole" false (.cons (.idx (.slot 1) (.lit (.int 1))) (.cons (.lit (.int 0)) (.cons (.lit (.int 14)) .nil))))))) .nil)
def c_is_break : Ss := (.cons (.ife (.or2 (.cmp .ne (.blt .len (.cons (.slot 2) .nil)) (.lit (.int 3))) (.or2 (.notv (.call "is_name" false (.cons (.idx (.slot 2) (.lit (.int 0))) .nil))) (.or2 (.notv (.blt .isTuple (.cons (.idx (.slot 2) (.lit (.int 1))) .nil))) (.notv (.blt .isTuple (.cons (.idx (.slot 2) (.lit (.int 2))) .nil)))))) (.cons (.ret (.lit (.bool false))) .nil) .nil) (.cons (.ife (.or2 (.notv (.blt .all (.cons (.lc (.cmp .in_ (.slot 3) (.slot 1)) (.nm 3) (.idx (.slot 2) (.lit (.int 1))) (.lit (.bool true))) .nil))) (.notv (.blt .all (.cons (.lc (.cmp .in_ (.slot 4) (.slot 0)) (.nm 4) (.idx (.slot 2) (.lit (.int 2))) (.lit (.bool true))) .nil)))) (.cons (.ret (.lit (.bool false))) .nil) .nil) (.cons (.ret (.and2 (.call "ascends" false (.cons (.idx (.slot 2) (.lit (.int 1))) .nil)) (.call "ascends" false (.cons (.idx (.slot 2) (.lit (.int 2))) .nil)))) .nil)))
def c_are_rows : Ss := (.cons (.ret (.and2 (.cmp .le (.blt .len (.cons (.slot 0) .nil)) (.slot 1)) (.and2 (.blt .all (.cons (.slot 2) .nil)) (.call "ascends" false (.cons (.lc (.idx (.slot 3) (.lit (.int 0))) (.nm 3) (.slot 0) (.lit (.bool true))) .nil))))) .nil)
def c_check_task : Ss := (.cons (.ife (.or2 (.cmp .ne (.blt .len (.cons (.slot 0) .nil)) (.lit (.int 5))) (.notv (.call "are_places" false (.cons (.idx (.slot 0) (.lit (.int 0))) .nil)))) (.cons (.raise "NotAllowed" "a task has five parts, the first one of places") .nil) .nil) (.cons (.asg (.tp [1, 2, 3, 4, 5]) (.slot 0)) (.cons (.ife (.notv (.call "are_rows" false (.cons (.slot 2) (.cons (.lit (.int 14)) (.cons (.lc (.call "is_link" false (.cons (.slot 1) (.cons (.slot 7) .nil))) (.nm 7) (.slot 2) (.lit (.bool true))) .nil))))) (.cons (.raise "NotAllowed" "the links are none") .nil) .nil) (.cons (.ife (.notv (.call "are_rows" false (.cons (.slot 3) (.cons (.lit (.int 8)) (.cons (.lc (.call "is_wish" false (.cons (.slot 1) (.cons (.slot 7) .nil))) (.nm 7) (.slot 3) (.lit (.bool true))) .nil))))) (.cons (.raise "NotAllowed" "the wishes are none") .nil) .nil) (.cons (.ife (.notv (.call "are_rows" false (.cons (.slot 4) (.cons (.lit (.int 10)) (.cons (.lc (.call "is_limit" false (.cons (.slot 1) (.cons (.slot 7) .nil))) (.nm 7) (.slot 4) (.lit (.bool true))) .nil))))) (.cons (.raise "NotAllowed" "the limits are none") .nil) .nil) (.cons (.asg (.nm 6) (.lc (.idx (.slot 7) (.lit (.int 0))) (.nm 7) (.slot 2) (.lit (.bool true)))) (.cons (.ife (.notv (.call "are_rows" false (.cons (.slot 5) (.cons (.lit (.int 6)) (.cons (.lc (.call "is_break" false (.cons (.slot 1) (.cons (.slot 6) (.cons (.slot 7) .nil)))) (.nm 7) (.slot 5) (.lit (.bool true))) .nil))))) (.cons (.raise "NotAllowed" "the breaks are none") .nil) .nil) (.cons (.ret (.lit .none)) .nil))))))))
def c_link_names : Ss := (.cons (.ret (.blt .tuple (.cons (.lc (.idx (.slot 1) (.lit (.int 0))) (.nm 1) (.idx (.slot 0) (.lit (.int 1))) (.lit (.bool true))) .nil))) .nil)
def c_check_net : Ss := (.cons (.expr (.call "check_task" false (.cons (.slot 0) .nil))) (.cons (.ife (.or2 (.notv (.blt .all (.cons (.lc (.cmp .in_ (.slot 2) (.call "link_names" false (.cons (.slot 0) .nil))) (.nm 2) (.slot 1) (.lit (.bool true))) .nil))) (.notv (.call "ascends" false (.cons (.slot 1) .nil)))) (.cons (.raise "NotAllowed" "this is no net of these links") .nil) .nil) (.cons (.ret (.lit .none)) .nil)))
def c_known_break : Ss := (.cons (.ife (.cmp .eq (.slot 1) (.lit (.str ""))) (.cons (.ret (.tup (.cons (.lit (.str "")) (.cons (.tup .nil) (.cons (.tup .nil) .nil))))) .nil) .nil) (.cons (.ret (.blt .nextIter (.cons (.lc (.slot 2) (.nm 2) (.idx (.slot 0) (.lit (.int 4))) (.cmp .eq (.idx (.slot 2) (.lit (.int 0))) (.slot 1))) (.cons (.lit .none) .nil)))) .nil))
def c_check_break : Ss := (.cons (.expr (.call "check_task" false (.cons (.slot 0) .nil))) (.cons (.ife (.cmp .is_ (.call "known_break" false (.cons (.slot 0) (.cons (.slot 1) .nil))) (.lit .none)) (.cons (.raise "Missing" "there is no such break") .nil) .nil) (.cons (.ret (.lit .none)) .nil)))
def c_known_left : Ss := (.cons (.asg (.nm 3) (.call "known_break" false (.cons (.slot 0) (.cons (.slot 2) .nil)))) (.cons (.asg (.nm 4) (.lc (.slot 6) (.nm 6) (.idx (.slot 0) (.lit (.int 0))) (.cmp .nin (.slot 6) (.idx (.slot 3) (.lit (.int 2)))))) (.cons (.asg (.nm 5) (.lc (.slot 7) (.nm 7) (.idx (.slot 0) (.lit (.int 1))) (.and2 (.cmp .in_ (.idx (.slot 7) (.lit (.int 0))) (.slot 1)) (.cmp .nin (.idx (.slot 7) (.lit (.int 0))) (.idx (.slot 3) (.lit (.int 1))))))) (.cons (.ret (.tup (.cons (.slot 4) (.cons (.lc (.slot 7) (.nm 7) (.slot 5) (.and2 (.cmp .in_ (.idx (.slot 7) (.lit (.int 1))) (.slot 4)) (.cmp .in_ (.idx (.slot 7) (.lit (.int 2))) (.slot 4)))) .nil)))) .nil))))
def c_left_of : Ss := (.cons (.expr (.call "check_net" false (.cons (.slot 0) (.cons (.slot 1) .nil)))) (.cons (.expr (.call "check_break" false (.cons (.slot 0) (.cons (.slot 2) .nil)))) (.cons (.asg (.tp [3, 4]) (.call "known_left" false (.cons (.slot 0) (.cons (.slot 1) (.cons (.slot 2) .nil))))) (.cons (.ret (.tup (.cons (.blt .tuple (.cons (.slot 3) .nil)) (.cons (.blt .tuple (.cons (.lc (.idx (.slot 5) (.lit (.int 0))) (.nm 5) (.slot 4) (.lit (.bool true))) .nil)) .nil)))) .nil))))
def c_known_cost : Ss := (.cons (.ret (.blt .sum (.cons (.lc (.idx (.slot 2) (.lit (.int 3))) (.nm 2) (.idx (.slot 0) (.lit (.int 1))) (.cmp .in_ (.idx (.slot 2) (.lit (.int 0))) (.slot 1))) .nil))) .nil)
def c_cost_of : Ss := (.cons (.expr (.call "check_net" false (.cons (.slot 0) (.cons (.slot 1) .nil)))) (.cons (.ret (.call "known_cost" false (.cons (.slot 0) (.cons (.slot 1) .nil)))) .nil))
def c_links_at : Ss := (.cons (.expr (.call "check_task" false (.cons (.slot 0) .nil))) (.cons (.ife (.cmp .nin (.slot 1) (.idx (.slot 0) (.lit (.int 0)))) (.cons (.raise "Missing" "there is no such place") .nil) .nil) (.cons (.ret (.call "known_at" false (.cons (.slot 0) (.cons (.slot 1) .nil)))) .nil)))
def c_known_at : Ss := (.cons (.ret (.blt .tuple (.cons (.lc (.idx (.slot 2) (.lit (.int 0))) (.nm 2) (.idx (.slot 0) (.lit (.int 1))) (.cmp .in_ (.slot 1) (.slc (.slot 2) (.lit (.int 1)) (.lit (.int 3))))) .nil))) .nil)
def c_known_over : Ss := (.cons (.ret (.lc (.slot 2) (.tp [2, 3]) (.idx (.slot 0) (.lit (.int 3))) (.cmp .gt (.blt .len (.cons (.lc (.slot 4) (.nm 4) (.call "known_at" false (.cons (.slot 0) (.cons (.slot 2) .nil))) (.cmp .in_ (.slot 4) (.slot 1))) .nil)) (.slot 3)))) .nil)
def c_over_limits : Ss := (.cons (.expr (.call "check_net" false (.cons (.slot 0) (.cons (.slot 1) .nil)))) (.cons (.ret (.blt .tuple (.cons (.call "known_over" false (.cons (.slot 0) (.cons (.slot 1) .nil))) .nil))) .nil))
def c_with_costs : Ss := (.cons (.expr (.call "check_task" false (.cons (.slot 0) .nil))) (.cons (.ife (.or2 (.notv (.call "ascends" false (.cons (.lc (.slot 5) (.tp [5, 6]) (.slot 1) (.lit (.bool true))) .nil))) (.notv (.blt .all (.cons (.lc (.cmp .in_ (.slot 5) (.call "link_names" false (.cons (.slot 0) .nil))) (.tp [5, 6]) (.slot 1) (.lit (.bool true))) .nil)))) (.cons (.raise "NotAllowed" "these are no ascending links") .nil) .nil) (.cons (.asg (.nm 2) (.blt .dict (.cons (.slot 1) .nil))) (.cons (.asg (.nm 3) (.blt .tuple (.cons (.lc (.tup (.star (.slc (.slot 7) (.lit .none) (.lit (.int 3))) (.cons (.met .get2 (.slot 2) (.cons (.idx (.slot 7) (.lit (.int 0))) (.cons (.idx (.slot 7) (.lit (.int 3))) .nil))) (.cons (.idx (.slot 7) (.lit (.int 4))) .nil)))) (.nm 7) (.idx (.slot 0) (.lit (.int 1))) (.lit (.bool true))) .nil))) (.cons (.asg (.nm 4) (.tup (.cons (.idx (.slot 0) (.lit (.int 0))) (.cons (.slot 3) (.star (.slc (.slot 0) (.lit (.int 2)) (.lit .none)) .nil))))) (.cons (.expr (.call "check_task" false (.cons (.slot 4) .nil))) (.cons (.ret (.slot 4)) .nil)))))))
def c__law_same : Ss := (.cons (.ret (.cmp .eq (.blt .repr (.cons (.lst (.cons (.slot 0) .nil)) .nil)) (.blt .repr (.cons (.lst (.cons (.slot 1) .nil)) .nil)))) .nil)
def c__law_stream : Ss := (.cons (.asg (.nm 1) (.lst .nil)) (.cons (.for_ (.nm 2) (.slc (.slot 0) (.lit .none) (.lit (.int 63))) (.cons (.asg (.nm 3) (.blt .abs (.cons (.blt .int (.cons (.slot 2) .nil)) .nil))) (.cons (.ife (.cmp .ge (.slot 3) (.bin .pow (.lit (.int 10)) (.lit (.int 18)))) (.cons (.for_ (.nm 4) (.blt .range1 (.cons (.lit (.int 60)) .nil)) (.cons (.app 1 (.bin .mod (.blt .int (.cons (.slot 3) .nil)) (.lit (.int 1009)))) (.cons (.asg (.nm 3) (.bin .fdiv (.slot 3) (.lit (.int 1009)))) (.cons (.ife (.cmp .eq (.slot 3) (.lit (.int 0))) (.cons .brk .nil) .nil) .nil)))) .nil) (.cons (.asg (.nm 5) (.bin .mod (.blt .int (.cons (.slot 3) .nil)) (.lit (.int 2147483647)))) (.cons (.for_ (.nm 4) (.blt .range1 (.cons (.lit (.int 10)) .nil)) (.cons (.asg (.nm 5) (.bin .mod (.blt .int (.cons (.bin .add (.bin .add (.bin .mul (.slot 5) (.lit (.int 48271))) (.bin .mul (.lit (.int 7)) (.slot 4))) (.lit (.int 11))) .nil)) (.lit (.int 2147483647)))) (.cons (.app 1 (.bin .mod (.bin .mod (.blt .int (.cons (.bin .add (.bin .mul (.slot 5) (.lit (.int 69621))) (.slot 4)) .nil)) (.lit (.int 2147483629))) (.lit (.int 1009)))) .nil))) .nil))) .nil))) (.cons (.ife (.cmp .eq (.blt .len (.cons (.slot 1) .nil)) (.lit (.int 0))) (.cons (.app 1 (.lit (.int 0))) .nil) .nil) (.cons (.ret (.slot 1)) .nil))))
def c__law_next : Ss := (.cons (.csub 0 (.lit (.int 1)) (.bin .add (.idx (.slot 0) (.lit (.int 1))) (.lit (.int 1)))) (.cons (.asg (.nm 2) (.bin .fdiv (.idx (.slot 0) (.lit (.int 1))) (.blt .len (.cons (.idx (.slot 0) (.lit (.int 0))) .nil)))) (.cons (.ret (.bin .mod (.blt .int (.cons (.bin .add (.bin .add (.idx (.idx (.slot 0) (.lit (.int 0))) (.bin .mod (.idx (.slot 0) (.lit (.int 1))) (.blt .len (.cons (.idx (.slot 0) (.lit (.int 0))) .nil)))) (.bin .mul (.slot 2) (.lit (.int 389)))) (.bin .mul (.bin .mul (.idx (.slot 0) (.lit (.int 1))) (.slot 2)) (.lit (.int 17)))) .nil)) (.slot 1))) .nil)))
def c__law_one : Ss := (.cons (.ret (.idx (.slot 1) (.call "_law_next" false (.cons (.slot 0) (.cons (.blt .len (.cons (.slot 1) .nil)) .nil))))) .nil)
def c__law_links : Ss := (.cons (.asg (.nm 3) (.lst .nil)) (.cons (.for_ (.nm 4) (.blt .range1 (.cons (.slot 2) .nil)) (.cons (.asg (.nm 5) (.call "_law_next" false (.cons (.slot 0) (.cons (.blt .len (.cons (.slot 1) .nil)) .nil)))) (.cons (.asg (.nm 6) (.bin .mod (.bin .add (.bin .add (.slot 5) (.lit (.int 1))) (.call "_law_next" false (.cons (.slot 0) (.cons (.bin .sub (.blt .len (.cons (.slot 1) .nil)) (.lit (.int 1))) .nil)))) (.blt .len (.cons (.slot 1) .nil)))) (.cons (.app 3 (.tup (.cons (.bin .add (.lit (.str "l")) (.idx (.lit (.str "abcdefgh")) (.slot 4))) (.cons (.idx (.slot 1) (.blt .min2 (.cons (.slot 5) (.cons (.slot 6) .nil)))) (.cons (.idx (.slot 1) (.blt .max2 (.cons (.slot 5) (.cons (.slot 6) .nil)))) (.cons (.call "_law_next" false (.cons (.slot 0) (.cons (.lit (.int 6)) .nil))) (.cons (.bin .add (.lit (.int 1)) (.call "_law_next" false (.cons (.slot 0) (.cons (.lit (.int 3)) .nil)))) .nil))))))) .nil)))) (.cons (.ret (.blt .tuple (.cons (.slot 3) .nil))) .nil)))
def c__law_wish : Ss := (.cons (.asg (.nm 3) (.call "_law_next" false (.cons (.slot 0) (.cons (.blt .len (.cons (.slot 1) .nil)) .nil)))) (.cons (.asg (.nm 4) (.bin .mod (.bin .add (.bin .add (.slot 3) (.lit (.int 1))) (.call "_law_next" false (.cons (.slot 0) (.cons (.bin .sub (.blt .len (.cons (.slot 1) .nil)) (.lit (.int 1))) .nil)))) (.blt .len (.cons (.slot 1) .nil)))) (.cons (.asg (.nm 5) (.call "_law_one" false (.cons (.slot 0) (.cons (.lst (.cons (.lit (.str "apart")) (.cons (.lit (.str "apart")) (.cons (.lit (.str "carry")) (.cons (.lit (.str "near")) (.cons (.lit (.str "places")) .nil)))))) .nil)))) (.cons (.ret (.tup (.cons (.slot 2) (.cons (.slot 5) (.cons (.idx (.slot 1) (.blt .min2 (.cons (.slot 3) (.cons (.slot 4) .nil)))) (.cons (.idx (.slot 1) (.blt .max2 (.cons (.slot 3) (.cons (.slot 4) .nil)))) (.cons (.bin .add (.lit (.int 1)) (.call "_law_next" false (.cons (.slot 0) (.cons (.idx (.lst (.cons (.lit (.int 2)) (.cons (.lit (.int 4)) (.cons (.lit (.int 3)) .nil)))) (.bin .add (.blt .int (.cons (.cmp .eq (.slot 5) (.lit (.str "carry"))) .nil)) (.bin .mul (.lit (.int 2)) (.blt .int (.cons (.cmp .eq (.slot 5) (.lit (.str "near"))) .nil))))) .nil)))) .nil))))))) .nil))))
def c__law_task : Ss := (.cons (.asg (.nm 1) (.slc (.tup (.cons (.lit (.str "a")) (.cons (.lit (.str "b")) (.cons (.lit (.str "c")) (.cons (.lit (.str "d")) (.cons (.lit (.str "e")) .nil)))))) (.lit .none) (.bin .add (.lit (.int 2)) (.call "_law_next" false (.cons (.slot 0) (.cons (.lit (.int 3)) .nil)))))) (.cons (.asg (.nm 2) (.call "_law_links" false (.cons (.slot 0) (.cons (.slot 1) (.cons (.bin .add (.lit (.int 1)) (.call "_law_next" false (.cons (.slot 0) (.cons (.lit (.int 6)) .nil)))) .nil))))) (.cons (.asg (.nm 3) (.blt .tuple (.cons (.lc (.call "_law_wish" false (.cons (.slot 0) (.cons (.slot 1) (.cons (.bin .add (.lit (.str "w")) (.idx (.lit (.str "xyz")) (.slot 8))) .nil)))) (.nm 8) (.blt .range1 (.cons (.call "_law_next" false (.cons (.slot 0) (.cons (.lit (.int 4)) .nil))) .nil)) (.lit (.bool true))) .nil))) (.cons (.asg (.nm 4) (.blt .tuple (.cons (.lc (.tup (.cons (.slot 9) (.cons (.bin .add (.lit (.int 1)) (.call "_law_next" false (.cons (.slot 0) (.cons (.lit (.int 3)) .nil)))) .nil))) (.nm 9) (.slot 1) (.cmp .eq (.call "_law_next" false (.cons (.slot 0) (.cons (.lit (.int 6)) .nil))) (.lit (.int 0)))) .nil))) (.cons (.asg (.nm 5) (.lst .nil)) (.cons (.for_ (.nm 6) (.slc (.lst (.cons (.lit (.str "hail")) (.cons (.lit (.str "snow")) .nil))) (.lit .none) (.call "_law_next" false (.cons (.slot 0) (.cons (.lit (.int 3)) .nil)))) (.cons (.asg (.nm 7) (.blt .tuple (.cons (.lc (.idx (.slot 10) (.lit (.int 0))) (.nm 10) (.slot 2) (.cmp .eq (.call "_law_next" false (.cons (.slot 0) (.cons (.lit (.int 4)) .nil))) (.lit (.int 0)))) .nil))) (.cons (.app 5 (.tup (.cons (.slot 6) (.cons (.slot 7) (.cons (.blt .tuple (.cons (.lc (.slot 9) (.nm 9) (.slot 1) (.cmp .eq (.call "_law_next" false (.cons (.slot 0) (.cons (.lit (.int 6)) .nil))) (.lit (.int 0)))) .nil)) .nil))))) .nil))) (.cons (.ret (.tup (.cons (.slot 1) (.cons (.slot 2) (.cons (.slot 3) (.cons (.slot 4) (.cons (.blt .tuple (.cons (.slot 5) .nil)) .nil))))))) .nil)))))))
def c__law_names : Ss := (.cons (.ret (.lc (.idx (.slot 1) (.lit (.int 0))) (.nm 1) (.idx (.slot 0) (.lit (.int 1))) (.lit (.bool true)))) .nil)
def c__law_break : Ss := (.cons (.for_ (.nm 2) (.idx (.slot 0) (.lit (.int 4))) (.cons (.ife (.cmp .eq (.idx (.slot 2) (.lit (.int 0))) (.slot 1)) (.cons (.ret (.slot 2)) .nil) .nil) .nil)) (.cons (.ret (.tup (.cons (.lit (.str "")) (.cons (.tup .nil) (.cons (.tup .nil) .nil))))) .nil))
def c__law_left : Ss := (.cons (.asg (.nm 3) (.call "_law_break" false (.cons (.slot 0) (.cons (.slot 2) .nil)))) (.cons (.asg (.nm 4) (.lc (.slot 6) (.nm 6) (.idx (.slot 0) (.lit (.int 0))) (.cmp .nin (.slot 6) (.idx (.slot 3) (.lit (.int 2)))))) (.cons (.asg (.nm 5) (.lc (.slot 7) (.nm 7) (.idx (.slot 0) (.lit (.int 1))) (.and2 (.cmp .in_ (.idx (.slot 7) (.lit (.int 0))) (.slot 1)) (.and2 (.cmp .nin (.idx (.slot 7) (.lit (.int 0))) (.idx (.slot 3) (.lit (.int 1)))) (.and2 (.cmp .in_ (.idx (.slot 7) (.lit (.int 1))) (.slot 4)) (.cmp .in_ (.idx (.slot 7) (.lit (.int 2))) (.slot 4))))))) (.cons (.ret (.tup (.cons (.slot 4) (.cons (.slot 5) .nil)))) .nil))))
def c__law_over : Ss := (.cons (.ret (.lc (.slot 2) (.tp [2, 3]) (.idx (.slot 0) (.lit (.int 3))) (.cmp .gt (.blt .len (.cons (.lc (.slot 4) (.nm 4) (.idx (.slot 0) (.lit (.int 1))) (.and2 (.cmp .in_ (.idx (.slot 4) (.lit (.int 0))) (.slot 1)) (.cmp .in_ (.slot 2) (.slc (.slot 4) (.lit (.int 1)) (.lit (.int 3)))))) .nil)) (.slot 3)))) .nil)
def c__law_cost : Ss := (.cons (.ret (.blt .sum (.cons (.lc (.idx (.slot 2) (.lit (.int 3))) (.nm 2) (.idx (.slot 0) (.lit (.int 1))) (.cmp .in_ (.idx (.slot 2) (.lit (.int 0))) (.slot 1))) .nil))) .nil)
def c__law_is_name : Ss := (.cons (.asg (.nm 1) (.lst (.cons (.lit (.str "apart")) (.cons (.lit (.str "barred")) (.cons (.lit (.str "bound")) (.cons (.lit (.str "break")) (.cons (.lit (.str "carry")) (.cons (.lit (.str "case")) (.cons (.lit (.str "cut")) (.cons (.lit (.str "far")) (.cons (.lit (.str "flow")) (.cons (.lit (.str "lay")) (.cons (.lit (.str "limit")) (.cons (.lit (.str "link")) (.cons (.lit (.str "links")) (.cons (.lit (.str "near")) (.cons (.lit (.str "net")) .nil))))))))))))))))) (.cons (.asg (.nm 1) (.bin .add (.slot 1) (.lst (.cons (.lit (.str "none")) (.cons (.lit (.str "place")) (.cons (.lit (.str "places")) (.cons (.lit (.str "price")) (.cons (.lit (.str "void")) (.cons (.lit (.str "way")) (.cons (.lit (.str "ways")) (.cons (.lit (.str "wish")) (.cons (.lit (.str "without")) .nil)))))))))))) (.cons (.ret (.and2 (.chn .le .le (.lit (.int 1)) (.blt .len (.cons (.slot 0) .nil)) (.lit (.int 8))) (.and2 (.cmp .nin (.slot 0) (.slot 1)) (.cmp .eq (.blt .len (.cons (.lc (.slot 2) (.nm 2) (.slot 0) (.cmp .nin (.slot 2) (.lit (.str "abcdefghijklmnopqrstuvwxyz")))) .nil)) (.lit (.int 0)))))) .nil)))
def c__law_spoilt : Ss := (.cons (.asg (.nm 1) (.tup (.cons (.lit (.str "a")) (.cons (.lit (.str "b")) (.cons (.lit (.str "c")) .nil))))) (.cons (.asg (.nm 2) (.tup (.cons (.lit (.str "ab")) (.cons (.lit (.str "a")) (.cons (.lit (.str "b")) (.cons (.lit (.int 1)) (.cons (.lit (.int 1)) .nil))))))) (.cons (.asg (.nm 3) (.tup (.cons (.lit (.str "w")) (.cons (.lit (.str "apart")) (.cons (.lit (.str "a")) (.cons (.lit (.str "b")) (.cons (.lit (.int 1)) .nil))))))) (.cons (.asg (.nm 8) (.tup (.cons (.slot 1) (.cons (.tup (.cons (.slot 2) .nil)) (.cons (.tup (.cons (.slot 3) .nil)) (.cons (.tup (.cons (.tup (.cons (.lit (.str "a")) (.cons (.lit (.int 1)) .nil))) .nil)) (.cons (.tup (.cons (.tup (.cons (.lit (.str "x")) (.cons (.tup (.cons (.lit (.str "ab")) .nil)) (.cons (.tup (.cons (.lit (.str "c")) .nil)) .nil)))) .nil)) .nil))))))) (.cons (.asg (.nm 4) (.lst (.cons (.tup (.cons (.tup (.cons (.lit (.str "a")) (.cons (.lit (.str "a")) .nil))) (.cons (.lit (.int 0)) .nil))) (.cons (.tup (.cons (.tup (.cons (.lit (.str "b")) (.cons (.lit (.str "a")) .nil))) (.cons (.lit (.int 0)) .nil))) (.cons (.tup (.cons (.tup (.cons (.lit (.str "A")) .nil)) (.cons (.lit (.int 0)) .nil))) (.cons (.tup (.cons (.tup (.cons (.lit (.str "way")) .nil)) (.cons (.lit (.int 0)) .nil))) (.cons (.tup (.cons (.blt .tuple (.cons (.lc (.slot 10) (.nm 10) (.lit (.str "abcdefghijk")) (.lit (.bool true))) .nil)) (.cons (.lit (.int 0)) .nil))) .nil))))))) (.cons (.asg (.nm 5) (.lst (.cons (.tup (.cons (.lit (.str "ab")) (.cons (.lit (.str "b")) (.cons (.lit (.str "a")) (.cons (.lit (.int 1)) (.cons (.lit (.int 1)) .nil)))))) (.cons (.tup (.cons (.lit (.str "ab")) (.cons (.lit (.str "a")) (.cons (.lit (.str "a")) (.cons (.lit (.int 1)) (.cons (.lit (.int 1)) .nil)))))) (.cons (.tup (.cons (.lit (.str "ab")) (.cons (.lit (.str "a")) (.cons (.lit (.str "z")) (.cons (.lit (.int 1)) (.cons (.lit (.int 1)) .nil)))))) (.cons (.tup (.cons (.lit (.str "ab")) (.cons (.lit (.str "a")) (.cons (.lit (.str "b")) (.cons (.neg (.lit (.int 1))) (.cons (.lit (.int 1)) .nil)))))) (.cons (.tup (.cons (.lit (.str "ab")) (.cons (.lit (.str "a")) (.cons (.lit (.str "b")) (.cons (.lit (.int 1001)) (.cons (.lit (.int 1)) .nil)))))) .nil))))))) (.cons (.asg (.nm 5) (.bin .add (.slot 5) (.lst (.cons (.tup (.cons (.lit (.str "ab")) (.cons (.lit (.str "a")) (.cons (.lit (.str "b")) (.cons (.lit (.int 1)) (.cons (.lit (.int 0)) .nil)))))) (.cons (.tup (.cons (.lit (.str "ab")) (.cons (.lit (.str "a")) (.cons (.lit (.str "b")) (.cons (.lit (.int 1)) (.cons (.lit (.int 51)) .nil)))))) (.cons (.tup (.cons (.lit (.str "AB")) (.cons (.lit (.str "a")) (.cons (.lit (.str "b")) (.cons (.lit (.int 1)) (.cons (.lit (.int 1)) .nil)))))) (.cons (.tup (.cons (.lit (.str "ab")) (.cons (.lit (.str "a")) (.cons (.lit (.str "b")) (.cons (.lit (.int 1)) .nil))))) .nil))))))) (.cons (.asg (.nm 4) (.bin .add (.bin .add (.slot 4) (.lc (.tup (.cons (.tup (.cons (.slot 11) .nil)) (.cons (.lit (.int 1)) .nil))) (.nm 11) (.slot 5) (.lit (.bool true)))) (.lst (.cons (.tup (.cons (.tup (.cons (.slot 2) (.cons (.slot 2) .nil))) (.cons (.lit (.int 1)) .nil))) (.cons (.tup (.cons (.blt .tuple (.cons (.lc (.tup (.cons (.bin .add (.lit (.str "l")) (.slot 10)) (.cons (.lit (.str "a")) (.cons (.lit (.str "b")) (.cons (.lit (.int 1)) (.cons (.lit (.int 1)) .nil)))))) (.nm 10) (.lit (.str "abcdefghijklmno")) (.lit (.bool true))) .nil)) (.cons (.lit (.int 1)) .nil))) .nil))))) (.cons (.asg (.nm 5) (.lst (.cons (.tup (.cons (.lit (.str "w")) (.cons (.lit (.str "join")) (.cons (.lit (.str "a")) (.cons (.lit (.str "b")) (.cons (.lit (.int 1)) .nil)))))) (.cons (.tup (.cons (.lit (.str "w")) (.cons (.lit (.str "apart")) (.cons (.lit (.str "b")) (.cons (.lit (.str "a")) (.cons (.lit (.int 1)) .nil)))))) (.cons (.tup (.cons (.lit (.str "w")) (.cons (.lit (.str "apart")) (.cons (.lit (.str "a")) (.cons (.lit (.str "b")) (.cons (.lit (.int 0)) .nil)))))) (.cons (.tup (.cons (.lit (.str "w")) (.cons (.lit (.str "apart")) (.cons (.lit (.str "a")) (.cons (.lit (.str "b")) (.cons (.lit (.int 5)) .nil)))))) .nil)))))) (.cons (.asg (.nm 5) (.bin .add (.slot 5) (.lst (.cons (.tup (.cons (.lit (.str "w")) (.cons (.lit (.str "carry")) (.cons (.lit (.str "a")) (.cons (.lit (.str "b")) (.cons (.lit (.int 201)) .nil)))))) (.cons (.tup (.cons (.lit (.str "w")) (.cons (.lit (.str "near")) (.cons (.lit (.str "a")) (.cons (.lit (.str "b")) (.cons (.lit (.int 10)) .nil)))))) (.cons (.tup (.cons (.lit (.str "w")) (.cons (.lit (.str "places")) (.cons (.lit (.str "a")) (.cons (.lit (.str "b")) (.cons (.lit (.int 5)) .nil)))))) (.cons (.tup (.cons (.lit (.str "cut")) (.cons (.lit (.str "apart")) (.cons (.lit (.str "a")) (.cons (.lit (.str "b")) (.cons (.lit (.int 1)) .nil)))))) .nil))))))) (.cons (.asg (.nm 4) (.bin .add (.bin .add (.slot 4) (.lc (.tup (.cons (.tup (.cons (.slot 11) .nil)) (.cons (.lit (.int 2)) .nil))) (.nm 11) (.slot 5) (.lit (.bool true)))) (.lst (.cons (.tup (.cons (.tup (.cons (.slot 3) (.cons (.slot 3) .nil))) (.cons (.lit (.int 2)) .nil))) (.cons (.tup (.cons (.blt .tuple (.cons (.lc (.tup (.cons (.bin .add (.lit (.str "w")) (.slot 10)) (.cons (.lit (.str "apart")) (.cons (.lit (.str "a")) (.cons (.lit (.str "b")) (.cons (.lit (.int 1)) .nil)))))) (.nm 10) (.lit (.str "abcdefghi")) (.lit (.bool true))) .nil)) (.cons (.lit (.int 2)) .nil))) .nil))))) (.cons (.asg (.nm 4) (.bin .add (.bin .add (.slot 4) (.lc (.tup (.cons (.tup (.cons (.slot 11) .nil)) (.cons (.lit (.int 3)) .nil))) (.nm 11) (.lst (.cons (.tup (.cons (.lit (.str "z")) (.cons (.lit (.int 1)) .nil))) (.cons (.tup (.cons (.lit (.str "a")) (.cons (.neg (.lit (.int 1))) .nil))) (.cons (.tup (.cons (.lit (.str "a")) (.cons (.lit (.int 15)) .nil))) .nil)))) (.lit (.bool true)))) (.lst (.cons (.tup (.cons (.tup (.cons (.tup (.cons (.lit (.str "a")) (.cons (.lit (.int 1)) .nil))) (.cons (.tup (.cons (.lit (.str "a")) (.cons (.lit (.int 2)) .nil))) .nil))) (.cons (.lit (.int 3)) .nil))) .nil)))) (.cons (.asg (.nm 4) (.bin .add (.slot 4) (.lc (.tup (.cons (.tup (.cons (.slot 11) .nil)) (.cons (.lit (.int 4)) .nil))) (.nm 11) (.lst (.cons (.tup (.cons (.lit (.str "x")) (.cons (.tup (.cons (.lit (.str "zz")) .nil)) (.cons (.tup .nil) .nil)))) (.cons (.tup (.cons (.lit (.str "x")) (.cons (.tup .nil) (.cons (.tup (.cons (.lit (.str "z")) .nil)) .nil)))) (.cons (.tup (.cons (.lit (.str "x")) (.cons (.tup (.cons (.lit (.str "ab")) (.cons (.lit (.str "ab")) .nil))) (.cons (.tup .nil) .nil)))) (.cons (.tup (.cons (.lit (.str "x")) (.cons (.tup .nil) (.cons (.tup (.cons (.lit (.str "b")) (.cons (.lit (.str "a")) .nil))) .nil)))) (.cons (.tup (.cons (.lit (.str "")) (.cons (.tup .nil) (.cons (.tup .nil) .nil)))) (.cons (.tup (.cons (.lit (.str "x")) (.cons (.tup .nil) .nil))) .nil))))))) (.lit (.bool true))))) (.cons (.asg (.nm 4) (.bin .add (.slot 4) (.lst (.cons (.tup (.cons (.blt .tuple (.cons (.lc (.tup (.cons (.slot 10) (.cons (.tup .nil) (.cons (.tup .nil) .nil)))) (.nm 10) (.lit (.str "abcdefg")) (.lit (.bool true))) .nil)) (.cons (.lit (.int 4)) .nil))) .nil)))) (.cons (.ife (.cmp .isn (.call "check_task" false (.cons (.slot 8) .nil)) (.lit .none)) (.cons (.ret (.lit (.bool false))) .nil) .nil) (.cons (.for_ (.tp [6, 7]) (.slot 4) (.cons (.asg (.nm 9) (.bin .add (.bin .add (.slc (.slot 8) (.lit .none) (.slot 7)) (.tup (.cons (.slot 6) .nil))) (.slc (.slot 8) (.bin .add (.slot 7) (.lit (.int 1))) (.lit .none)))) (.cons (.ife (.cmp .lt (.slot 7) (.lit (.int 2))) (.cons (.asg (.nm 9) (.bin .add (.slc (.slot 9) (.lit .none) (.lit (.int 2))) (.tup (.cons (.tup .nil) (.cons (.tup .nil) (.cons (.tup .nil) .nil)))))) .nil) .nil) (.cons (.ife (.cmp .ne (.told (.call "check_task" false (.cons (.slot 9) .nil))) (.tup (.cons (.lit (.str "refused")) .nil))) (.cons (.ret (.lit (.bool false))) .nil) .nil) .nil)))) (.cons (.ret (.cmp .eq (.told (.call "check_task" false (.cons (.slc (.slot 8) (.lit .none) (.lit (.int 4))) .nil))) (.tup (.cons (.lit (.str "refused")) .nil)))) .nil)))))))))))))))))
def c_law : Ss := (.cons (.newcell 1 (.cons (.call "_law_stream" false (.cons (.slot 0) .nil)) (.cons (.lit (.int 0)) .nil))) (.cons (.for_ (.nm 2) (.blt .range1 (.cons (.lit (.int 3)) .nil)) (.cons (.asg (.nm 13) (.call "_law_task" false (.cons (.slot 1) .nil))) (.cons (.asg (.nm 12) (.call "_law_names" false (.cons (.slot 13) .nil))) (.cons (.asg (.nm 3) (.blt .tuple (.cons (.lc (.slot 14) (.nm 14) (.slot 12) (.cmp .gt (.call "_law_next" false (.cons (.slot 1) (.cons (.lit (.int 3)) .nil))) (.lit (.int 0)))) .nil))) (.cons (.for_ (.nm 4) (.bin .add (.lst (.cons (.lit (.str "")) .nil)) (.lc (.idx (.slot 15) (.lit (.int 0))) (.nm 15) (.idx (.slot 13) (.lit (.int 4))) (.lit (.bool true)))) (.cons (.asg (.tp [5, 6]) (.call "_law_left" false (.cons (.slot 13) (.cons (.slot 3) (.cons (.slot 4) .nil))))) (.cons (.ife (.notv (.call "_law_same" false (.cons (.call "left_of" false (.cons (.slot 13) (.cons (.slot 3) (.cons (.slot 4) .nil)))) (.cons (.tup (.cons (.blt .tuple (.cons (.slot 5) .nil)) (.cons (.blt .tuple (.cons (.lc (.idx (.slot 15) (.lit (.int 0))) (.nm 15) (.slot 6) (.lit (.bool true))) .nil)) .nil))) .nil)))) (.cons (.ret (.lit (.bool false))) .nil) .nil) .nil))) (.cons (.ife (.notv (.call "_law_same" false (.cons (.lst (.cons (.call "cost_of" false (.cons (.slot 13) (.cons (.slot 3) .nil))) (.cons (.call "over_limits" false (.cons (.slot 13) (.cons (.slot 3) .nil))) (.cons (.call "check_task" false (.cons (.slot 13) .nil)) (.cons (.call "check_net" false (.cons (.slot 13) (.cons (.slot 3) .nil))) .nil))))) (.cons (.lst (.cons (.call "_law_cost" false (.cons (.slot 13) (.cons (.slot 3) .nil))) (.cons (.blt .tuple (.cons (.call "_law_over" false (.cons (.slot 13) (.cons (.slot 3) .nil))) .nil)) (.cons (.lit .none) (.cons (.lit .none) .nil))))) .nil)))) (.cons (.ret (.lit (.bool false))) .nil) .nil) (.cons (.ife (.notv (.call "_law_same" false (.cons (.lc (.call "links_at" false (.cons (.slot 13) (.cons (.slot 16) .nil))) (.nm 16) (.idx (.slot 13) (.lit (.int 0))) (.lit (.bool true))) (.cons (.lc (.blt .tuple (.cons (.lc (.idx (.slot 15) (.lit (.int 0))) (.nm 15) (.idx (.slot 13) (.lit (.int 1))) (.cmp .in_ (.slot 16) (.slc (.slot 15) (.lit (.int 1)) (.lit (.int 3))))) .nil)) (.nm 16) (.idx (.slot 13) (.lit (.int 0))) (.lit (.bool true))) .nil)))) (.cons (.ret (.lit (.bool false))) .nil) .nil) (.cons (.asg (.nm 7) (.blt .tuple (.cons (.lc (.tup (.cons (.slot 14) (.cons (.call "_law_next" false (.cons (.slot 1) (.cons (.lit (.int 1001)) .nil))) .nil))) (.nm 14) (.slot 3) (.lit (.bool true))) .nil))) (.cons (.asg (.nm 8) (.blt .dict (.cons (.slot 7) .nil))) (.cons (.asg (.nm 9) (.bin .add (.tup (.cons (.idx (.slot 13) (.lit (.int 0))) (.cons (.blt .tuple (.cons (.lc (.bin .add (.slc (.slot 15) (.lit .none) (.lit (.int 3))) (.tup (.cons (.met .get2 (.slot 8) (.cons (.idx (.slot 15) (.lit (.int 0))) (.cons (.idx (.slot 15) (.lit (.int 3))) .nil))) (.cons (.idx (.slot 15) (.lit (.int 4))) .nil)))) (.nm 15) (.idx (.slot 13) (.lit (.int 1))) (.lit (.bool true))) .nil)) .nil))) (.slc (.slot 13) (.lit (.int 2)) (.lit .none)))) (.cons (.ife (.notv (.call "_law_same" false (.cons (.call "with_costs" false (.cons (.slot 13) (.cons (.slot 7) .nil))) (.cons (.slot 9) .nil)))) (.cons (.ret (.lit (.bool false))) .nil) .nil) (.cons (.asg (.nm 10) (.lst (.cons (.told (.call "check_net" false (.cons (.slot 13) (.cons (.tup (.cons (.idx (.slot 12) (.lit (.int 0))) (.cons (.idx (.slot 12) (.lit (.int 0))) .nil))) .nil)))) (.cons (.told (.call "check_net" false (.cons (.slot 13) (.cons (.tup (.cons (.lit (.str "zz")) .nil)) .nil)))) (.cons (.told (.call "with_costs" false (.cons (.slot 13) (.cons (.tup (.cons (.tup (.cons (.idx (.slot 12) (.lit (.int 0))) (.cons (.lit (.int 1001)) .nil))) .nil)) .nil)))) (.cons (.told (.call "with_costs" false (.cons (.slot 13) (.cons (.tup (.cons (.tup (.cons (.lit (.str "zz")) (.cons (.lit (.int 1)) .nil))) .nil)) .nil)))) (.cons (.told (.call "with_costs" false (.cons (.slot 13) (.cons (.tup (.cons (.tup (.cons (.idx (.slot 12) (.lit (.int 0))) (.cons (.lit (.int 1)) .nil))) (.cons (.tup (.cons (.idx (.slot 12) (.lit (.int 0))) (.cons (.lit (.int 1)) .nil))) .nil))) .nil)))) (.cons (.told (.call "left_of" false (.cons (.slot 13) (.cons (.tup (.cons (.lit (.str "zz")) .nil)) (.cons (.lit (.str "zz")) .nil))))) (.cons (.told (.call "left_of" false (.cons (.slot 13) (.cons (.tup .nil) (.cons (.lit (.str "zz")) .nil))))) (.cons (.told (.call "check_break" false (.cons (.slot 13) (.cons (.lit (.str "zz")) .nil)))) (.cons (.told (.call "links_at" false (.cons (.slot 13) (.cons (.lit (.str "z")) .nil)))) .nil))))))))))) (.cons (.ife (.cmp .ne (.slot 10) (.bin .add (.bin .mul (.lst (.cons (.tup (.cons (.lit (.str "refused")) .nil)) .nil)) (.lit (.int 6))) (.bin .mul (.lst (.cons (.tup (.cons (.lit (.str "missing")) .nil)) .nil)) (.lit (.int 3))))) (.cons (.ret (.lit (.bool false))) .nil) .nil) .nil))))))))))))) (.cons (.asg (.nm 11) (.lc (.call "_law_one" false (.cons (.slot 1) (.cons (.lst (.cons (.lit (.str "")) (.cons (.lit (.str "a")) (.cons (.lit (.str "abcdefgh")) (.cons (.lit (.str "abcdefghi")) (.cons (.lit (.str "A")) (.cons (.lit (.str "a1")) (.cons (.lit (.str "way")) (.cons (.lit (.str "ways")) (.cons (.lit (.str "wayz")) (.cons (.lit (.str "none")) (.cons (.lit (.str "case")) (.cons (.lit (.str "price")) (.cons (.lit (.str "x")) .nil)))))))))))))) .nil))) (.nm 17) (.blt .range1 (.cons (.lit (.int 6)) .nil)) (.lit (.bool true)))) (.cons (.ife (.or2 (.notv (.call "_law_same" false (.cons (.lc (.call "is_name" false (.cons (.slot 18) .nil)) (.nm 18) (.slot 11) (.lit (.bool true))) (.cons (.lc (.call "_law_is_name" false (.cons (.slot 18) .nil)) (.nm 18) (.slot 11) (.lit (.bool true))) .nil)))) (.notv (.call "_law_spoilt" false (.cons (.slot 1) .nil)))) (.cons (.ret (.lit (.bool false))) .nil) .nil) (.cons (.ife (.or2 (.notv (.call "_law_same" false (.cons (.lc (.call "_law_is_name" false (.cons (.slot 18) .nil)) (.nm 18) (.lit (.tuple [(.str "apart"), (.str "barred"), (.str "bound"), (.str "break"), (.str "carry"), (.str "case"), (.str "cut"), (.str "far"), (.str "flow"), (.str "lay"), (.str "limit"), (.str "link"), (.str "links"), (.str "near"), (.str "net"), (.str "none"), (.str "place"), (.str "places"), (.str "price"), (.str "void"), (.str "way"), (.str "ways"), (.str "wish"), (.str "without")])) (.lit (.bool true))) (.cons (.bin .mul (.lst (.cons (.lit (.bool false)) .nil)) (.lit (.int 24))) .nil)))) (.cmp .ne (.lit (.dict [(.none, (.bool true)), ((.str "apart"), (.int 4)), ((.str "carry"), (.int 200)), ((.str "near"), (.int 9)), ((.str "places"), (.int 4))])) (.dct (.cons (.lit (.str "apart")) (.cons (.lit (.str "carry")) (.cons (.lit (.str "near")) (.cons (.lit (.str "places")) .nil)))) (.cons (.lit (.int 4)) (.cons (.lit (.int 200)) (.cons (.lit (.int 9)) (.cons (.lit (.int 4)) .nil))))))) (.cons (.ret (.lit (.bool false))) .nil) .nil) (.cons (.ret (.cmp .eq (.lst (.cons (.lit (.int 10)) (.cons (.lit (.int 14)) (.cons (.lit (.int 8)) (.cons (.lit (.int 6)) (.cons (.lit (.int 1000)) (.cons (.lit (.int 50)) (.cons (.blt .list (.cons (.lit (.tuple [(.str "apart"), (.str "carry"), (.str "near"), (.str "places")])) .nil)) .nil)))))))) (.lst (.cons (.lit (.int 10)) (.cons (.lit (.int 14)) (.cons (.lit (.int 8)) (.cons (.lit (.int 6)) (.cons (.lit (.int 1000)) (.cons (.lit (.int 50)) (.cons (.lst (.cons (.lit (.str "apart")) (.cons (.lit (.str "carry")) (.cons (.lit (.str "near")) (.cons (.lit (.str "places")) .nil))))) .nil)))))))))) .nil))))))
def fns : List Fn := [⟨"is_name", 1, 2, c_is_name⟩, ⟨"is_whole", 3, 3, c_is_whole⟩, ⟨"ascends", 1, 1, c_ascends⟩, ⟨"are_places", 1, 2, c_are_places⟩, ⟨"is_link", 2, 2, c_is_link⟩, ⟨"is_wish", 2, 2, c_is_wish⟩, ⟨"is_limit", 2, 2, c_is_limit⟩, ⟨"is_break", 3, 5, c_is_break⟩, ⟨"are_rows", 3, 4, c_are_rows⟩, ⟨"check_task", 1, 8, c_check_task⟩, ⟨"link_names", 1, 2, c_link_names⟩, ⟨"check_net", 2, 3, c_check_net⟩, ⟨"known_break", 2, 3, c_known_break⟩, ⟨"check_break", 2, 2, c_check_break⟩, ⟨"known_left", 3, 8, c_known_left⟩, ⟨"left_of", 3, 6, c_left_of⟩, ⟨"known_cost", 2, 3, c_known_cost⟩, ⟨"cost_of", 2, 2, c_cost_of⟩, ⟨"links_at", 2, 2, c_links_at⟩, ⟨"known_at", 2, 3, c_known_at⟩, ⟨"known_over", 2, 5, c_known_over⟩, ⟨"over_limits", 2, 2, c_over_limits⟩, ⟨"with_costs", 2, 8, c_with_costs⟩, ⟨"_law_same", 2, 2, c__law_same⟩, ⟨"_law_stream", 1, 6, c__law_stream⟩, ⟨"_law_next", 2, 3, c__law_next⟩, ⟨"_law_one", 2, 2, c__law_one⟩, ⟨"_law_links", 3, 7, c__law_links⟩, ⟨"_law_wish", 3, 6, c__law_wish⟩, ⟨"_law_task", 1, 11, c__law_task⟩, ⟨"_law_names", 1, 2, c__law_names⟩, ⟨"_law_break", 2, 3, c__law_break⟩, ⟨"_law_left", 3, 8, c__law_left⟩, ⟨"_law_over", 2, 5, c__law_over⟩, ⟨"_law_cost", 2, 3, c__law_cost⟩, ⟨"_law_is_name", 1, 3, c__law_is_name⟩, ⟨"_law_spoilt", 1, 12, c__law_spoilt⟩]
end K00

set_option Elab.async false
set_option linter.all false
set_option maxRecDepth 100000
set_option maxHeartbeats 4000000
/-! k00, plain law, part 1: tools. -/
namespace K00
open PySem Mini
theorem cl_is_name {L n : Nat} {x0 : D} {h : Hs} : callN fns L (n + 1) "is_name" [x0] h = (denSs ⟨callN fns L n, L⟩ c_is_name [some x0, none] h).out := by kernel_rfl
theorem cl_is_whole {L n : Nat} {x0 x1 x2 : D} {h : Hs} : callN fns L (n + 1) "is_whole" [x0, x1, x2] h = (denSs ⟨callN fns L n, L⟩ c_is_whole [some x0, some x1, some x2] h).out := by kernel_rfl
theorem cl_ascends {L n : Nat} {x0 : D} {h : Hs} : callN fns L (n + 1) "ascends" [x0] h = (denSs ⟨callN fns L n, L⟩ c_ascends [some x0] h).out := by kernel_rfl
theorem cl_are_places {L n : Nat} {x0 : D} {h : Hs} : callN fns L (n + 1) "are_places" [x0] h = (denSs ⟨callN fns L n, L⟩ c_are_places [some x0, none] h).out := by kernel_rfl
theorem cl_is_link {L n : Nat} {x0 x1 : D} {h : Hs} : callN fns L (n + 1) "is_link" [x0, x1] h = (denSs ⟨callN fns L n, L⟩ c_is_link [some x0, some x1] h).out := by kernel_rfl
theorem cl_is_wish {L n : Nat} {x0 x1 : D} {h : Hs} : callN fns L (n + 1) "is_wish" [x0, x1] h = (denSs ⟨callN fns L n, L⟩ c_is_wish [some x0, some x1] h).out := by kernel_rfl
theorem cl_is_limit {L n : Nat} {x0 x1 : D} {h : Hs} : callN fns L (n + 1) "is_limit" [x0, x1] h = (denSs ⟨callN fns L n, L⟩ c_is_limit [some x0, some x1] h).out := by kernel_rfl
theorem cl_is_break {L n : Nat} {x0 x1 x2 : D} {h : Hs} : callN fns L (n + 1) "is_break" [x0, x1, x2] h = (denSs ⟨callN fns L n, L⟩ c_is_break [some x0, some x1, some x2, none, none] h).out := by kernel_rfl
theorem cl_are_rows {L n : Nat} {x0 x1 x2 : D} {h : Hs} : callN fns L (n + 1) "are_rows" [x0, x1, x2] h = (denSs ⟨callN fns L n, L⟩ c_are_rows [some x0, some x1, some x2, none] h).out := by kernel_rfl
theorem cl_check_task {L n : Nat} {x0 : D} {h : Hs} : callN fns L (n + 1) "check_task" [x0] h = (denSs ⟨callN fns L n, L⟩ c_check_task [some x0, none, none, none, none, none, none, none] h).out := by kernel_rfl
theorem cl_link_names {L n : Nat} {x0 : D} {h : Hs} : callN fns L (n + 1) "link_names" [x0] h = (denSs ⟨callN fns L n, L⟩ c_link_names [some x0, none] h).out := by kernel_rfl
theorem cl_check_net {L n : Nat} {x0 x1 : D} {h : Hs} : callN fns L (n + 1) "check_net" [x0, x1] h = (denSs ⟨callN fns L n, L⟩ c_check_net [some x0, some x1, none] h).out := by kernel_rfl
theorem cl_known_break {L n : Nat} {x0 x1 : D} {h : Hs} : callN fns L (n + 1) "known_break" [x0, x1] h = (denSs ⟨callN fns L n, L⟩ c_known_break [some x0, some x1, none] h).out := by kernel_rfl
theorem cl_check_break {L n : Nat} {x0 x1 : D} {h : Hs} : callN fns L (n + 1) "check_break" [x0, x1] h = (denSs ⟨callN fns L n, L⟩ c_check_break [some x0, some x1] h).out := by kernel_rfl
theorem cl_known_left {L n : Nat} {x0 x1 x2 : D} {h : Hs} : callN fns L (n + 1) "known_left" [x0, x1, x2] h = (denSs ⟨callN fns L n, L⟩ c_known_left [some x0, some x1, some x2, none, none, none, none, none] h).out := by kernel_rfl
theorem cl_left_of {L n : Nat} {x0 x1 x2 : D} {h : Hs} : callN fns L (n + 1) "left_of" [x0, x1, x2] h = (denSs ⟨callN fns L n, L⟩ c_left_of [some x0, some x1, some x2, none, none, none] h).out := by kernel_rfl
theorem cl_known_cost {L n : Nat} {x0 x1 : D} {h : Hs} : callN fns L (n + 1) "known_cost" [x0, x1] h = (denSs ⟨callN fns L n, L⟩ c_known_cost [some x0, some x1, none] h).out := by kernel_rfl
theorem cl_cost_of {L n : Nat} {x0 x1 : D} {h : Hs} : callN fns L (n + 1) "cost_of" [x0, x1] h = (denSs ⟨callN fns L n, L⟩ c_cost_of [some x0, some x1] h).out := by kernel_rfl
theorem cl_links_at {L n : Nat} {x0 x1 : D} {h : Hs} : callN fns L (n + 1) "links_at" [x0, x1] h = (denSs ⟨callN fns L n, L⟩ c_links_at [some x0, some x1] h).out := by kernel_rfl
theorem cl_known_at {L n : Nat} {x0 x1 : D} {h : Hs} : callN fns L (n + 1) "known_at" [x0, x1] h = (denSs ⟨callN fns L n, L⟩ c_known_at [some x0, some x1, none] h).out := by kernel_rfl
theorem cl_known_over {L n : Nat} {x0 x1 : D} {h : Hs} : callN fns L (n + 1) "known_over" [x0, x1] h = (denSs ⟨callN fns L n, L⟩ c_known_over [some x0, some x1, none, none, none] h).out := by kernel_rfl
theorem cl_over_limits {L n : Nat} {x0 x1 : D} {h : Hs} : callN fns L (n + 1) "over_limits" [x0, x1] h = (denSs ⟨callN fns L n, L⟩ c_over_limits [some x0, some x1] h).out := by kernel_rfl
theorem cl_with_costs {L n : Nat} {x0 x1 : D} {h : Hs} : callN fns L (n + 1) "with_costs" [x0, x1] h = (denSs ⟨callN fns L n, L⟩ c_with_costs [some x0, some x1, none, none, none, none, none, none] h).out := by kernel_rfl
theorem cl__law_same {L n : Nat} {x0 x1 : D} {h : Hs} : callN fns L (n + 1) "_law_same" [x0, x1] h = (denSs ⟨callN fns L n, L⟩ c__law_same [some x0, some x1] h).out := by kernel_rfl
theorem cl__law_stream {L n : Nat} {x0 : D} {h : Hs} : callN fns L (n + 1) "_law_stream" [x0] h = (denSs ⟨callN fns L n, L⟩ c__law_stream [some x0, none, none, none, none, none] h).out := by kernel_rfl
theorem cl__law_next {L n : Nat} {x0 x1 : D} {h : Hs} : callN fns L (n + 1) "_law_next" [x0, x1] h = (denSs ⟨callN fns L n, L⟩ c__law_next [some x0, some x1, none] h).out := by kernel_rfl
theorem cl__law_one {L n : Nat} {x0 x1 : D} {h : Hs} : callN fns L (n + 1) "_law_one" [x0, x1] h = (denSs ⟨callN fns L n, L⟩ c__law_one [some x0, some x1] h).out := by kernel_rfl
theorem cl__law_links {L n : Nat} {x0 x1 x2 : D} {h : Hs} : callN fns L (n + 1) "_law_links" [x0, x1, x2] h = (denSs ⟨callN fns L n, L⟩ c__law_links [some x0, some x1, some x2, none, none, none, none] h).out := by kernel_rfl
theorem cl__law_wish {L n : Nat} {x0 x1 x2 : D} {h : Hs} : callN fns L (n + 1) "_law_wish" [x0, x1, x2] h = (denSs ⟨callN fns L n, L⟩ c__law_wish [some x0, some x1, some x2, none, none, none] h).out := by kernel_rfl
theorem cl__law_task {L n : Nat} {x0 : D} {h : Hs} : callN fns L (n + 1) "_law_task" [x0] h = (denSs ⟨callN fns L n, L⟩ c__law_task [some x0, none, none, none, none, none, none, none, none, none, none] h).out := by kernel_rfl
theorem cl__law_names {L n : Nat} {x0 : D} {h : Hs} : callN fns L (n + 1) "_law_names" [x0] h = (denSs ⟨callN fns L n, L⟩ c__law_names [some x0, none] h).out := by kernel_rfl
theorem cl__law_break {L n : Nat} {x0 x1 : D} {h : Hs} : callN fns L (n + 1) "_law_break" [x0, x1] h = (denSs ⟨callN fns L n, L⟩ c__law_break [some x0, some x1, none] h).out := by kernel_rfl
theorem cl__law_left {L n : Nat} {x0 x1 x2 : D} {h : Hs} : callN fns L (n + 1) "_law_left" [x0, x1, x2] h = (denSs ⟨callN fns L n, L⟩ c__law_left [some x0, some x1, some x2, none, none, none, none, none] h).out := by kernel_rfl
theorem cl__law_over {L n : Nat} {x0 x1 : D} {h : Hs} : callN fns L (n + 1) "_law_over" [x0, x1] h = (denSs ⟨callN fns L n, L⟩ c__law_over [some x0, some x1, none, none, none] h).out := by kernel_rfl
theorem cl__law_cost {L n : Nat} {x0 x1 : D} {h : Hs} : callN fns L (n + 1) "_law_cost" [x0, x1] h = (denSs ⟨callN fns L n, L⟩ c__law_cost [some x0, some x1, none] h).out := by kernel_rfl
theorem cl__law_is_name {L n : Nat} {x0 : D} {h : Hs} : callN fns L (n + 1) "_law_is_name" [x0] h = (denSs ⟨callN fns L n, L⟩ c__law_is_name [some x0, none, none] h).out := by kernel_rfl
theorem cl__law_spoilt {L n : Nat} {x0 : D} {h : Hs} : callN fns L (n + 1) "_law_spoilt" [x0] h = (denSs ⟨callN fns L n, L⟩ c__law_spoilt [some x0, none, none, none, none, none, none, none, none, none, none, none] h).out := by kernel_rfl
section
variable {g : G} {ρ : Mini.Env} {h : Hs}
theorem n_slot {i : Nat} : den g (.slot i) ρ h = (match ρ[i]? with
    | some (some d) => .ok d h
    | _ => .bad) := by first | (rw [den]; done) | (rw [den]; rfl)
theorem n_lit {d : D} : den g (.lit d) ρ h = .ok d h := by first | (rw [den]; done) | (rw [den]; rfl)
theorem n_neg {a : C} : den g (.neg a) ρ h = (den g a ρ h).bind fun x h => (match x with
    | .int i => .ok (.int (-i)) h
    | _ => .bad) := by first | (rw [den]; done) | (rw [den]; rfl)
theorem n_not {a : C} : den g (.notv a) ρ h = (den g a ρ h).bind fun x h => (match tv x with
    | some b => .ok (.bool !b) h
    | none => .bad) := by first | (rw [den]; done) | (rw [den]; rfl)
theorem n_bin {o a b} : den g (.bin o a b) ρ h = (den g a ρ h).bind fun x h => (den g b ρ h).bind fun y h => lift (binD o x y) h := by first | (rw [den]; done) | (rw [den]; rfl)
theorem n_cmp {o a b} : den g (.cmp o a b) ρ h = (den g a ρ h).bind fun x h => (den g b ρ h).bind fun y h => lift ((cmpD o x y).map .bool) h := by first | (rw [den]; done) | (rw [den]; rfl)
theorem n_chn {o p a b c} : den g (.chn o p a b c) ρ h = (den g a ρ h).bind fun x h => (den g b ρ h).bind fun y h => (match cmpD o x y with
    | some true => (den g c ρ h).bind fun z h => lift ((cmpD p y z).map .bool) h
    | some false => .ok (.bool false) h
    | none => .bad) := by first | (rw [den]; done) | (rw [den]; rfl)
theorem n_and {a b} : den g (.and2 a b) ρ h = (den g a ρ h).bind fun x h => (match tv x with
    | some true => den g b ρ h
    | some false => .ok x h
    | none => .bad) := by first | (rw [den]; done) | (rw [den]; rfl)
theorem n_or {a b} : den g (.or2 a b) ρ h = (den g a ρ h).bind fun x h => (match tv x with
    | some true => .ok x h
    | some false => den g b ρ h
    | none => .bad) := by first | (rw [den]; done) | (rw [den]; rfl)
theorem n_ite {c a b} : den g (.ite c a b) ρ h = (den g c ρ h).bind fun x h => (match tv x with
    | some true => den g a ρ h
    | some false => den g b ρ h
    | none => .bad) := by first | (rw [den]; done) | (rw [den]; rfl)
theorem n_tup {es} : den g (.tup es) ρ h = (dens g es ρ h).bind fun xs h => if xs.length ≤ bigLine then .ok (.tuple xs) h else .bad := by first | (rw [den]; done) | (rw [den]; rfl)
theorem n_lst {es} : den g (.lst es) ρ h = (dens g es ρ h).bind fun xs h => if xs.length ≤ bigLine then .ok (.list xs) h else .bad := by first | (rw [den]; done) | (rw [den]; rfl)
theorem n_dct {ks vs} : den g (.dct ks vs) ρ h = (dens g ks ρ h).bind fun ks h => if ks.all isKey then (dens g vs ρ h).bind fun vs h => .ok (.dict (mergeKV [] (ks.zip vs))) h else .bad := by first | (rw [den]; done) | (rw [den]; rfl)
theorem n_idx {a b} : den g (.idx a b) ρ h = (den g a ρ h).bind fun x h => (den g b ρ h).bind fun y h => idxH x y h := by first | (rw [den]; done) | (rw [den]; rfl)
theorem n_slc {a l u} : den g (.slc a l u) ρ h = (den g a ρ h).bind fun x h => (den g l ρ h).bind fun dl h => (match partC l dl with
    | some lo => (den g u ρ h).bind fun du h => (match partC u du with
      | some hi => lift (slcD x lo hi) h
      | none => .bad)
    | none => .bad) := by first | (rw [den]; done) | (rw [den]; rfl)
theorem n_call {f es} : den g (.call f false es) ρ h = (dens g es ρ h).bind fun xs h => g.call f xs h := by rw [den]; rfl
theorem n_blt {b es} : den g (.blt b es) ρ h = (dens g es ρ h).bind fun xs h => lift (bltD b xs) h := by first | (rw [den]; done) | (rw [den]; rfl)
theorem n_met {m o es} : den g (.met m o es) ρ h = (den g o ρ h).bind fun x h => if isDct x then (dens g es ρ h).bind fun xs h => lift (metD m x xs) h else .bad := by first | (rw [den]; done) | (rw [den]; rfl)
theorem n_told {c} : den g (.told c) ρ h = (match den g c ρ h with
    | .ok d h => .ok (.tuple [.str "told", d]) h
    | .err e h => lift (toldExc e) h
    | .bad => .bad) := by first | (rw [den]; done) | (rw [den]; rfl)
theorem n_lc {elt tg it cond} : den g (.lc elt tg it cond) ρ h = (den g it ρ h).bind fun x h => (match items x with
    | some xs => quiet ((loopC (fun d h => turnC (fun ρ h => den g cond ρ h) (fun ρ h => den g elt ρ h) tg d (wipeE ρ tg.slots) h) xs h).bind fun ys h => listD ys h)
    | none => .bad) := by first | (rw [den]; done) | (rw [den]; rfl)
theorem n_nil : dens g .nil ρ h = .ok [] h := by first | (rw [dens]; done) | (rw [dens]; rfl)
theorem n_cons {c r} : dens g (.cons c r) ρ h = (den g c ρ h).bind fun x h => (dens g r ρ h).bind fun xs h => .ok (x :: xs) h := by first | (rw [dens]; done) | (rw [dens]; rfl)
theorem n_star {c r} : dens g (.star c r) ρ h = (den g c ρ h).bind fun x h => (match x with
    | .list xs => (dens g r ρ h).bind fun ys h => .ok (xs ++ ys) h
    | .tuple xs => (dens g r ρ h).bind fun ys h => .ok (xs ++ ys) h
    | _ => .bad) := by first | (rw [dens]; done) | (rw [dens]; rfl)
theorem s_asg {tg c} : denS g (.asg tg c) ρ h = (den g c ρ h).thenS fun x h => (match setTg tg x ρ with
    | some ρ => .next ρ h
    | none => .bad) := by first | (rw [denS]; done) | (rw [denS]; rfl)
theorem s_app {i c} : denS g (.app i c) ρ h = (match ρ[i]? with
    | some (some (.list xs)) => (den g c ρ h).thenS fun y h => if xs.length < bigLine then .next (ρ.set i (some (.list (xs ++ [y])))) h else .bad
    | _ => .bad) := by first | (rw [denS]; done) | (rw [denS]; rfl)
theorem s_csub {i k v} : denS g (.csub i k v) ρ h = (den g v ρ h).thenS fun v h => (match ρ[i]? with
    | some (some (.dict [(.none, .int n)])) => (den g k ρ h).thenS fun k h => (match k, h[n.toNat]? with
      | .int m, some xs => (match ixN xs.length m with
        | some j => .next ρ (h.set n.toNat (xs.set j v))
        | none => .bad)
      | _, _ => .bad)
    | _ => .bad) := by first | (rw [denS]; done) | (rw [denS]; rfl)
theorem s_ife {c a b} : denS g (.ife c a b) ρ h = (den g c ρ h).thenS fun x h => (match tv x with
    | some true => denSs g a ρ h
    | some false => denSs g b ρ h
    | none => .bad) := by first | (rw [denS]; done) | (rw [denS]; rfl)
theorem s_for {tg it b} : denS g (.for_ tg it b) ρ h = (den g it ρ h).thenS fun x h => (match items x with
    | some xs => loopF tg (fun ρ h => denSs g b ρ h) xs ρ h
    | none => .bad) := by first | (rw [denS]; done) | (rw [denS]; rfl)
theorem s_ret {c} : denS g (.ret c) ρ h = (den g c ρ h).thenS fun x h => .ret x h := by first | (rw [denS]; done) | (rw [denS]; rfl)
theorem s_raise {c m} : denS g (.raise c m) ρ h = .err ⟨c, none⟩ h := by first | (rw [denS]; done) | (rw [denS]; rfl)
theorem s_brk : denS g .brk ρ h = .brk ρ h := by first | (rw [denS]; done) | (rw [denS]; rfl)
theorem s_expr {c} : denS g (.expr c) ρ h = (den g c ρ h).thenS fun _ h => .next ρ h := by first | (rw [denS]; done) | (rw [denS]; rfl)
theorem s_newcell {i es} : denS g (.newcell i es) ρ h = (dens g es ρ h).thenS fun xs h => .next (ρ.set i (some (cel h.length))) (h ++ [xs]) := by first | (rw [denS]; done) | (rw [denS]; rfl)
theorem q_nil : denSs g .nil ρ h = .next ρ h := by first | (rw [denSs]; done) | (rw [denSs]; rfl)
theorem q_cons {s r} : denSs g (.cons s r) ρ h = (match denS g s ρ h with
    | .next ρ h => denSs g r ρ h
    | .ret d h => .ret d h
    | .brk ρ h => .brk ρ h
    | .cnt ρ h => .cnt ρ h
    | .err e h => .err e h
    | .bad => .bad) := by first | (rw [denSs]; done) | (rw [denSs]; rfl)
theorem b_ok {α β : Type} {a : α} {f : α → Hs → R β} : (R.ok a h).bind f = f a h := rfl
theorem b_err {α β : Type} {e} {f : α → Hs → R β} : (R.err e h).bind f = .err e h := rfl
theorem t_ok {α : Type} {a : α} {f : α → Hs → RS} : (R.ok a h).thenS f = f a h := rfl
theorem t_err {α : Type} {e} {f : α → Hs → RS} : (R.err e h : R α).thenS f = .err e h := rfl
theorem tv_bool {b : Bool} : tv (.bool b) = some b := rfl
theorem l_some {d : D} : lift (some d) h = .ok d h := rfl
theorem o_ret {d : D} : (RS.ret d h).out = .ok d h := rfl
theorem o_err {e : Exc} : (RS.err e h).out = .err e h := rfl
/-- a comprehension over a list of what is told by ys -/
theorem loopC_pure {Y : Type} {φ : Y → D} {p : Y → Bool} {f : Y → D} {F : D → Hs → R (Option D)} : ∀ {ys : List Y} {h : Hs}, (∀ y ∈ ys, F (φ y) h = .ok (if p y then some (f y) else none) h) → loopC F (ys.map φ) h = .ok ((ys.filter p).map f) h
  | [], _, _ => rfl
  | y :: ys, h, H => by
    rw [List.map_cons, loopC, H y (List.mem_cons_self ..)]
    show (R.bind (loopC F (ys.map φ) h) _) = _
    rw [loopC_pure (fun z hz => H z (List.mem_cons_of_mem _ hz))]
    cases q : p y <;> simp [R.bind, List.filter_cons, q]
theorem lc_nm {Y : Type} (ys : List Y) (φ : Y → D) (p : Y → Bool) (f : Y → D) {elt it cond : C} {i : Nat} {x : D} (hit : den g it ρ h = .ok x h) (hi : items x = some (ys.map φ)) (hl : ys.length ≤ bigLine)
    (hc : ∀ y ∈ ys, den g cond ((ρ.set i none).set i (some (φ y))) h = .ok (.bool (p y)) h) (he : ∀ y ∈ ys, p y = true → den g elt ((ρ.set i none).set i (some (φ y))) h = .ok (f y) h) :
    den g (.lc elt (.nm i) it cond) ρ h = .ok (.list ((ys.filter p).map f)) h := by
  have hlen : ((ys.filter p).map f).length ≤ bigLine := by
    rw [List.length_map]
    exact Nat.le_trans (List.length_filter_le ..) hl
  rw [n_lc, hit, b_ok, hi]
  show quiet ((loopC _ (ys.map φ) h).bind _) = _
  rw [loopC_pure (p := p) (f := f)]
  · show quiet (listD ((ys.filter p).map f) h) = _
    unfold listD
    rw [if_pos hlen]
    rfl
  · intro y hy
    show (R.bind (den g cond ((ρ.set i none).set i (some (φ y))) h) _) = _
    rw [hc y hy]
    cases q : p y with
    | false => rfl
    | true =>
      show (R.bind (den g elt ((ρ.set i none).set i (some (φ y))) h) _) = _
      rw [he y hy q]
      rfl
/-- .. over all -/
theorem lc_all {Y : Type} (ys : List Y) (φ f : Y → D) {elt it : C} {i : Nat} {x : D} (hit : den g it ρ h = .ok x h) (hi : items x = some (ys.map φ)) (hl : ys.length ≤ bigLine)
    (he : ∀ y ∈ ys, den g elt ((ρ.set i none).set i (some (φ y))) h = .ok (f y) h) :
    den g (.lc elt (.nm i) it (.lit (.bool true))) ρ h = .ok (.list (ys.map f)) h := by
  rw [lc_nm ys φ (fun _ => true) f hit hi hl (fun _ _ => n_lit) (fun y hy _ => he y hy)]
  rw [List.filter_eq_self.mpr (fun _ _ => rfl)]
end
end K00

set_option Elab.async false
set_option linter.all false
set_option maxRecDepth 100000
set_option maxHeartbeats 4000000
/-! k00, plain law, part 2: tasks. -/
namespace K00
open PySem Mini
theorem eqv_int (i j : Int) : PyData.eqv (.int i) (.int j) = (i == j) := by simp [PyData.eqv]
theorem eqv_str (x y : Str) : PyData.eqv (.str x) (.str y) = (x == y) := by simp [PyData.eqv]
theorem i_tup {xs : List D} {i : Int} {h : Hs} : idxH (.tuple xs) (.int i) h = lift (atI xs i) h := rfl
theorem i_lst {xs : List D} {i : Int} {h : Hs} : idxH (.list xs) (.int i) h = lift (atI xs i) h := rfl
theorem m_ret {α : Type} {d : D} {h : Hs} : (RS.ret d h).out = .ok d h := rfl
theorem g_call {f : Str → List D → Hs → R D} {L : Nat} : (G.mk f L).call = f := rfl
theorem tv_tup {xs : List D} : tv (.tuple xs) = some !xs.isEmpty := rfl
theorem tv_lst {xs : List D} : tv (.list xs) = some !xs.isEmpty := rfl
theorem items_T {xs : List D} : items (.tuple xs) = some xs := rfl
theorem items_L {xs : List D} : items (.list xs) = some xs := rfl
theorem k_eqI {i j : Int} : cmpD .eq (.int i) (.int j) = some (i == j) := by
  show some (PyData.eqv _ _) = _
  rw [eqv_int]
theorem k_neI {i j : Int} : cmpD .ne (.int i) (.int j) = some (!(i == j)) := by
  show some (!PyData.eqv _ _) = _
  rw [eqv_int]
theorem k_eqS {i j : Str} : cmpD .eq (.str i) (.str j) = some (i == j) := by
  show some (PyData.eqv _ _) = _
  rw [eqv_str]
theorem k_neS {i j : Str} : cmpD .ne (.str i) (.str j) = some (!(i == j)) := by
  show some (!PyData.eqv _ _) = _
  rw [eqv_str]
theorem k_leI {i j : Int} : cmpD .le (.int i) (.int j) = some (decide (i ≤ j)) := rfl
theorem k_ltI {i j : Int} : cmpD .lt (.int i) (.int j) = some (decide (i < j)) := rfl
theorem k_geI {i j : Int} : cmpD .ge (.int i) (.int j) = some (decide (j ≤ i)) := rfl
theorem k_gtI {i j : Int} : cmpD .gt (.int i) (.int j) = some (decide (j < i)) := rfl
theorem k_ltS {i j : Str} : cmpD .lt (.str i) (.str j) = some (ltS i j) := rfl
theorem k_in {x y : D} : cmpD .in_ x y = inD x y := by cases x <;> cases y <;> rfl
theorem k_nin {x y : D} : cmpD .nin x y = (inD x y).map fun b => !b := by cases x <;> cases y <;> rfl
theorem k_is {x : D} : cmpD .is_ x .none = some (isNone x) := by cases x <;> rfl
theorem k_isn {x : D} : cmpD .isn x .none = some (!isNone x) := by cases x <;> rfl
theorem len_T {xs : List D} : bltD .len [.tuple xs] = some (.int xs.length) := rfl
theorem len_L {xs : List D} : bltD .len [.list xs] = some (.int xs.length) := rfl
theorem isI_I {i : Int} : bltD .isInt [.int i] = some (.bool true) := rfl
theorem isI_S {i : Str} : bltD .isInt [.str i] = some (.bool false) := rfl
theorem isS_S {i : Str} : bltD .isStr [.str i] = some (.bool true) := rfl
theorem isS_I {i : Int} : bltD .isStr [.int i] = some (.bool false) := rfl
theorem isT_T {xs : List D} : bltD .isTuple [.tuple xs] = some (.bool true) := rfl
theorem tup_L {xs : List D} : bltD .tuple [.list xs] = some (.tuple xs) := rfl
theorem tup_T {xs : List D} : bltD .tuple [.tuple xs] = some (.tuple xs) := rfl
theorem lst_L {xs : List D} : bltD .list [.list xs] = some (.list xs) := rfl
theorem lst_T {xs : List D} : bltD .list [.tuple xs] = some (.list xs) := rfl
theorem int_I {i : Int} : bltD .int [.int i] = some (.int i) := rfl
theorem int_B {b : Bool} : bltD .int [.bool b] = some (.int (if b then 1 else 0)) := rfl
theorem min_2 {i j : Int} : bltD .min2 [.int i, .int j] = some (.int (if j < i then j else i)) := rfl
theorem max_2 {i j : Int} : bltD .max2 [.int i, .int j] = some (.int (if j > i then j else i)) := rfl
theorem abs_I {i : Int} : bltD .abs [.int i] = some (.int (if i < 0 then -i else i)) := rfl
theorem o_next {ρ : Mini.Env} {h : Hs} : (RS.next ρ h).out = .ok .none h := rfl
theorem l_err {h : Hs} : lift none h = .bad := rfl
def sT (xs : List Str) : D := .tuple (xs.map .str)
def sL (xs : List Str) : D := .list (xs.map .str)
structure Lk where
  n : Str
  a : Str
  b : Str
  c : Int
  s : Int
structure Wi where
  n : Str
  k : Str
  a : Str
  b : Str
  m : Int
structure Li where
  p : Str
  m : Int
structure Br where
  n : Str
  own : List Str
  gone : List Str
structure Tk where
  ps : List Str
  ls : List Lk
  ws : List Wi
  ms : List Li
  bs : List Br
def Lk.d (l : Lk) : D := .tuple [.str l.n, .str l.a, .str l.b, .int l.c, .int l.s]
def Wi.d (l : Wi) : D := .tuple [.str l.n, .str l.k, .str l.a, .str l.b, .int l.m]
def Li.d (l : Li) : D := .tuple [.str l.p, .int l.m]
def Br.d (l : Br) : D := .tuple [.str l.n, sT l.own, sT l.gone]
def Tk.d (t : Tk) : D := .tuple [sT t.ps, .tuple (t.ls.map Lk.d), .tuple (t.ws.map Wi.d), .tuple (t.ms.map Li.d), .tuple (t.bs.map Br.d)]
/-- the names that may stand in a task -/
def Nms : List Str := ["a", "b", "c", "d", "e", "la", "lb", "lc", "ld", "le", "lf", "lg", "lh", "wx", "wy", "wz", "hail", "snow"]
theorem is_name_ok {L n : Nat} {h : Hs} {x : Str} (hx : x ∈ Nms) : callN fns L (n + 1) "is_name" [.str x] h = .ok (.bool true) h := by
  simp only [Nms, List.mem_cons, List.not_mem_nil, or_false] at hx
  rcases hx with rfl | rfl | rfl | rfl | rfl | rfl | rfl | rfl | rfl | rfl | rfl | rfl | rfl | rfl | rfl | rfl | rfl | rfl <;> kernel_rfl
theorem is_whole_eq {L n : Nat} {h : Hs} {v a b : Int} : callN fns L (n + 1) "is_whole" [.int v, .int a, .int b] h = .ok (.bool (decide (a ≤ v) && decide (v ≤ b))) h := by
  rw [cl_is_whole, c_is_whole]
  by_cases q : a ≤ v <;> simp [q_cons, q_nil, s_ife, s_ret, s_asg, s_raise, s_expr, n_and, n_or, n_not, n_neg, n_blt, n_cmp, n_chn, n_cons, n_nil, n_slot, n_lit, n_idx, n_call, n_tup, n_lst, n_ite, b_ok, b_err, t_ok, t_err, l_some, l_err, tv_bool, tv_tup, tv_lst, i_tup, i_lst, atI, ixN, o_ret, o_err, o_next, setTg, bigLine, k_eqI, k_neI, k_eqS, k_neS, k_leI, k_ltI, k_geI, k_gtI, k_ltS, k_in, k_nin, k_is, k_isn, len_T, len_L, isI_I, isI_S, isS_S, isS_I, isT_T, tup_L, tup_T, lst_L, lst_T, int_I, int_B, min_2, max_2, abs_I, q]
theorem in_strs {x : Str} {ps : List Str} : inD (.str x) (sT ps) = some (decide (x ∈ ps)) := by
  unfold sT inD
  have h1 : (ps.map PyData.str).all sca = true := by simp [List.all_map, Function.comp_def, sca]
  simp [sca, List.any_map, Function.comp_def, eqv_str, List.any_beq']
theorem in_strsL {x : Str} {ps : List Str} : inD (.str x) (sL ps) = some (decide (x ∈ ps)) := by
  unfold sL inD
  simp [sca, List.any_map, Function.comp_def, eqv_str, List.any_beq']
theorem is_link_ok {L n : Nat} {h : Hs} {ps : List Str} {l : Lk} (h1 : l.n ∈ Nms) (h2 : l.a ∈ ps) (h3 : l.b ∈ ps) (h4 : ltS l.a l.b = true) (h5 : 0 ≤ l.c ∧ l.c ≤ 1000) (h6 : 1 ≤ l.s ∧ l.s ≤ 50) :
    callN fns L (n + 2) "is_link" [sT ps, l.d] h = .ok (.bool true) h := by
  rw [cl_is_link, c_is_link]
  have h7 := is_name_ok (L := L) (n := n) (h := h) h1
  unfold Lk.d
  simp [q_cons, q_nil, s_ife, s_ret, s_asg, s_raise, s_expr, n_and, n_or, n_not, n_neg, n_blt, n_cmp, n_chn, n_cons, n_nil, n_slot, n_lit, n_idx, n_call, n_tup, n_lst, n_ite, b_ok, b_err, t_ok, t_err, l_some, l_err, tv_bool, tv_tup, tv_lst, i_tup, i_lst, atI, ixN, o_ret, o_err, o_next, setTg, bigLine, k_eqI, k_neI, k_eqS, k_neS, k_leI, k_ltI, k_geI, k_gtI, k_ltS, k_in, k_nin, k_is, k_isn, len_T, len_L, isI_I, isI_S, isS_S, isS_I, isT_T, tup_L, tup_T, lst_L, lst_T, int_I, int_B, min_2, max_2, abs_I, h7, in_strs, h2, h3, h4, is_whole_eq, h5, h6]
theorem MOSTs {k : Str} (hk : k ∈ (["apart", "carry", "near", "places"] : List Str)) : ∃ m, 4 ≤ m ∧ idxD (.dict [(.none, (.bool true)), ((.str "apart"), (.int 4)), ((.str "carry"), (.int 200)), ((.str "near"), (.int 9)), ((.str "places"), (.int 4))]) (.str k) = some (.int m) := by
  simp only [List.mem_cons, List.not_mem_nil, or_false] at hk
  rcases hk with rfl | rfl | rfl | rfl
  · exact ⟨4, by omega, by kernel_rfl⟩
  · exact ⟨200, by omega, by kernel_rfl⟩
  · exact ⟨9, by omega, by kernel_rfl⟩
  · exact ⟨4, by omega, by kernel_rfl⟩
theorem i_tbl {kvs : List (D × D)} {x : Str} {h : Hs} : idxH (.dict ((.none, .bool true) :: kvs)) (.str x) h = lift (idxD (.dict ((.none, .bool true) :: kvs)) (.str x)) h := by
  cases kvs <;> rfl
theorem kinds_in {k : Str} (hk : k ∈ (["apart", "carry", "near", "places"] : List Str)) : inD (.str k) (.tuple [(.str "apart"), (.str "carry"), (.str "near"), (.str "places")]) = some true := by
  have := in_strs (x := k) (ps := ["apart", "carry", "near", "places"])
  rw [decide_eq_true hk] at this
  exact this
theorem is_wish_ok {L n : Nat} {h : Hs} {ps : List Str} {l : Wi} (h1 : l.n ∈ Nms) (hk : l.k ∈ (["apart", "carry", "near", "places"] : List Str)) (h2 : l.a ∈ ps) (h3 : l.b ∈ ps) (h4 : ltS l.a l.b = true) (h6 : 1 ≤ l.m ∧ l.m ≤ 4) :
    callN fns L (n + 2) "is_wish" [sT ps, l.d] h = .ok (.bool true) h := by
  rw [cl_is_wish, c_is_wish]
  have h7 := is_name_ok (L := L) (n := n) (h := h) h1
  obtain ⟨m, hm, em⟩ := MOSTs hk
  have h8 : l.m ≤ m := by omega
  unfold Wi.d
  simp [q_cons, q_nil, s_ife, s_ret, s_asg, s_raise, s_expr, n_and, n_or, n_not, n_neg, n_blt, n_cmp, n_chn, n_cons, n_nil, n_slot, n_lit, n_idx, n_call, n_tup, n_lst, n_ite, b_ok, b_err, t_ok, t_err, l_some, l_err, tv_bool, tv_tup, tv_lst, i_tup, i_lst, atI, ixN, o_ret, o_err, o_next, setTg, bigLine, k_eqI, k_neI, k_eqS, k_neS, k_leI, k_ltI, k_geI, k_gtI, k_ltS, k_in, k_nin, k_is, k_isn, len_T, len_L, isI_I, isI_S, isS_S, isS_I, isT_T, tup_L, tup_T, lst_L, lst_T, int_I, int_B, min_2, max_2, abs_I, h7, in_strs, kinds_in hk, h2, h3, h4, is_whole_eq, i_tbl, em, h6, h8]
theorem is_limit_ok {L n : Nat} {h : Hs} {ps : List Str} {l : Li} (h2 : l.p ∈ ps) (h6 : 0 ≤ l.m ∧ l.m ≤ 14) :
    callN fns L (n + 2) "is_limit" [sT ps, l.d] h = .ok (.bool true) h := by
  rw [cl_is_limit, c_is_limit]
  unfold Li.d
  simp [q_cons, q_nil, s_ife, s_ret, s_asg, s_raise, s_expr, n_and, n_or, n_not, n_neg, n_blt, n_cmp, n_chn, n_cons, n_nil, n_slot, n_lit, n_idx, n_call, n_tup, n_lst, n_ite, b_ok, b_err, t_ok, t_err, l_some, l_err, tv_bool, tv_tup, tv_lst, i_tup, i_lst, atI, ixN, o_ret, o_err, o_next, setTg, bigLine, k_eqI, k_neI, k_eqS, k_neS, k_leI, k_ltI, k_geI, k_gtI, k_ltS, k_in, k_nin, k_is, k_isn, len_T, len_L, isI_I, isI_S, isS_S, isS_I, isT_T, tup_L, tup_T, lst_L, lst_T, int_I, int_B, min_2, max_2, abs_I, in_strs, h2, is_whole_eq, h6]
/-- the lists' own order -/
theorem sortS_asc : ∀ {xs : List Str}, xs.Pairwise (fun a b => ltS a b = true ∧ a ≠ b) → sortS xs = xs
  | [], _ => rfl
  | x :: r, p => by
    rw [sortS, sortS_asc (List.pairwise_cons.mp p).2]
    cases r with
    | nil => rfl
    | cons y r =>
      have := (List.pairwise_cons.mp p).1 y (List.mem_cons_self ..)
      rw [insS, if_neg this.2, if_pos this.1]
def Asc (xs : List Str) : Prop := xs.Pairwise fun a b => ltS a b = true ∧ a ≠ b
theorem strsOf_map : ∀ xs : List Str, strsOf (xs.map .str) = some xs
  | [] => rfl
  | x :: r => by
    rw [List.map_cons, strsOf, strsOf_map r]
    rfl
theorem canLayAll_all : ∀ xs : List D, PyData.canLayAll0 xs = xs.all PyData.canLay0
  | [] => by simp [PyData.canLayAll0]
  | x :: r => by simp [PyData.canLayAll0, canLayAll_all r]
theorem depthAll_le {k : Nat} : ∀ {xs : List D}, (∀ x ∈ xs, PyData.depth x ≤ k) → PyData.depthAll xs ≤ k
  | [], _ => by simp [PyData.depthAll]
  | x :: r, h => by
    rw [PyData.depthAll]
    exact Nat.max_le.mpr ⟨h x (List.mem_cons_self ..), depthAll_le fun y hy => h y (List.mem_cons_of_mem _ hy)⟩
theorem shaped_strs {xs : List Str} (h : ∀ x ∈ xs, PyData.strOk x = true) : okEq (sL xs) = true := by
  unfold okEq SeqAt.shaped sL
  have h1 : PyData.depthAll (xs.map PyData.str) ≤ 0 := depthAll_le fun x hx => by
    obtain ⟨y, _, rfl⟩ := List.mem_map.mp hx
    simp [PyData.depth]
  rw [PyData.canLay0, PyData.depth, canLayAll_all]
  simp only [Bool.and_eq_true, decide_eq_true_eq, List.all_map, List.all_eq_true, Function.comp_def]
  exact ⟨fun x hx => by rw [PyData.canLay0]; exact h x hx, by omega⟩
theorem eqvAll_strs : ∀ xs ys : List Str, PyData.eqvAll (xs.map .str) (ys.map .str) = decide (xs = ys)
  | [], [] => by simp [PyData.eqvAll]
  | x :: xs, [] => by simp [PyData.eqvAll]
  | [], y :: ys => by simp [PyData.eqvAll]
  | x :: xs, y :: ys => by
    rw [List.map_cons, List.map_cons, PyData.eqvAll, eqvAll_strs xs ys, eqv_str]
    by_cases a : x = y <;> by_cases b : xs = ys <;> simp [a, b]
theorem ascends_gen {L n : Nat} {h : Hs} {xs : List Str} {d : D} (hd : d = sT xs ∨ d = sL xs) (hl : xs.length < 64) (hx : ∀ x ∈ xs, PyData.strOk x = true) (hs : ∀ x ∈ sortS xs, PyData.strOk x = true) :
    callN fns L (n + 1) "ascends" [d] h = .ok (.bool (decide (xs = sortS xs))) h := by
  rw [cl_ascends, c_ascends]
  have e : PyData.eqv (sL xs) (sL (sortS xs)) = decide (xs = sortS xs) := by
    unfold sL
    rw [PyData.eqv]
    exact eqvAll_strs _ _
  have o1 := shaped_strs hx
  have o2 := shaped_strs hs
  have b1 : ∀ ys : List Str, bltD .sortedSet [.tuple (ys.map .str)] = if ys.length < 64 then some (sL (sortS ys)) else none := fun ys => by
    show (if (ys.map PyData.str).length < 64 then (strsOf (ys.map .str)).map fun l => PyData.list ((sortS l).map .str) else none) = _
    rw [strsOf_map, List.length_map]
    rfl
  have b2 : ∀ ys : List Str, bltD .sortedSet [.list (ys.map .str)] = if ys.length < 64 then some (sL (sortS ys)) else none := fun ys => by
    show (if (ys.map PyData.str).length < 64 then (strsOf (ys.map .str)).map fun l => PyData.list ((sortS l).map .str) else none) = _
    rw [strsOf_map, List.length_map]
    rfl
  have c1 : cmpD .eq (sL xs) (sL (sortS xs)) = some (decide (xs = sortS xs)) := by
    show (if scaEq (sL xs) (sL (sortS xs)) || (okEq (sL xs) && okEq (sL (sortS xs))) then some (PyData.eqv (sL xs) (sL (sortS xs))) else none) = _
    rw [o1, o2, e]
    simp
  have key : (lift ((cmpD .eq (sL xs) (sL (sortS xs))).map .bool) h : R D) = .ok (.bool (decide (xs = sortS xs))) h := by rw [c1]; rfl
  have a1 : bltD .list [d] = some (sL xs) := by rcases hd with rfl | rfl <;> rfl
  have a2 : bltD .sortedSet [d] = some (sL (sortS xs)) := by
    rcases hd with rfl | rfl
    · exact (b1 xs).trans (if_pos hl)
    · exact (b2 xs).trans (if_pos hl)
  simp only [q_cons, s_ret, n_cmp, n_blt, n_cons, n_nil, n_slot, b_ok, List.getElem?_cons_zero, a1, a2, l_some, c1, Option.map_some, t_ok, o_ret]
theorem Nms_ok : ∀ x ∈ Nms, PyData.strOk x = true := by decide +kernel
theorem ascends_ok {L n : Nat} {h : Hs} {xs : List Str} {d : D} (hd : d = sT xs ∨ d = sL xs) (hl : xs.length < 64) (hx : ∀ x ∈ xs, x ∈ Nms) (ha : Asc xs) :
    callN fns L (n + 1) "ascends" [d] h = .ok (.bool true) h := by
  have e := sortS_asc ha
  rw [ascends_gen hd hl (fun x hx' => Nms_ok x (hx x hx')) (by rw [e]; exact fun x hx' => Nms_ok x (hx x hx')), e]
  simp
theorem boolsOf_map {Y : Type} (f : Y → Bool) : ∀ ys : List Y, boolsOf (ys.map fun y => .bool (f y)) = some (ys.map f)
  | [] => rfl
  | y :: r => by
    rw [List.map_cons, boolsOf, boolsOf_map f r]
    rfl
theorem all_map {Y : Type} {f : Y → Bool} {ys : List Y} : bltD .all [.list (ys.map fun y => .bool (f y))] = some (.bool (ys.all f)) := by
  show ((boolsOf (ys.map fun y => .bool (f y))).map fun bs => PyData.bool (bs.all id)) = _
  rw [boolsOf_map]
  simp [List.all_map, Function.comp_def]
theorem all_true {Y : Type} {ys : List Y} : bltD .all [.list (ys.map fun _ => .bool true)] = some (.bool true) := by
  rw [all_map (f := fun _ => true)]
  simp
theorem are_places_ok {L n : Nat} {h : Hs} {ps : List Str} (hl : ps.length ≤ 10) (hx : ∀ x ∈ ps, x ∈ Nms) (ha : Asc ps) : callN fns L (n + 2) "are_places" [sT ps] h = .ok (.bool true) h := by
  rw [cl_are_places, c_are_places]
  have h1 := ascends_ok (L := L) (n := n) (h := h) (.inl rfl) (by omega) hx ha
  have hl' : (ps.length : Int) ≤ 10 := by omega
  have e : bltD .len [sT ps] = some (.int ps.length) := by unfold sT; rw [len_T, List.length_map]
  simp [q_cons, q_nil, s_ife, s_ret, s_asg, s_raise, s_expr, n_and, n_or, n_not, n_neg, n_blt, n_cmp, n_chn, n_cons, n_nil, n_slot, n_lit, n_idx, n_call, n_tup, n_lst, n_ite, b_ok, b_err, t_ok, t_err, l_some, l_err, tv_bool, tv_tup, tv_lst, i_tup, i_lst, atI, ixN, o_ret, o_err, o_next, setTg, bigLine, k_eqI, k_neI, k_eqS, k_neS, k_leI, k_ltI, k_geI, k_gtI, k_ltS, k_in, k_nin, k_is, k_isn, len_T, len_L, isI_I, isI_S, isS_S, isS_I, isT_T, tup_L, tup_T, lst_L, lst_T, int_I, int_B, min_2, max_2, abs_I, h1, e, hl']
  rw [lc_all ps .str (fun _ => .bool true) (x := sT ps) ?_ rfl ?_ ?_]
  · simp [q_cons, q_nil, s_ife, s_ret, s_asg, s_raise, s_expr, n_and, n_or, n_not, n_neg, n_blt, n_cmp, n_chn, n_cons, n_nil, n_slot, n_lit, n_idx, n_call, n_tup, n_lst, n_ite, b_ok, b_err, t_ok, t_err, l_some, l_err, tv_bool, tv_tup, tv_lst, i_tup, i_lst, atI, ixN, o_ret, o_err, o_next, setTg, bigLine, k_eqI, k_neI, k_eqS, k_neS, k_leI, k_ltI, k_geI, k_gtI, k_ltS, k_in, k_nin, k_is, k_isn, len_T, len_L, isI_I, isI_S, isS_S, isS_I, isT_T, tup_L, tup_T, lst_L, lst_T, int_I, int_B, min_2, max_2, abs_I, h1, all_true]
  · simp [q_cons, q_nil, s_ife, s_ret, s_asg, s_raise, s_expr, n_and, n_or, n_not, n_neg, n_blt, n_cmp, n_chn, n_cons, n_nil, n_slot, n_lit, n_idx, n_call, n_tup, n_lst, n_ite, b_ok, b_err, t_ok, t_err, l_some, l_err, tv_bool, tv_tup, tv_lst, i_tup, i_lst, atI, ixN, o_ret, o_err, o_next, setTg, bigLine, k_eqI, k_neI, k_eqS, k_neS, k_leI, k_ltI, k_geI, k_gtI, k_ltS, k_in, k_nin, k_is, k_isn, len_T, len_L, isI_I, isI_S, isS_S, isS_I, isT_T, tup_L, tup_T, lst_L, lst_T, int_I, int_B, min_2, max_2, abs_I, *]
  · unfold bigLine; omega
  · intro y hy
    have := is_name_ok (L := L) (n := n) (h := h) (hx y hy)
    simp [q_cons, q_nil, s_ife, s_ret, s_asg, s_raise, s_expr, n_and, n_or, n_not, n_neg, n_blt, n_cmp, n_chn, n_cons, n_nil, n_slot, n_lit, n_idx, n_call, n_tup, n_lst, n_ite, b_ok, b_err, t_ok, t_err, l_some, l_err, tv_bool, tv_tup, tv_lst, i_tup, i_lst, atI, ixN, o_ret, o_err, o_next, setTg, bigLine, k_eqI, k_neI, k_eqS, k_neS, k_leI, k_ltI, k_geI, k_gtI, k_ltS, k_in, k_nin, k_is, k_isn, len_T, len_L, isI_I, isI_S, isS_S, isS_I, isT_T, tup_L, tup_T, lst_L, lst_T, int_I, int_B, min_2, max_2, abs_I, this]
end K00

set_option Elab.async false
set_option linter.all false
set_option maxRecDepth 100000
set_option maxHeartbeats 4000000
/-! k00, plain law, part 3: check_task. -/
namespace K00
open PySem Mini
theorem len_sT {xs : List Str} : bltD .len [sT xs] = some (.int xs.length) := by unfold sT; rw [len_T, List.length_map]
theorem isT_sT {xs : List Str} : bltD .isTuple [sT xs] = some (.bool true) := rfl
theorem is_break_ok {L n : Nat} {h : Hs} {ps names : List Str} {b : Br} (hn : b.n ∈ Nms) (ho : ∀ x ∈ b.own, x ∈ names ∧ x ∈ Nms) (hg : ∀ x ∈ b.gone, x ∈ ps ∧ x ∈ Nms) (a1 : Asc b.own) (a2 : Asc b.gone) (l1 : b.own.length < 64) (l2 : b.gone.length < 64) :
    callN fns L (n + 2) "is_break" [sT ps, sL names, b.d] h = .ok (.bool true) h := by
  rw [cl_is_break, c_is_break]
  have h7 := is_name_ok (L := L) (n := n) (h := h) hn
  have h8 := ascends_ok (L := L) (n := n) (h := h) (.inl rfl) l1 (fun x hx => (ho x hx).2) a1
  have h9 := ascends_ok (L := L) (n := n) (h := h) (.inl rfl) l2 (fun x hx => (hg x hx).2) a2
  unfold Br.d
  simp [q_cons, q_nil, s_ife, s_ret, s_asg, s_raise, s_expr, n_and, n_or, n_not, n_neg, n_blt, n_cmp, n_chn, n_cons, n_nil, n_slot, n_lit, n_idx, n_call, n_tup, n_lst, n_ite, b_ok, b_err, t_ok, t_err, l_some, l_err, tv_bool, tv_tup, tv_lst, i_tup, i_lst, atI, ixN, o_ret, o_err, o_next, setTg, bigLine, k_eqI, k_neI, k_eqS, k_neS, k_leI, k_ltI, k_geI, k_gtI, k_ltS, k_in, k_nin, k_is, k_isn, len_T, len_L, isI_I, isI_S, isS_S, isS_I, isT_T, tup_L, tup_T, lst_L, lst_T, int_I, int_B, min_2, max_2, abs_I, h7, isT_sT]
  rw [lc_all b.own .str (fun _ => .bool true) (x := sT b.own) ?_ rfl ?_ ?_]
  · simp [q_cons, q_nil, s_ife, s_ret, s_asg, s_raise, s_expr, n_and, n_or, n_not, n_neg, n_blt, n_cmp, n_chn, n_cons, n_nil, n_slot, n_lit, n_idx, n_call, n_tup, n_lst, n_ite, b_ok, b_err, t_ok, t_err, l_some, l_err, tv_bool, tv_tup, tv_lst, i_tup, i_lst, atI, ixN, o_ret, o_err, o_next, setTg, bigLine, k_eqI, k_neI, k_eqS, k_neS, k_leI, k_ltI, k_geI, k_gtI, k_ltS, k_in, k_nin, k_is, k_isn, len_T, len_L, isI_I, isI_S, isS_S, isS_I, isT_T, tup_L, tup_T, lst_L, lst_T, int_I, int_B, min_2, max_2, abs_I, all_true]
    rw [lc_all b.gone .str (fun _ => .bool true) (x := sT b.gone) ?_ rfl ?_ ?_]
    · simp [q_cons, q_nil, s_ife, s_ret, s_asg, s_raise, s_expr, n_and, n_or, n_not, n_neg, n_blt, n_cmp, n_chn, n_cons, n_nil, n_slot, n_lit, n_idx, n_call, n_tup, n_lst, n_ite, b_ok, b_err, t_ok, t_err, l_some, l_err, tv_bool, tv_tup, tv_lst, i_tup, i_lst, atI, ixN, o_ret, o_err, o_next, setTg, bigLine, k_eqI, k_neI, k_eqS, k_neS, k_leI, k_ltI, k_geI, k_gtI, k_ltS, k_in, k_nin, k_is, k_isn, len_T, len_L, isI_I, isI_S, isS_S, isS_I, isT_T, tup_L, tup_T, lst_L, lst_T, int_I, int_B, min_2, max_2, abs_I, all_true, h8, h9]
    · simp [q_cons, q_nil, s_ife, s_ret, s_asg, s_raise, s_expr, n_and, n_or, n_not, n_neg, n_blt, n_cmp, n_chn, n_cons, n_nil, n_slot, n_lit, n_idx, n_call, n_tup, n_lst, n_ite, b_ok, b_err, t_ok, t_err, l_some, l_err, tv_bool, tv_tup, tv_lst, i_tup, i_lst, atI, ixN, o_ret, o_err, o_next, setTg, bigLine, k_eqI, k_neI, k_eqS, k_neS, k_leI, k_ltI, k_geI, k_gtI, k_ltS, k_in, k_nin, k_is, k_isn, len_T, len_L, isI_I, isI_S, isS_S, isS_I, isT_T, tup_L, tup_T, lst_L, lst_T, int_I, int_B, min_2, max_2, abs_I, ]
    · unfold bigLine; omega
    · intro y hy
      simp [q_cons, q_nil, s_ife, s_ret, s_asg, s_raise, s_expr, n_and, n_or, n_not, n_neg, n_blt, n_cmp, n_chn, n_cons, n_nil, n_slot, n_lit, n_idx, n_call, n_tup, n_lst, n_ite, b_ok, b_err, t_ok, t_err, l_some, l_err, tv_bool, tv_tup, tv_lst, i_tup, i_lst, atI, ixN, o_ret, o_err, o_next, setTg, bigLine, k_eqI, k_neI, k_eqS, k_neS, k_leI, k_ltI, k_geI, k_gtI, k_ltS, k_in, k_nin, k_is, k_isn, len_T, len_L, isI_I, isI_S, isS_S, isS_I, isT_T, tup_L, tup_T, lst_L, lst_T, int_I, int_B, min_2, max_2, abs_I, in_strs, hg y hy]
  · simp [q_cons, q_nil, s_ife, s_ret, s_asg, s_raise, s_expr, n_and, n_or, n_not, n_neg, n_blt, n_cmp, n_chn, n_cons, n_nil, n_slot, n_lit, n_idx, n_call, n_tup, n_lst, n_ite, b_ok, b_err, t_ok, t_err, l_some, l_err, tv_bool, tv_tup, tv_lst, i_tup, i_lst, atI, ixN, o_ret, o_err, o_next, setTg, bigLine, k_eqI, k_neI, k_eqS, k_neS, k_leI, k_ltI, k_geI, k_gtI, k_ltS, k_in, k_nin, k_is, k_isn, len_T, len_L, isI_I, isI_S, isS_S, isS_I, isT_T, tup_L, tup_T, lst_L, lst_T, int_I, int_B, min_2, max_2, abs_I, ]
  · unfold bigLine; omega
  · intro y hy
    simp [q_cons, q_nil, s_ife, s_ret, s_asg, s_raise, s_expr, n_and, n_or, n_not, n_neg, n_blt, n_cmp, n_chn, n_cons, n_nil, n_slot, n_lit, n_idx, n_call, n_tup, n_lst, n_ite, b_ok, b_err, t_ok, t_err, l_some, l_err, tv_bool, tv_tup, tv_lst, i_tup, i_lst, atI, ixN, o_ret, o_err, o_next, setTg, bigLine, k_eqI, k_neI, k_eqS, k_neS, k_leI, k_ltI, k_geI, k_gtI, k_ltS, k_in, k_nin, k_is, k_isn, len_T, len_L, isI_I, isI_S, isS_S, isS_I, isT_T, tup_L, tup_T, lst_L, lst_T, int_I, int_B, min_2, max_2, abs_I, in_strsL, ho y hy]
theorem are_rows_ok {Y : Type} {L n : Nat} {h : Hs} {ys : List Y} {φ : Y → D} {nm : Y → Str} {m : Int} (hl : (ys.length : Int) ≤ m) (hl2 : ys.length < 64) (h0 : ∀ y ∈ ys, idxH (φ y) (.int 0) h = .ok (.str (nm y)) h) (hx : ∀ y ∈ ys, nm y ∈ Nms) (ha : Asc (ys.map nm)) :
    callN fns L (n + 2) "are_rows" [.tuple (ys.map φ), .int m, .list (ys.map fun _ => .bool true)] h = .ok (.bool true) h := by
  rw [cl_are_rows, c_are_rows]
  have h8 := ascends_ok (L := L) (n := n) (h := h) (xs := ys.map nm) (d := sL (ys.map nm)) (.inr rfl) (by rw [List.length_map]; exact hl2) (fun x hx' => by obtain ⟨y, hy, rfl⟩ := List.mem_map.mp hx'; exact hx y hy) ha
  have e : sL (ys.map nm) = .list (ys.map fun y => .str (nm y)) := by unfold sL; rw [List.map_map]; rfl
  rw [e] at h8
  simp [q_cons, q_nil, s_ife, s_ret, s_asg, s_raise, s_expr, n_and, n_or, n_not, n_neg, n_blt, n_cmp, n_chn, n_cons, n_nil, n_slot, n_lit, n_idx, n_call, n_tup, n_lst, n_ite, b_ok, b_err, t_ok, t_err, l_some, l_err, tv_bool, tv_tup, tv_lst, i_tup, i_lst, atI, ixN, o_ret, o_err, o_next, setTg, bigLine, k_eqI, k_neI, k_eqS, k_neS, k_leI, k_ltI, k_geI, k_gtI, k_ltS, k_in, k_nin, k_is, k_isn, len_T, len_L, isI_I, isI_S, isS_S, isS_I, isT_T, tup_L, tup_T, lst_L, lst_T, int_I, int_B, min_2, max_2, abs_I, all_true, hl]
  rw [lc_all ys φ (fun y => .str (nm y)) (x := .tuple (ys.map φ)) ?_ rfl ?_ ?_]
  · simp [q_cons, q_nil, s_ife, s_ret, s_asg, s_raise, s_expr, n_and, n_or, n_not, n_neg, n_blt, n_cmp, n_chn, n_cons, n_nil, n_slot, n_lit, n_idx, n_call, n_tup, n_lst, n_ite, b_ok, b_err, t_ok, t_err, l_some, l_err, tv_bool, tv_tup, tv_lst, i_tup, i_lst, atI, ixN, o_ret, o_err, o_next, setTg, bigLine, k_eqI, k_neI, k_eqS, k_neS, k_leI, k_ltI, k_geI, k_gtI, k_ltS, k_in, k_nin, k_is, k_isn, len_T, len_L, isI_I, isI_S, isS_S, isS_I, isT_T, tup_L, tup_T, lst_L, lst_T, int_I, int_B, min_2, max_2, abs_I, h8]
  · simp [q_cons, q_nil, s_ife, s_ret, s_asg, s_raise, s_expr, n_and, n_or, n_not, n_neg, n_blt, n_cmp, n_chn, n_cons, n_nil, n_slot, n_lit, n_idx, n_call, n_tup, n_lst, n_ite, b_ok, b_err, t_ok, t_err, l_some, l_err, tv_bool, tv_tup, tv_lst, i_tup, i_lst, atI, ixN, o_ret, o_err, o_next, setTg, bigLine, k_eqI, k_neI, k_eqS, k_neS, k_leI, k_ltI, k_geI, k_gtI, k_ltS, k_in, k_nin, k_is, k_isn, len_T, len_L, isI_I, isI_S, isS_S, isS_I, isT_T, tup_L, tup_T, lst_L, lst_T, int_I, int_B, min_2, max_2, abs_I, ]
  · unfold bigLine; omega
  · intro y hy
    simp [q_cons, q_nil, s_ife, s_ret, s_asg, s_raise, s_expr, n_and, n_or, n_not, n_neg, n_blt, n_cmp, n_chn, n_cons, n_nil, n_slot, n_lit, n_idx, n_call, n_tup, n_lst, n_ite, b_ok, b_err, t_ok, t_err, l_some, l_err, tv_bool, tv_tup, tv_lst, i_tup, i_lst, atI, ixN, o_ret, o_err, o_next, setTg, bigLine, k_eqI, k_neI, k_eqS, k_neS, k_leI, k_ltI, k_geI, k_gtI, k_ltS, k_in, k_nin, k_is, k_isn, len_T, len_L, isI_I, isI_S, isS_S, isS_I, isT_T, tup_L, tup_T, lst_L, lst_T, int_I, int_B, min_2, max_2, abs_I, h0 y hy]
structure Good (t : Tk) : Prop where
  psl : t.ps.length ≤ 10
  psn : ∀ p ∈ t.ps, p ∈ Nms
  psa : Asc t.ps
  lsl : t.ls.length ≤ 14
  lok : ∀ l ∈ t.ls, l.n ∈ Nms ∧ l.a ∈ t.ps ∧ l.b ∈ t.ps ∧ ltS l.a l.b = true ∧ (0 ≤ l.c ∧ l.c ≤ 1000) ∧ (1 ≤ l.s ∧ l.s ≤ 50)
  lsa : Asc (t.ls.map (·.n))
  wsl : t.ws.length ≤ 8
  wok : ∀ l ∈ t.ws, l.n ∈ Nms ∧ l.k ∈ (["apart", "carry", "near", "places"] : List Str) ∧ l.a ∈ t.ps ∧ l.b ∈ t.ps ∧ ltS l.a l.b = true ∧ (1 ≤ l.m ∧ l.m ≤ 4)
  wsa : Asc (t.ws.map (·.n))
  msl : t.ms.length ≤ 10
  mok : ∀ l ∈ t.ms, l.p ∈ t.ps ∧ (0 ≤ l.m ∧ l.m ≤ 14)
  msa : Asc (t.ms.map (·.p))
  bsl : t.bs.length ≤ 6
  bok : ∀ b ∈ t.bs, b.n ∈ Nms ∧ (∀ x ∈ b.own, x ∈ t.ls.map (·.n)) ∧ (∀ x ∈ b.gone, x ∈ t.ps) ∧ Asc b.own ∧ Asc b.gone ∧ b.own.length < 64 ∧ b.gone.length < 64
  bsa : Asc (t.bs.map (·.n))
theorem Good.lnn {t : Tk} (g : Good t) : ∀ x ∈ t.ls.map (·.n), x ∈ Nms := fun x hx => by
  obtain ⟨l, hl, rfl⟩ := List.mem_map.mp hx
  exact (g.lok l hl).1
theorem check_task_ok {L n : Nat} {h : Hs} {t : Tk} (g : Good t) : callN fns L (n + 3) "check_task" [t.d] h = .ok .none h := by
  rw [cl_check_task, c_check_task]
  have p := are_places_ok (L := L) (n := n) (h := h) g.psl g.psn g.psa
  have r1 := are_rows_ok (L := L) (n := n) (h := h) (ys := t.ls) (φ := Lk.d) (nm := (·.n)) (m := 14) (by have := g.lsl; omega) (by have := g.lsl; omega) (fun _ _ => rfl) (fun l hl => (g.lok l hl).1) g.lsa
  have r2 := are_rows_ok (L := L) (n := n) (h := h) (ys := t.ws) (φ := Wi.d) (nm := (·.n)) (m := 8) (by have := g.wsl; omega) (by have := g.wsl; omega) (fun _ _ => rfl) (fun l hl => (g.wok l hl).1) g.wsa
  have r3 := are_rows_ok (L := L) (n := n) (h := h) (ys := t.ms) (φ := Li.d) (nm := (·.p)) (m := 10) (by have := g.msl; omega) (by have := g.msl; omega) (fun _ _ => rfl) (fun l hl => g.psn _ (g.mok l hl).1) g.msa
  have r4 := are_rows_ok (L := L) (n := n) (h := h) (ys := t.bs) (φ := Br.d) (nm := (·.n)) (m := 6) (by have := g.bsl; omega) (by have := g.bsl; omega) (fun _ _ => rfl) (fun l hl => (g.bok l hl).1) g.bsa
  unfold Tk.d
  simp [q_cons, q_nil, s_ife, s_ret, s_asg, s_raise, s_expr, n_and, n_or, n_not, n_neg, n_blt, n_cmp, n_chn, n_cons, n_nil, n_slot, n_lit, n_idx, n_call, n_tup, n_lst, n_ite, b_ok, b_err, t_ok, t_err, l_some, l_err, tv_bool, tv_tup, tv_lst, i_tup, i_lst, atI, ixN, o_ret, o_err, o_next, setTg, bigLine, k_eqI, k_neI, k_eqS, k_neS, k_leI, k_ltI, k_geI, k_gtI, k_ltS, k_in, k_nin, k_is, k_isn, len_T, len_L, isI_I, isI_S, isS_S, isS_I, isT_T, tup_L, tup_T, lst_L, lst_T, int_I, int_B, min_2, max_2, abs_I, p]
  rw [lc_all t.ls Lk.d (fun _ => .bool true) (x := .tuple (t.ls.map Lk.d)) ?_ rfl ?_ ?_]
  · simp [q_cons, q_nil, s_ife, s_ret, s_asg, s_raise, s_expr, n_and, n_or, n_not, n_neg, n_blt, n_cmp, n_chn, n_cons, n_nil, n_slot, n_lit, n_idx, n_call, n_tup, n_lst, n_ite, b_ok, b_err, t_ok, t_err, l_some, l_err, tv_bool, tv_tup, tv_lst, i_tup, i_lst, atI, ixN, o_ret, o_err, o_next, setTg, bigLine, k_eqI, k_neI, k_eqS, k_neS, k_leI, k_ltI, k_geI, k_gtI, k_ltS, k_in, k_nin, k_is, k_isn, len_T, len_L, isI_I, isI_S, isS_S, isS_I, isT_T, tup_L, tup_T, lst_L, lst_T, int_I, int_B, min_2, max_2, abs_I, r1]
    rw [lc_all t.ws Wi.d (fun _ => .bool true) (x := .tuple (t.ws.map Wi.d)) ?_ rfl ?_ ?_]
    · simp [q_cons, q_nil, s_ife, s_ret, s_asg, s_raise, s_expr, n_and, n_or, n_not, n_neg, n_blt, n_cmp, n_chn, n_cons, n_nil, n_slot, n_lit, n_idx, n_call, n_tup, n_lst, n_ite, b_ok, b_err, t_ok, t_err, l_some, l_err, tv_bool, tv_tup, tv_lst, i_tup, i_lst, atI, ixN, o_ret, o_err, o_next, setTg, bigLine, k_eqI, k_neI, k_eqS, k_neS, k_leI, k_ltI, k_geI, k_gtI, k_ltS, k_in, k_nin, k_is, k_isn, len_T, len_L, isI_I, isI_S, isS_S, isS_I, isT_T, tup_L, tup_T, lst_L, lst_T, int_I, int_B, min_2, max_2, abs_I, r2]
      rw [lc_all t.ms Li.d (fun _ => .bool true) (x := .tuple (t.ms.map Li.d)) ?_ rfl ?_ ?_]
      · simp [q_cons, q_nil, s_ife, s_ret, s_asg, s_raise, s_expr, n_and, n_or, n_not, n_neg, n_blt, n_cmp, n_chn, n_cons, n_nil, n_slot, n_lit, n_idx, n_call, n_tup, n_lst, n_ite, b_ok, b_err, t_ok, t_err, l_some, l_err, tv_bool, tv_tup, tv_lst, i_tup, i_lst, atI, ixN, o_ret, o_err, o_next, setTg, bigLine, k_eqI, k_neI, k_eqS, k_neS, k_leI, k_ltI, k_geI, k_gtI, k_ltS, k_in, k_nin, k_is, k_isn, len_T, len_L, isI_I, isI_S, isS_S, isS_I, isT_T, tup_L, tup_T, lst_L, lst_T, int_I, int_B, min_2, max_2, abs_I, r3]
        rw [lc_all t.ls Lk.d (fun l => .str l.n) (x := .tuple (t.ls.map Lk.d)) ?_ rfl ?_ ?_]
        · simp [q_cons, q_nil, s_ife, s_ret, s_asg, s_raise, s_expr, n_and, n_or, n_not, n_neg, n_blt, n_cmp, n_chn, n_cons, n_nil, n_slot, n_lit, n_idx, n_call, n_tup, n_lst, n_ite, b_ok, b_err, t_ok, t_err, l_some, l_err, tv_bool, tv_tup, tv_lst, i_tup, i_lst, atI, ixN, o_ret, o_err, o_next, setTg, bigLine, k_eqI, k_neI, k_eqS, k_neS, k_leI, k_ltI, k_geI, k_gtI, k_ltS, k_in, k_nin, k_is, k_isn, len_T, len_L, isI_I, isI_S, isS_S, isS_I, isT_T, tup_L, tup_T, lst_L, lst_T, int_I, int_B, min_2, max_2, abs_I, ]
          rw [lc_all t.bs Br.d (fun _ => .bool true) (x := .tuple (t.bs.map Br.d)) ?_ rfl ?_ ?_]
          · simp [q_cons, q_nil, s_ife, s_ret, s_asg, s_raise, s_expr, n_and, n_or, n_not, n_neg, n_blt, n_cmp, n_chn, n_cons, n_nil, n_slot, n_lit, n_idx, n_call, n_tup, n_lst, n_ite, b_ok, b_err, t_ok, t_err, l_some, l_err, tv_bool, tv_tup, tv_lst, i_tup, i_lst, atI, ixN, o_ret, o_err, o_next, setTg, bigLine, k_eqI, k_neI, k_eqS, k_neS, k_leI, k_ltI, k_geI, k_gtI, k_ltS, k_in, k_nin, k_is, k_isn, len_T, len_L, isI_I, isI_S, isS_S, isS_I, isT_T, tup_L, tup_T, lst_L, lst_T, int_I, int_B, min_2, max_2, abs_I, r4]
          · simp [q_cons, q_nil, s_ife, s_ret, s_asg, s_raise, s_expr, n_and, n_or, n_not, n_neg, n_blt, n_cmp, n_chn, n_cons, n_nil, n_slot, n_lit, n_idx, n_call, n_tup, n_lst, n_ite, b_ok, b_err, t_ok, t_err, l_some, l_err, tv_bool, tv_tup, tv_lst, i_tup, i_lst, atI, ixN, o_ret, o_err, o_next, setTg, bigLine, k_eqI, k_neI, k_eqS, k_neS, k_leI, k_ltI, k_geI, k_gtI, k_ltS, k_in, k_nin, k_is, k_isn, len_T, len_L, isI_I, isI_S, isS_S, isS_I, isT_T, tup_L, tup_T, lst_L, lst_T, int_I, int_B, min_2, max_2, abs_I, ]
          · have := g.bsl; unfold bigLine; omega
          · intro y hy
            have k := g.bok y hy
            have := is_break_ok (L := L) (n := n) (h := h) (ps := t.ps) (names := t.ls.map (·.n)) k.1 (fun x hx => ⟨k.2.1 x hx, g.lnn x (k.2.1 x hx)⟩) (fun x hx => ⟨k.2.2.1 x hx, g.psn x (k.2.2.1 x hx)⟩) k.2.2.2.1 k.2.2.2.2.1 k.2.2.2.2.2.1 k.2.2.2.2.2.2
            have e : sL (t.ls.map (·.n)) = .list (t.ls.map fun l => .str l.n) := by unfold sL; rw [List.map_map]; rfl
            rw [e] at this
            simp [q_cons, q_nil, s_ife, s_ret, s_asg, s_raise, s_expr, n_and, n_or, n_not, n_neg, n_blt, n_cmp, n_chn, n_cons, n_nil, n_slot, n_lit, n_idx, n_call, n_tup, n_lst, n_ite, b_ok, b_err, t_ok, t_err, l_some, l_err, tv_bool, tv_tup, tv_lst, i_tup, i_lst, atI, ixN, o_ret, o_err, o_next, setTg, bigLine, k_eqI, k_neI, k_eqS, k_neS, k_leI, k_ltI, k_geI, k_gtI, k_ltS, k_in, k_nin, k_is, k_isn, len_T, len_L, isI_I, isI_S, isS_S, isS_I, isT_T, tup_L, tup_T, lst_L, lst_T, int_I, int_B, min_2, max_2, abs_I, this]
        · simp [q_cons, q_nil, s_ife, s_ret, s_asg, s_raise, s_expr, n_and, n_or, n_not, n_neg, n_blt, n_cmp, n_chn, n_cons, n_nil, n_slot, n_lit, n_idx, n_call, n_tup, n_lst, n_ite, b_ok, b_err, t_ok, t_err, l_some, l_err, tv_bool, tv_tup, tv_lst, i_tup, i_lst, atI, ixN, o_ret, o_err, o_next, setTg, bigLine, k_eqI, k_neI, k_eqS, k_neS, k_leI, k_ltI, k_geI, k_gtI, k_ltS, k_in, k_nin, k_is, k_isn, len_T, len_L, isI_I, isI_S, isS_S, isS_I, isT_T, tup_L, tup_T, lst_L, lst_T, int_I, int_B, min_2, max_2, abs_I, ]
        · have := g.lsl; unfold bigLine; omega
        · intro y hy
          unfold Lk.d
          simp [q_cons, q_nil, s_ife, s_ret, s_asg, s_raise, s_expr, n_and, n_or, n_not, n_neg, n_blt, n_cmp, n_chn, n_cons, n_nil, n_slot, n_lit, n_idx, n_call, n_tup, n_lst, n_ite, b_ok, b_err, t_ok, t_err, l_some, l_err, tv_bool, tv_tup, tv_lst, i_tup, i_lst, atI, ixN, o_ret, o_err, o_next, setTg, bigLine, k_eqI, k_neI, k_eqS, k_neS, k_leI, k_ltI, k_geI, k_gtI, k_ltS, k_in, k_nin, k_is, k_isn, len_T, len_L, isI_I, isI_S, isS_S, isS_I, isT_T, tup_L, tup_T, lst_L, lst_T, int_I, int_B, min_2, max_2, abs_I, ]
      · simp [q_cons, q_nil, s_ife, s_ret, s_asg, s_raise, s_expr, n_and, n_or, n_not, n_neg, n_blt, n_cmp, n_chn, n_cons, n_nil, n_slot, n_lit, n_idx, n_call, n_tup, n_lst, n_ite, b_ok, b_err, t_ok, t_err, l_some, l_err, tv_bool, tv_tup, tv_lst, i_tup, i_lst, atI, ixN, o_ret, o_err, o_next, setTg, bigLine, k_eqI, k_neI, k_eqS, k_neS, k_leI, k_ltI, k_geI, k_gtI, k_ltS, k_in, k_nin, k_is, k_isn, len_T, len_L, isI_I, isI_S, isS_S, isS_I, isT_T, tup_L, tup_T, lst_L, lst_T, int_I, int_B, min_2, max_2, abs_I, ]
      · have := g.msl; unfold bigLine; omega
      · intro y hy
        have k := g.mok y hy
        have := is_limit_ok (L := L) (n := n) (h := h) k.1 k.2
        simp [q_cons, q_nil, s_ife, s_ret, s_asg, s_raise, s_expr, n_and, n_or, n_not, n_neg, n_blt, n_cmp, n_chn, n_cons, n_nil, n_slot, n_lit, n_idx, n_call, n_tup, n_lst, n_ite, b_ok, b_err, t_ok, t_err, l_some, l_err, tv_bool, tv_tup, tv_lst, i_tup, i_lst, atI, ixN, o_ret, o_err, o_next, setTg, bigLine, k_eqI, k_neI, k_eqS, k_neS, k_leI, k_ltI, k_geI, k_gtI, k_ltS, k_in, k_nin, k_is, k_isn, len_T, len_L, isI_I, isI_S, isS_S, isS_I, isT_T, tup_L, tup_T, lst_L, lst_T, int_I, int_B, min_2, max_2, abs_I, this]
    · simp [q_cons, q_nil, s_ife, s_ret, s_asg, s_raise, s_expr, n_and, n_or, n_not, n_neg, n_blt, n_cmp, n_chn, n_cons, n_nil, n_slot, n_lit, n_idx, n_call, n_tup, n_lst, n_ite, b_ok, b_err, t_ok, t_err, l_some, l_err, tv_bool, tv_tup, tv_lst, i_tup, i_lst, atI, ixN, o_ret, o_err, o_next, setTg, bigLine, k_eqI, k_neI, k_eqS, k_neS, k_leI, k_ltI, k_geI, k_gtI, k_ltS, k_in, k_nin, k_is, k_isn, len_T, len_L, isI_I, isI_S, isS_S, isS_I, isT_T, tup_L, tup_T, lst_L, lst_T, int_I, int_B, min_2, max_2, abs_I, ]
    · have := g.wsl; unfold bigLine; omega
    · intro y hy
      have k := g.wok y hy
      have := is_wish_ok (L := L) (n := n) (h := h) k.1 k.2.1 k.2.2.1 k.2.2.2.1 k.2.2.2.2.1 k.2.2.2.2.2
      simp [q_cons, q_nil, s_ife, s_ret, s_asg, s_raise, s_expr, n_and, n_or, n_not, n_neg, n_blt, n_cmp, n_chn, n_cons, n_nil, n_slot, n_lit, n_idx, n_call, n_tup, n_lst, n_ite, b_ok, b_err, t_ok, t_err, l_some, l_err, tv_bool, tv_tup, tv_lst, i_tup, i_lst, atI, ixN, o_ret, o_err, o_next, setTg, bigLine, k_eqI, k_neI, k_eqS, k_neS, k_leI, k_ltI, k_geI, k_gtI, k_ltS, k_in, k_nin, k_is, k_isn, len_T, len_L, isI_I, isI_S, isS_S, isS_I, isT_T, tup_L, tup_T, lst_L, lst_T, int_I, int_B, min_2, max_2, abs_I, this]
  · simp [q_cons, q_nil, s_ife, s_ret, s_asg, s_raise, s_expr, n_and, n_or, n_not, n_neg, n_blt, n_cmp, n_chn, n_cons, n_nil, n_slot, n_lit, n_idx, n_call, n_tup, n_lst, n_ite, b_ok, b_err, t_ok, t_err, l_some, l_err, tv_bool, tv_tup, tv_lst, i_tup, i_lst, atI, ixN, o_ret, o_err, o_next, setTg, bigLine, k_eqI, k_neI, k_eqS, k_neS, k_leI, k_ltI, k_geI, k_gtI, k_ltS, k_in, k_nin, k_is, k_isn, len_T, len_L, isI_I, isI_S, isS_S, isS_I, isT_T, tup_L, tup_T, lst_L, lst_T, int_I, int_B, min_2, max_2, abs_I, ]
  · have := g.lsl; unfold bigLine; omega
  · intro y hy
    have k := g.lok y hy
    have := is_link_ok (L := L) (n := n) (h := h) k.1 k.2.1 k.2.2.1 k.2.2.2.1 k.2.2.2.2.1 k.2.2.2.2.2
    simp [q_cons, q_nil, s_ife, s_ret, s_asg, s_raise, s_expr, n_and, n_or, n_not, n_neg, n_blt, n_cmp, n_chn, n_cons, n_nil, n_slot, n_lit, n_idx, n_call, n_tup, n_lst, n_ite, b_ok, b_err, t_ok, t_err, l_some, l_err, tv_bool, tv_tup, tv_lst, i_tup, i_lst, atI, ixN, o_ret, o_err, o_next, setTg, bigLine, k_eqI, k_neI, k_eqS, k_neS, k_leI, k_ltI, k_geI, k_gtI, k_ltS, k_in, k_nin, k_is, k_isn, len_T, len_L, isI_I, isI_S, isS_S, isS_I, isT_T, tup_L, tup_T, lst_L, lst_T, int_I, int_B, min_2, max_2, abs_I, this]
end K00

set_option Elab.async false
set_option linter.all false
set_option maxRecDepth 100000
set_option maxHeartbeats 4000000
/-! k00, plain law, part 4: nets, breaks, what is left. -/
namespace K00
open PySem Mini
def Tk.nms (t : Tk) : List Str := t.ls.map (·.n)
theorem tk_d {t : Tk} : t.d = .tuple [sT t.ps, .tuple (t.ls.map Lk.d), .tuple (t.ws.map Wi.d), .tuple (t.ms.map Li.d), .tuple (t.bs.map Br.d)] := rfl
theorem lk_d {l : Lk} : l.d = .tuple [.str l.n, .str l.a, .str l.b, .int l.c, .int l.s] := rfl
theorem li_d {l : Li} : l.d = .tuple [.str l.p, .int l.m] := rfl
theorem br_d {l : Br} : l.d = .tuple [.str l.n, sT l.own, sT l.gone] := rfl
theorem nms_sT {t : Tk} : sT t.nms = .tuple (t.ls.map fun l => .str l.n) := by unfold sT Tk.nms; rw [List.map_map]; rfl
theorem nms_sL {t : Tk} : sL t.nms = .list (t.ls.map fun l => .str l.n) := by unfold sL Tk.nms; rw [List.map_map]; rfl
theorem link_names_eq {L n : Nat} {h : Hs} {t : Tk} (hl : t.ls.length ≤ 14) : callN fns L (n + 1) "link_names" [t.d] h = .ok (sT t.nms) h := by
  rw [cl_link_names, c_link_names, nms_sT]
  simp [q_cons, q_nil, s_ife, s_ret, s_asg, s_raise, s_expr, n_and, n_or, n_not, n_neg, n_blt, n_cmp, n_chn, n_cons, n_nil, n_slot, n_lit, n_idx, n_call, n_tup, n_lst, n_ite, b_ok, b_err, t_ok, t_err, l_some, l_err, tv_bool, tv_tup, tv_lst, i_tup, i_lst, atI, ixN, o_ret, o_err, o_next, setTg, bigLine, k_eqI, k_neI, k_eqS, k_neS, k_leI, k_ltI, k_geI, k_gtI, k_ltS, k_in, k_nin, k_is, k_isn, len_T, len_L, isI_I, isI_S, isS_S, isS_I, isT_T, tup_L, tup_T, lst_L, lst_T, int_I, int_B, min_2, max_2, abs_I, ]
  rw [lc_all t.ls Lk.d (fun l => .str l.n) (x := .tuple (t.ls.map Lk.d)) ?_ rfl ?_ ?_]
  · simp [q_cons, q_nil, s_ife, s_ret, s_asg, s_raise, s_expr, n_and, n_or, n_not, n_neg, n_blt, n_cmp, n_chn, n_cons, n_nil, n_slot, n_lit, n_idx, n_call, n_tup, n_lst, n_ite, b_ok, b_err, t_ok, t_err, l_some, l_err, tv_bool, tv_tup, tv_lst, i_tup, i_lst, atI, ixN, o_ret, o_err, o_next, setTg, bigLine, k_eqI, k_neI, k_eqS, k_neS, k_leI, k_ltI, k_geI, k_gtI, k_ltS, k_in, k_nin, k_is, k_isn, len_T, len_L, isI_I, isI_S, isS_S, isS_I, isT_T, tup_L, tup_T, lst_L, lst_T, int_I, int_B, min_2, max_2, abs_I, ]
  · simp [q_cons, q_nil, s_ife, s_ret, s_asg, s_raise, s_expr, n_and, n_or, n_not, n_neg, n_blt, n_cmp, n_chn, n_cons, n_nil, n_slot, n_lit, n_idx, n_call, n_tup, n_lst, n_ite, b_ok, b_err, t_ok, t_err, l_some, l_err, tv_bool, tv_tup, tv_lst, i_tup, i_lst, atI, ixN, o_ret, o_err, o_next, setTg, bigLine, k_eqI, k_neI, k_eqS, k_neS, k_leI, k_ltI, k_geI, k_gtI, k_ltS, k_in, k_nin, k_is, k_isn, len_T, len_L, isI_I, isI_S, isS_S, isS_I, isT_T, tup_L, tup_T, lst_L, lst_T, int_I, int_B, min_2, max_2, abs_I, tk_d]
  · unfold bigLine; omega
  · intro y hy
    simp [q_cons, q_nil, s_ife, s_ret, s_asg, s_raise, s_expr, n_and, n_or, n_not, n_neg, n_blt, n_cmp, n_chn, n_cons, n_nil, n_slot, n_lit, n_idx, n_call, n_tup, n_lst, n_ite, b_ok, b_err, t_ok, t_err, l_some, l_err, tv_bool, tv_tup, tv_lst, i_tup, i_lst, atI, ixN, o_ret, o_err, o_next, setTg, bigLine, k_eqI, k_neI, k_eqS, k_neS, k_leI, k_ltI, k_geI, k_gtI, k_ltS, k_in, k_nin, k_is, k_isn, len_T, len_L, isI_I, isI_S, isS_S, isS_I, isT_T, tup_L, tup_T, lst_L, lst_T, int_I, int_B, min_2, max_2, abs_I, lk_d]
theorem law_names_eq {L n : Nat} {h : Hs} {t : Tk} (hl : t.ls.length ≤ 14) : callN fns L (n + 1) "_law_names" [t.d] h = .ok (sL t.nms) h := by
  rw [cl__law_names, c__law_names, nms_sL]
  simp [q_cons, q_nil, s_ife, s_ret, s_asg, s_raise, s_expr, n_and, n_or, n_not, n_neg, n_blt, n_cmp, n_chn, n_cons, n_nil, n_slot, n_lit, n_idx, n_call, n_tup, n_lst, n_ite, b_ok, b_err, t_ok, t_err, l_some, l_err, tv_bool, tv_tup, tv_lst, i_tup, i_lst, atI, ixN, o_ret, o_err, o_next, setTg, bigLine, k_eqI, k_neI, k_eqS, k_neS, k_leI, k_ltI, k_geI, k_gtI, k_ltS, k_in, k_nin, k_is, k_isn, len_T, len_L, isI_I, isI_S, isS_S, isS_I, isT_T, tup_L, tup_T, lst_L, lst_T, int_I, int_B, min_2, max_2, abs_I, ]
  rw [lc_all t.ls Lk.d (fun l => .str l.n) (x := .tuple (t.ls.map Lk.d)) ?_ rfl ?_ ?_]
  · simp [q_cons, q_nil, s_ife, s_ret, s_asg, s_raise, s_expr, n_and, n_or, n_not, n_neg, n_blt, n_cmp, n_chn, n_cons, n_nil, n_slot, n_lit, n_idx, n_call, n_tup, n_lst, n_ite, b_ok, b_err, t_ok, t_err, l_some, l_err, tv_bool, tv_tup, tv_lst, i_tup, i_lst, atI, ixN, o_ret, o_err, o_next, setTg, bigLine, k_eqI, k_neI, k_eqS, k_neS, k_leI, k_ltI, k_geI, k_gtI, k_ltS, k_in, k_nin, k_is, k_isn, len_T, len_L, isI_I, isI_S, isS_S, isS_I, isT_T, tup_L, tup_T, lst_L, lst_T, int_I, int_B, min_2, max_2, abs_I, ]
  · simp [q_cons, q_nil, s_ife, s_ret, s_asg, s_raise, s_expr, n_and, n_or, n_not, n_neg, n_blt, n_cmp, n_chn, n_cons, n_nil, n_slot, n_lit, n_idx, n_call, n_tup, n_lst, n_ite, b_ok, b_err, t_ok, t_err, l_some, l_err, tv_bool, tv_tup, tv_lst, i_tup, i_lst, atI, ixN, o_ret, o_err, o_next, setTg, bigLine, k_eqI, k_neI, k_eqS, k_neS, k_leI, k_ltI, k_geI, k_gtI, k_ltS, k_in, k_nin, k_is, k_isn, len_T, len_L, isI_I, isI_S, isS_S, isS_I, isT_T, tup_L, tup_T, lst_L, lst_T, int_I, int_B, min_2, max_2, abs_I, tk_d]
  · unfold bigLine; omega
  · intro y hy
    simp [q_cons, q_nil, s_ife, s_ret, s_asg, s_raise, s_expr, n_and, n_or, n_not, n_neg, n_blt, n_cmp, n_chn, n_cons, n_nil, n_slot, n_lit, n_idx, n_call, n_tup, n_lst, n_ite, b_ok, b_err, t_ok, t_err, l_some, l_err, tv_bool, tv_tup, tv_lst, i_tup, i_lst, atI, ixN, o_ret, o_err, o_next, setTg, bigLine, k_eqI, k_neI, k_eqS, k_neS, k_leI, k_ltI, k_geI, k_gtI, k_ltS, k_in, k_nin, k_is, k_isn, len_T, len_L, isI_I, isI_S, isS_S, isS_I, isT_T, tup_L, tup_T, lst_L, lst_T, int_I, int_B, min_2, max_2, abs_I, lk_d]
theorem insS_mem {x y : Str} : ∀ {r : List Str}, y ∈ insS x r → y = x ∨ y ∈ r
  | [], h => .inl (by simpa [insS] using h)
  | z :: r, h => by
    unfold insS at h
    split at h
    · exact .inr h
    · split at h
      · exact (List.mem_cons.mp h).imp id id
      · rcases List.mem_cons.mp h with rfl | h
        · exact .inr (List.mem_cons_self ..)
        · exact (insS_mem h).imp id (List.mem_cons_of_mem _)
theorem sortS_mem {y : Str} : ∀ {xs : List Str}, y ∈ sortS xs → y ∈ xs
  | [], h => h
  | x :: r, h => (insS_mem h).elim (fun e => by rw [e]; exact List.mem_cons_self ..) fun h => List.mem_cons_of_mem _ (sortS_mem h)
/-- what a net is told -/
def netOk (t : Tk) (net : List Str) : Bool := net.all (fun x => decide (x ∈ t.nms)) && decide (net = sortS net)
theorem check_net_eq {L n : Nat} {h : Hs} {t : Tk} {net : List Str} (g : Good t) (hl : net.length < 64) (hx : ∀ x ∈ net, PyData.strOk x = true) :
    callN fns L (n + 4) "check_net" [t.d, sT net] h = if netOk t net then .ok .none h else .err ⟨"NotAllowed", none⟩ h := by
  rw [cl_check_net, c_check_net]
  have h1 := check_task_ok (L := L) (n := n) (h := h) g
  have h2 := ascends_gen (L := L) (n := n + 2) (h := h) (xs := net) (.inl rfl) hl hx (fun x hx' => hx x (sortS_mem hx'))
  have h3 := link_names_eq (L := L) (n := n + 2) (h := h) g.lsl
  simp [q_cons, q_nil, s_ife, s_ret, s_asg, s_raise, s_expr, n_and, n_or, n_not, n_neg, n_blt, n_cmp, n_chn, n_cons, n_nil, n_slot, n_lit, n_idx, n_call, n_tup, n_lst, n_ite, b_ok, b_err, t_ok, t_err, l_some, l_err, tv_bool, tv_tup, tv_lst, i_tup, i_lst, atI, ixN, o_ret, o_err, o_next, setTg, bigLine, k_eqI, k_neI, k_eqS, k_neS, k_leI, k_ltI, k_geI, k_gtI, k_ltS, k_in, k_nin, k_is, k_isn, len_T, len_L, isI_I, isI_S, isS_S, isS_I, isT_T, tup_L, tup_T, lst_L, lst_T, int_I, int_B, min_2, max_2, abs_I, h1]
  rw [lc_all net .str (fun x => .bool (decide (x ∈ t.nms))) (x := sT net) ?_ rfl ?_ ?_]
  · simp [q_cons, q_nil, s_ife, s_ret, s_asg, s_raise, s_expr, n_and, n_or, n_not, n_neg, n_blt, n_cmp, n_chn, n_cons, n_nil, n_slot, n_lit, n_idx, n_call, n_tup, n_lst, n_ite, b_ok, b_err, t_ok, t_err, l_some, l_err, tv_bool, tv_tup, tv_lst, i_tup, i_lst, atI, ixN, o_ret, o_err, o_next, setTg, bigLine, k_eqI, k_neI, k_eqS, k_neS, k_leI, k_ltI, k_geI, k_gtI, k_ltS, k_in, k_nin, k_is, k_isn, len_T, len_L, isI_I, isI_S, isS_S, isS_I, isT_T, tup_L, tup_T, lst_L, lst_T, int_I, int_B, min_2, max_2, abs_I, all_map, h2]
    unfold netOk
    generalize net.all (fun x => decide (x ∈ t.nms)) = b1
    by_cases q2 : net = sortS net
    · rw [decide_eq_true q2] at h2 ⊢
      cases b1 <;> simp [q_cons, q_nil, s_ife, s_ret, s_asg, s_raise, s_expr, n_and, n_or, n_not, n_neg, n_blt, n_cmp, n_chn, n_cons, n_nil, n_slot, n_lit, n_idx, n_call, n_tup, n_lst, n_ite, b_ok, b_err, t_ok, t_err, l_some, l_err, tv_bool, tv_tup, tv_lst, i_tup, i_lst, atI, ixN, o_ret, o_err, o_next, setTg, bigLine, k_eqI, k_neI, k_eqS, k_neS, k_leI, k_ltI, k_geI, k_gtI, k_ltS, k_in, k_nin, k_is, k_isn, len_T, len_L, isI_I, isI_S, isS_S, isS_I, isT_T, tup_L, tup_T, lst_L, lst_T, int_I, int_B, min_2, max_2, abs_I, h2]
    · rw [decide_eq_false q2] at h2 ⊢
      cases b1 <;> simp [q_cons, q_nil, s_ife, s_ret, s_asg, s_raise, s_expr, n_and, n_or, n_not, n_neg, n_blt, n_cmp, n_chn, n_cons, n_nil, n_slot, n_lit, n_idx, n_call, n_tup, n_lst, n_ite, b_ok, b_err, t_ok, t_err, l_some, l_err, tv_bool, tv_tup, tv_lst, i_tup, i_lst, atI, ixN, o_ret, o_err, o_next, setTg, bigLine, k_eqI, k_neI, k_eqS, k_neS, k_leI, k_ltI, k_geI, k_gtI, k_ltS, k_in, k_nin, k_is, k_isn, len_T, len_L, isI_I, isI_S, isS_S, isS_I, isT_T, tup_L, tup_T, lst_L, lst_T, int_I, int_B, min_2, max_2, abs_I, h2]
  · simp [q_cons, q_nil, s_ife, s_ret, s_asg, s_raise, s_expr, n_and, n_or, n_not, n_neg, n_blt, n_cmp, n_chn, n_cons, n_nil, n_slot, n_lit, n_idx, n_call, n_tup, n_lst, n_ite, b_ok, b_err, t_ok, t_err, l_some, l_err, tv_bool, tv_tup, tv_lst, i_tup, i_lst, atI, ixN, o_ret, o_err, o_next, setTg, bigLine, k_eqI, k_neI, k_eqS, k_neS, k_leI, k_ltI, k_geI, k_gtI, k_ltS, k_in, k_nin, k_is, k_isn, len_T, len_L, isI_I, isI_S, isS_S, isS_I, isT_T, tup_L, tup_T, lst_L, lst_T, int_I, int_B, min_2, max_2, abs_I, ]
  · unfold bigLine; omega
  · intro y hy
    simp [q_cons, q_nil, s_ife, s_ret, s_asg, s_raise, s_expr, n_and, n_or, n_not, n_neg, n_blt, n_cmp, n_chn, n_cons, n_nil, n_slot, n_lit, n_idx, n_call, n_tup, n_lst, n_ite, b_ok, b_err, t_ok, t_err, l_some, l_err, tv_bool, tv_tup, tv_lst, i_tup, i_lst, atI, ixN, o_ret, o_err, o_next, setTg, bigLine, k_eqI, k_neI, k_eqS, k_neS, k_leI, k_ltI, k_geI, k_gtI, k_ltS, k_in, k_nin, k_is, k_isn, len_T, len_L, isI_I, isI_S, isS_S, isS_I, isT_T, tup_L, tup_T, lst_L, lst_T, int_I, int_B, min_2, max_2, abs_I, h3, in_strs]
theorem check_net_ok {L n : Nat} {h : Hs} {t : Tk} {net : List Str} (g : Good t) (hl : net.length < 64) (hx : ∀ x ∈ net, x ∈ t.nms) (ha : Asc net) :
    callN fns L (n + 4) "check_net" [t.d, sT net] h = .ok .none h := by
  rw [check_net_eq g hl fun x hx' => Nms_ok x (g.lnn x (hx x hx')), if_pos]
  unfold netOk
  rw [sortS_asc ha]
  simp only [decide_true, Bool.and_true, List.all_eq_true, decide_eq_true_eq]
  exact hx
theorem s_br0 : PyData.tuple [.str "", .tuple [], .tuple []] = Br.d ⟨"", [], []⟩ := rfl
/-- the break of that name -/
def fbr (t : Tk) (name : Str) : Option Br := if name = "" then some ⟨"", [], []⟩ else t.bs.find? fun b => b.n == name
def oD : Option Br → D
  | some b => b.d
  | none => .none
theorem filter_find {Y : Type} {p : Y → Bool} {φ : Y → D} {d : D} : ∀ {ys : List Y}, bltD .nextIter [.list ((ys.filter p).map φ), d] = some (match ys.find? p with
    | some y => φ y
    | none => d)
  | [] => rfl
  | y :: r => by
    cases q : p y with
    | true => rw [List.filter_cons_of_pos q, List.find?_cons_of_pos q]; rfl
    | false => rw [List.filter_cons_of_neg (by simp [q]), List.find?_cons_of_neg (by simp [q])]; exact filter_find
theorem known_break_eq {L n : Nat} {h : Hs} {t : Tk} {name : Str} (g : Good t) : callN fns L (n + 1) "known_break" [t.d, .str name] h = .ok (oD (fbr t name)) h := by
  rw [cl_known_break, c_known_break]
  by_cases q : name = ""
  · rw [q]
    simp [q_cons, q_nil, s_ife, s_ret, s_asg, s_raise, s_expr, n_and, n_or, n_not, n_neg, n_blt, n_cmp, n_chn, n_cons, n_nil, n_slot, n_lit, n_idx, n_call, n_tup, n_lst, n_ite, b_ok, b_err, t_ok, t_err, l_some, l_err, tv_bool, tv_tup, tv_lst, i_tup, i_lst, atI, ixN, o_ret, o_err, o_next, setTg, bigLine, k_eqI, k_neI, k_eqS, k_neS, k_leI, k_ltI, k_geI, k_gtI, k_ltS, k_in, k_nin, k_is, k_isn, len_T, len_L, isI_I, isI_S, isS_S, isS_I, isT_T, tup_L, tup_T, lst_L, lst_T, int_I, int_B, min_2, max_2, abs_I, fbr, oD]
    rfl
  · have q2 : (name == ("" : Str)) = false := by simpa using q
    simp [q_cons, q_nil, s_ife, s_ret, s_asg, s_raise, s_expr, n_and, n_or, n_not, n_neg, n_blt, n_cmp, n_chn, n_cons, n_nil, n_slot, n_lit, n_idx, n_call, n_tup, n_lst, n_ite, b_ok, b_err, t_ok, t_err, l_some, l_err, tv_bool, tv_tup, tv_lst, i_tup, i_lst, atI, ixN, o_ret, o_err, o_next, setTg, bigLine, k_eqI, k_neI, k_eqS, k_neS, k_leI, k_ltI, k_geI, k_gtI, k_ltS, k_in, k_nin, k_is, k_isn, len_T, len_L, isI_I, isI_S, isS_S, isS_I, isT_T, tup_L, tup_T, lst_L, lst_T, int_I, int_B, min_2, max_2, abs_I, fbr, q, q2]
    rw [lc_nm t.bs Br.d (fun b => b.n == name) Br.d (x := .tuple (t.bs.map Br.d)) ?_ rfl ?_ ?_ ?_]
    · simp [q_cons, q_nil, s_ife, s_ret, s_asg, s_raise, s_expr, n_and, n_or, n_not, n_neg, n_blt, n_cmp, n_chn, n_cons, n_nil, n_slot, n_lit, n_idx, n_call, n_tup, n_lst, n_ite, b_ok, b_err, t_ok, t_err, l_some, l_err, tv_bool, tv_tup, tv_lst, i_tup, i_lst, atI, ixN, o_ret, o_err, o_next, setTg, bigLine, k_eqI, k_neI, k_eqS, k_neS, k_leI, k_ltI, k_geI, k_gtI, k_ltS, k_in, k_nin, k_is, k_isn, len_T, len_L, isI_I, isI_S, isS_S, isS_I, isT_T, tup_L, tup_T, lst_L, lst_T, int_I, int_B, min_2, max_2, abs_I, filter_find]
      cases t.bs.find? (fun b => b.n == name) <;> rfl
    · simp [q_cons, q_nil, s_ife, s_ret, s_asg, s_raise, s_expr, n_and, n_or, n_not, n_neg, n_blt, n_cmp, n_chn, n_cons, n_nil, n_slot, n_lit, n_idx, n_call, n_tup, n_lst, n_ite, b_ok, b_err, t_ok, t_err, l_some, l_err, tv_bool, tv_tup, tv_lst, i_tup, i_lst, atI, ixN, o_ret, o_err, o_next, setTg, bigLine, k_eqI, k_neI, k_eqS, k_neS, k_leI, k_ltI, k_geI, k_gtI, k_ltS, k_in, k_nin, k_is, k_isn, len_T, len_L, isI_I, isI_S, isS_S, isS_I, isT_T, tup_L, tup_T, lst_L, lst_T, int_I, int_B, min_2, max_2, abs_I, tk_d]
    · have := g.bsl; unfold bigLine; omega
    · intro y hy
      simp [q_cons, q_nil, s_ife, s_ret, s_asg, s_raise, s_expr, n_and, n_or, n_not, n_neg, n_blt, n_cmp, n_chn, n_cons, n_nil, n_slot, n_lit, n_idx, n_call, n_tup, n_lst, n_ite, b_ok, b_err, t_ok, t_err, l_some, l_err, tv_bool, tv_tup, tv_lst, i_tup, i_lst, atI, ixN, o_ret, o_err, o_next, setTg, bigLine, k_eqI, k_neI, k_eqS, k_neS, k_leI, k_ltI, k_geI, k_gtI, k_ltS, k_in, k_nin, k_is, k_isn, len_T, len_L, isI_I, isI_S, isS_S, isS_I, isT_T, tup_L, tup_T, lst_L, lst_T, int_I, int_B, min_2, max_2, abs_I, br_d]
    · intro y hy _
      simp [q_cons, q_nil, s_ife, s_ret, s_asg, s_raise, s_expr, n_and, n_or, n_not, n_neg, n_blt, n_cmp, n_chn, n_cons, n_nil, n_slot, n_lit, n_idx, n_call, n_tup, n_lst, n_ite, b_ok, b_err, t_ok, t_err, l_some, l_err, tv_bool, tv_tup, tv_lst, i_tup, i_lst, atI, ixN, o_ret, o_err, o_next, setTg, bigLine, k_eqI, k_neI, k_eqS, k_neS, k_leI, k_ltI, k_geI, k_gtI, k_ltS, k_in, k_nin, k_is, k_isn, len_T, len_L, isI_I, isI_S, isS_S, isS_I, isT_T, tup_L, tup_T, lst_L, lst_T, int_I, int_B, min_2, max_2, abs_I, ]
theorem law_break_eq {L n : Nat} {h : Hs} {t : Tk} {name : Str} : callN fns L (n + 1) "_law_break" [t.d, .str name] h = .ok ((t.bs.find? fun b => b.n == name).getD ⟨"", [], []⟩).d h := by
  rw [cl__law_break, c__law_break]
  have key : ∀ (bs : List Br) (o : Option D), ∃ o', loopF (.nm 2) (fun ρ h => denSs ⟨callN fns L n, L⟩ (.cons (.ife (.cmp .eq (.idx (.slot 2) (.lit (.int 0))) (.slot 1)) (.cons (.ret (.slot 2)) .nil) .nil) .nil) ρ h) (bs.map Br.d) [some t.d, some (.str name), o] h
      = (match bs.find? fun b => b.n == name with
        | some b => .ret b.d h
        | none => .next [some t.d, some (.str name), o'] h) := by
    intro bs
    induction bs with
    | nil => exact fun o => ⟨o, rfl⟩
    | cons b r ih =>
      intro o
      cases q : b.n == name with
      | true =>
        refine ⟨o, ?_⟩
        rw [List.find?_cons_of_pos (p := fun b : Br => b.n == name) q, List.map_cons, loopF]
        simp [q_cons, q_nil, s_ife, s_ret, s_asg, s_raise, s_expr, n_and, n_or, n_not, n_neg, n_blt, n_cmp, n_chn, n_cons, n_nil, n_slot, n_lit, n_idx, n_call, n_tup, n_lst, n_ite, b_ok, b_err, t_ok, t_err, l_some, l_err, tv_bool, tv_tup, tv_lst, i_tup, i_lst, atI, ixN, o_ret, o_err, o_next, setTg, bigLine, k_eqI, k_neI, k_eqS, k_neS, k_leI, k_ltI, k_geI, k_gtI, k_ltS, k_in, k_nin, k_is, k_isn, len_T, len_L, isI_I, isI_S, isS_S, isS_I, isT_T, tup_L, tup_T, lst_L, lst_T, int_I, int_B, min_2, max_2, abs_I, br_d, q]
      | false =>
        obtain ⟨o', e⟩ := ih (some b.d)
        refine ⟨o', ?_⟩
        rw [List.find?_cons_of_neg (p := fun b : Br => b.n == name) (by simp [q]), List.map_cons, loopF, ← e]
        simp [q_cons, q_nil, s_ife, s_ret, s_asg, s_raise, s_expr, n_and, n_or, n_not, n_neg, n_blt, n_cmp, n_chn, n_cons, n_nil, n_slot, n_lit, n_idx, n_call, n_tup, n_lst, n_ite, b_ok, b_err, t_ok, t_err, l_some, l_err, tv_bool, tv_tup, tv_lst, i_tup, i_lst, atI, ixN, o_ret, o_err, o_next, setTg, bigLine, k_eqI, k_neI, k_eqS, k_neS, k_leI, k_ltI, k_geI, k_gtI, k_ltS, k_in, k_nin, k_is, k_isn, len_T, len_L, isI_I, isI_S, isS_S, isS_I, isT_T, tup_L, tup_T, lst_L, lst_T, int_I, int_B, min_2, max_2, abs_I, br_d, q]
  obtain ⟨o', e⟩ := key t.bs none
  have hit : den ⟨callN fns L n, L⟩ (.idx (.slot 0) (.lit (.int 4))) [some t.d, some (.str name), none] h = .ok (.tuple (t.bs.map Br.d)) h := by simp [q_cons, q_nil, s_ife, s_ret, s_asg, s_raise, s_expr, n_and, n_or, n_not, n_neg, n_blt, n_cmp, n_chn, n_cons, n_nil, n_slot, n_lit, n_idx, n_call, n_tup, n_lst, n_ite, b_ok, b_err, t_ok, t_err, l_some, l_err, tv_bool, tv_tup, tv_lst, i_tup, i_lst, atI, ixN, o_ret, o_err, o_next, setTg, bigLine, k_eqI, k_neI, k_eqS, k_neS, k_leI, k_ltI, k_geI, k_gtI, k_ltS, k_in, k_nin, k_is, k_isn, len_T, len_L, isI_I, isI_S, isS_S, isS_I, isT_T, tup_L, tup_T, lst_L, lst_T, int_I, int_B, min_2, max_2, abs_I, tk_d]
  rw [q_cons, s_for, hit, t_ok, items_T]
  dsimp only
  rw [e]
  cases t.bs.find? fun b => b.n == name with
  | some b => rfl
  | none =>
    simp [q_cons, q_nil, s_ife, s_ret, s_asg, s_raise, s_expr, n_and, n_or, n_not, n_neg, n_blt, n_cmp, n_chn, n_cons, n_nil, n_slot, n_lit, n_idx, n_call, n_tup, n_lst, n_ite, b_ok, b_err, t_ok, t_err, l_some, l_err, tv_bool, tv_tup, tv_lst, i_tup, i_lst, atI, ixN, o_ret, o_err, o_next, setTg, bigLine, k_eqI, k_neI, k_eqS, k_neS, k_leI, k_ltI, k_geI, k_gtI, k_ltS, k_in, k_nin, k_is, k_isn, len_T, len_L, isI_I, isI_S, isS_S, isS_I, isT_T, tup_L, tup_T, lst_L, lst_T, int_I, int_B, min_2, max_2, abs_I, ]
    rfl
theorem check_break_eq {L n : Nat} {h : Hs} {t : Tk} {name : Str} (g : Good t) : callN fns L (n + 4) "check_break" [t.d, .str name] h = if (fbr t name).isSome then .ok .none h else .err ⟨"Missing", none⟩ h := by
  rw [cl_check_break, c_check_break]
  have h1 := check_task_ok (L := L) (n := n) (h := h) g
  have h2 := known_break_eq (L := L) (n := n + 2) (h := h) (name := name) g
  cases q : fbr t name with
  | none =>
    rw [q] at h2
    simp [q_cons, q_nil, s_ife, s_ret, s_asg, s_raise, s_expr, n_and, n_or, n_not, n_neg, n_blt, n_cmp, n_chn, n_cons, n_nil, n_slot, n_lit, n_idx, n_call, n_tup, n_lst, n_ite, b_ok, b_err, t_ok, t_err, l_some, l_err, tv_bool, tv_tup, tv_lst, i_tup, i_lst, atI, ixN, o_ret, o_err, o_next, setTg, bigLine, k_eqI, k_neI, k_eqS, k_neS, k_leI, k_ltI, k_geI, k_gtI, k_ltS, k_in, k_nin, k_is, k_isn, len_T, len_L, isI_I, isI_S, isS_S, isS_I, isT_T, tup_L, tup_T, lst_L, lst_T, int_I, int_B, min_2, max_2, abs_I, h1, h2, oD, isNone]
  | some b =>
    rw [q] at h2
    simp [q_cons, q_nil, s_ife, s_ret, s_asg, s_raise, s_expr, n_and, n_or, n_not, n_neg, n_blt, n_cmp, n_chn, n_cons, n_nil, n_slot, n_lit, n_idx, n_call, n_tup, n_lst, n_ite, b_ok, b_err, t_ok, t_err, l_some, l_err, tv_bool, tv_tup, tv_lst, i_tup, i_lst, atI, ixN, o_ret, o_err, o_next, setTg, bigLine, k_eqI, k_neI, k_eqS, k_neS, k_leI, k_ltI, k_geI, k_gtI, k_ltS, k_in, k_nin, k_is, k_isn, len_T, len_L, isI_I, isI_S, isS_S, isS_I, isT_T, tup_L, tup_T, lst_L, lst_T, int_I, int_B, min_2, max_2, abs_I, h1, h2, oD, isNone, br_d]
/-- what is left -/
def kps (t : Tk) (b : Br) : List Str := t.ps.filter fun p => !decide (p ∈ b.gone)
def kls (t : Tk) (net : List Str) (b : Br) : List Lk := t.ls.filter fun l => decide (l.n ∈ net) && (!decide (l.n ∈ b.own) && (decide (l.a ∈ kps t b) && decide (l.b ∈ kps t b)))
theorem known_left_eq {L n : Nat} {h : Hs} {t : Tk} {net : List Str} {name : Str} {b : Br} (g : Good t) (hb : fbr t name = some b) :
    callN fns L (n + 2) "known_left" [t.d, sT net, .str name] h = .ok (.tuple [sL (kps t b), .list ((kls t net b).map Lk.d)]) h := by
  rw [cl_known_left, c_known_left]
  have h2 := known_break_eq (L := L) (n := n) (h := h) (name := name) g
  rw [hb] at h2
  have l1 := g.psl
  have l2 := g.lsl
  simp [q_cons, q_nil, s_ife, s_ret, s_asg, s_raise, s_expr, n_and, n_or, n_not, n_neg, n_blt, n_cmp, n_chn, n_cons, n_nil, n_slot, n_lit, n_idx, n_call, n_tup, n_lst, n_ite, b_ok, b_err, t_ok, t_err, l_some, l_err, tv_bool, tv_tup, tv_lst, i_tup, i_lst, atI, ixN, o_ret, o_err, o_next, setTg, bigLine, k_eqI, k_neI, k_eqS, k_neS, k_leI, k_ltI, k_geI, k_gtI, k_ltS, k_in, k_nin, k_is, k_isn, len_T, len_L, isI_I, isI_S, isS_S, isS_I, isT_T, tup_L, tup_T, lst_L, lst_T, int_I, int_B, min_2, max_2, abs_I, h2, oD]
  rw [lc_nm t.ps .str (fun p => !decide (p ∈ b.gone)) .str (x := sT t.ps) ?_ rfl ?_ ?_ ?_]
  · rw [show PyData.list ((t.ps.filter fun p => !decide (p ∈ b.gone)).map PyData.str) = sL (kps t b) from rfl]
    simp [q_cons, q_nil, s_ife, s_ret, s_asg, s_raise, s_expr, n_and, n_or, n_not, n_neg, n_blt, n_cmp, n_chn, n_cons, n_nil, n_slot, n_lit, n_idx, n_call, n_tup, n_lst, n_ite, b_ok, b_err, t_ok, t_err, l_some, l_err, tv_bool, tv_tup, tv_lst, i_tup, i_lst, atI, ixN, o_ret, o_err, o_next, setTg, bigLine, k_eqI, k_neI, k_eqS, k_neS, k_leI, k_ltI, k_geI, k_gtI, k_ltS, k_in, k_nin, k_is, k_isn, len_T, len_L, isI_I, isI_S, isS_S, isS_I, isT_T, tup_L, tup_T, lst_L, lst_T, int_I, int_B, min_2, max_2, abs_I, ]
    rw [lc_nm t.ls Lk.d (fun l => decide (l.n ∈ net) && !decide (l.n ∈ b.own)) Lk.d (x := .tuple (t.ls.map Lk.d)) ?_ rfl ?_ ?_ ?_]
    · simp [q_cons, q_nil, s_ife, s_ret, s_asg, s_raise, s_expr, n_and, n_or, n_not, n_neg, n_blt, n_cmp, n_chn, n_cons, n_nil, n_slot, n_lit, n_idx, n_call, n_tup, n_lst, n_ite, b_ok, b_err, t_ok, t_err, l_some, l_err, tv_bool, tv_tup, tv_lst, i_tup, i_lst, atI, ixN, o_ret, o_err, o_next, setTg, bigLine, k_eqI, k_neI, k_eqS, k_neS, k_leI, k_ltI, k_geI, k_gtI, k_ltS, k_in, k_nin, k_is, k_isn, len_T, len_L, isI_I, isI_S, isS_S, isS_I, isT_T, tup_L, tup_T, lst_L, lst_T, int_I, int_B, min_2, max_2, abs_I, ]
      rw [lc_nm (t.ls.filter fun l => decide (l.n ∈ net) && !decide (l.n ∈ b.own)) Lk.d (fun l => decide (l.a ∈ kps t b) && decide (l.b ∈ kps t b)) Lk.d (x := .list ((t.ls.filter fun l => decide (l.n ∈ net) && !decide (l.n ∈ b.own)).map Lk.d)) ?_ rfl ?_ ?_ ?_]
      · simp [q_cons, q_nil, s_ife, s_ret, s_asg, s_raise, s_expr, n_and, n_or, n_not, n_neg, n_blt, n_cmp, n_chn, n_cons, n_nil, n_slot, n_lit, n_idx, n_call, n_tup, n_lst, n_ite, b_ok, b_err, t_ok, t_err, l_some, l_err, tv_bool, tv_tup, tv_lst, i_tup, i_lst, atI, ixN, o_ret, o_err, o_next, setTg, bigLine, k_eqI, k_neI, k_eqS, k_neS, k_leI, k_ltI, k_geI, k_gtI, k_ltS, k_in, k_nin, k_is, k_isn, len_T, len_L, isI_I, isI_S, isS_S, isS_I, isT_T, tup_L, tup_T, lst_L, lst_T, int_I, int_B, min_2, max_2, abs_I, ]
        unfold kls
        congr 2
        funext l
        cases decide (l.n ∈ net) <;> cases decide (l.n ∈ b.own) <;> simp
      · simp [q_cons, q_nil, s_ife, s_ret, s_asg, s_raise, s_expr, n_and, n_or, n_not, n_neg, n_blt, n_cmp, n_chn, n_cons, n_nil, n_slot, n_lit, n_idx, n_call, n_tup, n_lst, n_ite, b_ok, b_err, t_ok, t_err, l_some, l_err, tv_bool, tv_tup, tv_lst, i_tup, i_lst, atI, ixN, o_ret, o_err, o_next, setTg, bigLine, k_eqI, k_neI, k_eqS, k_neS, k_leI, k_ltI, k_geI, k_gtI, k_ltS, k_in, k_nin, k_is, k_isn, len_T, len_L, isI_I, isI_S, isS_S, isS_I, isT_T, tup_L, tup_T, lst_L, lst_T, int_I, int_B, min_2, max_2, abs_I, ]
      · exact Nat.le_trans (List.length_filter_le ..) (by unfold bigLine; omega)
      · intro y hy
        by_cases qa : y.a ∈ kps t b <;> simp [q_cons, q_nil, s_ife, s_ret, s_asg, s_raise, s_expr, n_and, n_or, n_not, n_neg, n_blt, n_cmp, n_chn, n_cons, n_nil, n_slot, n_lit, n_idx, n_call, n_tup, n_lst, n_ite, b_ok, b_err, t_ok, t_err, l_some, l_err, tv_bool, tv_tup, tv_lst, i_tup, i_lst, atI, ixN, o_ret, o_err, o_next, setTg, bigLine, k_eqI, k_neI, k_eqS, k_neS, k_leI, k_ltI, k_geI, k_gtI, k_ltS, k_in, k_nin, k_is, k_isn, len_T, len_L, isI_I, isI_S, isS_S, isS_I, isT_T, tup_L, tup_T, lst_L, lst_T, int_I, int_B, min_2, max_2, abs_I, lk_d, in_strsL, qa]
      · intro y hy _
        simp [q_cons, q_nil, s_ife, s_ret, s_asg, s_raise, s_expr, n_and, n_or, n_not, n_neg, n_blt, n_cmp, n_chn, n_cons, n_nil, n_slot, n_lit, n_idx, n_call, n_tup, n_lst, n_ite, b_ok, b_err, t_ok, t_err, l_some, l_err, tv_bool, tv_tup, tv_lst, i_tup, i_lst, atI, ixN, o_ret, o_err, o_next, setTg, bigLine, k_eqI, k_neI, k_eqS, k_neS, k_leI, k_ltI, k_geI, k_gtI, k_ltS, k_in, k_nin, k_is, k_isn, len_T, len_L, isI_I, isI_S, isS_S, isS_I, isT_T, tup_L, tup_T, lst_L, lst_T, int_I, int_B, min_2, max_2, abs_I, ]
    · simp [q_cons, q_nil, s_ife, s_ret, s_asg, s_raise, s_expr, n_and, n_or, n_not, n_neg, n_blt, n_cmp, n_chn, n_cons, n_nil, n_slot, n_lit, n_idx, n_call, n_tup, n_lst, n_ite, b_ok, b_err, t_ok, t_err, l_some, l_err, tv_bool, tv_tup, tv_lst, i_tup, i_lst, atI, ixN, o_ret, o_err, o_next, setTg, bigLine, k_eqI, k_neI, k_eqS, k_neS, k_leI, k_ltI, k_geI, k_gtI, k_ltS, k_in, k_nin, k_is, k_isn, len_T, len_L, isI_I, isI_S, isS_S, isS_I, isT_T, tup_L, tup_T, lst_L, lst_T, int_I, int_B, min_2, max_2, abs_I, tk_d]
    · unfold bigLine; omega
    · intro y hy
      by_cases qa : y.n ∈ net <;> simp [q_cons, q_nil, s_ife, s_ret, s_asg, s_raise, s_expr, n_and, n_or, n_not, n_neg, n_blt, n_cmp, n_chn, n_cons, n_nil, n_slot, n_lit, n_idx, n_call, n_tup, n_lst, n_ite, b_ok, b_err, t_ok, t_err, l_some, l_err, tv_bool, tv_tup, tv_lst, i_tup, i_lst, atI, ixN, o_ret, o_err, o_next, setTg, bigLine, k_eqI, k_neI, k_eqS, k_neS, k_leI, k_ltI, k_geI, k_gtI, k_ltS, k_in, k_nin, k_is, k_isn, len_T, len_L, isI_I, isI_S, isS_S, isS_I, isT_T, tup_L, tup_T, lst_L, lst_T, int_I, int_B, min_2, max_2, abs_I, lk_d, br_d, in_strs, qa]
    · intro y hy _
      simp [q_cons, q_nil, s_ife, s_ret, s_asg, s_raise, s_expr, n_and, n_or, n_not, n_neg, n_blt, n_cmp, n_chn, n_cons, n_nil, n_slot, n_lit, n_idx, n_call, n_tup, n_lst, n_ite, b_ok, b_err, t_ok, t_err, l_some, l_err, tv_bool, tv_tup, tv_lst, i_tup, i_lst, atI, ixN, o_ret, o_err, o_next, setTg, bigLine, k_eqI, k_neI, k_eqS, k_neS, k_leI, k_ltI, k_geI, k_gtI, k_ltS, k_in, k_nin, k_is, k_isn, len_T, len_L, isI_I, isI_S, isS_S, isS_I, isT_T, tup_L, tup_T, lst_L, lst_T, int_I, int_B, min_2, max_2, abs_I, ]
  · simp [q_cons, q_nil, s_ife, s_ret, s_asg, s_raise, s_expr, n_and, n_or, n_not, n_neg, n_blt, n_cmp, n_chn, n_cons, n_nil, n_slot, n_lit, n_idx, n_call, n_tup, n_lst, n_ite, b_ok, b_err, t_ok, t_err, l_some, l_err, tv_bool, tv_tup, tv_lst, i_tup, i_lst, atI, ixN, o_ret, o_err, o_next, setTg, bigLine, k_eqI, k_neI, k_eqS, k_neS, k_leI, k_ltI, k_geI, k_gtI, k_ltS, k_in, k_nin, k_is, k_isn, len_T, len_L, isI_I, isI_S, isS_S, isS_I, isT_T, tup_L, tup_T, lst_L, lst_T, int_I, int_B, min_2, max_2, abs_I, tk_d]
  · unfold bigLine; omega
  · intro y hy
    simp [q_cons, q_nil, s_ife, s_ret, s_asg, s_raise, s_expr, n_and, n_or, n_not, n_neg, n_blt, n_cmp, n_chn, n_cons, n_nil, n_slot, n_lit, n_idx, n_call, n_tup, n_lst, n_ite, b_ok, b_err, t_ok, t_err, l_some, l_err, tv_bool, tv_tup, tv_lst, i_tup, i_lst, atI, ixN, o_ret, o_err, o_next, setTg, bigLine, k_eqI, k_neI, k_eqS, k_neS, k_leI, k_ltI, k_geI, k_gtI, k_ltS, k_in, k_nin, k_is, k_isn, len_T, len_L, isI_I, isI_S, isS_S, isS_I, isT_T, tup_L, tup_T, lst_L, lst_T, int_I, int_B, min_2, max_2, abs_I, br_d, in_strs]
  · intro y hy _
    simp [q_cons, q_nil, s_ife, s_ret, s_asg, s_raise, s_expr, n_and, n_or, n_not, n_neg, n_blt, n_cmp, n_chn, n_cons, n_nil, n_slot, n_lit, n_idx, n_call, n_tup, n_lst, n_ite, b_ok, b_err, t_ok, t_err, l_some, l_err, tv_bool, tv_tup, tv_lst, i_tup, i_lst, atI, ixN, o_ret, o_err, o_next, setTg, bigLine, k_eqI, k_neI, k_eqS, k_neS, k_leI, k_ltI, k_geI, k_gtI, k_ltS, k_in, k_nin, k_is, k_isn, len_T, len_L, isI_I, isI_S, isS_S, isS_I, isT_T, tup_L, tup_T, lst_L, lst_T, int_I, int_B, min_2, max_2, abs_I, ]
end K00

set_option Elab.async false
set_option linter.all false
set_option maxRecDepth 100000
set_option maxHeartbeats 4000000
/-! k00, plain law, part 5: left_of, costs, limits. -/
namespace K00
open PySem Mini
theorem partC_no {d : D} : partC (.lit .none) d = some none := rfl
theorem partC_i {i j : Int} : partC (.lit (.int i)) (.int j) = some (some j) := rfl
theorem slc_T {xs : List D} {l u : Option Int} : slcD (.tuple xs) l u = some (.tuple (cut xs l u)) := rfl
theorem law_left_eq {L n : Nat} {h : Hs} {t : Tk} {net : List Str} {name : Str} {b : Br} (g : Good t) (hb : ((t.bs.find? fun b => b.n == name).getD ⟨"", [], []⟩) = b) :
    callN fns L (n + 2) "_law_left" [t.d, sT net, .str name] h = .ok (.tuple [sL (kps t b), .list ((kls t net b).map Lk.d)]) h := by
  rw [cl__law_left, c__law_left]
  have h2 := law_break_eq (L := L) (n := n) (h := h) (t := t) (name := name)
  rw [hb] at h2
  have l1 := g.psl
  have l2 := g.lsl
  simp [q_cons, q_nil, s_ife, s_ret, s_asg, s_raise, s_expr, n_and, n_or, n_not, n_neg, n_blt, n_cmp, n_chn, n_cons, n_nil, n_slot, n_lit, n_idx, n_call, n_tup, n_lst, n_ite, b_ok, b_err, t_ok, t_err, l_some, l_err, tv_bool, tv_tup, tv_lst, i_tup, i_lst, atI, ixN, o_ret, o_err, o_next, setTg, bigLine, k_eqI, k_neI, k_eqS, k_neS, k_leI, k_ltI, k_geI, k_gtI, k_ltS, k_in, k_nin, k_is, k_isn, len_T, len_L, isI_I, isI_S, isS_S, isS_I, isT_T, tup_L, tup_T, lst_L, lst_T, int_I, int_B, min_2, max_2, abs_I, h2]
  rw [lc_nm t.ps .str (fun p => !decide (p ∈ b.gone)) .str (x := sT t.ps) ?_ rfl ?_ ?_ ?_]
  · rw [show PyData.list ((t.ps.filter fun p => !decide (p ∈ b.gone)).map PyData.str) = sL (kps t b) from rfl]
    simp [q_cons, q_nil, s_ife, s_ret, s_asg, s_raise, s_expr, n_and, n_or, n_not, n_neg, n_blt, n_cmp, n_chn, n_cons, n_nil, n_slot, n_lit, n_idx, n_call, n_tup, n_lst, n_ite, b_ok, b_err, t_ok, t_err, l_some, l_err, tv_bool, tv_tup, tv_lst, i_tup, i_lst, atI, ixN, o_ret, o_err, o_next, setTg, bigLine, k_eqI, k_neI, k_eqS, k_neS, k_leI, k_ltI, k_geI, k_gtI, k_ltS, k_in, k_nin, k_is, k_isn, len_T, len_L, isI_I, isI_S, isS_S, isS_I, isT_T, tup_L, tup_T, lst_L, lst_T, int_I, int_B, min_2, max_2, abs_I, ]
    rw [lc_nm t.ls Lk.d (fun l => decide (l.n ∈ net) && (!decide (l.n ∈ b.own) && (decide (l.a ∈ kps t b) && decide (l.b ∈ kps t b)))) Lk.d (x := .tuple (t.ls.map Lk.d)) ?_ rfl ?_ ?_ ?_]
    · simp [q_cons, q_nil, s_ife, s_ret, s_asg, s_raise, s_expr, n_and, n_or, n_not, n_neg, n_blt, n_cmp, n_chn, n_cons, n_nil, n_slot, n_lit, n_idx, n_call, n_tup, n_lst, n_ite, b_ok, b_err, t_ok, t_err, l_some, l_err, tv_bool, tv_tup, tv_lst, i_tup, i_lst, atI, ixN, o_ret, o_err, o_next, setTg, bigLine, k_eqI, k_neI, k_eqS, k_neS, k_leI, k_ltI, k_geI, k_gtI, k_ltS, k_in, k_nin, k_is, k_isn, len_T, len_L, isI_I, isI_S, isS_S, isS_I, isT_T, tup_L, tup_T, lst_L, lst_T, int_I, int_B, min_2, max_2, abs_I, ]
      rfl
    · simp [q_cons, q_nil, s_ife, s_ret, s_asg, s_raise, s_expr, n_and, n_or, n_not, n_neg, n_blt, n_cmp, n_chn, n_cons, n_nil, n_slot, n_lit, n_idx, n_call, n_tup, n_lst, n_ite, b_ok, b_err, t_ok, t_err, l_some, l_err, tv_bool, tv_tup, tv_lst, i_tup, i_lst, atI, ixN, o_ret, o_err, o_next, setTg, bigLine, k_eqI, k_neI, k_eqS, k_neS, k_leI, k_ltI, k_geI, k_gtI, k_ltS, k_in, k_nin, k_is, k_isn, len_T, len_L, isI_I, isI_S, isS_S, isS_I, isT_T, tup_L, tup_T, lst_L, lst_T, int_I, int_B, min_2, max_2, abs_I, tk_d]
    · unfold bigLine; omega
    · intro y hy
      by_cases qa : y.n ∈ net <;> by_cases qb : y.n ∈ b.own <;> by_cases qc : y.a ∈ kps t b <;> simp [q_cons, q_nil, s_ife, s_ret, s_asg, s_raise, s_expr, n_and, n_or, n_not, n_neg, n_blt, n_cmp, n_chn, n_cons, n_nil, n_slot, n_lit, n_idx, n_call, n_tup, n_lst, n_ite, b_ok, b_err, t_ok, t_err, l_some, l_err, tv_bool, tv_tup, tv_lst, i_tup, i_lst, atI, ixN, o_ret, o_err, o_next, setTg, bigLine, k_eqI, k_neI, k_eqS, k_neS, k_leI, k_ltI, k_geI, k_gtI, k_ltS, k_in, k_nin, k_is, k_isn, len_T, len_L, isI_I, isI_S, isS_S, isS_I, isT_T, tup_L, tup_T, lst_L, lst_T, int_I, int_B, min_2, max_2, abs_I, lk_d, br_d, in_strs, in_strsL, qa, qb, qc]
    · intro y hy _
      simp [q_cons, q_nil, s_ife, s_ret, s_asg, s_raise, s_expr, n_and, n_or, n_not, n_neg, n_blt, n_cmp, n_chn, n_cons, n_nil, n_slot, n_lit, n_idx, n_call, n_tup, n_lst, n_ite, b_ok, b_err, t_ok, t_err, l_some, l_err, tv_bool, tv_tup, tv_lst, i_tup, i_lst, atI, ixN, o_ret, o_err, o_next, setTg, bigLine, k_eqI, k_neI, k_eqS, k_neS, k_leI, k_ltI, k_geI, k_gtI, k_ltS, k_in, k_nin, k_is, k_isn, len_T, len_L, isI_I, isI_S, isS_S, isS_I, isT_T, tup_L, tup_T, lst_L, lst_T, int_I, int_B, min_2, max_2, abs_I, ]
  · simp [q_cons, q_nil, s_ife, s_ret, s_asg, s_raise, s_expr, n_and, n_or, n_not, n_neg, n_blt, n_cmp, n_chn, n_cons, n_nil, n_slot, n_lit, n_idx, n_call, n_tup, n_lst, n_ite, b_ok, b_err, t_ok, t_err, l_some, l_err, tv_bool, tv_tup, tv_lst, i_tup, i_lst, atI, ixN, o_ret, o_err, o_next, setTg, bigLine, k_eqI, k_neI, k_eqS, k_neS, k_leI, k_ltI, k_geI, k_gtI, k_ltS, k_in, k_nin, k_is, k_isn, len_T, len_L, isI_I, isI_S, isS_S, isS_I, isT_T, tup_L, tup_T, lst_L, lst_T, int_I, int_B, min_2, max_2, abs_I, tk_d]
  · unfold bigLine; omega
  · intro y hy
    simp [q_cons, q_nil, s_ife, s_ret, s_asg, s_raise, s_expr, n_and, n_or, n_not, n_neg, n_blt, n_cmp, n_chn, n_cons, n_nil, n_slot, n_lit, n_idx, n_call, n_tup, n_lst, n_ite, b_ok, b_err, t_ok, t_err, l_some, l_err, tv_bool, tv_tup, tv_lst, i_tup, i_lst, atI, ixN, o_ret, o_err, o_next, setTg, bigLine, k_eqI, k_neI, k_eqS, k_neS, k_leI, k_ltI, k_geI, k_gtI, k_ltS, k_in, k_nin, k_is, k_isn, len_T, len_L, isI_I, isI_S, isS_S, isS_I, isT_T, tup_L, tup_T, lst_L, lst_T, int_I, int_B, min_2, max_2, abs_I, br_d, in_strs]
  · intro y hy _
    simp [q_cons, q_nil, s_ife, s_ret, s_asg, s_raise, s_expr, n_and, n_or, n_not, n_neg, n_blt, n_cmp, n_chn, n_cons, n_nil, n_slot, n_lit, n_idx, n_call, n_tup, n_lst, n_ite, b_ok, b_err, t_ok, t_err, l_some, l_err, tv_bool, tv_tup, tv_lst, i_tup, i_lst, atI, ixN, o_ret, o_err, o_next, setTg, bigLine, k_eqI, k_neI, k_eqS, k_neS, k_leI, k_ltI, k_geI, k_gtI, k_ltS, k_in, k_nin, k_is, k_isn, len_T, len_L, isI_I, isI_S, isS_S, isS_I, isT_T, tup_L, tup_T, lst_L, lst_T, int_I, int_B, min_2, max_2, abs_I, ]
theorem left_of_eq {L n : Nat} {h : Hs} {t : Tk} {net : List Str} {name : Str} {b : Br} (g : Good t) (hl : net.length < 64) (hx : ∀ x ∈ net, x ∈ t.nms) (ha : Asc net) (hb : fbr t name = some b) :
    callN fns L (n + 5) "left_of" [t.d, sT net, .str name] h = .ok (.tuple [sT (kps t b), sT ((kls t net b).map (·.n))]) h := by
  rw [cl_left_of, c_left_of]
  have h1 := check_net_ok (L := L) (n := n) (h := h) g hl hx ha
  have h2 := check_break_eq (L := L) (n := n) (h := h) (name := name) g
  have h3 := known_left_eq (L := L) (n := n + 2) (h := h) (net := net) g hb
  rw [hb] at h2
  have e1 : ∀ xs : List Str, bltD .tuple [sL xs] = some (sT xs) := fun _ => rfl
  simp [q_cons, q_nil, s_ife, s_ret, s_asg, s_raise, s_expr, n_and, n_or, n_not, n_neg, n_blt, n_cmp, n_chn, n_cons, n_nil, n_slot, n_lit, n_idx, n_call, n_tup, n_lst, n_ite, b_ok, b_err, t_ok, t_err, l_some, l_err, tv_bool, tv_tup, tv_lst, i_tup, i_lst, atI, ixN, o_ret, o_err, o_next, setTg, bigLine, k_eqI, k_neI, k_eqS, k_neS, k_leI, k_ltI, k_geI, k_gtI, k_ltS, k_in, k_nin, k_is, k_isn, len_T, len_L, isI_I, isI_S, isS_S, isS_I, isT_T, tup_L, tup_T, lst_L, lst_T, int_I, int_B, min_2, max_2, abs_I, h1, h2, h3, e1]
  rw [lc_all (kls t net b) Lk.d (fun l => .str l.n) (x := .list ((kls t net b).map Lk.d)) ?_ rfl ?_ ?_]
  · simp [q_cons, q_nil, s_ife, s_ret, s_asg, s_raise, s_expr, n_and, n_or, n_not, n_neg, n_blt, n_cmp, n_chn, n_cons, n_nil, n_slot, n_lit, n_idx, n_call, n_tup, n_lst, n_ite, b_ok, b_err, t_ok, t_err, l_some, l_err, tv_bool, tv_tup, tv_lst, i_tup, i_lst, atI, ixN, o_ret, o_err, o_next, setTg, bigLine, k_eqI, k_neI, k_eqS, k_neS, k_leI, k_ltI, k_geI, k_gtI, k_ltS, k_in, k_nin, k_is, k_isn, len_T, len_L, isI_I, isI_S, isS_S, isS_I, isT_T, tup_L, tup_T, lst_L, lst_T, int_I, int_B, min_2, max_2, abs_I, ]
    unfold sT
    rw [List.map_map]
    rfl
  · simp [q_cons, q_nil, s_ife, s_ret, s_asg, s_raise, s_expr, n_and, n_or, n_not, n_neg, n_blt, n_cmp, n_chn, n_cons, n_nil, n_slot, n_lit, n_idx, n_call, n_tup, n_lst, n_ite, b_ok, b_err, t_ok, t_err, l_some, l_err, tv_bool, tv_tup, tv_lst, i_tup, i_lst, atI, ixN, o_ret, o_err, o_next, setTg, bigLine, k_eqI, k_neI, k_eqS, k_neS, k_leI, k_ltI, k_geI, k_gtI, k_ltS, k_in, k_nin, k_is, k_isn, len_T, len_L, isI_I, isI_S, isS_S, isS_I, isT_T, tup_L, tup_T, lst_L, lst_T, int_I, int_B, min_2, max_2, abs_I, ]
  · have := g.lsl
    exact Nat.le_trans (List.length_filter_le ..) (by unfold bigLine; omega)
  · intro y hy
    simp [q_cons, q_nil, s_ife, s_ret, s_asg, s_raise, s_expr, n_and, n_or, n_not, n_neg, n_blt, n_cmp, n_chn, n_cons, n_nil, n_slot, n_lit, n_idx, n_call, n_tup, n_lst, n_ite, b_ok, b_err, t_ok, t_err, l_some, l_err, tv_bool, tv_tup, tv_lst, i_tup, i_lst, atI, ixN, o_ret, o_err, o_next, setTg, bigLine, k_eqI, k_neI, k_eqS, k_neS, k_leI, k_ltI, k_geI, k_gtI, k_ltS, k_in, k_nin, k_is, k_isn, len_T, len_L, isI_I, isI_S, isS_S, isS_I, isT_T, tup_L, tup_T, lst_L, lst_T, int_I, int_B, min_2, max_2, abs_I, lk_d]
theorem left_of_net {L n : Nat} {h : Hs} {t : Tk} {net : List Str} {name : Str} (g : Good t) (hl : net.length < 64) (hx : ∀ x ∈ net, PyData.strOk x = true) (hn : netOk t net = false) :
    callN fns L (n + 5) "left_of" [t.d, sT net, .str name] h = .err ⟨"NotAllowed", none⟩ h := by
  rw [cl_left_of, c_left_of]
  have h1 := check_net_eq (L := L) (n := n) (h := h) g hl hx
  rw [hn] at h1
  simp [q_cons, q_nil, s_ife, s_ret, s_asg, s_raise, s_expr, n_and, n_or, n_not, n_neg, n_blt, n_cmp, n_chn, n_cons, n_nil, n_slot, n_lit, n_idx, n_call, n_tup, n_lst, n_ite, b_ok, b_err, t_ok, t_err, l_some, l_err, tv_bool, tv_tup, tv_lst, i_tup, i_lst, atI, ixN, o_ret, o_err, o_next, setTg, bigLine, k_eqI, k_neI, k_eqS, k_neS, k_leI, k_ltI, k_geI, k_gtI, k_ltS, k_in, k_nin, k_is, k_isn, len_T, len_L, isI_I, isI_S, isS_S, isS_I, isT_T, tup_L, tup_T, lst_L, lst_T, int_I, int_B, min_2, max_2, abs_I, h1]
theorem left_of_miss {L n : Nat} {h : Hs} {t : Tk} {net : List Str} {name : Str} (g : Good t) (hl : net.length < 64) (hx : ∀ x ∈ net, x ∈ t.nms) (ha : Asc net) (hb : fbr t name = none) :
    callN fns L (n + 5) "left_of" [t.d, sT net, .str name] h = .err ⟨"Missing", none⟩ h := by
  rw [cl_left_of, c_left_of]
  have h1 := check_net_ok (L := L) (n := n) (h := h) g hl hx ha
  have h2 := check_break_eq (L := L) (n := n) (h := h) (name := name) g
  rw [hb] at h2
  simp [q_cons, q_nil, s_ife, s_ret, s_asg, s_raise, s_expr, n_and, n_or, n_not, n_neg, n_blt, n_cmp, n_chn, n_cons, n_nil, n_slot, n_lit, n_idx, n_call, n_tup, n_lst, n_ite, b_ok, b_err, t_ok, t_err, l_some, l_err, tv_bool, tv_tup, tv_lst, i_tup, i_lst, atI, ixN, o_ret, o_err, o_next, setTg, bigLine, k_eqI, k_neI, k_eqS, k_neS, k_leI, k_ltI, k_geI, k_gtI, k_ltS, k_in, k_nin, k_is, k_isn, len_T, len_L, isI_I, isI_S, isS_S, isS_I, isT_T, tup_L, tup_T, lst_L, lst_T, int_I, int_B, min_2, max_2, abs_I, h1, h2]
theorem intsOf_map {Y : Type} (f : Y → Int) : ∀ ys : List Y, intsOf (ys.map fun y => .int (f y)) = some (ys.map f)
  | [] => rfl
  | y :: r => by
    rw [List.map_cons, intsOf, intsOf_map f r]
    rfl
theorem sum_map {Y : Type} {f : Y → Int} {ys : List Y} : bltD .sum [.list (ys.map fun y => .int (f y))] = some (.int (ys.map f).sum) := by
  show ((intsOf (ys.map fun y => .int (f y))).map fun ns => PyData.int ns.sum) = _
  rw [intsOf_map]
  rfl
def kcost (t : Tk) (net : List Str) : Int := ((t.ls.filter fun l => decide (l.n ∈ net)).map (·.c)).sum
theorem known_cost_eq {L n : Nat} {h : Hs} {t : Tk} {net : List Str} (g : Good t) : callN fns L (n + 1) "known_cost" [t.d, sT net] h = .ok (.int (kcost t net)) h := by
  rw [cl_known_cost, c_known_cost]
  simp [q_cons, q_nil, s_ife, s_ret, s_asg, s_raise, s_expr, n_and, n_or, n_not, n_neg, n_blt, n_cmp, n_chn, n_cons, n_nil, n_slot, n_lit, n_idx, n_call, n_tup, n_lst, n_ite, b_ok, b_err, t_ok, t_err, l_some, l_err, tv_bool, tv_tup, tv_lst, i_tup, i_lst, atI, ixN, o_ret, o_err, o_next, setTg, bigLine, k_eqI, k_neI, k_eqS, k_neS, k_leI, k_ltI, k_geI, k_gtI, k_ltS, k_in, k_nin, k_is, k_isn, len_T, len_L, isI_I, isI_S, isS_S, isS_I, isT_T, tup_L, tup_T, lst_L, lst_T, int_I, int_B, min_2, max_2, abs_I, ]
  rw [lc_nm t.ls Lk.d (fun l => decide (l.n ∈ net)) (fun l => .int l.c) (x := .tuple (t.ls.map Lk.d)) ?_ rfl ?_ ?_ ?_]
  · simp [q_cons, q_nil, s_ife, s_ret, s_asg, s_raise, s_expr, n_and, n_or, n_not, n_neg, n_blt, n_cmp, n_chn, n_cons, n_nil, n_slot, n_lit, n_idx, n_call, n_tup, n_lst, n_ite, b_ok, b_err, t_ok, t_err, l_some, l_err, tv_bool, tv_tup, tv_lst, i_tup, i_lst, atI, ixN, o_ret, o_err, o_next, setTg, bigLine, k_eqI, k_neI, k_eqS, k_neS, k_leI, k_ltI, k_geI, k_gtI, k_ltS, k_in, k_nin, k_is, k_isn, len_T, len_L, isI_I, isI_S, isS_S, isS_I, isT_T, tup_L, tup_T, lst_L, lst_T, int_I, int_B, min_2, max_2, abs_I, sum_map]
    rfl
  · simp [q_cons, q_nil, s_ife, s_ret, s_asg, s_raise, s_expr, n_and, n_or, n_not, n_neg, n_blt, n_cmp, n_chn, n_cons, n_nil, n_slot, n_lit, n_idx, n_call, n_tup, n_lst, n_ite, b_ok, b_err, t_ok, t_err, l_some, l_err, tv_bool, tv_tup, tv_lst, i_tup, i_lst, atI, ixN, o_ret, o_err, o_next, setTg, bigLine, k_eqI, k_neI, k_eqS, k_neS, k_leI, k_ltI, k_geI, k_gtI, k_ltS, k_in, k_nin, k_is, k_isn, len_T, len_L, isI_I, isI_S, isS_S, isS_I, isT_T, tup_L, tup_T, lst_L, lst_T, int_I, int_B, min_2, max_2, abs_I, tk_d]
  · have := g.lsl; unfold bigLine; omega
  · intro y hy
    simp [q_cons, q_nil, s_ife, s_ret, s_asg, s_raise, s_expr, n_and, n_or, n_not, n_neg, n_blt, n_cmp, n_chn, n_cons, n_nil, n_slot, n_lit, n_idx, n_call, n_tup, n_lst, n_ite, b_ok, b_err, t_ok, t_err, l_some, l_err, tv_bool, tv_tup, tv_lst, i_tup, i_lst, atI, ixN, o_ret, o_err, o_next, setTg, bigLine, k_eqI, k_neI, k_eqS, k_neS, k_leI, k_ltI, k_geI, k_gtI, k_ltS, k_in, k_nin, k_is, k_isn, len_T, len_L, isI_I, isI_S, isS_S, isS_I, isT_T, tup_L, tup_T, lst_L, lst_T, int_I, int_B, min_2, max_2, abs_I, lk_d, in_strs]
  · intro y hy _
    simp [q_cons, q_nil, s_ife, s_ret, s_asg, s_raise, s_expr, n_and, n_or, n_not, n_neg, n_blt, n_cmp, n_chn, n_cons, n_nil, n_slot, n_lit, n_idx, n_call, n_tup, n_lst, n_ite, b_ok, b_err, t_ok, t_err, l_some, l_err, tv_bool, tv_tup, tv_lst, i_tup, i_lst, atI, ixN, o_ret, o_err, o_next, setTg, bigLine, k_eqI, k_neI, k_eqS, k_neS, k_leI, k_ltI, k_geI, k_gtI, k_ltS, k_in, k_nin, k_is, k_isn, len_T, len_L, isI_I, isI_S, isS_S, isS_I, isT_T, tup_L, tup_T, lst_L, lst_T, int_I, int_B, min_2, max_2, abs_I, lk_d]
theorem law_cost_eq {L n : Nat} {h : Hs} {t : Tk} {net : List Str} (g : Good t) : callN fns L (n + 1) "_law_cost" [t.d, sT net] h = .ok (.int (kcost t net)) h := by
  rw [cl__law_cost, ← known_cost_eq (L := L) (n := n) (h := h) g, cl_known_cost]
  rfl
theorem cost_of_eq {L n : Nat} {h : Hs} {t : Tk} {net : List Str} (g : Good t) (hl : net.length < 64) (hx : ∀ x ∈ net, x ∈ t.nms) (ha : Asc net) : callN fns L (n + 5) "cost_of" [t.d, sT net] h = .ok (.int (kcost t net)) h := by
  rw [cl_cost_of, c_cost_of]
  have h1 := check_net_ok (L := L) (n := n) (h := h) g hl hx ha
  have h2 := known_cost_eq (L := L) (n := n + 3) (h := h) (net := net) g
  simp [q_cons, q_nil, s_ife, s_ret, s_asg, s_raise, s_expr, n_and, n_or, n_not, n_neg, n_blt, n_cmp, n_chn, n_cons, n_nil, n_slot, n_lit, n_idx, n_call, n_tup, n_lst, n_ite, b_ok, b_err, t_ok, t_err, l_some, l_err, tv_bool, tv_tup, tv_lst, i_tup, i_lst, atI, ixN, o_ret, o_err, o_next, setTg, bigLine, k_eqI, k_neI, k_eqS, k_neS, k_leI, k_ltI, k_geI, k_gtI, k_ltS, k_in, k_nin, k_is, k_isn, len_T, len_L, isI_I, isI_S, isS_S, isS_I, isT_T, tup_L, tup_T, lst_L, lst_T, int_I, int_B, min_2, max_2, abs_I, h1, h2]
/-- the links at a place -/
def kat (t : Tk) (p : Str) : List Str := (t.ls.filter fun l => decide (p = l.a) || decide (p = l.b)).map (·.n)
theorem cut13 {a b c d e : D} : cut [a, b, c, d, e] (some 1) (some 3) = [b, c] := by simp [cut, sIx]
theorem in2 {x a b : Str} : inD (.str x) (.tuple [.str a, .str b]) = some (decide (x = a) || decide (x = b)) := by
  have := in_strs (x := x) (ps := [a, b])
  simp only [List.mem_cons, List.not_mem_nil, or_false, Bool.decide_or] at this
  exact this
theorem known_at_eq {L n : Nat} {h : Hs} {t : Tk} {p : Str} (g : Good t) : callN fns L (n + 1) "known_at" [t.d, .str p] h = .ok (sT (kat t p)) h := by
  rw [cl_known_at, c_known_at]
  simp [q_cons, q_nil, s_ife, s_ret, s_asg, s_raise, s_expr, n_and, n_or, n_not, n_neg, n_blt, n_cmp, n_chn, n_cons, n_nil, n_slot, n_lit, n_idx, n_call, n_tup, n_lst, n_ite, b_ok, b_err, t_ok, t_err, l_some, l_err, tv_bool, tv_tup, tv_lst, i_tup, i_lst, atI, ixN, o_ret, o_err, o_next, setTg, bigLine, k_eqI, k_neI, k_eqS, k_neS, k_leI, k_ltI, k_geI, k_gtI, k_ltS, k_in, k_nin, k_is, k_isn, len_T, len_L, isI_I, isI_S, isS_S, isS_I, isT_T, tup_L, tup_T, lst_L, lst_T, int_I, int_B, min_2, max_2, abs_I, ]
  rw [lc_nm t.ls Lk.d (fun l => decide (p = l.a) || decide (p = l.b)) (fun l => .str l.n) (x := .tuple (t.ls.map Lk.d)) ?_ rfl ?_ ?_ ?_]
  · simp [q_cons, q_nil, s_ife, s_ret, s_asg, s_raise, s_expr, n_and, n_or, n_not, n_neg, n_blt, n_cmp, n_chn, n_cons, n_nil, n_slot, n_lit, n_idx, n_call, n_tup, n_lst, n_ite, b_ok, b_err, t_ok, t_err, l_some, l_err, tv_bool, tv_tup, tv_lst, i_tup, i_lst, atI, ixN, o_ret, o_err, o_next, setTg, bigLine, k_eqI, k_neI, k_eqS, k_neS, k_leI, k_ltI, k_geI, k_gtI, k_ltS, k_in, k_nin, k_is, k_isn, len_T, len_L, isI_I, isI_S, isS_S, isS_I, isT_T, tup_L, tup_T, lst_L, lst_T, int_I, int_B, min_2, max_2, abs_I, ]
    unfold sT kat
    rw [List.map_map]
    rfl
  · simp [q_cons, q_nil, s_ife, s_ret, s_asg, s_raise, s_expr, n_and, n_or, n_not, n_neg, n_blt, n_cmp, n_chn, n_cons, n_nil, n_slot, n_lit, n_idx, n_call, n_tup, n_lst, n_ite, b_ok, b_err, t_ok, t_err, l_some, l_err, tv_bool, tv_tup, tv_lst, i_tup, i_lst, atI, ixN, o_ret, o_err, o_next, setTg, bigLine, k_eqI, k_neI, k_eqS, k_neS, k_leI, k_ltI, k_geI, k_gtI, k_ltS, k_in, k_nin, k_is, k_isn, len_T, len_L, isI_I, isI_S, isS_S, isS_I, isT_T, tup_L, tup_T, lst_L, lst_T, int_I, int_B, min_2, max_2, abs_I, tk_d]
  · have := g.lsl; unfold bigLine; omega
  · intro y hy
    simp [q_cons, q_nil, s_ife, s_ret, s_asg, s_raise, s_expr, n_and, n_or, n_not, n_neg, n_blt, n_cmp, n_chn, n_cons, n_nil, n_slot, n_lit, n_idx, n_call, n_tup, n_lst, n_ite, b_ok, b_err, t_ok, t_err, l_some, l_err, tv_bool, tv_tup, tv_lst, i_tup, i_lst, atI, ixN, o_ret, o_err, o_next, setTg, bigLine, k_eqI, k_neI, k_eqS, k_neS, k_leI, k_ltI, k_geI, k_gtI, k_ltS, k_in, k_nin, k_is, k_isn, len_T, len_L, isI_I, isI_S, isS_S, isS_I, isT_T, tup_L, tup_T, lst_L, lst_T, int_I, int_B, min_2, max_2, abs_I, lk_d, n_slc, partC_i, slc_T, cut13, in2]
  · intro y hy _
    simp [q_cons, q_nil, s_ife, s_ret, s_asg, s_raise, s_expr, n_and, n_or, n_not, n_neg, n_blt, n_cmp, n_chn, n_cons, n_nil, n_slot, n_lit, n_idx, n_call, n_tup, n_lst, n_ite, b_ok, b_err, t_ok, t_err, l_some, l_err, tv_bool, tv_tup, tv_lst, i_tup, i_lst, atI, ixN, o_ret, o_err, o_next, setTg, bigLine, k_eqI, k_neI, k_eqS, k_neS, k_leI, k_ltI, k_geI, k_gtI, k_ltS, k_in, k_nin, k_is, k_isn, len_T, len_L, isI_I, isI_S, isS_S, isS_I, isT_T, tup_L, tup_T, lst_L, lst_T, int_I, int_B, min_2, max_2, abs_I, lk_d]
theorem links_at_eq {L n : Nat} {h : Hs} {t : Tk} {p : Str} (g : Good t) : callN fns L (n + 4) "links_at" [t.d, .str p] h = if p ∈ t.ps then .ok (sT (kat t p)) h else .err ⟨"Missing", none⟩ h := by
  rw [cl_links_at, c_links_at]
  have h1 := check_task_ok (L := L) (n := n) (h := h) g
  have h2 := known_at_eq (L := L) (n := n + 2) (h := h) (p := p) g
  by_cases q : p ∈ t.ps
  · simp [q_cons, q_nil, s_ife, s_ret, s_asg, s_raise, s_expr, n_and, n_or, n_not, n_neg, n_blt, n_cmp, n_chn, n_cons, n_nil, n_slot, n_lit, n_idx, n_call, n_tup, n_lst, n_ite, b_ok, b_err, t_ok, t_err, l_some, l_err, tv_bool, tv_tup, tv_lst, i_tup, i_lst, atI, ixN, o_ret, o_err, o_next, setTg, bigLine, k_eqI, k_neI, k_eqS, k_neS, k_leI, k_ltI, k_geI, k_gtI, k_ltS, k_in, k_nin, k_is, k_isn, len_T, len_L, isI_I, isI_S, isS_S, isS_I, isT_T, tup_L, tup_T, lst_L, lst_T, int_I, int_B, min_2, max_2, abs_I, h1]
    simp [q_cons, q_nil, s_ife, s_ret, s_asg, s_raise, s_expr, n_and, n_or, n_not, n_neg, n_blt, n_cmp, n_chn, n_cons, n_nil, n_slot, n_lit, n_idx, n_call, n_tup, n_lst, n_ite, b_ok, b_err, t_ok, t_err, l_some, l_err, tv_bool, tv_tup, tv_lst, i_tup, i_lst, atI, ixN, o_ret, o_err, o_next, setTg, bigLine, k_eqI, k_neI, k_eqS, k_neS, k_leI, k_ltI, k_geI, k_gtI, k_ltS, k_in, k_nin, k_is, k_isn, len_T, len_L, isI_I, isI_S, isS_S, isS_I, isT_T, tup_L, tup_T, lst_L, lst_T, int_I, int_B, min_2, max_2, abs_I, tk_d, in_strs, q]
    rw [tk_d] at h2
    simp [q_cons, q_nil, s_ife, s_ret, s_asg, s_raise, s_expr, n_and, n_or, n_not, n_neg, n_blt, n_cmp, n_chn, n_cons, n_nil, n_slot, n_lit, n_idx, n_call, n_tup, n_lst, n_ite, b_ok, b_err, t_ok, t_err, l_some, l_err, tv_bool, tv_tup, tv_lst, i_tup, i_lst, atI, ixN, o_ret, o_err, o_next, setTg, bigLine, k_eqI, k_neI, k_eqS, k_neS, k_leI, k_ltI, k_geI, k_gtI, k_ltS, k_in, k_nin, k_is, k_isn, len_T, len_L, isI_I, isI_S, isS_S, isS_I, isT_T, tup_L, tup_T, lst_L, lst_T, int_I, int_B, min_2, max_2, abs_I, h2, q]
  · simp [q_cons, q_nil, s_ife, s_ret, s_asg, s_raise, s_expr, n_and, n_or, n_not, n_neg, n_blt, n_cmp, n_chn, n_cons, n_nil, n_slot, n_lit, n_idx, n_call, n_tup, n_lst, n_ite, b_ok, b_err, t_ok, t_err, l_some, l_err, tv_bool, tv_tup, tv_lst, i_tup, i_lst, atI, ixN, o_ret, o_err, o_next, setTg, bigLine, k_eqI, k_neI, k_eqS, k_neS, k_leI, k_ltI, k_geI, k_gtI, k_ltS, k_in, k_nin, k_is, k_isn, len_T, len_L, isI_I, isI_S, isS_S, isS_I, isT_T, tup_L, tup_T, lst_L, lst_T, int_I, int_B, min_2, max_2, abs_I, h1]
    simp [q_cons, q_nil, s_ife, s_ret, s_asg, s_raise, s_expr, n_and, n_or, n_not, n_neg, n_blt, n_cmp, n_chn, n_cons, n_nil, n_slot, n_lit, n_idx, n_call, n_tup, n_lst, n_ite, b_ok, b_err, t_ok, t_err, l_some, l_err, tv_bool, tv_tup, tv_lst, i_tup, i_lst, atI, ixN, o_ret, o_err, o_next, setTg, bigLine, k_eqI, k_neI, k_eqS, k_neS, k_leI, k_ltI, k_geI, k_gtI, k_ltS, k_in, k_nin, k_is, k_isn, len_T, len_L, isI_I, isI_S, isS_S, isS_I, isT_T, tup_L, tup_T, lst_L, lst_T, int_I, int_B, min_2, max_2, abs_I, tk_d, in_strs, q]
end K00

set_option Elab.async false
set_option linter.all false
set_option maxRecDepth 100000
set_option maxHeartbeats 4000000
/-! k00, plain law, part 6: limits, with_costs. -/
namespace K00
open PySem Mini
section
variable {g : G} {ρ : Mini.Env} {h : Hs}
theorem lc_tp {Y : Type} (ys : List Y) (u v : Y → D) (p : Y → Bool) (f : Y → D) {elt it cond : C} {i j : Nat} {x : D} (hit : den g it ρ h = .ok x h) (hi : items x = some (ys.map fun y => .tuple [u y, v y])) (hl : ys.length ≤ bigLine)
    (hc : ∀ y ∈ ys, den g cond ((((ρ.set j none).set i none).set i (some (u y))).set j (some (v y))) h = .ok (.bool (p y)) h) (he : ∀ y ∈ ys, p y = true → den g elt ((((ρ.set j none).set i none).set i (some (u y))).set j (some (v y))) h = .ok (f y) h) :
    den g (.lc elt (.tp [i, j]) it cond) ρ h = .ok (.list ((ys.filter p).map f)) h := by
  have hlen : ((ys.filter p).map f).length ≤ bigLine := by
    rw [List.length_map]
    exact Nat.le_trans (List.length_filter_le ..) hl
  rw [n_lc, hit, b_ok, hi]
  show quiet ((loopC _ (ys.map fun y => .tuple [u y, v y]) h).bind _) = _
  rw [loopC_pure (p := p) (f := f)]
  · show quiet (listD ((ys.filter p).map f) h) = _
    unfold listD
    rw [if_pos hlen]
    rfl
  · intro y hy
    show (R.bind (den g cond ((((ρ.set j none).set i none).set i (some (u y))).set j (some (v y))) h) _) = _
    rw [hc y hy]
    cases q : p y with
    | false => rfl
    | true =>
      show (R.bind (den g elt ((((ρ.set j none).set i none).set i (some (u y))).set j (some (v y))) h) _) = _
      rw [he y hy q]
      rfl
theorem lc_tpA {Y : Type} (ys : List Y) (u v f : Y → D) {elt it : C} {i j : Nat} {x : D} (hit : den g it ρ h = .ok x h) (hi : items x = some (ys.map fun y => .tuple [u y, v y])) (hl : ys.length ≤ bigLine)
    (he : ∀ y ∈ ys, den g elt ((((ρ.set j none).set i none).set i (some (u y))).set j (some (v y))) h = .ok (f y) h) :
    den g (.lc elt (.tp [i, j]) it (.lit (.bool true))) ρ h = .ok (.list (ys.map f)) h := by
  rw [lc_tp ys u v (fun _ => true) f hit hi hl (fun _ _ => n_lit) (fun y hy _ => he y hy)]
  rw [List.filter_eq_self.mpr (fun _ _ => rfl)]
end
/-- the limits that are passed -/
def kov (t : Tk) (net : List Str) : List Str := (t.ms.filter fun m => decide (m.m < ((t.ls.filter fun l => decide (l.n ∈ net) && (decide (m.p = l.a) || decide (m.p = l.b))).length : Int))).map (·.p)
theorem kov_sL {t : Tk} {net : List Str} : sL (kov t net) = .list ((t.ms.filter fun m => decide (m.m < ((t.ls.filter fun l => decide (l.n ∈ net) && (decide (m.p = l.a) || decide (m.p = l.b))).length : Int))).map fun m => .str m.p) := by
  unfold sL kov
  rw [List.map_map]
  rfl
theorem known_over_eq {L n : Nat} {h : Hs} {t : Tk} {net : List Str} (g : Good t) : callN fns L (n + 2) "known_over" [t.d, sT net] h = .ok (sL (kov t net)) h := by
  rw [cl_known_over, c_known_over, kov_sL]
  have l2 := g.lsl
  simp [q_cons, q_nil, s_ife, s_ret, s_asg, s_raise, s_expr, n_and, n_or, n_not, n_neg, n_blt, n_cmp, n_chn, n_cons, n_nil, n_slot, n_lit, n_idx, n_call, n_tup, n_lst, n_ite, b_ok, b_err, t_ok, t_err, l_some, l_err, tv_bool, tv_tup, tv_lst, i_tup, i_lst, atI, ixN, o_ret, o_err, o_next, setTg, bigLine, k_eqI, k_neI, k_eqS, k_neS, k_leI, k_ltI, k_geI, k_gtI, k_ltS, k_in, k_nin, k_is, k_isn, len_T, len_L, isI_I, isI_S, isS_S, isS_I, isT_T, tup_L, tup_T, lst_L, lst_T, int_I, int_B, min_2, max_2, abs_I, ]
  rw [lc_tp t.ms (fun m => .str m.p) (fun m => .int m.m) (fun m => decide (m.m < ((t.ls.filter fun l => decide (l.n ∈ net) && (decide (m.p = l.a) || decide (m.p = l.b))).length : Int))) (fun m => .str m.p) (x := .tuple (t.ms.map Li.d)) ?_ rfl ?_ ?_ ?_]
  · simp [q_cons, q_nil, s_ife, s_ret, s_asg, s_raise, s_expr, n_and, n_or, n_not, n_neg, n_blt, n_cmp, n_chn, n_cons, n_nil, n_slot, n_lit, n_idx, n_call, n_tup, n_lst, n_ite, b_ok, b_err, t_ok, t_err, l_some, l_err, tv_bool, tv_tup, tv_lst, i_tup, i_lst, atI, ixN, o_ret, o_err, o_next, setTg, bigLine, k_eqI, k_neI, k_eqS, k_neS, k_leI, k_ltI, k_geI, k_gtI, k_ltS, k_in, k_nin, k_is, k_isn, len_T, len_L, isI_I, isI_S, isS_S, isS_I, isT_T, tup_L, tup_T, lst_L, lst_T, int_I, int_B, min_2, max_2, abs_I, ]
  · simp [q_cons, q_nil, s_ife, s_ret, s_asg, s_raise, s_expr, n_and, n_or, n_not, n_neg, n_blt, n_cmp, n_chn, n_cons, n_nil, n_slot, n_lit, n_idx, n_call, n_tup, n_lst, n_ite, b_ok, b_err, t_ok, t_err, l_some, l_err, tv_bool, tv_tup, tv_lst, i_tup, i_lst, atI, ixN, o_ret, o_err, o_next, setTg, bigLine, k_eqI, k_neI, k_eqS, k_neS, k_leI, k_ltI, k_geI, k_gtI, k_ltS, k_in, k_nin, k_is, k_isn, len_T, len_L, isI_I, isI_S, isS_S, isS_I, isT_T, tup_L, tup_T, lst_L, lst_T, int_I, int_B, min_2, max_2, abs_I, tk_d]
  · have := g.msl; unfold bigLine; omega
  · intro y hy
    have h2 := known_at_eq (L := L) (n := n) (h := h) (p := y.p) g
    simp [q_cons, q_nil, s_ife, s_ret, s_asg, s_raise, s_expr, n_and, n_or, n_not, n_neg, n_blt, n_cmp, n_chn, n_cons, n_nil, n_slot, n_lit, n_idx, n_call, n_tup, n_lst, n_ite, b_ok, b_err, t_ok, t_err, l_some, l_err, tv_bool, tv_tup, tv_lst, i_tup, i_lst, atI, ixN, o_ret, o_err, o_next, setTg, bigLine, k_eqI, k_neI, k_eqS, k_neS, k_leI, k_ltI, k_geI, k_gtI, k_ltS, k_in, k_nin, k_is, k_isn, len_T, len_L, isI_I, isI_S, isS_S, isS_I, isT_T, tup_L, tup_T, lst_L, lst_T, int_I, int_B, min_2, max_2, abs_I, ]
    rw [lc_nm (kat t y.p) .str (fun x => decide (x ∈ net)) .str (x := sT (kat t y.p)) ?_ rfl ?_ ?_ ?_]
    · simp [q_cons, q_nil, s_ife, s_ret, s_asg, s_raise, s_expr, n_and, n_or, n_not, n_neg, n_blt, n_cmp, n_chn, n_cons, n_nil, n_slot, n_lit, n_idx, n_call, n_tup, n_lst, n_ite, b_ok, b_err, t_ok, t_err, l_some, l_err, tv_bool, tv_tup, tv_lst, i_tup, i_lst, atI, ixN, o_ret, o_err, o_next, setTg, bigLine, k_eqI, k_neI, k_eqS, k_neS, k_leI, k_ltI, k_geI, k_gtI, k_ltS, k_in, k_nin, k_is, k_isn, len_T, len_L, isI_I, isI_S, isS_S, isS_I, isT_T, tup_L, tup_T, lst_L, lst_T, int_I, int_B, min_2, max_2, abs_I, ]
      unfold kat
      rw [List.filter_map, List.length_map, List.filter_filter]
      rfl
    · simp [q_cons, q_nil, s_ife, s_ret, s_asg, s_raise, s_expr, n_and, n_or, n_not, n_neg, n_blt, n_cmp, n_chn, n_cons, n_nil, n_slot, n_lit, n_idx, n_call, n_tup, n_lst, n_ite, b_ok, b_err, t_ok, t_err, l_some, l_err, tv_bool, tv_tup, tv_lst, i_tup, i_lst, atI, ixN, o_ret, o_err, o_next, setTg, bigLine, k_eqI, k_neI, k_eqS, k_neS, k_leI, k_ltI, k_geI, k_gtI, k_ltS, k_in, k_nin, k_is, k_isn, len_T, len_L, isI_I, isI_S, isS_S, isS_I, isT_T, tup_L, tup_T, lst_L, lst_T, int_I, int_B, min_2, max_2, abs_I, h2]
    · unfold kat
      rw [List.length_map]
      exact Nat.le_trans (List.length_filter_le ..) (by unfold bigLine; omega)
    · intro z hz
      simp [q_cons, q_nil, s_ife, s_ret, s_asg, s_raise, s_expr, n_and, n_or, n_not, n_neg, n_blt, n_cmp, n_chn, n_cons, n_nil, n_slot, n_lit, n_idx, n_call, n_tup, n_lst, n_ite, b_ok, b_err, t_ok, t_err, l_some, l_err, tv_bool, tv_tup, tv_lst, i_tup, i_lst, atI, ixN, o_ret, o_err, o_next, setTg, bigLine, k_eqI, k_neI, k_eqS, k_neS, k_leI, k_ltI, k_geI, k_gtI, k_ltS, k_in, k_nin, k_is, k_isn, len_T, len_L, isI_I, isI_S, isS_S, isS_I, isT_T, tup_L, tup_T, lst_L, lst_T, int_I, int_B, min_2, max_2, abs_I, in_strs]
    · intro z hz _
      simp [q_cons, q_nil, s_ife, s_ret, s_asg, s_raise, s_expr, n_and, n_or, n_not, n_neg, n_blt, n_cmp, n_chn, n_cons, n_nil, n_slot, n_lit, n_idx, n_call, n_tup, n_lst, n_ite, b_ok, b_err, t_ok, t_err, l_some, l_err, tv_bool, tv_tup, tv_lst, i_tup, i_lst, atI, ixN, o_ret, o_err, o_next, setTg, bigLine, k_eqI, k_neI, k_eqS, k_neS, k_leI, k_ltI, k_geI, k_gtI, k_ltS, k_in, k_nin, k_is, k_isn, len_T, len_L, isI_I, isI_S, isS_S, isS_I, isT_T, tup_L, tup_T, lst_L, lst_T, int_I, int_B, min_2, max_2, abs_I, ]
  · intro y hy _
    simp [q_cons, q_nil, s_ife, s_ret, s_asg, s_raise, s_expr, n_and, n_or, n_not, n_neg, n_blt, n_cmp, n_chn, n_cons, n_nil, n_slot, n_lit, n_idx, n_call, n_tup, n_lst, n_ite, b_ok, b_err, t_ok, t_err, l_some, l_err, tv_bool, tv_tup, tv_lst, i_tup, i_lst, atI, ixN, o_ret, o_err, o_next, setTg, bigLine, k_eqI, k_neI, k_eqS, k_neS, k_leI, k_ltI, k_geI, k_gtI, k_ltS, k_in, k_nin, k_is, k_isn, len_T, len_L, isI_I, isI_S, isS_S, isS_I, isT_T, tup_L, tup_T, lst_L, lst_T, int_I, int_B, min_2, max_2, abs_I, ]
theorem law_over_eq {L n : Nat} {h : Hs} {t : Tk} {net : List Str} (g : Good t) : callN fns L (n + 1) "_law_over" [t.d, sT net] h = .ok (sL (kov t net)) h := by
  rw [cl__law_over, c__law_over, kov_sL]
  have l2 := g.lsl
  simp [q_cons, q_nil, s_ife, s_ret, s_asg, s_raise, s_expr, n_and, n_or, n_not, n_neg, n_blt, n_cmp, n_chn, n_cons, n_nil, n_slot, n_lit, n_idx, n_call, n_tup, n_lst, n_ite, b_ok, b_err, t_ok, t_err, l_some, l_err, tv_bool, tv_tup, tv_lst, i_tup, i_lst, atI, ixN, o_ret, o_err, o_next, setTg, bigLine, k_eqI, k_neI, k_eqS, k_neS, k_leI, k_ltI, k_geI, k_gtI, k_ltS, k_in, k_nin, k_is, k_isn, len_T, len_L, isI_I, isI_S, isS_S, isS_I, isT_T, tup_L, tup_T, lst_L, lst_T, int_I, int_B, min_2, max_2, abs_I, ]
  rw [lc_tp t.ms (fun m => .str m.p) (fun m => .int m.m) (fun m => decide (m.m < ((t.ls.filter fun l => decide (l.n ∈ net) && (decide (m.p = l.a) || decide (m.p = l.b))).length : Int))) (fun m => .str m.p) (x := .tuple (t.ms.map Li.d)) ?_ rfl ?_ ?_ ?_]
  · simp [q_cons, q_nil, s_ife, s_ret, s_asg, s_raise, s_expr, n_and, n_or, n_not, n_neg, n_blt, n_cmp, n_chn, n_cons, n_nil, n_slot, n_lit, n_idx, n_call, n_tup, n_lst, n_ite, b_ok, b_err, t_ok, t_err, l_some, l_err, tv_bool, tv_tup, tv_lst, i_tup, i_lst, atI, ixN, o_ret, o_err, o_next, setTg, bigLine, k_eqI, k_neI, k_eqS, k_neS, k_leI, k_ltI, k_geI, k_gtI, k_ltS, k_in, k_nin, k_is, k_isn, len_T, len_L, isI_I, isI_S, isS_S, isS_I, isT_T, tup_L, tup_T, lst_L, lst_T, int_I, int_B, min_2, max_2, abs_I, ]
  · simp [q_cons, q_nil, s_ife, s_ret, s_asg, s_raise, s_expr, n_and, n_or, n_not, n_neg, n_blt, n_cmp, n_chn, n_cons, n_nil, n_slot, n_lit, n_idx, n_call, n_tup, n_lst, n_ite, b_ok, b_err, t_ok, t_err, l_some, l_err, tv_bool, tv_tup, tv_lst, i_tup, i_lst, atI, ixN, o_ret, o_err, o_next, setTg, bigLine, k_eqI, k_neI, k_eqS, k_neS, k_leI, k_ltI, k_geI, k_gtI, k_ltS, k_in, k_nin, k_is, k_isn, len_T, len_L, isI_I, isI_S, isS_S, isS_I, isT_T, tup_L, tup_T, lst_L, lst_T, int_I, int_B, min_2, max_2, abs_I, tk_d]
  · have := g.msl; unfold bigLine; omega
  · intro y hy
    simp [q_cons, q_nil, s_ife, s_ret, s_asg, s_raise, s_expr, n_and, n_or, n_not, n_neg, n_blt, n_cmp, n_chn, n_cons, n_nil, n_slot, n_lit, n_idx, n_call, n_tup, n_lst, n_ite, b_ok, b_err, t_ok, t_err, l_some, l_err, tv_bool, tv_tup, tv_lst, i_tup, i_lst, atI, ixN, o_ret, o_err, o_next, setTg, bigLine, k_eqI, k_neI, k_eqS, k_neS, k_leI, k_ltI, k_geI, k_gtI, k_ltS, k_in, k_nin, k_is, k_isn, len_T, len_L, isI_I, isI_S, isS_S, isS_I, isT_T, tup_L, tup_T, lst_L, lst_T, int_I, int_B, min_2, max_2, abs_I, ]
    rw [lc_nm t.ls Lk.d (fun l => decide (l.n ∈ net) && (decide (y.p = l.a) || decide (y.p = l.b))) Lk.d (x := .tuple (t.ls.map Lk.d)) ?_ rfl ?_ ?_ ?_]
    · simp [q_cons, q_nil, s_ife, s_ret, s_asg, s_raise, s_expr, n_and, n_or, n_not, n_neg, n_blt, n_cmp, n_chn, n_cons, n_nil, n_slot, n_lit, n_idx, n_call, n_tup, n_lst, n_ite, b_ok, b_err, t_ok, t_err, l_some, l_err, tv_bool, tv_tup, tv_lst, i_tup, i_lst, atI, ixN, o_ret, o_err, o_next, setTg, bigLine, k_eqI, k_neI, k_eqS, k_neS, k_leI, k_ltI, k_geI, k_gtI, k_ltS, k_in, k_nin, k_is, k_isn, len_T, len_L, isI_I, isI_S, isS_S, isS_I, isT_T, tup_L, tup_T, lst_L, lst_T, int_I, int_B, min_2, max_2, abs_I, ]
    · simp [q_cons, q_nil, s_ife, s_ret, s_asg, s_raise, s_expr, n_and, n_or, n_not, n_neg, n_blt, n_cmp, n_chn, n_cons, n_nil, n_slot, n_lit, n_idx, n_call, n_tup, n_lst, n_ite, b_ok, b_err, t_ok, t_err, l_some, l_err, tv_bool, tv_tup, tv_lst, i_tup, i_lst, atI, ixN, o_ret, o_err, o_next, setTg, bigLine, k_eqI, k_neI, k_eqS, k_neS, k_leI, k_ltI, k_geI, k_gtI, k_ltS, k_in, k_nin, k_is, k_isn, len_T, len_L, isI_I, isI_S, isS_S, isS_I, isT_T, tup_L, tup_T, lst_L, lst_T, int_I, int_B, min_2, max_2, abs_I, tk_d]
    · unfold bigLine; omega
    · intro z hz
      by_cases q : z.n ∈ net <;> simp [q_cons, q_nil, s_ife, s_ret, s_asg, s_raise, s_expr, n_and, n_or, n_not, n_neg, n_blt, n_cmp, n_chn, n_cons, n_nil, n_slot, n_lit, n_idx, n_call, n_tup, n_lst, n_ite, b_ok, b_err, t_ok, t_err, l_some, l_err, tv_bool, tv_tup, tv_lst, i_tup, i_lst, atI, ixN, o_ret, o_err, o_next, setTg, bigLine, k_eqI, k_neI, k_eqS, k_neS, k_leI, k_ltI, k_geI, k_gtI, k_ltS, k_in, k_nin, k_is, k_isn, len_T, len_L, isI_I, isI_S, isS_S, isS_I, isT_T, tup_L, tup_T, lst_L, lst_T, int_I, int_B, min_2, max_2, abs_I, lk_d, in_strs, n_slc, partC_i, slc_T, cut13, in2, q]
    · intro z hz _
      simp [q_cons, q_nil, s_ife, s_ret, s_asg, s_raise, s_expr, n_and, n_or, n_not, n_neg, n_blt, n_cmp, n_chn, n_cons, n_nil, n_slot, n_lit, n_idx, n_call, n_tup, n_lst, n_ite, b_ok, b_err, t_ok, t_err, l_some, l_err, tv_bool, tv_tup, tv_lst, i_tup, i_lst, atI, ixN, o_ret, o_err, o_next, setTg, bigLine, k_eqI, k_neI, k_eqS, k_neS, k_leI, k_ltI, k_geI, k_gtI, k_ltS, k_in, k_nin, k_is, k_isn, len_T, len_L, isI_I, isI_S, isS_S, isS_I, isT_T, tup_L, tup_T, lst_L, lst_T, int_I, int_B, min_2, max_2, abs_I, ]
  · intro y hy _
    simp [q_cons, q_nil, s_ife, s_ret, s_asg, s_raise, s_expr, n_and, n_or, n_not, n_neg, n_blt, n_cmp, n_chn, n_cons, n_nil, n_slot, n_lit, n_idx, n_call, n_tup, n_lst, n_ite, b_ok, b_err, t_ok, t_err, l_some, l_err, tv_bool, tv_tup, tv_lst, i_tup, i_lst, atI, ixN, o_ret, o_err, o_next, setTg, bigLine, k_eqI, k_neI, k_eqS, k_neS, k_leI, k_ltI, k_geI, k_gtI, k_ltS, k_in, k_nin, k_is, k_isn, len_T, len_L, isI_I, isI_S, isS_S, isS_I, isT_T, tup_L, tup_T, lst_L, lst_T, int_I, int_B, min_2, max_2, abs_I, ]
theorem over_limits_eq {L n : Nat} {h : Hs} {t : Tk} {net : List Str} (g : Good t) (hl : net.length < 64) (hx : ∀ x ∈ net, x ∈ t.nms) (ha : Asc net) : callN fns L (n + 5) "over_limits" [t.d, sT net] h = .ok (sT (kov t net)) h := by
  rw [cl_over_limits, c_over_limits]
  have h1 := check_net_ok (L := L) (n := n) (h := h) g hl hx ha
  have h2 := known_over_eq (L := L) (n := n + 2) (h := h) (net := net) g
  have e1 : ∀ xs : List Str, bltD .tuple [sL xs] = some (sT xs) := fun _ => rfl
  simp [q_cons, q_nil, s_ife, s_ret, s_asg, s_raise, s_expr, n_and, n_or, n_not, n_neg, n_blt, n_cmp, n_chn, n_cons, n_nil, n_slot, n_lit, n_idx, n_call, n_tup, n_lst, n_ite, b_ok, b_err, t_ok, t_err, l_some, l_err, tv_bool, tv_tup, tv_lst, i_tup, i_lst, atI, ixN, o_ret, o_err, o_next, setTg, bigLine, k_eqI, k_neI, k_eqS, k_neS, k_leI, k_ltI, k_geI, k_gtI, k_ltS, k_in, k_nin, k_is, k_isn, len_T, len_L, isI_I, isI_S, isS_S, isS_I, isT_T, tup_L, tup_T, lst_L, lst_T, int_I, int_B, min_2, max_2, abs_I, h1, h2, e1]
/-! costs -/
def cD (cs : List (Str × Int)) : D := .tuple (cs.map fun p => .tuple [.str p.1, .int p.2])
def kv (cs : List (Str × Int)) : List (D × D) := mergeKV [] (cs.map fun p => (.str p.1, .int p.2))
def KI (lo hi : Int) (kvs : List (D × D)) : Prop := ∀ p ∈ kvs, (∃ x, p.1 = .str x) ∧ ∃ c, p.2 = .int c ∧ lo ≤ c ∧ c ≤ hi
theorem KI.put {lo hi c : Int} {x : Str} {kvs : List (D × D)} (k : KI lo hi kvs) (h1 : lo ≤ c) (h2 : c ≤ hi) : KI lo hi (putKV kvs (.str x) (.int c)) := by
  intro p hp
  unfold putKV at hp
  split at hp
  · obtain ⟨q, hq, rfl⟩ := List.mem_map.mp hp
    have := k q hq
    split
    · exact ⟨this.1, c, rfl, h1, h2⟩
    · exact this
  · rcases List.mem_append.mp hp with hp | hp
    · exact k p hp
    · rw [List.mem_singleton.mp hp]
      exact ⟨⟨x, rfl⟩, c, rfl, h1, h2⟩
theorem KI.fold {lo hi : Int} : ∀ {cs : List (Str × Int)} {kvs : List (D × D)}, KI lo hi kvs → (∀ p ∈ cs, lo ≤ p.2 ∧ p.2 ≤ hi) → KI lo hi (mergeKV kvs (cs.map fun p => (.str p.1, .int p.2)))
  | [], _, k, _ => k
  | p :: r, kvs, k, h => by
    have := h p (List.mem_cons_self ..)
    exact KI.fold (cs := r) (kvs := putKV kvs (.str p.1) (.int p.2)) (k.put (x := p.1) this.1 this.2) fun q hq => h q (List.mem_cons_of_mem _ hq)
theorem kv_KI {lo hi : Int} {cs : List (Str × Int)} (h : ∀ p ∈ cs, lo ≤ p.2 ∧ p.2 ≤ hi) : KI lo hi (kv cs) := KI.fold (fun _ h => by cases h) h
theorem KI.get {lo hi : Int} {x : D} {v : D} : ∀ {kvs : List (D × D)}, KI lo hi kvs → getKV kvs x = some v → ∃ c, v = .int c ∧ lo ≤ c ∧ c ≤ hi
  | [], _, e => by cases e
  | p :: r, k, e => by
    unfold getKV at e
    split at e
    · obtain ⟨_, c, e2, h1, h2⟩ := k p (List.mem_cons_self ..)
      cases e
      exact ⟨c, e2, h1, h2⟩
    · exact KI.get (fun q hq => k q (List.mem_cons_of_mem _ hq)) e
theorem KI.noCel {lo hi : Int} {kvs : List (D × D)} (k : KI lo hi kvs) : isCel (.dict kvs) = false := by
  cases kvs with
  | nil => rfl
  | cons p r =>
    obtain ⟨⟨x, e⟩, _⟩ := k p (List.mem_cons_self ..)
    obtain ⟨a, b⟩ := p
    cases e
    rfl
theorem pairsOf_cs : ∀ cs : List (Str × Int), pairsOf (cs.map fun p => .tuple [.str p.1, .int p.2]) = some (cs.map fun p => (.str p.1, .int p.2))
  | [] => rfl
  | p :: r => by
    rw [List.map_cons, pairsOf, pairsOf_cs r]
    rfl
theorem dict_cD {cs : List (Str × Int)} : bltD .dict [cD cs] = some (.dict (kv cs)) := by
  show (match pairsOf (cs.map fun p => .tuple [.str p.1, .int p.2]) with
    | some kvs => if kvs.all (fun p => isKey p.1) then some (.dict (mergeKV [] kvs)) else none
    | none => none : Option D) = _
  rw [pairsOf_cs]
  simp [List.all_map, Function.comp_def, isKey, kv]
/-- a link's new cost -/
def nc (cs : List (Str × Int)) (l : Lk) : Int := match getKV (kv cs) (.str l.n) with
  | some (.int c) => c
  | _ => l.c
def newl (cs : List (Str × Int)) (t : Tk) : Tk := { t with ls := t.ls.map fun l => { l with c := nc cs l } }
theorem met_cD {cs : List (Str × Int)} {lo hi : Int} {l : Lk} (h : ∀ p ∈ cs, lo ≤ p.2 ∧ p.2 ≤ hi) : isDct (.dict (kv cs)) = true ∧ metD .get2 (.dict (kv cs)) [.str l.n, .int l.c] = some (.int (nc cs l)) := by
  have k := kv_KI h
  refine ⟨by show (!isCel (.dict (kv cs))) = true; rw [k.noCel]; rfl, ?_⟩
  show (if isKey (.str l.n) && !isCel (.dict (kv cs)) then some ((getKV (kv cs) (.str l.n)).getD (.int l.c)) else none) = _
  rw [k.noCel]
  unfold nc
  cases q : getKV (kv cs) (.str l.n) with
  | none => rfl
  | some v =>
    obtain ⟨c, rfl, _⟩ := k.get q
    rfl
theorem nc_in {cs : List (Str × Int)} {lo hi : Int} {l : Lk} (h : ∀ p ∈ cs, lo ≤ p.2 ∧ p.2 ≤ hi) (hl : lo ≤ l.c ∧ l.c ≤ hi) : lo ≤ nc cs l ∧ nc cs l ≤ hi := by
  unfold nc
  cases q : getKV (kv cs) (.str l.n) with
  | none => exact hl
  | some v =>
    obtain ⟨c, rfl, h1⟩ := (kv_KI h).get q
    exact h1
end K00

set_option Elab.async false
set_option linter.all false
set_option maxRecDepth 100000
set_option maxHeartbeats 4000000
/-! k00, plain law, part 7: with_costs. -/
namespace K00
open PySem Mini
theorem good_newl {t : Tk} {cs : List (Str × Int)} (g : Good t) (h : ∀ p ∈ cs, 0 ≤ p.2 ∧ p.2 ≤ 1000) : Good (newl cs t) := by
  have e : (newl cs t).ls.map (·.n) = t.ls.map (·.n) := by
    show (t.ls.map _).map _ = _
    rw [List.map_map]
    rfl
  refine ⟨g.psl, g.psn, g.psa, by rw [show (newl cs t).ls.length = t.ls.length from List.length_map ..]; exact g.lsl, fun l hl => ?_, by rw [e]; exact g.lsa, g.wsl, g.wok, g.wsa, g.msl, g.mok, g.msa, g.bsl, fun b hb => ?_, g.bsa⟩
  · obtain ⟨l', hl', rfl⟩ := List.mem_map.mp hl
    have k := g.lok l' hl'
    exact ⟨k.1, k.2.1, k.2.2.1, k.2.2.2.1, nc_in h k.2.2.2.2.1, k.2.2.2.2.2⟩
  · rw [e]
    exact g.bok b hb
def cNms (cs : List (Str × Int)) : List Str := cs.map (·.1)
theorem sT_items {xs : List Str} : items (sT xs) = some (xs.map .str) := rfl
theorem cut03 {a b c d e : D} : cut [a, b, c, d, e] none (some 3) = [a, b, c] := by simp [cut, sIx]
theorem cut2_ {a b c d e : D} : cut [a, b, c, d, e] (some 2) none = [c, d, e] := by simp [cut, sIx]
theorem cNms_sL {cs : List (Str × Int)} : sL (cNms cs) = .list (cs.map fun p => .str p.1) := by
  unfold sL cNms
  rw [List.map_map]
  rfl
/-- the costs' own test, before the new task's -/
theorem with_costs_gen {L n : Nat} {h : Hs} {t : Tk} {cs : List (Str × Int)} {lo hi : Int} (g : Good t) (hl : cs.length < 64) (hx : ∀ p ∈ cs, PyData.strOk p.1 = true) (hk : ∀ p ∈ cs, lo ≤ p.2 ∧ p.2 ≤ hi) :
    callN fns L (n + 4) "with_costs" [t.d, cD cs] h = if decide (cNms cs = sortS (cNms cs)) && cs.all (fun p => decide (p.1 ∈ t.nms)) then (callN fns L (n + 3) "check_task" [(newl cs t).d] h).bind fun _ h => .ok (newl cs t).d h else .err ⟨"NotAllowed", none⟩ h := by
  rw [cl_with_costs, c_with_costs]
  have h1 := check_task_ok (L := L) (n := n) (h := h) g
  have e : (cNms cs).length = cs.length := List.length_map ..
  have hx' : ∀ x ∈ cNms cs, PyData.strOk x = true := fun x hx' => by
    obtain ⟨p, hp, rfl⟩ := List.mem_map.mp hx'
    exact hx p hp
  have h2 := ascends_gen (L := L) (n := n + 2) (h := h) (xs := cNms cs) (d := sL (cNms cs)) (.inr rfl) (by omega) hx' (fun x hx2 => hx' x (sortS_mem hx2))
  rw [cNms_sL] at h2
  have h3 := link_names_eq (L := L) (n := n + 2) (h := h) g.lsl
  have l2 := g.lsl
  simp [q_cons, q_nil, s_ife, s_ret, s_asg, s_raise, s_expr, n_and, n_or, n_not, n_neg, n_blt, n_cmp, n_chn, n_cons, n_nil, n_slot, n_lit, n_idx, n_call, n_tup, n_lst, n_ite, b_ok, b_err, t_ok, t_err, l_some, l_err, tv_bool, tv_tup, tv_lst, i_tup, i_lst, atI, ixN, o_ret, o_err, o_next, setTg, bigLine, k_eqI, k_neI, k_eqS, k_neS, k_leI, k_ltI, k_geI, k_gtI, k_ltS, k_in, k_nin, k_is, k_isn, len_T, len_L, isI_I, isI_S, isS_S, isS_I, isT_T, tup_L, tup_T, lst_L, lst_T, int_I, int_B, min_2, max_2, abs_I, h1]
  rw [lc_tpA cs (fun p => .str p.1) (fun p => .int p.2) (fun p => .str p.1) (x := cD cs) ?_ rfl ?_ ?_]
  · simp [q_cons, q_nil, s_ife, s_ret, s_asg, s_raise, s_expr, n_and, n_or, n_not, n_neg, n_blt, n_cmp, n_chn, n_cons, n_nil, n_slot, n_lit, n_idx, n_call, n_tup, n_lst, n_ite, b_ok, b_err, t_ok, t_err, l_some, l_err, tv_bool, tv_tup, tv_lst, i_tup, i_lst, atI, ixN, o_ret, o_err, o_next, setTg, bigLine, k_eqI, k_neI, k_eqS, k_neS, k_leI, k_ltI, k_geI, k_gtI, k_ltS, k_in, k_nin, k_is, k_isn, len_T, len_L, isI_I, isI_S, isS_S, isS_I, isT_T, tup_L, tup_T, lst_L, lst_T, int_I, int_B, min_2, max_2, abs_I, h2]
    rw [lc_tpA cs (fun p => .str p.1) (fun p => .int p.2) (fun p => .bool (decide (p.1 ∈ t.nms))) (x := cD cs) ?_ rfl ?_ ?_]
    · simp [q_cons, q_nil, s_ife, s_ret, s_asg, s_raise, s_expr, n_and, n_or, n_not, n_neg, n_blt, n_cmp, n_chn, n_cons, n_nil, n_slot, n_lit, n_idx, n_call, n_tup, n_lst, n_ite, b_ok, b_err, t_ok, t_err, l_some, l_err, tv_bool, tv_tup, tv_lst, i_tup, i_lst, atI, ixN, o_ret, o_err, o_next, setTg, bigLine, k_eqI, k_neI, k_eqS, k_neS, k_leI, k_ltI, k_geI, k_gtI, k_ltS, k_in, k_nin, k_is, k_isn, len_T, len_L, isI_I, isI_S, isS_S, isS_I, isT_T, tup_L, tup_T, lst_L, lst_T, int_I, int_B, min_2, max_2, abs_I, all_map, dict_cD]
      generalize cs.all (fun p => decide (p.1 ∈ t.nms)) = b1
      have e3 : (PyData.tuple [sT t.ps, .tuple (t.ls.map fun l => Lk.d { l with c := nc cs l }), .tuple (t.ws.map Wi.d), .tuple (t.ms.map Li.d), .tuple (t.bs.map Br.d)]) = (newl cs t).d := by
        rw [tk_d]
        show PyData.tuple [sT t.ps, _, _, _, _] = PyData.tuple [sT t.ps, .tuple ((t.ls.map fun l => { l with c := nc cs l }).map Lk.d), _, _, _]
        rw [List.map_map]
        rfl
      generalize (newl cs t).d = N at e3 ⊢
      by_cases q2 : cNms cs = sortS (cNms cs)
      · rw [decide_eq_true q2] at *
        cases b1
        · simp [q_cons, q_nil, s_ife, s_ret, s_asg, s_raise, s_expr, n_and, n_or, n_not, n_neg, n_blt, n_cmp, n_chn, n_cons, n_nil, n_slot, n_lit, n_idx, n_call, n_tup, n_lst, n_ite, b_ok, b_err, t_ok, t_err, l_some, l_err, tv_bool, tv_tup, tv_lst, i_tup, i_lst, atI, ixN, o_ret, o_err, o_next, setTg, bigLine, k_eqI, k_neI, k_eqS, k_neS, k_leI, k_ltI, k_geI, k_gtI, k_ltS, k_in, k_nin, k_is, k_isn, len_T, len_L, isI_I, isI_S, isS_S, isS_I, isT_T, tup_L, tup_T, lst_L, lst_T, int_I, int_B, min_2, max_2, abs_I, ]
        · simp [q_cons, q_nil, s_ife, s_ret, s_asg, s_raise, s_expr, n_and, n_or, n_not, n_neg, n_blt, n_cmp, n_chn, n_cons, n_nil, n_slot, n_lit, n_idx, n_call, n_tup, n_lst, n_ite, b_ok, b_err, t_ok, t_err, l_some, l_err, tv_bool, tv_tup, tv_lst, i_tup, i_lst, atI, ixN, o_ret, o_err, o_next, setTg, bigLine, k_eqI, k_neI, k_eqS, k_neS, k_leI, k_ltI, k_geI, k_gtI, k_ltS, k_in, k_nin, k_is, k_isn, len_T, len_L, isI_I, isI_S, isS_S, isS_I, isT_T, tup_L, tup_T, lst_L, lst_T, int_I, int_B, min_2, max_2, abs_I, dict_cD]
          rw [lc_all t.ls Lk.d (fun l => Lk.d { l with c := nc cs l }) (x := .tuple (t.ls.map Lk.d)) ?_ rfl ?_ ?_]
          · simp [q_cons, q_nil, s_ife, s_ret, s_asg, s_raise, s_expr, n_and, n_or, n_not, n_neg, n_blt, n_cmp, n_chn, n_cons, n_nil, n_slot, n_lit, n_idx, n_call, n_tup, n_lst, n_ite, b_ok, b_err, t_ok, t_err, l_some, l_err, tv_bool, tv_tup, tv_lst, i_tup, i_lst, atI, ixN, o_ret, o_err, o_next, setTg, bigLine, k_eqI, k_neI, k_eqS, k_neS, k_leI, k_ltI, k_geI, k_gtI, k_ltS, k_in, k_nin, k_is, k_isn, len_T, len_L, isI_I, isI_S, isS_S, isS_I, isT_T, tup_L, tup_T, lst_L, lst_T, int_I, int_B, min_2, max_2, abs_I, n_slc, partC_i, partC_no, slc_T, tk_d, cut2_, n_star]
            rw [← tk_d, e3]
            cases callN fns L (n + 3) "check_task" [N] h <;> rfl
          · simp [q_cons, q_nil, s_ife, s_ret, s_asg, s_raise, s_expr, n_and, n_or, n_not, n_neg, n_blt, n_cmp, n_chn, n_cons, n_nil, n_slot, n_lit, n_idx, n_call, n_tup, n_lst, n_ite, b_ok, b_err, t_ok, t_err, l_some, l_err, tv_bool, tv_tup, tv_lst, i_tup, i_lst, atI, ixN, o_ret, o_err, o_next, setTg, bigLine, k_eqI, k_neI, k_eqS, k_neS, k_leI, k_ltI, k_geI, k_gtI, k_ltS, k_in, k_nin, k_is, k_isn, len_T, len_L, isI_I, isI_S, isS_S, isS_I, isT_T, tup_L, tup_T, lst_L, lst_T, int_I, int_B, min_2, max_2, abs_I, tk_d]
          · unfold bigLine; omega
          · intro y hy
            have m := met_cD (l := y) hk
            simp [q_cons, q_nil, s_ife, s_ret, s_asg, s_raise, s_expr, n_and, n_or, n_not, n_neg, n_blt, n_cmp, n_chn, n_cons, n_nil, n_slot, n_lit, n_idx, n_call, n_tup, n_lst, n_ite, b_ok, b_err, t_ok, t_err, l_some, l_err, tv_bool, tv_tup, tv_lst, i_tup, i_lst, atI, ixN, o_ret, o_err, o_next, setTg, bigLine, k_eqI, k_neI, k_eqS, k_neS, k_leI, k_ltI, k_geI, k_gtI, k_ltS, k_in, k_nin, k_is, k_isn, len_T, len_L, isI_I, isI_S, isS_S, isS_I, isT_T, tup_L, tup_T, lst_L, lst_T, int_I, int_B, min_2, max_2, abs_I, n_slc, partC_i, partC_no, slc_T, lk_d, cut03, n_star, n_met, m.1, m.2]
      · rw [decide_eq_false q2] at *
        cases b1 <;> simp [q_cons, q_nil, s_ife, s_ret, s_asg, s_raise, s_expr, n_and, n_or, n_not, n_neg, n_blt, n_cmp, n_chn, n_cons, n_nil, n_slot, n_lit, n_idx, n_call, n_tup, n_lst, n_ite, b_ok, b_err, t_ok, t_err, l_some, l_err, tv_bool, tv_tup, tv_lst, i_tup, i_lst, atI, ixN, o_ret, o_err, o_next, setTg, bigLine, k_eqI, k_neI, k_eqS, k_neS, k_leI, k_ltI, k_geI, k_gtI, k_ltS, k_in, k_nin, k_is, k_isn, len_T, len_L, isI_I, isI_S, isS_S, isS_I, isT_T, tup_L, tup_T, lst_L, lst_T, int_I, int_B, min_2, max_2, abs_I, ]
    · simp [q_cons, q_nil, s_ife, s_ret, s_asg, s_raise, s_expr, n_and, n_or, n_not, n_neg, n_blt, n_cmp, n_chn, n_cons, n_nil, n_slot, n_lit, n_idx, n_call, n_tup, n_lst, n_ite, b_ok, b_err, t_ok, t_err, l_some, l_err, tv_bool, tv_tup, tv_lst, i_tup, i_lst, atI, ixN, o_ret, o_err, o_next, setTg, bigLine, k_eqI, k_neI, k_eqS, k_neS, k_leI, k_ltI, k_geI, k_gtI, k_ltS, k_in, k_nin, k_is, k_isn, len_T, len_L, isI_I, isI_S, isS_S, isS_I, isT_T, tup_L, tup_T, lst_L, lst_T, int_I, int_B, min_2, max_2, abs_I, ]
    · unfold bigLine; omega
    · intro y hy
      simp [q_cons, q_nil, s_ife, s_ret, s_asg, s_raise, s_expr, n_and, n_or, n_not, n_neg, n_blt, n_cmp, n_chn, n_cons, n_nil, n_slot, n_lit, n_idx, n_call, n_tup, n_lst, n_ite, b_ok, b_err, t_ok, t_err, l_some, l_err, tv_bool, tv_tup, tv_lst, i_tup, i_lst, atI, ixN, o_ret, o_err, o_next, setTg, bigLine, k_eqI, k_neI, k_eqS, k_neS, k_leI, k_ltI, k_geI, k_gtI, k_ltS, k_in, k_nin, k_is, k_isn, len_T, len_L, isI_I, isI_S, isS_S, isS_I, isT_T, tup_L, tup_T, lst_L, lst_T, int_I, int_B, min_2, max_2, abs_I, h3, in_strs]
  · simp [q_cons, q_nil, s_ife, s_ret, s_asg, s_raise, s_expr, n_and, n_or, n_not, n_neg, n_blt, n_cmp, n_chn, n_cons, n_nil, n_slot, n_lit, n_idx, n_call, n_tup, n_lst, n_ite, b_ok, b_err, t_ok, t_err, l_some, l_err, tv_bool, tv_tup, tv_lst, i_tup, i_lst, atI, ixN, o_ret, o_err, o_next, setTg, bigLine, k_eqI, k_neI, k_eqS, k_neS, k_leI, k_ltI, k_geI, k_gtI, k_ltS, k_in, k_nin, k_is, k_isn, len_T, len_L, isI_I, isI_S, isS_S, isS_I, isT_T, tup_L, tup_T, lst_L, lst_T, int_I, int_B, min_2, max_2, abs_I, ]
  · unfold bigLine; omega
  · intro y hy
    simp [q_cons, q_nil, s_ife, s_ret, s_asg, s_raise, s_expr, n_and, n_or, n_not, n_neg, n_blt, n_cmp, n_chn, n_cons, n_nil, n_slot, n_lit, n_idx, n_call, n_tup, n_lst, n_ite, b_ok, b_err, t_ok, t_err, l_some, l_err, tv_bool, tv_tup, tv_lst, i_tup, i_lst, atI, ixN, o_ret, o_err, o_next, setTg, bigLine, k_eqI, k_neI, k_eqS, k_neS, k_leI, k_ltI, k_geI, k_gtI, k_ltS, k_in, k_nin, k_is, k_isn, len_T, len_L, isI_I, isI_S, isS_S, isS_I, isT_T, tup_L, tup_T, lst_L, lst_T, int_I, int_B, min_2, max_2, abs_I, ]
theorem is_link_cost {L n : Nat} {h : Hs} {ps : List Str} {l : Lk} (h1 : l.n ∈ Nms) (h2 : l.a ∈ ps) (h3 : l.b ∈ ps) (h4 : ltS l.a l.b = true) (h6 : 1 ≤ l.s ∧ l.s ≤ 50) :
    callN fns L (n + 2) "is_link" [sT ps, l.d] h = .ok (.bool (decide (0 ≤ l.c) && decide (l.c ≤ 1000))) h := by
  rw [cl_is_link, c_is_link]
  have h7 := is_name_ok (L := L) (n := n) (h := h) h1
  unfold Lk.d
  by_cases q : 0 ≤ l.c <;> by_cases q2 : l.c ≤ 1000 <;> simp [q_cons, q_nil, s_ife, s_ret, s_asg, s_raise, s_expr, n_and, n_or, n_not, n_neg, n_blt, n_cmp, n_chn, n_cons, n_nil, n_slot, n_lit, n_idx, n_call, n_tup, n_lst, n_ite, b_ok, b_err, t_ok, t_err, l_some, l_err, tv_bool, tv_tup, tv_lst, i_tup, i_lst, atI, ixN, o_ret, o_err, o_next, setTg, bigLine, k_eqI, k_neI, k_eqS, k_neS, k_leI, k_ltI, k_geI, k_gtI, k_ltS, k_in, k_nin, k_is, k_isn, len_T, len_L, isI_I, isI_S, isS_S, isS_I, isT_T, tup_L, tup_T, lst_L, lst_T, int_I, int_B, min_2, max_2, abs_I, h7, in_strs, h2, h3, h4, is_whole_eq, h6, q, q2]
theorem are_rows_no {Y : Type} {L n : Nat} {h : Hs} {ys : List Y} {φ : Y → D} {f : Y → Bool} {m : Int} (hl : (ys.length : Int) ≤ m) (hf : ys.all f = false) :
    callN fns L (n + 2) "are_rows" [.tuple (ys.map φ), .int m, .list (ys.map fun y => .bool (f y))] h = .ok (.bool false) h := by
  rw [cl_are_rows, c_are_rows]
  simp [q_cons, q_nil, s_ife, s_ret, s_asg, s_raise, s_expr, n_and, n_or, n_not, n_neg, n_blt, n_cmp, n_chn, n_cons, n_nil, n_slot, n_lit, n_idx, n_call, n_tup, n_lst, n_ite, b_ok, b_err, t_ok, t_err, l_some, l_err, tv_bool, tv_tup, tv_lst, i_tup, i_lst, atI, ixN, o_ret, o_err, o_next, setTg, bigLine, k_eqI, k_neI, k_eqS, k_neS, k_leI, k_ltI, k_geI, k_gtI, k_ltS, k_in, k_nin, k_is, k_isn, len_T, len_L, isI_I, isI_S, isS_S, isS_I, isT_T, tup_L, tup_T, lst_L, lst_T, int_I, int_B, min_2, max_2, abs_I, all_map, hl, hf]
theorem check_task_big {L n : Nat} {h : Hs} {t : Tk} {cs : List (Str × Int)} (g : Good t) (hb : t.ls.all (fun l => decide (0 ≤ nc cs l) && decide (nc cs l ≤ 1000)) = false) : callN fns L (n + 3) "check_task" [(newl cs t).d] h = .err ⟨"NotAllowed", none⟩ h := by
  rw [cl_check_task, c_check_task]
  have p := are_places_ok (L := L) (n := n) (h := h) g.psl g.psn g.psa
  have e : (newl cs t).ls = t.ls.map fun l => { l with c := nc cs l } := rfl
  have hb2 : (newl cs t).ls.all (fun l => decide (0 ≤ l.c) && decide (l.c ≤ 1000)) = false := by
    rw [e, List.all_map]
    exact hb
  have el : (newl cs t).ls.length = t.ls.length := List.length_map ..
  have r1 := are_rows_no (L := L) (n := n) (h := h) (ys := (newl cs t).ls) (φ := Lk.d) (m := 14) (by have := g.lsl; omega) hb2
  have eps : (newl cs t).ps = t.ps := rfl
  have lok : ∀ l ∈ (newl cs t).ls, callN fns L (n + 2) "is_link" [sT t.ps, l.d] h = .ok (.bool (decide (0 ≤ l.c) && decide (l.c ≤ 1000))) h := fun l hl => by
    rw [e] at hl
    obtain ⟨l', hl', rfl⟩ := List.mem_map.mp hl
    have k := g.lok l' hl'
    exact is_link_cost k.1 k.2.1 k.2.2.1 k.2.2.2.1 k.2.2.2.2.2
  generalize newl cs t = T at *
  rw [tk_d, eps]
  simp [q_cons, q_nil, s_ife, s_ret, s_asg, s_raise, s_expr, n_and, n_or, n_not, n_neg, n_blt, n_cmp, n_chn, n_cons, n_nil, n_slot, n_lit, n_idx, n_call, n_tup, n_lst, n_ite, b_ok, b_err, t_ok, t_err, l_some, l_err, tv_bool, tv_tup, tv_lst, i_tup, i_lst, atI, ixN, o_ret, o_err, o_next, setTg, bigLine, k_eqI, k_neI, k_eqS, k_neS, k_leI, k_ltI, k_geI, k_gtI, k_ltS, k_in, k_nin, k_is, k_isn, len_T, len_L, isI_I, isI_S, isS_S, isS_I, isT_T, tup_L, tup_T, lst_L, lst_T, int_I, int_B, min_2, max_2, abs_I, p]
  rw [lc_all T.ls Lk.d (fun l => .bool (decide (0 ≤ l.c) && decide (l.c ≤ 1000))) (x := .tuple (T.ls.map Lk.d)) ?_ rfl ?_ ?_]
  · simp [q_cons, q_nil, s_ife, s_ret, s_asg, s_raise, s_expr, n_and, n_or, n_not, n_neg, n_blt, n_cmp, n_chn, n_cons, n_nil, n_slot, n_lit, n_idx, n_call, n_tup, n_lst, n_ite, b_ok, b_err, t_ok, t_err, l_some, l_err, tv_bool, tv_tup, tv_lst, i_tup, i_lst, atI, ixN, o_ret, o_err, o_next, setTg, bigLine, k_eqI, k_neI, k_eqS, k_neS, k_leI, k_ltI, k_geI, k_gtI, k_ltS, k_in, k_nin, k_is, k_isn, len_T, len_L, isI_I, isI_S, isS_S, isS_I, isT_T, tup_L, tup_T, lst_L, lst_T, int_I, int_B, min_2, max_2, abs_I, r1]
  · simp [q_cons, q_nil, s_ife, s_ret, s_asg, s_raise, s_expr, n_and, n_or, n_not, n_neg, n_blt, n_cmp, n_chn, n_cons, n_nil, n_slot, n_lit, n_idx, n_call, n_tup, n_lst, n_ite, b_ok, b_err, t_ok, t_err, l_some, l_err, tv_bool, tv_tup, tv_lst, i_tup, i_lst, atI, ixN, o_ret, o_err, o_next, setTg, bigLine, k_eqI, k_neI, k_eqS, k_neS, k_leI, k_ltI, k_geI, k_gtI, k_ltS, k_in, k_nin, k_is, k_isn, len_T, len_L, isI_I, isI_S, isS_S, isS_I, isT_T, tup_L, tup_T, lst_L, lst_T, int_I, int_B, min_2, max_2, abs_I, ]
  · have := g.lsl; unfold bigLine; omega
  · intro y hy
    have := lok y hy
    simp [q_cons, q_nil, s_ife, s_ret, s_asg, s_raise, s_expr, n_and, n_or, n_not, n_neg, n_blt, n_cmp, n_chn, n_cons, n_nil, n_slot, n_lit, n_idx, n_call, n_tup, n_lst, n_ite, b_ok, b_err, t_ok, t_err, l_some, l_err, tv_bool, tv_tup, tv_lst, i_tup, i_lst, atI, ixN, o_ret, o_err, o_next, setTg, bigLine, k_eqI, k_neI, k_eqS, k_neS, k_leI, k_ltI, k_geI, k_gtI, k_ltS, k_in, k_nin, k_is, k_isn, len_T, len_L, isI_I, isI_S, isS_S, isS_I, isT_T, tup_L, tup_T, lst_L, lst_T, int_I, int_B, min_2, max_2, abs_I, this]
theorem with_costs_ok {L n : Nat} {h : Hs} {t : Tk} {cs : List (Str × Int)} (g : Good t) (hl : cs.length < 64) (hx : ∀ p ∈ cs, p.1 ∈ t.nms) (ha : Asc (cNms cs)) (hk : ∀ p ∈ cs, 0 ≤ p.2 ∧ p.2 ≤ 1000) :
    callN fns L (n + 4) "with_costs" [t.d, cD cs] h = .ok (newl cs t).d h := by
  rw [with_costs_gen g hl (fun p hp => Nms_ok _ (g.lnn _ (hx p hp))) hk, sortS_asc ha, check_task_ok (good_newl g hk)]
  have : cs.all (fun p => decide (p.1 ∈ t.nms)) = true := by
    simp only [List.all_eq_true, decide_eq_true_eq]
    exact hx
  rw [this]
  simp [R.bind]
theorem with_costs_no {L n : Nat} {h : Hs} {t : Tk} {cs : List (Str × Int)} {lo hi : Int} (g : Good t) (hl : cs.length < 64) (hx : ∀ p ∈ cs, PyData.strOk p.1 = true) (hk : ∀ p ∈ cs, lo ≤ p.2 ∧ p.2 ≤ hi) (hn : (decide (cNms cs = sortS (cNms cs)) && cs.all (fun p => decide (p.1 ∈ t.nms))) = false) :
    callN fns L (n + 4) "with_costs" [t.d, cD cs] h = .err ⟨"NotAllowed", none⟩ h := by
  rw [with_costs_gen g hl hx hk, hn]
  rfl
theorem with_costs_big {L n : Nat} {h : Hs} {t : Tk} {x : Str} (g : Good t) (hx : x ∈ t.nms) : callN fns L (n + 4) "with_costs" [t.d, cD [(x, 1001)]] h = .err ⟨"NotAllowed", none⟩ h := by
  have hx2 := Nms_ok _ (g.lnn _ hx)
  rw [with_costs_gen (lo := 1001) (hi := 1001) g (by simp) (fun p hp => by rw [List.mem_singleton.mp hp]; exact hx2) (fun p hp => by rw [List.mem_singleton.mp hp]; omega), check_task_big g ?_]
  · split <;> rfl
  · obtain ⟨l, hl, rfl⟩ := List.mem_map.mp hx
    rw [Bool.eq_false_iff]
    intro hc
    have := List.all_eq_true.mp hc l hl
    have e : nc [(l.n, 1001)] l = 1001 := by
      unfold nc kv
      simp [mergeKV, putKV, getKV, eqv_str]
    rw [e] at this
    simp at this
end K00

set_option Elab.async false
set_option linter.all false
set_option maxRecDepth 100000
set_option maxHeartbeats 4000000
/-! k00, plain law, part 8: the state. -/
namespace K00
open PySem Mini
/-- the law's cell: numbers, a count of at most m -/
def St (m : Nat) (h : Hs) : Prop := ∃ (ns : List Int) (k : Int), h = [[.list (ns.map .int), .int k]] ∧ ns ≠ [] ∧ ns.length ≤ 4000 ∧ 0 ≤ k ∧ k ≤ m
theorem St.mono {m m' : Nat} {h : Hs} (s : St m h) (l : m ≤ m') : St m' h := by
  obtain ⟨ns, k, e, h1, h2, h3, h4⟩ := s
  exact ⟨ns, k, e, h1, h2, h3, by omega⟩
theorem i_cel {i : Int} {xs : List D} {r : Hs} : idxH (cel 0) (.int i) (xs :: r) = lift (atI xs i) (xs :: r) := rfl
theorem s_cel {g : G} {ρ : Mini.Env} {h : Hs} {i : Nat} {k v : C} (hρ : ρ[i]? = some (some (cel 0))) : denS g (.csub i k v) ρ h = (den g v ρ h).thenS fun v h => (den g k ρ h).thenS fun k h => (match k, h[0]? with
      | .int m, some xs => (match ixN xs.length m with
        | some j => .next ρ (h.set 0 (xs.set j v))
        | none => .bad)
      | _, _ => .bad) := by
  rw [s_csub, hρ]
  rfl
theorem n_bin' {g : G} {ρ : Mini.Env} {h : Hs} {o a b} : den g (.bin o a b) ρ h = (den g a ρ h).bind fun x h => (den g b ρ h).bind fun y h => lift (binD o x y) h := n_bin
theorem add_I {i j : Int} : binD .add (.int i) (.int j) = some (.int (i + j)) := rfl
theorem sub_I {i j : Int} : binD .sub (.int i) (.int j) = some (.int (i - j)) := rfl
theorem mod_I {i j : Int} (h : 0 < j) : binD .mod (.int i) (.int j) = some (.int (i % j)) := if_pos h
theorem fdiv_I {i j : Int} (h : 0 < j) (h2 : j < 1073741824) : binD .fdiv (.int i) (.int j) = some (.int (i / j)) := by
  show (if decide (0 < j) && decide (j < 1073741824) then some (PyData.int (i / j)) else none) = _
  rw [decide_eq_true h, decide_eq_true h2]
  rfl
theorem mul_I {i j : Int} (h : (-(2 ^ 64) < i ∧ i < 2 ^ 64) ∨ (-(2 ^ 64) < j ∧ j < 2 ^ 64)) : binD .mul (.int i) (.int j) = some (.int (i * j)) := by
  show (if (decide (-(2 ^ 64) < i) && decide (i < 2 ^ 64)) || (decide (-(2 ^ 64) < j) && decide (j < 2 ^ 64)) then some (PyData.int (i * j)) else none) = _
  rw [if_pos]
  simpa using h
theorem atI_mod {xs : List D} {i : Int} (h0 : 0 ≤ i) (h1 : i < xs.length) : ∃ d, atI xs i = some d ∧ d ∈ xs := by
  unfold atI ixN
  rw [if_pos h0, if_pos h1]
  have : i.toNat < xs.length := by omega
  exact ⟨xs[i.toNat], by simp [this], List.getElem_mem ..⟩
theorem law_next_ok {L n m : Nat} {h : Hs} {many : Int} (s : St m h) (hm : m < 2 ^ 60) (hp : 0 < many) : ∃ v h', callN fns L (n + 1) "_law_next" [cel 0, .int many] h = .ok (.int v) h' ∧ (0 ≤ v ∧ v < many) ∧ St (m + 1) h' := by
  obtain ⟨ns, k, rfl, h1, h2, h3, h4⟩ := s
  have hlen : 0 < (ns.length : Int) := by
    have := List.length_pos_iff.mpr h1
    omega
  obtain ⟨d, hd, hmem⟩ := atI_mod (xs := ns.map .int) (i := (k + 1) % ns.length) (Int.emod_nonneg _ (by omega)) (by rw [List.length_map]; exact Int.emod_lt_of_pos _ hlen)
  obtain ⟨i, _, rfl⟩ := List.mem_map.mp hmem
  refine ⟨(i + (k + 1) / ns.length * 389 + (k + 1) * ((k + 1) / ns.length) * 17) % many, [[.list (ns.map .int), .int (k + 1)]], ?_, ⟨Int.emod_nonneg _ (by omega), Int.emod_lt_of_pos _ hp⟩, ns, k + 1, rfl, h1, h2, by omega, by omega⟩
  rw [cl__law_next, c__law_next]
  have e1 : ∀ x : Int, atI [PyData.list (ns.map .int), .int x] 0 = some (.list (ns.map .int)) := fun _ => rfl
  have e2 : ∀ x : Int, atI [PyData.list (ns.map .int), .int x] 1 = some (.int x) := fun _ => rfl
  have e3 : (bltD .len [.list (ns.map PyData.int)]) = some (.int ns.length) := by rw [len_L, List.length_map]
  have m1 := mul_I (i := (k + 1) / ns.length) (j := 389) (.inr (by omega))
  have m2 := mul_I (i := k + 1) (j := (k + 1) / ns.length) (.inl (by omega))
  have m3 := mul_I (i := (k + 1) * ((k + 1) / ns.length)) (j := 17) (.inr (by omega))
  have m4 := mod_I (i := k + 1) hlen
  have m5 := fdiv_I (i := k + 1) hlen (by omega)
  have m6 := mod_I (i := i + (k + 1) / ns.length * 389 + (k + 1) * ((k + 1) / ns.length) * 17) hp
  rw [q_cons, s_cel rfl]
  simp only [n_bin, n_idx, n_slot, n_lit, List.getElem?_cons_zero, b_ok, i_cel, e2, l_some, add_I, t_ok, show ixN [PyData.list (ns.map .int), .int k].length 1 = some 1 from rfl, List.set_cons_zero, List.set_cons_succ]
  rw [q_cons, s_asg]
  simp only [n_bin, n_blt, n_cons, n_nil, n_idx, n_slot, n_lit, List.getElem?_cons_zero, b_ok, i_cel, e1, e2, e3, l_some, m5, t_ok, setTg, List.set_cons_zero, List.set_cons_succ]
  rw [q_cons, s_ret]
  simp only [n_bin, n_blt, n_cons, n_nil, n_idx, n_slot, n_lit, List.getElem?_cons_zero, List.getElem?_cons_succ, b_ok, i_cel, e1, e2, e3, l_some, m1, m2, m3, m4, m6, t_ok, int_I, add_I, i_lst, hd, o_ret]
end K00

set_option Elab.async false
set_option linter.all false
set_option maxRecDepth 100000
set_option maxHeartbeats 4000000
/-! k00, plain law, part 9: links and wishes. -/
namespace K00
open PySem Mini
theorem law_one_ok {L n m : Nat} {h : Hs} {xs : List D} (s : St m h) (hm : m < 2 ^ 60) (hx : xs ≠ []) : ∃ d h', callN fns L (n + 2) "_law_one" [cel 0, .list xs] h = .ok d h' ∧ d ∈ xs ∧ St (m + 1) h' := by
  have hlen : 0 < (xs.length : Int) := by
    have := List.length_pos_iff.mpr hx
    omega
  obtain ⟨v, h', e, hv, s'⟩ := law_next_ok (L := L) (n := n) s hm hlen
  obtain ⟨d, hd, hmem⟩ := atI_mod (xs := xs) hv.1 hv.2
  refine ⟨d, h', ?_, hmem, s'⟩
  rw [cl__law_one, c__law_one]
  simp only [q_cons, s_ret, n_idx, n_slot, n_call, n_cons, n_nil, n_blt, List.getElem?_cons_zero, List.getElem?_cons_succ, b_ok, len_L, l_some, e, i_lst, hd, t_ok, o_ret]
theorem atI_str {ps : List Str} {i : Int} (h0 : 0 ≤ i) (h1 : i < ps.length) : ∃ j, ∃ hj : j < ps.length, (j : Int) = i ∧ atI (ps.map PyData.str) i = some (.str ps[j]) := by
  have : i.toNat < ps.length := by omega
  refine ⟨i.toNat, this, by omega, ?_⟩
  unfold atI ixN
  rw [if_pos h0, if_pos (by rw [List.length_map]; exact h1)]
  simp [this]
theorem pair_sT {ps : List Str} {i j : Int} (a : Asc ps) (h0 : 0 ≤ i) (h1 : i < j) (h2 : j < ps.length) : ∃ x y, atI (ps.map PyData.str) i = some (.str x) ∧ atI (ps.map PyData.str) j = some (.str y) ∧ x ∈ ps ∧ y ∈ ps ∧ ltS x y = true := by
  obtain ⟨i', hi, ei, e1⟩ := atI_str (ps := ps) h0 (by omega)
  obtain ⟨j', hj, ej, e2⟩ := atI_str (ps := ps) (i := j) (by omega) h2
  refine ⟨_, _, e1, e2, List.getElem_mem .., List.getElem_mem .., ?_⟩
  exact (List.pairwise_iff_getElem.mp a i' j' hi hj (by omega)).1
theorem i_sT {ps : List Str} {i : Int} {h : Hs} : idxH (sT ps) (.int i) h = lift (atI (ps.map PyData.str) i) h := rfl
/-- one pair of places -/
theorem two_ok {one r len : Int} (h0 : 0 ≤ one) (h1 : one < len) (h2 : 0 ≤ r) (h3 : r < len - 1) : 0 ≤ (one + 1 + r) % len ∧ (one + 1 + r) % len < len ∧ (one + 1 + r) % len ≠ one := by
  have p : 0 < len := by omega
  refine ⟨Int.emod_nonneg _ (by omega), Int.emod_lt_of_pos _ p, ?_⟩
  by_cases q : one + 1 + r < len
  · rw [Int.emod_eq_of_lt (by omega) q]
    omega
  · have e : (one + 1 + r) % len = one + 1 + r - len := by
      rw [show one + 1 + r = (one + 1 + r - len) + len by omega, Int.add_emod_right, Int.emod_eq_of_lt (by omega) (by omega)]
      omega
    rw [e]
    omega
theorem minmax_sT {ps : List Str} {i j : Int} (a : Asc ps) (h0 : 0 ≤ i) (h1 : i < ps.length) (h2 : 0 ≤ j) (h3 : j < ps.length) (ne : j ≠ i) :
    ∃ x y, atI (ps.map PyData.str) (if j < i then j else i) = some (.str x) ∧ atI (ps.map PyData.str) (if j > i then j else i) = some (.str y) ∧ x ∈ ps ∧ y ∈ ps ∧ ltS x y = true := by
  by_cases q : j < i
  · rw [if_pos q, if_neg (by omega)]
    exact pair_sT a h2 q h1
  · rw [if_neg q, if_pos (by omega)]
    exact pair_sT a h0 (by omega) h3
def lN : List Str := ["la", "lb", "lc", "ld", "le", "lf", "lg", "lh"]
theorem lN_ok : ∀ k : Fin 8, (match (idxH (.str "abcdefgh") (.int ((k : Nat) : Int)) [] : R D) with
    | .ok d _ => (match binD .add (.str "l") d with
      | some (.str x) => decide (lN[k.1]? = some x)
      | _ => false)
    | _ => false) = true := by decide +kernel
theorem lN_at {k : Nat} (hk : k < 8) : ∃ c x, (∀ h : Hs, (idxH (.str "abcdefgh") (.int (k : Int)) h : R D) = .ok c h) ∧ binD .add (.str "l") c = some (.str x) ∧ lN[k]? = some x := by
  have := lN_ok ⟨k, hk⟩
  revert this
  cases q : (idxH (.str "abcdefgh") (.int (k : Int)) [] : R D) with
  | ok d h0 =>
    intro this
    have q : (idxH (.str "abcdefgh") (.int (k : Int)) [] : R D) = .ok d h0 := q
    rw [show ((⟨k, hk⟩ : Fin 8) : Nat) = k from rfl] at *
    simp only [q] at this
    revert this
    cases q2 : binD .add (.str "l") d with
    | none => intro this; cases this
    | some y =>
      intro this
      cases y with
      | str x =>
        refine ⟨d, x, fun h => ?_, q2, of_decide_eq_true this⟩
        have e : ∀ h : Hs, (idxH (.str "abcdefgh") (.int (k : Int)) h : R D) = lift (idxD (.str "abcdefgh") (.int (k : Int))) h := fun _ => rfl
        rw [e] at q ⊢
        cases q3 : idxD (.str "abcdefgh") (.int (k : Int)) with
        | none => rw [q3] at q; cases q
        | some z => rw [q3] at q; cases q; rfl
      | _ => cases this
  | err e h0 =>
    intro this
    simp only [q] at this
    cases this
  | bad =>
    intro this
    simp only [q] at this
    cases this
structure LOk (ps : List Str) (l : Lk) : Prop where
  a : l.a ∈ ps
  b : l.b ∈ ps
  ab : ltS l.a l.b = true
  c : 0 ≤ l.c ∧ l.c ≤ 1000
  s : 1 ≤ l.s ∧ l.s ≤ 50
def linkBody : Ss := match c__law_links with
  | .cons _ (.cons (.for_ _ _ b) _) => b
  | _ => .nil
theorem link_turn {L n m k : Nat} {h : Hs} {ps : List Str} {ls : List Lk} {x2 : D} {o4 o5 o6 : Option D} (s : St m h) (hm : m + 4 < 2 ^ 60) (a : Asc ps) (l2 : 2 ≤ ps.length) (l3 : ps.length ≤ 5) (hk : k < 8) (hl : ls.length ≤ 10) :
    ∃ l x5 x6 h', denSs ⟨callN fns L (n + 1), L⟩ linkBody [some (cel 0), some (sT ps), some x2, some (.list (ls.map Lk.d)), some (.int (k : Int)), o5, o6] h = .next [some (cel 0), some (sT ps), some x2, some (.list ((ls ++ [l]).map Lk.d)), some (.int (k : Int)), x5, x6] h' ∧ St (m + 4) h' ∧ LOk ps l ∧ lN[k]? = some l.n := by
  have hlen : 0 < (ps.length : Int) := by omega
  obtain ⟨one, h1, e1, v1, s1⟩ := law_next_ok (L := L) (n := n) s (by omega) hlen
  obtain ⟨r, h2, e2, v2, s2⟩ := law_next_ok (L := L) (n := n) (many := ps.length - 1) s1 (by omega) (by omega)
  obtain ⟨c, h3, e3, v3, s3⟩ := law_next_ok (L := L) (n := n) (many := 6) s2 (by omega) (by omega)
  obtain ⟨z, h4, e4, v4, s4⟩ := law_next_ok (L := L) (n := n) (many := 3) s3 (by omega) (by omega)
  have t := two_ok v1.1 v1.2 v2.1 v2.2
  obtain ⟨x, y, ex, ey, mx, my, lxy⟩ := minmax_sT a v1.1 v1.2 t.1 t.2.1 t.2.2
  obtain ⟨ch, nm, ec, en, eN⟩ := lN_at hk
  refine ⟨⟨nm, x, y, c, 1 + z⟩, some (.int one), some (.int ((one + 1 + r) % ps.length)), h4, ?_, s4, ⟨mx, my, lxy, ⟨v3.1, by show c ≤ 1000; omega⟩, ⟨by show 1 ≤ 1 + z; omega, by show 1 + z ≤ 50; omega⟩⟩, eN⟩
  show denSs _ (.cons (.asg _ _) (.cons (.asg _ _) (.cons (.app _ _) .nil))) _ _ = _
  have em := mod_I (i := one + 1 + r) hlen
  have hll : (ls.map Lk.d).length < bigLine := by rw [List.length_map]; unfold bigLine; omega
  rw [q_cons, s_asg]
  simp only [n_slot, n_lit, n_call, n_cons, n_nil, n_blt, List.getElem?_cons_zero, List.getElem?_cons_succ, b_ok, len_sT, l_some, e1, t_ok, setTg, List.set_cons_zero, List.set_cons_succ]
  rw [q_cons, s_asg]
  simp only [n_bin, n_slot, n_lit, n_call, n_cons, n_nil, n_blt, List.getElem?_cons_zero, List.getElem?_cons_succ, b_ok, len_sT, l_some, e2, em, add_I, sub_I, t_ok, setTg, List.set_cons_zero, List.set_cons_succ]
  rw [q_cons, s_app]
  simp only [n_tup, n_bin, n_slot, n_lit, n_call, n_cons, n_nil, n_blt, n_idx, List.getElem?_cons_zero, List.getElem?_cons_succ, b_ok, ec, en, l_some, i_sT, min_2, max_2, ex, ey, e3, e4, add_I, t_ok, List.set_cons_zero, List.set_cons_succ, hll, if_true, q_nil]
  rw [if_pos (by show 5 ≤ bigLine; unfold bigLine; omega)]
  simp only [t_ok, q_nil, List.map_append, List.map_cons, List.map_nil]
  rfl
theorem links_loop {L n : Nat} {ps : List Str} {x2 : D} (a : Asc ps) (l2 : 2 ≤ ps.length) (l3 : ps.length ≤ 5) : ∀ (r j m : Nat) (h : Hs) (ls : List Lk) (o4 o5 o6 : Option D), St m h → m + 4 * r < 2 ^ 60 → j + r ≤ 8 → ls.map (·.n) = lN.take j → (∀ l ∈ ls, LOk ps l) →
    ∃ (ls' : List Lk) (o4' o5' o6' : Option D) (h' : Hs), loopF (.nm 4) (fun ρ h => denSs ⟨callN fns L (n + 1), L⟩ linkBody ρ h) ((List.range' j r).map fun k => .int (k : Nat)) [some (cel 0), some (sT ps), some x2, some (.list (ls.map Lk.d)), o4, o5, o6] h = .next [some (cel 0), some (sT ps), some x2, some (.list (ls'.map Lk.d)), o4', o5', o6'] h' ∧ St (m + 4 * r) h' ∧ ls'.map (·.n) = lN.take (j + r) ∧ ∀ l ∈ ls', LOk ps l := by
  intro r
  induction r with
  | zero => exact fun j m h ls o4 o5 o6 s _ _ e ok => ⟨ls, o4, o5, o6, h, rfl, s, e, ok⟩
  | succ r ih =>
    intro j m h ls o4 o5 o6 s hm hj e ok
    have hll : ls.length = j := by
      have := congrArg List.length e
      rw [List.length_map, List.length_take, show lN.length = 8 from rfl] at this
      omega
    obtain ⟨l, x5, x6, h', e1, s1, lo, en⟩ := link_turn (L := L) (n := n) (k := j) (x2 := x2) (o4 := o4) (o5 := o5) (o6 := o6) s (by omega) a l2 l3 (by omega) (show ls.length ≤ 10 by omega)
    have en2 : (ls ++ [l]).map (·.n) = lN.take (j + 1) := by
      rw [List.map_append, e, List.take_add_one, en]
      rfl
    obtain ⟨ls', o4', o5', o6', h2, e2, s2, en3, ok2⟩ := ih (j + 1) (m + 4) h' (ls ++ [l]) (some (.int (j : Int))) x5 x6 s1 (by omega) (by omega) en2 (fun z hz => by
      rcases List.mem_append.mp hz with hz | hz
      · exact ok z hz
      · rw [List.mem_singleton.mp hz]
        exact lo)
    refine ⟨ls', o4', o5', o6', h2, ?_, s2.mono (by omega), by rw [en3]; congr 1; omega, ok2⟩
    rw [List.range'_succ, List.map_cons, loopF]
    show (match denSs ⟨callN fns L (n + 1), L⟩ linkBody [some (cel 0), some (sT ps), some x2, some (.list (ls.map Lk.d)), some (.int (j : Int)), o5, o6] h with
      | .next ρ h => _
      | .cnt ρ h => _
      | .brk ρ h => _
      | .ret d h => _
      | .err e h => _
      | .bad => _) = _
    rw [e1]
    exact e2
theorem range1_z {z : Int} (h : -(2 ^ 62) ≤ z ∧ z < 2 ^ 62) : bltD .range1 [.int z] = some (.list ((List.range z.toNat).map fun k => .int (k : Nat))) := by
  have e : bltD .range1 [.int z] = if decide (-(2 ^ 62) ≤ z) && decide (z < 2 ^ 62) then some (.list ((List.range z.toNat).map fun k => .int (k : Nat))) else none := rfl
  rw [e, decide_eq_true h.1, decide_eq_true h.2]
  rfl
theorem range1_I {n : Nat} (h : n ≤ 1000) : bltD .range1 [.int (n : Int)] = some (.list ((List.range' 0 n).map fun k => .int (k : Nat))) := by
  rw [range1_z (by omega), Int.toNat_natCast, List.range_eq_range']
theorem q_next {g : G} {ρ ρ' : Mini.Env} {h h' : Hs} {s : S} {r : Ss} (e : denS g s ρ h = .next ρ' h') : denSs g (.cons s r) ρ h = denSs g r ρ' h' := by rw [q_cons, e]
theorem q_ret {g : G} {ρ : Mini.Env} {h h' : Hs} {d : D} {s : S} {r : Ss} (e : denS g s ρ h = .ret d h') : denSs g (.cons s r) ρ h = .ret d h' := by rw [q_cons, e]
theorem for_of {g : G} {ρ : Mini.Env} {h h' : Hs} {tg : Tg} {it : C} {b : Ss} {x : D} {xs : List D} (hit : den g it ρ h = .ok x h') (hi : items x = some xs) : denS g (.for_ tg it b) ρ h = loopF tg (fun ρ h => denSs g b ρ h) xs ρ h' := by
  rw [s_for, hit, t_ok, hi]
theorem asg_of {g : G} {ρ ρ' : Mini.Env} {h h' : Hs} {tg : Tg} {c : C} {d : D} (e : den g c ρ h = .ok d h') (e2 : setTg tg d ρ = some ρ') : denS g (.asg tg c) ρ h = .next ρ' h' := by
  rw [s_asg, e, t_ok, e2]
theorem ret_of {g : G} {ρ : Mini.Env} {h h' : Hs} {c : C} {d : D} (e : den g c ρ h = .ok d h') : denS g (.ret c) ρ h = .ret d h' := by
  rw [s_ret, e, t_ok]
theorem blt1_of {g : G} {ρ : Mini.Env} {h h' : Hs} {b : Blt} {c : C} {x d : D} (e : den g c ρ h = .ok x h') (e2 : bltD b [x] = some d) : den g (.blt b (.cons c .nil)) ρ h = .ok d h' := by
  rw [n_blt, n_cons, e, b_ok, n_nil, b_ok, b_ok, e2, l_some]
theorem slot_of {g : G} {ρ : Mini.Env} {h : Hs} {i : Nat} {d : D} (e : ρ[i]? = some (some d)) : den g (.slot i) ρ h = .ok d h := by
  rw [n_slot, e]
theorem law_links_ok {L n m : Nat} {h : Hs} {ps : List Str} {many : Nat} (s : St m h) (hm : m + 40 < 2 ^ 60) (a : Asc ps) (l2 : 2 ≤ ps.length) (l3 : ps.length ≤ 5) (hk : many ≤ 8) :
    ∃ (ls : List Lk) (h' : Hs), callN fns L (n + 2) "_law_links" [cel 0, sT ps, .int (many : Int)] h = .ok (.tuple (ls.map Lk.d)) h' ∧ St (m + 32) h' ∧ ls.map (·.n) = lN.take many ∧ ∀ l ∈ ls, LOk ps l := by
  obtain ⟨ls', o4', o5', o6', h2, e2, s2, en3, ok2⟩ := links_loop (L := L) (n := n) (x2 := .int (many : Int)) a l2 l3 many 0 m h [] none none none s (by omega) (by omega) rfl (fun _ h => by cases h)
  refine ⟨ls', h2, ?_, s2.mono (by omega), by rw [en3, Nat.zero_add], ok2⟩
  rw [cl__law_links]
  have a1 : denS ⟨callN fns L (n + 1), L⟩ (.asg (.nm 3) (.lst .nil)) [some (cel 0), some (sT ps), some (.int (many : Int)), none, none, none, none] h = .next [some (cel 0), some (sT ps), some (.int (many : Int)), some (.list (([] : List Lk).map Lk.d)), none, none, none] h :=
    asg_of (by rw [n_lst, n_nil, b_ok]; rfl) rfl
  have a2 := (for_of (tg := .nm 4) (b := linkBody) (blt1_of (g := ⟨callN fns L (n + 1), L⟩) (h := h) (slot_of (i := 2) (ρ := [some (cel 0), some (sT ps), some (.int (many : Int)), some (.list (([] : List Lk).map Lk.d)), none, none, none]) rfl) (range1_I (by omega))) rfl).trans e2
  have a3 : denS ⟨callN fns L (n + 1), L⟩ (.ret (.blt .tuple (.cons (.slot 3) .nil))) [some (cel 0), some (sT ps), some (.int (many : Int)), some (.list (ls'.map Lk.d)), o4', o5', o6'] h2 = .ret (.tuple (ls'.map Lk.d)) h2 := ret_of (blt1_of (slot_of rfl) rfl)
  have a4 := (q_next (r := .cons _ (.cons _ .nil)) a1).trans ((q_next (r := .cons _ .nil) a2).trans (q_ret (r := .nil) a3))
  exact congrArg RS.out a4
theorem kinds_wish : ∀ k ∈ (["apart", "carry", "near", "places"] : List Str), ∃ many : Int, (many = 2 ∨ many = 4 ∨ many = 3) ∧ atI [PyData.int 2, .int 4, .int 3] ((if (k == ("carry" : Str)) = true then 1 else 0) + 2 * (if (k == ("near" : Str)) = true then 1 else 0)) = some (.int many) := by
  intro k hk
  simp only [List.mem_cons, List.not_mem_nil, or_false] at hk
  rcases hk with rfl | rfl | rfl | rfl
  · exact ⟨2, .inl rfl, by kernel_rfl⟩
  · exact ⟨4, .inr (.inl rfl), by kernel_rfl⟩
  · exact ⟨3, .inr (.inr rfl), by kernel_rfl⟩
  · exact ⟨2, .inl rfl, by kernel_rfl⟩
structure WOk (ps : List Str) (l : Wi) : Prop where
  k : l.k ∈ (["apart", "carry", "near", "places"] : List Str)
  a : l.a ∈ ps
  b : l.b ∈ ps
  ab : ltS l.a l.b = true
  m : 1 ≤ l.m ∧ l.m ≤ 4
theorem law_wish_ok {L n m : Nat} {h : Hs} {ps : List Str} {name : Str} (s : St m h) (hm : m + 4 < 2 ^ 60) (a : Asc ps) (l2 : 2 ≤ ps.length) (l3 : ps.length ≤ 5) :
    ∃ (w : Wi) (h' : Hs), callN fns L (n + 3) "_law_wish" [cel 0, sT ps, .str name] h = .ok w.d h' ∧ St (m + 4) h' ∧ w.n = name ∧ WOk ps w := by
  have hlen : 0 < (ps.length : Int) := by omega
  obtain ⟨one, h1, e1, v1, s1⟩ := law_next_ok (L := L) (n := n + 1) s (by omega) hlen
  obtain ⟨r, h2, e2, v2, s2⟩ := law_next_ok (L := L) (n := n + 1) (many := ps.length - 1) s1 (by omega) (by omega)
  obtain ⟨kd, h3, e3, v3, s3⟩ := law_one_ok (L := L) (n := n) (xs := [.str "apart", .str "apart", .str "carry", .str "near", .str "places"]) s2 (by omega) (by simp)
  have hkd : ∃ k ∈ (["apart", "carry", "near", "places"] : List Str), kd = .str k := by
    simp only [List.mem_cons, List.not_mem_nil, or_false] at v3
    rcases v3 with rfl | rfl | rfl | rfl | rfl
    · exact ⟨_, by simp, rfl⟩
    · exact ⟨_, by simp, rfl⟩
    · exact ⟨_, by simp, rfl⟩
    · exact ⟨_, by simp, rfl⟩
    · exact ⟨_, by simp, rfl⟩
  obtain ⟨k, hk, rfl⟩ := hkd
  obtain ⟨many, hmany, em⟩ := kinds_wish k hk
  obtain ⟨z, h4, e4, v4, s4⟩ := law_next_ok (L := L) (n := n + 1) (many := many) s3 (by omega) (by omega)
  have t := two_ok v1.1 v1.2 v2.1 v2.2
  obtain ⟨x, y, ex, ey, mx, my, lxy⟩ := minmax_sT a v1.1 v1.2 t.1 t.2.1 t.2.2
  refine ⟨⟨name, k, x, y, 1 + z⟩, h4, ?_, s4, rfl, ⟨hk, mx, my, lxy, ⟨by show 1 ≤ 1 + z; omega, by show 1 + z ≤ 4; omega⟩⟩⟩
  have emod := mod_I (i := one + 1 + r) hlen
  have em2 := mul_I (i := 2) (j := if (k == ("near" : Str)) = true then 1 else 0) (.inl (by omega))
  rw [cl__law_wish, c__law_wish]
  rw [q_cons, s_asg]
  simp only [n_slot, n_lit, n_call, n_cons, n_nil, n_blt, List.getElem?_cons_zero, List.getElem?_cons_succ, b_ok, len_sT, l_some, e1, t_ok, setTg, List.set_cons_zero, List.set_cons_succ]
  rw [q_cons, s_asg]
  simp only [n_bin, n_slot, n_lit, n_call, n_cons, n_nil, n_blt, List.getElem?_cons_zero, List.getElem?_cons_succ, b_ok, len_sT, l_some, e2, emod, add_I, sub_I, t_ok, setTg, List.set_cons_zero, List.set_cons_succ]
  rw [q_cons, s_asg]
  simp only [n_lst, n_slot, n_lit, n_call, n_cons, n_nil, List.getElem?_cons_zero, List.getElem?_cons_succ, b_ok, List.length_cons, List.length_nil]
  rw [if_pos (by unfold bigLine; omega)]
  simp only [b_ok, e3, t_ok, setTg, List.set_cons_zero, List.set_cons_succ]
  rw [q_cons, s_ret]
  simp only [n_tup, n_lst, n_bin, n_slot, n_lit, n_call, n_cons, n_nil, n_blt, n_idx, n_cmp, k_eqS, Option.map_some, int_B, List.getElem?_cons_zero, List.getElem?_cons_succ, b_ok, l_some, i_sT, min_2, max_2, ex, ey, add_I, em2, List.length_cons, List.length_nil, show (0 + 1 + 1 + 1 ≤ bigLine) = True from by unfold bigLine; simp, if_true, i_lst, em, e4, t_ok, o_ret]
  rw [if_pos (by unfold bigLine; omega)]
  rfl
end K00

set_option Elab.async false
set_option linter.all false
set_option maxRecDepth 100000
set_option maxHeartbeats 4000000
/-! k00, plain law, part 10: comprehensions that draw; a task. -/
namespace K00
open PySem Mini
/-- what is made of a list, item by item, or left out -/
inductive Sel {Y Z : Type} (G : Y → Option Z → Prop) : List Y → List Z → Prop
  | nil : Sel G [] []
  | no {y : Y} {ys : List Y} {zs : List Z} : G y none → Sel G ys zs → Sel G (y :: ys) zs
  | yes {y : Y} {z : Z} {ys : List Y} {zs : List Z} : G y (some z) → Sel G ys zs → Sel G (y :: ys) (z :: zs)
section
variable {Y Z W : Type} {G : Y → Option Z → Prop}
theorem Sel.len {ys : List Y} {zs : List Z} (s : Sel G ys zs) : zs.length ≤ ys.length := by
  induction s with
  | nil => exact Nat.le_refl _
  | no _ _ ih => exact Nat.le_succ_of_le ih
  | yes _ _ ih => exact Nat.succ_le_succ ih
theorem Sel.sub {f : Y → W} {k : Z → W} (hg : ∀ y z, G y (some z) → k z = f y) {ys : List Y} {zs : List Z} (s : Sel G ys zs) : (zs.map k).Sublist (ys.map f) := by
  induction s with
  | nil => exact List.Sublist.refl _
  | no _ _ ih => exact ih.cons _
  | yes h _ ih =>
    rw [List.map_cons, List.map_cons, hg _ _ h]
    exact ih.cons_cons _
theorem Sel.mem {ys : List Y} {zs : List Z} (s : Sel G ys zs) : ∀ z ∈ zs, ∃ y ∈ ys, G y (some z) := by
  induction s with
  | nil => exact fun _ h => by cases h
  | no _ _ ih => exact fun z hz => let ⟨y, hy, g⟩ := ih z hz; ⟨y, List.mem_cons_of_mem _ hy, g⟩
  | yes h _ ih =>
    intro z hz
    rcases List.mem_cons.mp hz with rfl | hz
    · exact ⟨_, List.mem_cons_self .., h⟩
    · obtain ⟨y, hy, g⟩ := ih z hz
      exact ⟨y, List.mem_cons_of_mem _ hy, g⟩
theorem Sel.all {f : Y → W} {k : Z → W} (hg : ∀ y z, G y (some z) → k z = f y) (hn : ∀ y, ¬ G y none) {ys : List Y} {zs : List Z} (s : Sel G ys zs) : zs.map k = ys.map f := by
  induction s with
  | nil => rfl
  | no h _ _ => exact absurd h (hn _)
  | yes h _ ih => rw [List.map_cons, List.map_cons, hg _ _ h, ih]
end
theorem loopC_st {Y Z : Type} {F : D → Hs → R (Option D)} {φ : Y → D} {ψ : Z → D} {G : Y → Option Z → Prop} {k : Nat} : ∀ {ys : List Y} {m : Nat} {h : Hs}, St m h →
    (∀ y ∈ ys, ∀ m' h, m' + k ≤ m + k * ys.length → St m' h → ∃ (o : Option Z) (h' : Hs), F (φ y) h = .ok (o.map ψ) h' ∧ St (m' + k) h' ∧ G y o) →
    ∃ (zs : List Z) (h' : Hs), loopC F (ys.map φ) h = .ok (zs.map ψ) h' ∧ St (m + k * ys.length) h' ∧ Sel G ys zs
  | [], m, h, s, _ => ⟨[], h, rfl, s.mono (by omega), .nil⟩
  | y :: ys, m, h, s, H => by
    have el : m + k * (y :: ys).length = m + k + k * ys.length := by rw [List.length_cons, Nat.mul_succ]; omega
    obtain ⟨o, h1, e1, s1, g1⟩ := H y (List.mem_cons_self ..) m h (by rw [el]; omega) s
    obtain ⟨zs, h2, e2, s2, g2⟩ := loopC_st (ys := ys) s1 fun z hz m' h' hm s' => H z (List.mem_cons_of_mem _ hz) m' h' (by rw [el]; exact hm) s'
    cases o with
    | none =>
      refine ⟨zs, h2, ?_, by rw [el]; exact s2, .no g1 g2⟩
      rw [List.map_cons, loopC, e1, b_ok, e2, b_ok]
      rfl
    | some z =>
      refine ⟨z :: zs, h2, ?_, by rw [el]; exact s2, .yes g1 g2⟩
      rw [List.map_cons, loopC, e1, b_ok, e2, b_ok]
      rfl
/-- a comprehension that draws -/
theorem lc_st {Y Z : Type} {g : G} {ρ : Mini.Env} {h h0 : Hs} {m k i : Nat} {elt it cond : C} {x : D} (ys : List Y) (φ : Y → D) (ψ : Z → D) (G : Y → Option Z → Prop) (hit : den g it ρ h = .ok x h0) (hi : items x = some (ys.map φ)) (hl : ys.length ≤ bigLine) (s : St m h0)
    (H : ∀ y ∈ ys, ∀ m' h, m' + k ≤ m + k * ys.length → St m' h → ∃ (o : Option Z) (h' : Hs), turnC (fun ρ h => den g cond ρ h) (fun ρ h => den g elt ρ h) (.nm i) (φ y) (ρ.set i none) h = .ok (o.map ψ) h' ∧ St (m' + k) h' ∧ G y o) :
    ∃ (zs : List Z) (h' : Hs), den g (.lc elt (.nm i) it cond) ρ h = .ok (.list (zs.map ψ)) h' ∧ St (m + k * ys.length) h' ∧ Sel G ys zs := by
  obtain ⟨zs, h', e, s', sl⟩ := loopC_st (F := fun d h => turnC (fun ρ h => den g cond ρ h) (fun ρ h => den g elt ρ h) (.nm i) d (ρ.set i none) h) (φ := φ) (ψ := ψ) (G := G) s H
  refine ⟨zs, h', ?_, s', sl⟩
  have hlen : (zs.map ψ).length ≤ bigLine := by
    rw [List.length_map]
    exact Nat.le_trans sl.len hl
  rw [n_lc, hit, b_ok, hi]
  show quiet ((loopC (fun d h => turnC (fun ρ h => den g cond ρ h) (fun ρ h => den g elt ρ h) (.nm i) d (ρ.set i none) h) (ys.map φ) h0).bind fun ys h => listD ys h) = _
  rw [e, b_ok]
  unfold listD
  rw [if_pos hlen]
  rfl
/-- one turn: the test, the item -/
theorem turn_yes {g : G} {ρ : Mini.Env} {h h1 h2 : Hs} {i : Nat} {elt cond : C} {d y : D} (hc : den g cond (ρ.set i (some d)) h = .ok (.bool true) h1) (he : den g elt (ρ.set i (some d)) h1 = .ok y h2) :
    turnC (fun ρ h => den g cond ρ h) (fun ρ h => den g elt ρ h) (.nm i) d ρ h = .ok (some y) h2 := by
  show (R.bind (den g cond (ρ.set i (some d)) h) _) = _
  rw [hc, b_ok]
  show (R.bind (den g elt (ρ.set i (some d)) h1) _) = _
  rw [he, b_ok]
theorem turn_no {g : G} {ρ : Mini.Env} {h h1 : Hs} {i : Nat} {elt cond : C} {d : D} (hc : den g cond (ρ.set i (some d)) h = .ok (.bool false) h1) :
    turnC (fun ρ h => den g cond ρ h) (fun ρ h => den g elt ρ h) (.nm i) d ρ h = .ok none h1 := by
  show (R.bind (den g cond (ρ.set i (some d)) h) _) = _
  rw [hc, b_ok]
  rfl
def pre1 (p abc : Str) (names : List Str) (k : Nat) : Bool := match (idxH (.str abc) (.int (k : Int)) [] : R D) with
    | .ok d _ => (match binD .add (.str p) d with
      | some (.str x) => decide (names[k]? = some x)
      | _ => false)
    | _ => false
theorem pre_at {p abc : Str} {names : List Str} {k : Nat} (this : pre1 p abc names k = true) : ∃ c x, (∀ h : Hs, (idxH (.str abc) (.int (k : Int)) h : R D) = .ok c h) ∧ binD .add (.str p) c = some (.str x) ∧ names[k]? = some x := by
  have e : ∀ h : Hs, (idxH (.str abc) (.int (k : Int)) h : R D) = lift (idxD (.str abc) (.int (k : Int))) h := fun _ => rfl
  unfold pre1 at this
  rw [e] at this
  cases q3 : idxD (.str abc) (.int (k : Int)) with
  | none => rw [q3, l_err] at this; cases this
  | some d =>
    rw [q3, l_some] at this
    dsimp only at this
    cases q2 : binD .add (.str p) d with
    | none => rw [q2] at this; cases this
    | some y =>
      rw [q2] at this
      cases y with
      | str x => exact ⟨d, x, fun h => by rw [e, q3, l_some], q2, of_decide_eq_true this⟩
      | _ => cases this
def wN : List Str := ["wx", "wy", "wz"]
theorem wN_ok : ∀ k : Fin 3, pre1 "w" "xyz" wN k = true := by decide +kernel
def pN : List Str := ["a", "b", "c", "d", "e"]
theorem Asc_pN : Asc pN := by unfold Asc; decide +kernel
theorem Asc_wN : Asc wN := by unfold Asc; decide +kernel
theorem Asc_lN : Asc lN := by unfold Asc; decide +kernel
theorem Asc_bN : Asc ["hail", "snow"] := by unfold Asc; decide +kernel
theorem Asc.take {xs : List Str} (a : Asc xs) (n : Nat) : Asc (xs.take n) := List.Pairwise.sublist (List.take_sublist ..) a
theorem Asc.sub {xs ys : List Str} (a : Asc xs) (s : ys.Sublist xs) : Asc ys := List.Pairwise.sublist s a
theorem cut_take {xs : List D} {v : Int} (h : 0 ≤ v) : cut xs none (some v) = xs.take v.toNat := by
  unfold cut
  show ((xs.drop 0).take ((if v < 0 then (v + (xs.length : Int)).toNat else min v.toNat xs.length) - 0)) = _
  rw [if_neg (by omega), List.drop_zero, Nat.sub_zero, ← List.take_eq_take_min]
end K00

set_option Elab.async false
set_option linter.all false
set_option maxRecDepth 100000
set_option maxHeartbeats 4000000
/-! k00, plain law, part 11: a task. -/
namespace K00
open PySem Mini
theorem call_of {g : G} {ρ : Mini.Env} {h h1 h2 : Hs} {f : Str} {es : Cs} {xs : List D} {d : D} (e : dens g es ρ h = .ok xs h1) (e2 : g.call f xs h1 = .ok d h2) : den g (.call f false es) ρ h = .ok d h2 := by
  rw [n_call, e, b_ok, e2]
theorem cons_of {g : G} {ρ : Mini.Env} {h h1 h2 : Hs} {c : C} {r : Cs} {x : D} {xs : List D} (e : den g c ρ h = .ok x h1) (e2 : dens g r ρ h1 = .ok xs h2) : dens g (.cons c r) ρ h = .ok (x :: xs) h2 := by
  rw [n_cons, e, b_ok, e2, b_ok]
/-- state[..]: one draw, of literally many -/
theorem next_of {L n m : Nat} {ρ : Mini.Env} {h : Hs} {i : Nat} {many : Int} (hr : ρ[i]? = some (some (cel 0))) (s : St m h) (hm : m < 2 ^ 60) (hp : 0 < many) : ∃ v h', den ⟨callN fns L (n + 1), L⟩ (.call "_law_next" false (.cons (.slot i) (.cons (.lit (.int many)) .nil))) ρ h = .ok (.int v) h' ∧ (0 ≤ v ∧ v < many) ∧ St (m + 1) h' := by
  obtain ⟨v, h', e, hv, s'⟩ := law_next_ok (L := L) (n := n) s hm hp
  exact ⟨v, h', call_of (cons_of (slot_of hr) (cons_of n_lit n_nil)) e, hv, s'⟩
def c_places : C := .slc (.tup (.cons (.lit (.str "a")) (.cons (.lit (.str "b")) (.cons (.lit (.str "c")) (.cons (.lit (.str "d")) (.cons (.lit (.str "e")) .nil)))))) (.lit .none) (.bin .add (.lit (.int 2)) (.call "_law_next" false (.cons (.slot 0) (.cons (.lit (.int 3)) .nil))))
theorem places_ok {L n m : Nat} {ρ : Mini.Env} {h : Hs} (hr : ρ[0]? = some (some (cel 0))) (s : St m h) (hm : m < 2 ^ 60) :
    ∃ (k : Nat) (h' : Hs), den ⟨callN fns L (n + 1), L⟩ c_places ρ h = .ok (sT (pN.take k)) h' ∧ (2 ≤ k ∧ k ≤ 5) ∧ St (m + 1) h' := by
  obtain ⟨v, h', e, hv, s'⟩ := next_of (L := L) (n := n) (many := 3) hr s hm (by omega)
  refine ⟨(2 + v).toNat, h', ?_, by omega, s'⟩
  have e1 : den ⟨callN fns L (n + 1), L⟩ (.tup (.cons (.lit (.str "a")) (.cons (.lit (.str "b")) (.cons (.lit (.str "c")) (.cons (.lit (.str "d")) (.cons (.lit (.str "e")) .nil)))))) ρ h = .ok (sT pN) h := by
    simp only [n_tup, n_cons, n_lit, n_nil, b_ok]
    rfl
  unfold c_places
  rw [n_slc, e1, b_ok, n_lit, b_ok, partC_no]
  dsimp only
  rw [n_bin, n_lit, b_ok, e, b_ok, add_I, l_some, b_ok]
  show (lift (slcD (sT pN) none (some (2 + v))) h' : R D) = _
  show (lift (some (.tuple (cut (pN.map PyData.str) none (some (2 + v))))) h' : R D) = _
  rw [cut_take (by omega), l_some, ← List.map_take]
  rfl
theorem add_S {x y z : Str} (h : binD .add (.str x) (.str y) = some (.str z)) : binD .add (.str x) (.str y) = some (.str z) := h
def c_wishes : C := .lc (.call "_law_wish" false (.cons (.slot 0) (.cons (.slot 1) (.cons (.bin .add (.lit (.str "w")) (.idx (.lit (.str "xyz")) (.slot 8))) .nil)))) (.nm 8) (.blt .range1 (.cons (.call "_law_next" false (.cons (.slot 0) (.cons (.lit (.int 4)) .nil))) .nil)) (.lit (.bool true))
theorem wishes_ok {L n m : Nat} {ρ : Mini.Env} {h : Hs} {ps : List Str} (hr : ∀ o o', ((ρ.set 8 o).set 8 o')[0]? = some (some (cel 0)) ∧ ((ρ.set 8 o).set 8 o')[1]? = some (some (sT ps)) ∧ ((ρ.set 8 o).set 8 o')[8]? = some o') (hr0 : ρ[0]? = some (some (cel 0))) (s : St m h) (hm : m + 20 < 2 ^ 60) (a : Asc ps) (l2 : 2 ≤ ps.length) (l3 : ps.length ≤ 5) :
    ∃ (ws : List Wi) (h' : Hs), den ⟨callN fns L (n + 3), L⟩ c_wishes ρ h = .ok (.list (ws.map Wi.d)) h' ∧ St (m + 13) h' ∧ (∃ k, ws.map (·.n) = wN.take k) ∧ ws.length ≤ 3 ∧ ∀ w ∈ ws, WOk ps w := by
  obtain ⟨v, h1, e, hv, s1⟩ := next_of (L := L) (n := n + 2) (many := 4) hr0 s (by omega) (by omega)
  have hvn : v = (v.toNat : Int) := by omega
  rw [hvn] at e
  have hit := blt1_of e (range1_I (n := v.toNat) (by omega))
  obtain ⟨ws, h2, e2, s2, sl⟩ := lc_st (i := 8) (k := 4) (elt := .call "_law_wish" false (.cons (.slot 0) (.cons (.slot 1) (.cons (.bin .add (.lit (.str "w")) (.idx (.lit (.str "xyz")) (.slot 8))) .nil)))) (cond := .lit (.bool true)) (List.range' 0 v.toNat) (fun k => .int (k : Nat)) Wi.d
    (fun k o => ∃ w, o = some w ∧ wN[k]? = some w.n ∧ WOk ps w) hit rfl (by rw [List.length_range']; unfold bigLine; omega) s1 (by
      intro k hk m' h' hm' s'
      rw [List.length_range'] at hm'
      obtain ⟨hk1, hk2⟩ := List.mem_range'_1.mp hk
      obtain ⟨c, x, ec, ex, en⟩ := pre_at (wN_ok ⟨k, by omega⟩)
      obtain ⟨w, h3, e3, s3, wn, wo⟩ := law_wish_ok (L := L) (n := n) (name := x) s' (by omega) a l2 l3
      obtain ⟨r0, r1, r8⟩ := hr none (some (.int (k : Nat)))
      refine ⟨some w, h3, turn_yes n_lit (call_of (cons_of (slot_of r0) (cons_of (slot_of r1) (cons_of ?_ n_nil))) e3), s3, w, rfl, by rw [wn]; exact en, wo⟩
      rw [n_bin, n_lit, b_ok, n_idx, n_lit, b_ok, slot_of r8, b_ok, ec, b_ok, ex, l_some])
  rw [List.length_range'] at s2
  refine ⟨ws, h2, e2, s2.mono (by omega), ⟨v.toNat, ?_⟩, by have := sl.len; rw [List.length_range'] at this; omega, fun w hw => ?_⟩
  · have := sl.all (f := fun k => wN.getD k "") (k := fun w => w.n) (fun y z hg => by
      obtain ⟨w, ez, hn, _⟩ := hg
      cases ez
      rw [List.getD_eq_getElem?_getD, hn]
      rfl) (fun y hg => by
      obtain ⟨w, e, _⟩ := hg
      cases e)
    rw [this]
    have hv3 : v.toNat ≤ 3 := by omega
    generalize v.toNat = q at hv3
    have : ∀ q : Fin 4, (List.range' 0 q).map (fun k => wN.getD k "") = wN.take q := by decide +kernel
    exact this ⟨q, by omega⟩
  · obtain ⟨y, _, w', e, _, wo⟩ := sl.mem w hw
    cases e
    exact wo
/-- a test by a draw: zero or not -/
theorem zero_of {L n m : Nat} {ρ : Mini.Env} {h : Hs} {i : Nat} {many : Int} (hr : ρ[i]? = some (some (cel 0))) (s : St m h) (hm : m < 2 ^ 60) (hp : 0 < many) : ∃ b h', den ⟨callN fns L (n + 1), L⟩ (.cmp .eq (.call "_law_next" false (.cons (.slot i) (.cons (.lit (.int many)) .nil))) (.lit (.int 0))) ρ h = .ok (.bool b) h' ∧ St (m + 1) h' := by
  obtain ⟨v, h', e, hv, s'⟩ := next_of (L := L) (n := n) hr s hm hp
  refine ⟨v == 0, h', ?_, s'⟩
  rw [n_cmp, e, b_ok, n_lit, b_ok, k_eqI, Option.map_some, l_some]
def c_limits : C := .lc (.tup (.cons (.slot 9) (.cons (.bin .add (.lit (.int 1)) (.call "_law_next" false (.cons (.slot 0) (.cons (.lit (.int 3)) .nil)))) .nil))) (.nm 9) (.slot 1) (.cmp .eq (.call "_law_next" false (.cons (.slot 0) (.cons (.lit (.int 6)) .nil))) (.lit (.int 0)))
theorem limits_ok {L n m : Nat} {ρ : Mini.Env} {h : Hs} {ps : List Str} (hr : ∀ o o', ((ρ.set 9 o).set 9 o')[0]? = some (some (cel 0)) ∧ ((ρ.set 9 o).set 9 o')[9]? = some o') (hr1 : ρ[1]? = some (some (sT ps))) (s : St m h) (hm : m + 20 < 2 ^ 60) (l3 : ps.length ≤ 5) :
    ∃ (ms : List Li) (h' : Hs), den ⟨callN fns L (n + 1), L⟩ c_limits ρ h = .ok (.list (ms.map Li.d)) h' ∧ St (m + 10) h' ∧ (ms.map (·.p)).Sublist ps ∧ ∀ w ∈ ms, 1 ≤ w.m ∧ w.m ≤ 3 := by
  obtain ⟨ms, h2, e2, s2, sl⟩ := lc_st (i := 9) (k := 2) (elt := .tup (.cons (.slot 9) (.cons (.bin .add (.lit (.int 1)) (.call "_law_next" false (.cons (.slot 0) (.cons (.lit (.int 3)) .nil)))) .nil))) (cond := .cmp .eq (.call "_law_next" false (.cons (.slot 0) (.cons (.lit (.int 6)) .nil))) (.lit (.int 0))) ps .str Li.d
    (fun p o => ∀ w, o = some w → w.p = p ∧ 1 ≤ w.m ∧ w.m ≤ 3) (slot_of (g := ⟨callN fns L (n + 1), L⟩) (h := h) hr1) rfl (by unfold bigLine; omega) s (by
      intro p hp m' h' hm' s'
      obtain ⟨r0, r9⟩ := hr none (some (.str p))
      obtain ⟨b, h3, e3, s3⟩ := zero_of (L := L) (n := n) (many := 6) r0 s' (by omega) (by omega)
      cases b with
      | false => exact ⟨none, h3, turn_no e3, s3.mono (by omega), fun w e => by cases e⟩
      | true =>
        obtain ⟨v, h4, e4, hv, s4⟩ := next_of (L := L) (n := n) (many := 3) r0 s3 (by omega) (by omega)
        refine ⟨some ⟨p, 1 + v⟩, h4, turn_yes e3 ?_, s4, fun w e => ?_⟩
        · rw [n_tup, n_cons, slot_of r9, b_ok, n_cons, n_bin, n_lit, b_ok, e4, b_ok, add_I, l_some, b_ok, n_nil, b_ok, b_ok, b_ok, if_pos (by show 2 ≤ bigLine; unfold bigLine; omega)]
          rfl
        · cases e
          exact ⟨rfl, by show 1 ≤ 1 + v; omega, by show 1 + v ≤ 3; omega⟩)
  refine ⟨ms, h2, e2, s2.mono (by omega), ?_, fun w hw => ?_⟩
  · have := sl.sub (f := fun p => p) (k := fun w => w.p) fun y z hg => (hg z rfl).1
    rwa [List.map_id'] at this
  · obtain ⟨y, _, hg⟩ := sl.mem w hw
    exact (hg w rfl).2
def c_own : C := .lc (.idx (.slot 10) (.lit (.int 0))) (.nm 10) (.slot 2) (.cmp .eq (.call "_law_next" false (.cons (.slot 0) (.cons (.lit (.int 4)) .nil))) (.lit (.int 0)))
theorem own_ok {L n m : Nat} {ρ : Mini.Env} {h : Hs} {ls : List Lk} (hr : ∀ o o', ((ρ.set 10 o).set 10 o')[0]? = some (some (cel 0)) ∧ ((ρ.set 10 o).set 10 o')[10]? = some o') (hr1 : ρ[2]? = some (some (.tuple (ls.map Lk.d)))) (s : St m h) (hm : m + 20 < 2 ^ 60) (l3 : ls.length ≤ 8) :
    ∃ (own : List Str) (h' : Hs), den ⟨callN fns L (n + 1), L⟩ c_own ρ h = .ok (sL own) h' ∧ St (m + 8) h' ∧ own.Sublist (ls.map (·.n)) := by
  obtain ⟨ms, h2, e2, s2, sl⟩ := lc_st (i := 10) (k := 1) (elt := .idx (.slot 10) (.lit (.int 0))) (cond := .cmp .eq (.call "_law_next" false (.cons (.slot 0) (.cons (.lit (.int 4)) .nil))) (.lit (.int 0))) ls Lk.d PyData.str
    (fun p o => ∀ w, o = some w → w = p.n) (slot_of (g := ⟨callN fns L (n + 1), L⟩) (h := h) hr1) rfl (by unfold bigLine; omega) s (by
      intro p hp m' h' hm' s'
      obtain ⟨r0, r9⟩ := hr none (some p.d)
      obtain ⟨b, h3, e3, s3⟩ := zero_of (L := L) (n := n) (many := 4) r0 s' (by omega) (by omega)
      cases b with
      | false => exact ⟨none, h3, turn_no e3, s3, fun w e => by cases e⟩
      | true =>
        refine ⟨some p.n, h3, turn_yes e3 ?_, s3, fun w e => by cases e; rfl⟩
        rw [n_idx, slot_of r9, b_ok, n_lit, b_ok]
        rfl)
  refine ⟨ms, h2, e2, s2.mono (by omega), ?_⟩
  have := sl.sub (f := fun p => p.n) (k := fun w => w) fun y z hg => hg z rfl
  rwa [List.map_id'] at this
def c_gone : C := .lc (.slot 9) (.nm 9) (.slot 1) (.cmp .eq (.call "_law_next" false (.cons (.slot 0) (.cons (.lit (.int 6)) .nil))) (.lit (.int 0)))
theorem gone_ok {L n m : Nat} {ρ : Mini.Env} {h : Hs} {ps : List Str} (hr : ∀ o o', ((ρ.set 9 o).set 9 o')[0]? = some (some (cel 0)) ∧ ((ρ.set 9 o).set 9 o')[9]? = some o') (hr1 : ρ[1]? = some (some (sT ps))) (s : St m h) (hm : m + 20 < 2 ^ 60) (l3 : ps.length ≤ 5) :
    ∃ (gone : List Str) (h' : Hs), den ⟨callN fns L (n + 1), L⟩ c_gone ρ h = .ok (sL gone) h' ∧ St (m + 5) h' ∧ gone.Sublist ps := by
  obtain ⟨ms, h2, e2, s2, sl⟩ := lc_st (i := 9) (k := 1) (elt := .slot 9) (cond := .cmp .eq (.call "_law_next" false (.cons (.slot 0) (.cons (.lit (.int 6)) .nil))) (.lit (.int 0))) ps PyData.str PyData.str
    (fun p o => ∀ w, o = some w → w = p) (slot_of (g := ⟨callN fns L (n + 1), L⟩) (h := h) hr1) rfl (by unfold bigLine; omega) s (by
      intro p hp m' h' hm' s'
      obtain ⟨r0, r9⟩ := hr none (some (.str p))
      obtain ⟨b, h3, e3, s3⟩ := zero_of (L := L) (n := n) (many := 6) r0 s' (by omega) (by omega)
      cases b with
      | false => exact ⟨none, h3, turn_no e3, s3, fun w e => by cases e⟩
      | true => exact ⟨some p, h3, turn_yes e3 (slot_of r9), s3, fun w e => by cases e; rfl⟩)
  refine ⟨ms, h2, e2, s2.mono (by omega), ?_⟩
  have := sl.sub (f := fun p => p) (k := fun w => w) fun y z hg => hg z rfl
  rwa [List.map_id', List.map_id'] at this
/-! the breaks -/
def bBody : Ss := .cons (.asg (.nm 7) (.blt .tuple (.cons c_own .nil))) (.cons (.app 5 (.tup (.cons (.slot 6) (.cons (.slot 7) (.cons (.blt .tuple (.cons c_gone .nil)) .nil))))) .nil)
structure BOk (ps nms : List Str) (b : Br) : Prop where
  own : b.own.Sublist nms
  gone : b.gone.Sublist ps
abbrev env (ps : List Str) (ls : List Lk) (W M : D) (bs : List Br) (o6 o7 : Option D) : Mini.Env := [some (cel 0), some (sT ps), some (.tuple (ls.map Lk.d)), some W, some M, some (.list (bs.map Br.d)), o6, o7, none, none, none]
theorem tup_sL {xs : List Str} : bltD .tuple [sL xs] = some (sT xs) := rfl
theorem b_turn {L n m : Nat} {h : Hs} {ps : List Str} {ls : List Lk} {W M : D} {bs : List Br} {o7 : Option D} {nm : Str} (s : St m h) (hm : m + 60 < 2 ^ 60) (l1 : ps.length ≤ 5) (l2 : ls.length ≤ 8) (l3 : bs.length ≤ 5) :
    ∃ (b : Br) (o7' : Option D) (h' : Hs), denSs ⟨callN fns L (n + 1), L⟩ bBody (env ps ls W M bs (some (.str nm)) o7) h = .next (env ps ls W M (bs ++ [b]) (some (.str nm)) o7') h' ∧ St (m + 13) h' ∧ b.n = nm ∧ BOk ps (ls.map (·.n)) b := by
  obtain ⟨own, h1, e1, s1, b1⟩ := own_ok (L := L) (n := n) (ρ := env ps ls W M bs (some (.str nm)) o7) (ls := ls) (fun o o' => ⟨rfl, rfl⟩) rfl s (by omega) l2
  obtain ⟨gone, h2, e2, s2, b2⟩ := gone_ok (L := L) (n := n) (ρ := env ps ls W M bs (some (.str nm)) (some (sT own))) (ps := ps) (fun o o' => ⟨rfl, rfl⟩) rfl s1 (by omega) l1
  refine ⟨⟨nm, own, gone⟩, some (sT own), h2, ?_, s2.mono (by omega), rfl, b1, b2⟩
  have a1 : denS ⟨callN fns L (n + 1), L⟩ (.asg (.nm 7) (.blt .tuple (.cons c_own .nil))) (env ps ls W M bs (some (.str nm)) o7) h = .next (env ps ls W M bs (some (.str nm)) (some (sT own))) h1 := asg_of (blt1_of e1 tup_sL) rfl
  have a2 : den ⟨callN fns L (n + 1), L⟩ (.tup (.cons (.slot 6) (.cons (.slot 7) (.cons (.blt .tuple (.cons c_gone .nil)) .nil)))) (env ps ls W M bs (some (.str nm)) (some (sT own))) h1 = .ok (Br.d ⟨nm, own, gone⟩) h2 := by
    rw [n_tup, cons_of (slot_of rfl) (cons_of (slot_of rfl) (cons_of (blt1_of e2 tup_sL) n_nil)), b_ok, if_pos (by show 3 ≤ bigLine; unfold bigLine; omega)]
    rfl
  have a3 : denS ⟨callN fns L (n + 1), L⟩ (.app 5 (.tup (.cons (.slot 6) (.cons (.slot 7) (.cons (.blt .tuple (.cons c_gone .nil)) .nil))))) (env ps ls W M bs (some (.str nm)) (some (sT own))) h1 = .next (env ps ls W M (bs ++ [⟨nm, own, gone⟩]) (some (.str nm)) (some (sT own))) h2 := by
    rw [s_app]
    show R.thenS (den ⟨callN fns L (n + 1), L⟩ (.tup (.cons (.slot 6) (.cons (.slot 7) (.cons (.blt .tuple (.cons c_gone .nil)) .nil)))) (env ps ls W M bs (some (.str nm)) (some (sT own))) h1) _ = _
    rw [a2, t_ok, if_pos (by rw [List.length_map]; unfold bigLine; omega)]
    show RS.next (env ps ls W M bs (some (.str nm)) (some (sT own)) |>.set 5 (some (.list (bs.map Br.d ++ [Br.d ⟨nm, own, gone⟩])))) h2 = _
    unfold env
    rw [List.map_append]
    rfl
  exact (q_next a1).trans ((q_next a3).trans q_nil)
theorem b_loop {L n : Nat} {ps : List Str} {ls : List Lk} {W M : D} (l1 : ps.length ≤ 5) (l2 : ls.length ≤ 8) : ∀ (nms : List Str) (m : Nat) (h : Hs) (bs : List Br) (o6 o7 : Option D), St m h → m + 13 * nms.length + 60 < 2 ^ 60 → bs.length + nms.length ≤ 5 → (∀ b ∈ bs, BOk ps (ls.map (·.n)) b) →
    ∃ (bs' : List Br) (o6' o7' : Option D) (h' : Hs), loopF (.nm 6) (fun ρ h => denSs ⟨callN fns L (n + 1), L⟩ bBody ρ h) (nms.map .str) (env ps ls W M bs o6 o7) h = .next (env ps ls W M bs' o6' o7') h' ∧ St (m + 13 * nms.length) h' ∧ bs'.map (·.n) = bs.map (·.n) ++ nms ∧ ∀ b ∈ bs', BOk ps (ls.map (·.n)) b := by
  intro nms
  induction nms with
  | nil => exact fun m h bs o6 o7 s _ _ ok => ⟨bs, o6, o7, h, rfl, s, (List.append_nil _).symm, ok⟩
  | cons nm r ih =>
    intro m h bs o6 o7 s hm hl ok
    rw [List.length_cons] at hm hl
    obtain ⟨b, o7', h1, e1, s1, bn, bo⟩ := b_turn (L := L) (n := n) (W := W) (M := M) (o7 := o7) (nm := nm) s (by omega) l1 l2 (show bs.length ≤ 5 by omega)
    obtain ⟨bs', o6', o7'', h2, e2, s2, en, ok2⟩ := ih (m + 13) h1 (bs ++ [b]) (some (.str nm)) o7' s1 (by omega) (by rw [List.length_append, List.length_singleton]; omega) (fun z hz => by
      rcases List.mem_append.mp hz with hz | hz
      · exact ok z hz
      · rw [List.mem_singleton.mp hz]
        exact bo)
    refine ⟨bs', o6', o7'', h2, ?_, s2.mono (by rw [List.length_cons]; omega), by rw [en, List.map_append, List.append_assoc]; show _ ++ ([b.n] ++ r) = _; rw [bn]; rfl, ok2⟩
    rw [List.map_cons, loopF]
    show (match denSs ⟨callN fns L (n + 1), L⟩ bBody (env ps ls W M bs (some (.str nm)) o7) h with
      | .next ρ h => _
      | .cnt ρ h => _
      | .brk ρ h => _
      | .ret d h => _
      | .err e h => _
      | .bad => _) = _
    rw [e1]
    exact e2
end K00

set_option Elab.async false
set_option linter.all false
set_option maxRecDepth 100000
set_option maxHeartbeats 4000000
/-! k00, plain law, part 12: _law_task. -/
namespace K00
open PySem Mini
theorem names_in {xs : List Str} : (∀ x ∈ xs, x ∈ Nms) ↔ (∀ x ∈ xs, x ∈ Nms) := Iff.rfl
theorem pN_in : ∀ x ∈ pN, x ∈ Nms := by decide +kernel
theorem lN_in : ∀ x ∈ lN, x ∈ Nms := by decide +kernel
theorem wN_in : ∀ x ∈ wN, x ∈ Nms := by decide +kernel
def hN : List Str := ["hail", "snow"]
theorem bN_in : ∀ x ∈ hN, x ∈ Nms := by decide +kernel
/-- what a drawn task is, more than good -/
structure Drawn (t : Tk) : Prop where
  good : Good t
  ne : ∃ x r, t.nms = x :: r
  nml : t.nms.Sublist lN
  psl : t.ps.Sublist pN
  bsl : (t.bs.map (·.n)).Sublist hN
  lc : ∀ l ∈ t.ls, 0 ≤ l.c ∧ l.c ≤ 1000
theorem drawn_of {ps : List Str} {ls : List Lk} {ws : List Wi} {ms : List Li} {bs : List Br} {k j : Nat} {q : Nat} (ep : ps = pN.take k) (hk : 2 ≤ k ∧ k ≤ 5) (el : ls.map (·.n) = lN.take j) (hj : 1 ≤ j ∧ j ≤ 8) (lo : ∀ l ∈ ls, LOk ps l)
    (ew : ws.map (·.n) = wN.take q) (wl : ws.length ≤ 3) (wo : ∀ w ∈ ws, WOk ps w) (em : (ms.map (·.p)).Sublist ps) (mo : ∀ w ∈ ms, 1 ≤ w.m ∧ w.m ≤ 3) {nms : List Str} (eb : bs.map (·.n) = nms) (sb : nms.Sublist hN) (bo : ∀ b ∈ bs, BOk ps (ls.map (·.n)) b) : Drawn ⟨ps, ls, ws, ms, bs⟩ := by
  have ap : Asc ps := by rw [ep]; exact Asc_pN.take k
  have al : Asc (ls.map (·.n)) := by rw [el]; exact Asc_lN.take j
  have lpl : ps.length ≤ 5 := by rw [ep, List.length_take]; show min k 5 ≤ 5; omega
  have pin : ∀ p ∈ ps, p ∈ Nms := fun p hp => pN_in p (by rw [ep] at hp; exact List.mem_of_mem_take hp)
  have lin : ∀ x ∈ ls.map (·.n), x ∈ Nms := fun p hp => lN_in p (by rw [el] at hp; exact List.mem_of_mem_take hp)
  have lll : ls.length ≤ 8 := by
    have := congrArg List.length el
    rw [List.length_map, List.length_take] at this
    omega
  have sl := fun (x : List Str) (y : List Str) (h : x.Sublist y) => h.length_le
  refine ⟨⟨by show ps.length ≤ 10; omega, pin, ap, by show ls.length ≤ 14; omega, fun l hl => ?_, al, by show ws.length ≤ 8; omega, fun w hw => ?_, by show Asc (ws.map (·.n)); rw [ew]; exact Asc_wN.take q, ?_, fun m hm => ?_, ap.sub em, ?_, fun b hb => ?_, ?_⟩, ?_, ?_, ?_, ?_, ?_⟩
  · have k := lo l hl
    exact ⟨lin _ (List.mem_map_of_mem hl), k.a, k.b, k.ab, k.c, k.s⟩
  · have k := wo w hw
    exact ⟨wN_in _ (List.mem_of_mem_take (by rw [← ew]; exact List.mem_map_of_mem hw)), k.k, k.a, k.b, k.ab, k.m⟩
  · have := em.length_le
    rw [List.length_map] at this
    show ms.length ≤ 10
    omega
  · have := mo m hm
    exact ⟨em.subset (List.mem_map_of_mem hm), by omega, by omega⟩
  · have := sb.length_le
    rw [← eb, List.length_map] at this
    show bs.length ≤ 6
    have e : hN.length = 2 := rfl
    omega
  · have k := bo b hb
    have h1 := k.own.length_le
    have h2 := k.gone.length_le
    rw [List.length_map] at h1
    exact ⟨bN_in _ (sb.subset (by rw [← eb]; exact List.mem_map_of_mem hb)), fun x hx => k.own.subset hx, fun x hx => k.gone.subset hx, al.sub k.own, ap.sub k.gone, by omega, by omega⟩
  · show Asc (bs.map (·.n))
    rw [eb]
    exact (show Asc hN from Asc_bN).sub sb
  · show ∃ x r, ls.map (·.n) = x :: r
    rw [el]
    obtain ⟨j', rfl⟩ : ∃ j', j = j' + 1 := ⟨j - 1, by omega⟩
    exact ⟨"la", _, rfl⟩
  · show (ls.map (·.n)).Sublist lN
    rw [el]
    exact List.take_sublist ..
  · show ps.Sublist pN
    rw [ep]
    exact List.take_sublist ..
  · show (bs.map (·.n)).Sublist _
    rw [eb]
    exact sb
  · exact fun l hl => (lo l hl).c
theorem law_task_ok {L n m : Nat} {h : Hs} (s : St m h) (hm : m + 200 < 2 ^ 60) : ∃ (t : Tk) (h' : Hs), callN fns L (n + 4) "_law_task" [cel 0] h = .ok t.d h' ∧ St (m + 100) h' ∧ Drawn t := by
  obtain ⟨k, h1, e1, hk, s1⟩ := places_ok (L := L) (n := n + 2) (m := m) (h := h) (ρ := [some (cel 0), none, none, none, none, none, none, none, none, none, none]) rfl s (by omega)
  have lp : (pN.take k).length = k := by rw [List.length_take]; show min k 5 = k; omega
  obtain ⟨v, h2, e2, hv, s2⟩ := next_of (L := L) (n := n + 2) (i := 0) (ρ := [some (cel 0), some (sT (pN.take k)), none, none, none, none, none, none, none, none, none]) (many := 6) rfl s1 (by omega) (by omega)
  obtain ⟨ls, h3, e3, s3, en, lo⟩ := law_links_ok (L := L) (n := n + 1) (many := (1 + v).toNat) s2 (by omega) (Asc_pN.take k) (by omega) (by omega) (by omega)
  have ev1 : (((1 + v).toNat : Nat) : Int) = 1 + v := by omega
  rw [ev1] at e3
  have lll : ls.length ≤ 8 := by
    have := congrArg List.length en
    rw [List.length_map, List.length_take] at this
    omega
  obtain ⟨ws, h4, e4, s4, ⟨q, ew⟩, wl, wo⟩ := wishes_ok (L := L) (n := n) (ρ := [some (cel 0), some (sT (pN.take k)), some (.tuple (ls.map Lk.d)), none, none, none, none, none, none, none, none]) (ps := pN.take k) (fun o o' => ⟨rfl, rfl, rfl⟩) rfl s3 (by omega) (Asc_pN.take k) (by omega) (by omega)
  obtain ⟨ms, h5, e5, s5, em, mo⟩ := limits_ok (L := L) (n := n + 2) (ρ := [some (cel 0), some (sT (pN.take k)), some (.tuple (ls.map Lk.d)), some (.tuple (ws.map Wi.d)), none, none, none, none, none, none, none]) (ps := pN.take k) (fun o o' => ⟨rfl, rfl⟩) rfl s4 (by omega) (by omega)
  obtain ⟨b, h6, e6, hb, s6⟩ := next_of (L := L) (n := n + 2) (i := 0) (ρ := env (pN.take k) ls (.tuple (ws.map Wi.d)) (.tuple (ms.map Li.d)) [] none none) (many := 3) rfl s5 (by omega) (by omega)
  obtain ⟨bs, o6, o7, h7, e7, s7, eb, bo⟩ := b_loop (L := L) (n := n + 2) (ps := pN.take k) (W := .tuple (ws.map Wi.d)) (M := .tuple (ms.map Li.d)) (by omega) lll (hN.take b.toNat) _ h6 [] none none s6 (by rw [List.length_take]; show m + 1 + 1 + 32 + 13 + 10 + 1 + 13 * min b.toNat 2 + 60 < 2 ^ 60; omega) (by rw [List.length_take]; show 0 + min b.toNat 2 ≤ 5; omega) (fun b hb => by cases hb)
  have ebl : (hN.take b.toNat).length ≤ 2 := by rw [List.length_take]; show min b.toNat 2 ≤ 2; omega
  refine ⟨⟨pN.take k, ls, ws, ms, bs⟩, h7, ?_, s7.mono (by omega), drawn_of rfl hk en (by omega) lo ew wl wo em mo (by rw [eb]; rfl) (List.take_sublist ..) bo⟩
  rw [cl__law_task]
  have a1 : denS ⟨callN fns L (n + 3), L⟩ (.asg (.nm 1) c_places) [some (cel 0), none, none, none, none, none, none, none, none, none, none] h = .next [some (cel 0), some (sT (pN.take k)), none, none, none, none, none, none, none, none, none] h1 := asg_of e1 rfl
  have a2 : denS ⟨callN fns L (n + 3), L⟩ (.asg (.nm 2) (.call "_law_links" false (.cons (.slot 0) (.cons (.slot 1) (.cons (.bin .add (.lit (.int 1)) (.call "_law_next" false (.cons (.slot 0) (.cons (.lit (.int 6)) .nil)))) .nil))))) [some (cel 0), some (sT (pN.take k)), none, none, none, none, none, none, none, none, none] h1
      = .next [some (cel 0), some (sT (pN.take k)), some (.tuple (ls.map Lk.d)), none, none, none, none, none, none, none, none] h3 := by
    refine asg_of (call_of (cons_of (slot_of rfl) (cons_of (slot_of rfl) (cons_of ?_ n_nil))) e3) rfl
    rw [n_bin, n_lit, b_ok, e2, b_ok, add_I, l_some]
  have a3 : denS ⟨callN fns L (n + 3), L⟩ (.asg (.nm 3) (.blt .tuple (.cons c_wishes .nil))) [some (cel 0), some (sT (pN.take k)), some (.tuple (ls.map Lk.d)), none, none, none, none, none, none, none, none] h3
      = .next [some (cel 0), some (sT (pN.take k)), some (.tuple (ls.map Lk.d)), some (.tuple (ws.map Wi.d)), none, none, none, none, none, none, none] h4 := asg_of (blt1_of e4 tup_L) rfl
  have a4 : denS ⟨callN fns L (n + 3), L⟩ (.asg (.nm 4) (.blt .tuple (.cons c_limits .nil))) [some (cel 0), some (sT (pN.take k)), some (.tuple (ls.map Lk.d)), some (.tuple (ws.map Wi.d)), none, none, none, none, none, none, none] h4
      = .next [some (cel 0), some (sT (pN.take k)), some (.tuple (ls.map Lk.d)), some (.tuple (ws.map Wi.d)), some (.tuple (ms.map Li.d)), none, none, none, none, none, none] h5 := asg_of (blt1_of e5 tup_L) rfl
  have a5 : denS ⟨callN fns L (n + 3), L⟩ (.asg (.nm 5) (.lst .nil)) [some (cel 0), some (sT (pN.take k)), some (.tuple (ls.map Lk.d)), some (.tuple (ws.map Wi.d)), some (.tuple (ms.map Li.d)), none, none, none, none, none, none] h5
      = .next (env (pN.take k) ls (.tuple (ws.map Wi.d)) (.tuple (ms.map Li.d)) [] none none) h5 := asg_of (by rw [n_lst, n_nil, b_ok]; rfl) rfl
  have hit : den ⟨callN fns L (n + 3), L⟩ (.slc (.lst (.cons (.lit (.str "hail")) (.cons (.lit (.str "snow")) .nil))) (.lit .none) (.call "_law_next" false (.cons (.slot 0) (.cons (.lit (.int 3)) .nil)))) (env (pN.take k) ls (.tuple (ws.map Wi.d)) (.tuple (ms.map Li.d)) [] none none) h5
      = .ok (.list ((hN.take b.toNat).map .str)) h6 := by
    have el : den ⟨callN fns L (n + 3), L⟩ (.lst (.cons (.lit (.str "hail")) (.cons (.lit (.str "snow")) .nil))) (env (pN.take k) ls (.tuple (ws.map Wi.d)) (.tuple (ms.map Li.d)) [] none none) h5 = .ok (sL hN) h5 := by
      simp only [n_lst, n_cons, n_lit, n_nil, b_ok]
      rfl
    rw [n_slc, el, b_ok, n_lit, b_ok, partC_no]
    dsimp only
    rw [e6, b_ok]
    show (lift (some (.list (cut (hN.map PyData.str) none (some b)))) h6 : R D) = _
    rw [cut_take (by omega), l_some, ← List.map_take]
  have a6 := (for_of (tg := .nm 6) (b := bBody) hit rfl).trans e7
  have a7 : denS ⟨callN fns L (n + 3), L⟩ (.ret (.tup (.cons (.slot 1) (.cons (.slot 2) (.cons (.slot 3) (.cons (.slot 4) (.cons (.blt .tuple (.cons (.slot 5) .nil)) .nil))))))) (env (pN.take k) ls (.tuple (ws.map Wi.d)) (.tuple (ms.map Li.d)) bs o6 o7) h7 = .ret (Tk.d ⟨pN.take k, ls, ws, ms, bs⟩) h7 := by
    refine ret_of ?_
    rw [n_tup, cons_of (slot_of rfl) (cons_of (slot_of rfl) (cons_of (slot_of rfl) (cons_of (slot_of rfl) (cons_of (blt1_of (slot_of rfl) tup_L) n_nil)))), b_ok, if_pos (by show 5 ≤ bigLine; unfold bigLine; omega)]
    rfl
  have z := (q_next (r := .cons _ (.cons _ (.cons _ (.cons _ (.cons _ (.cons _ .nil)))))) a1).trans ((q_next (r := .cons _ (.cons _ (.cons _ (.cons _ (.cons _ .nil))))) a2).trans ((q_next (r := .cons _ (.cons _ (.cons _ (.cons _ .nil)))) a3).trans ((q_next (r := .cons _ (.cons _ (.cons _ .nil))) a4).trans ((q_next (r := .cons _ (.cons _ .nil)) a5).trans ((q_next (r := .cons _ .nil) a6).trans (q_ret (r := .nil) a7))))))
  exact congrArg RS.out z
end K00

set_option Elab.async false
set_option linter.all false
set_option maxRecDepth 100000
set_option maxHeartbeats 4000000
/-! k00, plain law, part 13: the stream. -/
namespace K00
open PySem Mini
abbrev en (sc : D) (xs : List Int) (o2 o3 o4 o5 : Option D) : Mini.Env := [some sc, some (.list (xs.map .int)), o2, o3, o4, o5]
def body1 : Ss := .cons (.app 1 (.bin .mod (.blt .int (.cons (.slot 3) .nil)) (.lit (.int 1009)))) (.cons (.asg (.nm 3) (.bin .fdiv (.slot 3) (.lit (.int 1009)))) (.cons (.ife (.cmp .eq (.slot 3) (.lit (.int 0))) (.cons .brk .nil) .nil) .nil))
def body2 : Ss := .cons (.asg (.nm 5) (.bin .mod (.blt .int (.cons (.bin .add (.bin .add (.bin .mul (.slot 5) (.lit (.int 48271))) (.bin .mul (.lit (.int 7)) (.slot 4))) (.lit (.int 11))) .nil)) (.lit (.int 2147483647)))) (.cons (.app 1 (.bin .mod (.bin .mod (.blt .int (.cons (.bin .add (.bin .mul (.slot 5) (.lit (.int 69621))) (.slot 4)) .nil)) (.lit (.int 2147483629))) (.lit (.int 1009)))) .nil)
theorem app_of {g : G} {ρ : Mini.Env} {h h' : Hs} {i : Nat} {c : C} {xs : List D} {y : D} (hr : ρ[i]? = some (some (.list xs))) (e : den g c ρ h = .ok y h') (hl : xs.length < bigLine) : denS g (.app i c) ρ h = .next (ρ.set i (some (.list (xs ++ [y])))) h' := by
  rw [s_app, hr]
  dsimp only
  rw [e, t_ok, if_pos hl]
theorem bin_of {g : G} {ρ : Mini.Env} {h h1 h2 : Hs} {o : Bop} {a b : C} {x y d : D} (e1 : den g a ρ h = .ok x h1) (e2 : den g b ρ h1 = .ok y h2) (e3 : binD o x y = some d) : den g (.bin o a b) ρ h = .ok d h2 := by
  rw [n_bin, e1, b_ok, e2, b_ok, e3, l_some]
theorem cmp_of {g : G} {ρ : Mini.Env} {h h1 h2 : Hs} {o : Cop} {a b : C} {x y : D} {t : Bool} (e1 : den g a ρ h = .ok x h1) (e2 : den g b ρ h1 = .ok y h2) (e3 : cmpD o x y = some t) : den g (.cmp o a b) ρ h = .ok (.bool t) h2 := by
  rw [n_cmp, e1, b_ok, e2, b_ok, e3, Option.map_some, l_some]
theorem ife_t {g : G} {ρ : Mini.Env} {h h' : Hs} {c : C} {a b : Ss} (e : den g c ρ h = .ok (.bool true) h') : denS g (.ife c a b) ρ h = denSs g a ρ h' := by
  rw [s_ife, e, t_ok]
  rfl
theorem ife_f {g : G} {ρ : Mini.Env} {h h' : Hs} {c : C} {a b : Ss} (e : den g c ρ h = .ok (.bool false) h') : denS g (.ife c a b) ρ h = denSs g b ρ h' := by
  rw [s_ife, e, t_ok]
  rfl
theorem app_en {sc : D} {xs : List Int} {o2 o3 o4 o5 : Option D} {i : Int} : (en sc xs o2 o3 o4 o5).set 1 (some (.list (xs.map PyData.int ++ [.int i]))) = en sc (xs ++ [i]) o2 o3 o4 o5 := by
  unfold en
  rw [List.map_append]
  rfl
section
variable {g : G} {h : Hs} {sc : D}
theorem loop1 {o2 o5 : Option D} : ∀ (ks : List Nat) (xs : List Int) (r : Int) (o4 : Option D), xs.length + ks.length < 100000 →
    ∃ (xs' : List Int) (r' : Int) (o4' : Option D), loopF (.nm 4) (fun ρ h => denSs g body1 ρ h) (ks.map fun k => .int (k : Nat)) (en sc xs o2 (some (.int r)) o4 o5) h = .next (en sc xs' o2 (some (.int r')) o4' o5) h ∧ xs'.length ≤ xs.length + ks.length := by
  intro ks
  induction ks with
  | nil => exact fun xs r o4 _ => ⟨xs, r, o4, rfl, Nat.le_refl _⟩
  | cons k ks ih =>
    intro xs r o4 hl
    rw [List.length_cons] at hl
    have a1 : denS g (.app 1 (.bin .mod (.blt .int (.cons (.slot 3) .nil)) (.lit (.int 1009)))) (en sc xs o2 (some (.int r)) (some (.int (k : Nat))) o5) h = .next (en sc (xs ++ [r % 1009]) o2 (some (.int r)) (some (.int (k : Nat))) o5) h := by
      rw [app_of (xs := xs.map .int) rfl (bin_of (blt1_of (slot_of rfl) int_I) n_lit (mod_I (by omega))) (by rw [List.length_map]; unfold bigLine; omega), app_en]
    have a2 : denS g (.asg (.nm 3) (.bin .fdiv (.slot 3) (.lit (.int 1009)))) (en sc (xs ++ [r % 1009]) o2 (some (.int r)) (some (.int (k : Nat))) o5) h = .next (en sc (xs ++ [r % 1009]) o2 (some (.int (r / 1009))) (some (.int (k : Nat))) o5) h :=
      asg_of (bin_of (slot_of rfl) n_lit (fdiv_I (by omega) (by omega))) rfl
    have e3 : den g (.cmp .eq (.slot 3) (.lit (.int 0))) (en sc (xs ++ [r % 1009]) o2 (some (.int (r / 1009))) (some (.int (k : Nat))) o5) h = .ok (.bool (r / 1009 == 0)) h := cmp_of (slot_of rfl) n_lit k_eqI
    by_cases q : (r / 1009 == 0) = true
    · rw [q] at e3
      have a3 : denS g (.ife (.cmp .eq (.slot 3) (.lit (.int 0))) (.cons .brk .nil) .nil) (en sc (xs ++ [r % 1009]) o2 (some (.int (r / 1009))) (some (.int (k : Nat))) o5) h = .brk (en sc (xs ++ [r % 1009]) o2 (some (.int (r / 1009))) (some (.int (k : Nat))) o5) h := by
        rw [ife_t e3, q_cons, s_brk]
      refine ⟨xs ++ [r % 1009], r / 1009, some (.int (k : Nat)), ?_, by rw [List.length_append, List.length_singleton, List.length_cons]; omega⟩
      have z : denSs g body1 (en sc xs o2 (some (.int r)) (some (.int (k : Nat))) o5) h = .brk (en sc (xs ++ [r % 1009]) o2 (some (.int (r / 1009))) (some (.int (k : Nat))) o5) h := by
        unfold body1
        rw [q_next a1, q_next a2, q_cons, a3]
      rw [List.map_cons, loopF]
      show (match denSs g body1 (en sc xs o2 (some (.int r)) (some (.int (k : Nat))) o5) h with
        | .next ρ h => _
        | .cnt ρ h => _
        | .brk ρ h => _
        | .ret d h => _
        | .err e h => _
        | .bad => _) = _
      rw [z]
    · have q : (r / 1009 == 0) = false := by simpa using q
      rw [q] at e3
      have a3 : denS g (.ife (.cmp .eq (.slot 3) (.lit (.int 0))) (.cons .brk .nil) .nil) (en sc (xs ++ [r % 1009]) o2 (some (.int (r / 1009))) (some (.int (k : Nat))) o5) h = .next (en sc (xs ++ [r % 1009]) o2 (some (.int (r / 1009))) (some (.int (k : Nat))) o5) h := by
        rw [ife_f e3, q_nil]
      obtain ⟨xs', r', o4', e, hl'⟩ := ih (xs ++ [r % 1009]) (r / 1009) (some (.int (k : Nat))) (by rw [List.length_append, List.length_singleton]; omega)
      refine ⟨xs', r', o4', ?_, by rw [List.length_append, List.length_singleton] at hl'; rw [List.length_cons]; omega⟩
      have z : denSs g body1 (en sc xs o2 (some (.int r)) (some (.int (k : Nat))) o5) h = .next (en sc (xs ++ [r % 1009]) o2 (some (.int (r / 1009))) (some (.int (k : Nat))) o5) h := by
        unfold body1
        rw [q_next a1, q_next a2, q_next a3, q_nil]
      rw [List.map_cons, loopF]
      show (match denSs g body1 (en sc xs o2 (some (.int r)) (some (.int (k : Nat))) o5) h with
        | .next ρ h => _
        | .cnt ρ h => _
        | .brk ρ h => _
        | .ret d h => _
        | .err e h => _
        | .bad => _) = _
      rw [z]
      exact e
theorem loop2 {o2 o3 : Option D} : ∀ (ks : List Nat) (xs : List Int) (r : Int) (o4 : Option D), xs.length + ks.length < 100000 →
    ∃ (xs' : List Int) (r' : Int) (o4' : Option D), loopF (.nm 4) (fun ρ h => denSs g body2 ρ h) (ks.map fun k => .int (k : Nat)) (en sc xs o2 o3 o4 (some (.int r))) h = .next (en sc xs' o2 o3 o4' (some (.int r'))) h ∧ xs'.length ≤ xs.length + ks.length := by
  intro ks
  induction ks with
  | nil => exact fun xs r o4 _ => ⟨xs, r, o4, rfl, Nat.le_refl _⟩
  | cons k ks ih =>
    intro xs r o4 hl
    rw [List.length_cons] at hl
    obtain ⟨r1, er1⟩ : ∃ r1, r1 = (r * 48271 + 7 * (k : Nat) + 11) % 2147483647 := ⟨_, rfl⟩
    obtain ⟨y, ey⟩ : ∃ y, y = (r1 * 69621 + (k : Nat)) % 2147483629 % 1009 := ⟨_, rfl⟩
    have a1 : denS g (.asg (.nm 5) (.bin .mod (.blt .int (.cons (.bin .add (.bin .add (.bin .mul (.slot 5) (.lit (.int 48271))) (.bin .mul (.lit (.int 7)) (.slot 4))) (.lit (.int 11))) .nil)) (.lit (.int 2147483647)))) (en sc xs o2 o3 (some (.int (k : Nat))) (some (.int r))) h = .next (en sc xs o2 o3 (some (.int (k : Nat))) (some (.int r1))) h := by
      rw [er1]
      exact asg_of (bin_of (blt1_of (bin_of (bin_of (bin_of (slot_of rfl) n_lit (mul_I (.inr (by omega)))) (bin_of n_lit (slot_of rfl) (mul_I (.inl (by omega)))) add_I) n_lit add_I) int_I) n_lit (mod_I (by omega))) rfl
    have a2 : denS g (.app 1 (.bin .mod (.bin .mod (.blt .int (.cons (.bin .add (.bin .mul (.slot 5) (.lit (.int 69621))) (.slot 4)) .nil)) (.lit (.int 2147483629))) (.lit (.int 1009)))) (en sc xs o2 o3 (some (.int (k : Nat))) (some (.int r1))) h = .next (en sc (xs ++ [y]) o2 o3 (some (.int (k : Nat))) (some (.int r1))) h := by
      rw [ey, app_of (xs := xs.map .int) rfl (bin_of (bin_of (blt1_of (bin_of (bin_of (slot_of rfl) n_lit (mul_I (.inr (by omega)))) (slot_of rfl) add_I) int_I) n_lit (mod_I (by omega))) n_lit (mod_I (by omega))) (by rw [List.length_map]; unfold bigLine; omega), app_en]
    obtain ⟨xs', r', o4', e, hl'⟩ := ih (xs ++ [y]) r1 (some (.int (k : Nat))) (by rw [List.length_append, List.length_singleton]; omega)
    refine ⟨xs', r', o4', ?_, by rw [List.length_append, List.length_singleton] at hl'; rw [List.length_cons]; omega⟩
    have z : denSs g body2 (en sc xs o2 o3 (some (.int (k : Nat))) (some (.int r))) h = .next (en sc (xs ++ [y]) o2 o3 (some (.int (k : Nat))) (some (.int r1))) h := by
      unfold body2
      rw [q_next a1, q_next a2, q_nil]
    rw [List.map_cons, loopF]
    show (match denSs g body2 (en sc xs o2 o3 (some (.int (k : Nat))) (some (.int r))) h with
      | .next ρ h => _
      | .cnt ρ h => _
      | .brk ρ h => _
      | .ret d h => _
      | .err e h => _
      | .bad => _) = _
    rw [z]
    exact e
def bodyS : Ss := .cons (.asg (.nm 3) (.blt .abs (.cons (.blt .int (.cons (.slot 2) .nil)) .nil))) (.cons (.ife (.cmp .ge (.slot 3) (.bin .pow (.lit (.int 10)) (.lit (.int 18)))) (.cons (.for_ (.nm 4) (.blt .range1 (.cons (.lit (.int 60)) .nil)) body1) .nil) (.cons (.asg (.nm 5) (.bin .mod (.blt .int (.cons (.slot 3) .nil)) (.lit (.int 2147483647)))) (.cons (.for_ (.nm 4) (.blt .range1 (.cons (.lit (.int 10)) .nil)) body2) .nil))) .nil)
theorem pow_18 : binD .pow (.int 10) (.int 18) = some (.int 1000000000000000000) := by kernel_rfl
theorem loopS : ∀ (cs : List Int) (xs : List Int) (o2 o3 o4 o5 : Option D), xs.length + 60 * cs.length < 50000 →
    ∃ (xs' : List Int) (o2' o3' o4' o5' : Option D), loopF (.nm 2) (fun ρ h => denSs g bodyS ρ h) (cs.map .int) (en sc xs o2 o3 o4 o5) h = .next (en sc xs' o2' o3' o4' o5') h ∧ xs'.length ≤ xs.length + 60 * cs.length := by
  intro cs
  induction cs with
  | nil => exact fun xs o2 o3 o4 o5 _ => ⟨xs, o2, o3, o4, o5, rfl, Nat.le_refl _⟩
  | cons c cs ih =>
    intro xs o2 o3 o4 o5 hl
    rw [List.length_cons] at hl
    obtain ⟨r, er⟩ : ∃ r, r = if c < 0 then -c else c := ⟨_, rfl⟩
    have a1 : denS g (.asg (.nm 3) (.blt .abs (.cons (.blt .int (.cons (.slot 2) .nil)) .nil))) (en sc xs (some (.int c)) o3 o4 o5) h = .next (en sc xs (some (.int c)) (some (.int r)) o4 o5) h := by
      rw [er]
      exact asg_of (blt1_of (blt1_of (slot_of rfl) int_I) abs_I) rfl
    have e2 : den g (.cmp .ge (.slot 3) (.bin .pow (.lit (.int 10)) (.lit (.int 18)))) (en sc xs (some (.int c)) (some (.int r)) o4 o5) h = .ok (.bool (decide ((1000000000000000000 : Int) ≤ r))) h := cmp_of (slot_of rfl) (bin_of n_lit n_lit pow_18) k_geI
    have go : ∃ (xs' : List Int) (o3' o4' o5' : Option D), denSs g bodyS (en sc xs (some (.int c)) o3 o4 o5) h = .next (en sc xs' (some (.int c)) o3' o4' o5') h ∧ xs'.length ≤ xs.length + 60 := by
      by_cases q : (1000000000000000000 : Int) ≤ r
      · rw [decide_eq_true q] at e2
        obtain ⟨xs', r', o4', e, hl'⟩ := loop1 (g := g) (h := h) (sc := sc) (o2 := some (.int c)) (o5 := o5) (List.range' 0 60) xs r o4 (by rw [List.length_range']; omega)
        rw [List.length_range'] at hl'
        have a3 := (for_of (g := g) (h := h) (tg := .nm 4) (b := body1) (blt1_of (ρ := en sc xs (some (.int c)) (some (.int r)) o4 o5) (c := .lit (.int 60)) n_lit (range1_I (n := 60) (by omega))) rfl).trans e
        refine ⟨xs', some (.int r'), o4', o5, ?_, hl'⟩
        unfold bodyS
        rw [q_next a1, q_cons, ife_t e2]
        rw [q_next a3, q_nil]
        exact q_nil
      · rw [decide_eq_false q] at e2
        have a2 : denS g (.asg (.nm 5) (.bin .mod (.blt .int (.cons (.slot 3) .nil)) (.lit (.int 2147483647)))) (en sc xs (some (.int c)) (some (.int r)) o4 o5) h = .next (en sc xs (some (.int c)) (some (.int r)) o4 (some (.int (r % 2147483647)))) h := asg_of (bin_of (blt1_of (slot_of rfl) int_I) n_lit (mod_I (by omega))) rfl
        obtain ⟨xs', r', o4', e, hl'⟩ := loop2 (g := g) (h := h) (sc := sc) (o2 := some (.int c)) (o3 := some (.int r)) (List.range' 0 10) xs (r % 2147483647) o4 (by rw [List.length_range']; omega)
        rw [List.length_range'] at hl'
        have a3 := (for_of (g := g) (h := h) (tg := .nm 4) (b := body2) (blt1_of (ρ := en sc xs (some (.int c)) (some (.int r)) o4 (some (.int (r % 2147483647)))) (c := .lit (.int 10)) n_lit (range1_I (n := 10) (by omega))) rfl).trans e
        refine ⟨xs', some (.int r), o4', some (.int r'), ?_, by omega⟩
        unfold bodyS
        rw [q_next a1, q_cons, ife_f e2]
        rw [q_next a2, q_next a3, q_nil]
        exact q_nil
    obtain ⟨xs1, o3', o4', o5', e1, hl1⟩ := go
    obtain ⟨xs', o2', o3'', o4'', o5'', e, hl'⟩ := ih xs1 (some (.int c)) o3' o4' o5' (by omega)
    refine ⟨xs', o2', o3'', o4'', o5'', ?_, by rw [List.length_cons]; omega⟩
    rw [List.map_cons, loopF]
    show (match denSs g bodyS (en sc xs (some (.int c)) o3 o4 o5) h with
      | .next ρ h => _
      | .cnt ρ h => _
      | .brk ρ h => _
      | .ret d h => _
      | .err e h => _
      | .bad => _) = _
    rw [e1]
    exact e
end
theorem law_stream_ok {L n : Nat} {h : Hs} {ns : List Int} : ∃ xs : List Int, callN fns L (n + 1) "_law_stream" [scr ns] h = .ok (.list (xs.map .int)) h ∧ xs ≠ [] ∧ xs.length ≤ 4000 := by
  have hit : den ⟨callN fns L n, L⟩ (.slc (.slot 0) (.lit .none) (.lit (.int 63))) (en (scr ns) [] none none none none) h = .ok (.list ((ns.take 63).map .int)) h := by
    rw [n_slc, slot_of rfl, b_ok, n_lit, b_ok, partC_no]
    dsimp only
    rw [n_lit, b_ok, partC_i]
    show (lift (some (.list (cut (ns.map PyData.int) none (some 63)))) h : R D) = _
    rw [cut_take (by omega), l_some, ← List.map_take]
    rfl
  obtain ⟨xs, o2, o3, o4, o5, e, hl⟩ := loopS (g := ⟨callN fns L n, L⟩) (h := h) (sc := scr ns) (ns.take 63) [] none none none none (by rw [List.length_take]; show 0 + 60 * min 63 ns.length < 50000; omega)
  have hl : xs.length ≤ 3780 := by
    rw [List.length_take] at hl
    have : ([] : List Int).length = 0 := rfl
    omega
  have a1 : denS ⟨callN fns L n, L⟩ (.asg (.nm 1) (.lst .nil)) [some (scr ns), none, none, none, none, none] h = .next (en (scr ns) [] none none none none) h := asg_of (by rw [n_lst, n_nil, b_ok]; rfl) rfl
  have a2 := (for_of (tg := .nm 2) (b := bodyS) hit rfl).trans e
  have e3 : den ⟨callN fns L n, L⟩ (.cmp .eq (.blt .len (.cons (.slot 1) .nil)) (.lit (.int 0))) (en (scr ns) xs o2 o3 o4 o5) h = .ok (.bool ((xs.length : Int) == 0)) h := by
    refine cmp_of (blt1_of (slot_of rfl) (len_L.trans ?_)) n_lit k_eqI
    rw [List.length_map]
  cases xs with
  | nil =>
    refine ⟨[0], ?_, by simp, by simp⟩
    have a3 : denS ⟨callN fns L n, L⟩ (.ife (.cmp .eq (.blt .len (.cons (.slot 1) .nil)) (.lit (.int 0))) (.cons (.app 1 (.lit (.int 0))) .nil) .nil) (en (scr ns) [] o2 o3 o4 o5) h = .next (en (scr ns) [0] o2 o3 o4 o5) h := by
      rw [ife_t e3]
      rw [q_next (app_of (xs := []) rfl n_lit (by unfold bigLine; simp)), q_nil]
      rfl
    rw [cl__law_stream]
    exact congrArg RS.out ((q_next (r := .cons _ (.cons _ (.cons _ .nil))) a1).trans ((q_next (r := .cons _ (.cons _ .nil)) a2).trans ((q_next (r := .cons _ .nil) a3).trans (q_ret (r := .nil) (ret_of (slot_of rfl))))))
  | cons x r =>
    refine ⟨x :: r, ?_, by simp, by omega⟩
    have q : (((x :: r).length : Int) == 0) = false := by
      rw [List.length_cons]
      simp
      omega
    rw [q] at e3
    have a3 : denS ⟨callN fns L n, L⟩ (.ife (.cmp .eq (.blt .len (.cons (.slot 1) .nil)) (.lit (.int 0))) (.cons (.app 1 (.lit (.int 0))) .nil) .nil) (en (scr ns) (x :: r) o2 o3 o4 o5) h = .next (en (scr ns) (x :: r) o2 o3 o4 o5) h := by
      rw [ife_f e3, q_nil]
    rw [cl__law_stream]
    exact congrArg RS.out ((q_next (r := .cons _ (.cons _ (.cons _ .nil))) a1).trans ((q_next (r := .cons _ (.cons _ .nil)) a2).trans ((q_next (r := .cons _ .nil) a3).trans (q_ret (r := .nil) (ret_of (slot_of rfl))))))
end K00

set_option Elab.async false
set_option linter.all false
set_option maxRecDepth 100000
set_option maxHeartbeats 4000000
/-! k00, plain law, part 14: what is shown. -/
namespace K00
open PySem Mini
structure RP (k B : Nat) (d : D) : Prop where
  lay : d.canLay0 = true
  sh : d.showable = true
  dp : d.depth ≤ k
  wt : Mini.wt d ≤ B
theorem RP.mono {k B k' B' : Nat} {d : D} (r : RP k B d) (h1 : k ≤ k') (h2 : B ≤ B') : RP k' B' d := ⟨r.lay, r.sh, Nat.le_trans r.dp h1, Nat.le_trans r.wt h2⟩
theorem showAll_all : ∀ xs : List D, PyData.showableAll xs = xs.all PyData.showable
  | [] => by simp [PyData.showableAll]
  | x :: r => by simp [PyData.showableAll, showAll_all r]
theorem wts_le {B : Nat} : ∀ {xs : List D}, (∀ x ∈ xs, Mini.wt x ≤ B) → Mini.wts xs ≤ xs.length * (B + 3)
  | [], _ => by simp [Mini.wts]
  | x :: r, h => by
    have h1 := h x (List.mem_cons_self ..)
    have h2 := wts_le fun y hy => h y (List.mem_cons_of_mem _ hy)
    rw [Mini.wts, List.length_cons, Nat.succ_mul]
    omega
theorem RP.tup {k B n : Nat} {xs : List D} (h : ∀ x ∈ xs, RP k B x) (hl : xs.length ≤ n) : RP (k + 1) (n * (B + 3) + 5) (.tuple xs) := by
  refine ⟨?_, ?_, ?_, ?_⟩
  · rw [PyData.canLay0, canLayAll_all]
    exact List.all_eq_true.mpr fun x hx => (h x hx).lay
  · rw [PyData.showable, showAll_all]
    exact List.all_eq_true.mpr fun x hx => (h x hx).sh
  · rw [PyData.depth]
    exact Nat.succ_le_succ (depthAll_le fun x hx => (h x hx).dp)
  · rw [Mini.wt]
    have := wts_le fun x hx => (h x hx).wt
    have h2 := Nat.mul_le_mul_right (B + 3) hl
    omega
theorem RP.lst {k B n : Nat} {xs : List D} (h : ∀ x ∈ xs, RP k B x) (hl : xs.length ≤ n) : RP (k + 1) (n * (B + 3) + 5) (.list xs) := by
  refine ⟨?_, ?_, ?_, ?_⟩
  · rw [PyData.canLay0, canLayAll_all]
    exact List.all_eq_true.mpr fun x hx => (h x hx).lay
  · rw [PyData.showable, showAll_all]
    exact List.all_eq_true.mpr fun x hx => (h x hx).sh
  · rw [PyData.depth]
    exact Nat.succ_le_succ (depthAll_le fun x hx => (h x hx).dp)
  · rw [Mini.wt]
    have := wts_le fun x hx => (h x hx).wt
    have h2 := Nat.mul_le_mul_right (B + 3) hl
    omega
theorem RP.non : RP 0 100 .none := ⟨by simp [PyData.canLay0], by simp [PyData.showable], by simp [PyData.depth], by simp [Mini.wt]⟩
theorem RP.bl {b : Bool} : RP 0 100 (.bool b) := ⟨by simp [PyData.canLay0], by simp [PyData.showable], by simp [PyData.depth], by simp [Mini.wt]⟩
theorem RP.int {i : Int} (h : i.natAbs < 2 ^ 60) : RP 0 100 (.int i) := by
  have hl : i.natAbs.log2 < 60 := by
    by_cases q : i.natAbs = 0
    · rw [q]
      decide
    · exact (Nat.log2_lt q).mpr h
  refine ⟨by simp [PyData.canLay0], ?_, by simp [PyData.depth], ?_⟩
  · rw [PyData.showable]
    exact decide_eq_true (by omega)
  · rw [Mini.wt]
    omega
theorem RP.str {x : Str} (h1 : PyData.strOk x = true) (h2 : x.length ≤ 8) : RP 0 100 (.str x) := by
  refine ⟨by rw [PyData.canLay0]; exact h1, by simp [PyData.showable], by simp [PyData.depth], ?_⟩
  rw [Mini.wt]
  omega
theorem Nms_len : ∀ x ∈ Nms, x.length ≤ 8 := by decide +kernel
theorem RP.nm {x : Str} (h : x ∈ Nms) : RP 0 100 (.str x) := RP.str (Nms_ok x h) (Nms_len x h)
theorem kinds_rp {k : Str} (hk : k ∈ (["apart", "carry", "near", "places"] : List Str)) : RP 0 100 (.str k) := by
  have h1 : ∀ x ∈ (["apart", "carry", "near", "places"] : List Str), PyData.strOk x = true := by decide +kernel
  have h2 : ∀ x ∈ (["apart", "carry", "near", "places"] : List Str), x.length ≤ 8 := by decide +kernel
  exact RP.str (h1 k hk) (h2 k hk)
theorem RP.sT {n : Nat} {xs : List Str} (h : ∀ x ∈ xs, x ∈ Nms) (hl : xs.length ≤ n) : RP 1 (n * 103 + 5) (sT xs) :=
  RP.tup (k := 0) (B := 100) (fun d hd => by
    obtain ⟨x, hx, rfl⟩ := List.mem_map.mp hd
    exact RP.nm (h x hx)) (by rw [List.length_map]; exact hl)
theorem RP.okR {k B : Nat} {d : D} (r : RP k B d) (hk : k ≤ 60) (hB : B ≤ 900000) : okRepr (.list [d]) = true := by
  have r2 := RP.lst (n := 1) (xs := [d]) (fun x hx => by rw [List.mem_singleton.mp hx]; exact r) (by simp)
  unfold okRepr SeqAt.shaped
  have h1 := r2.dp
  have h2 := r2.wt
  rw [r2.lay, r2.sh, decide_eq_true (show PyData.depth (.list [d]) ≤ 64 by omega), decide_eq_true (show Mini.wt (.list [d]) ≤ 1000000 by omega)]
  rfl
theorem law_same_ok {L n : Nat} {h : Hs} {d : D} (r : okRepr (.list [d]) = true) : callN fns L (n + 1) "_law_same" [d, d] h = .ok (.bool true) h := by
  rw [cl__law_same]
  have e : bltD .repr [.list [d]] = some (.str (PyData.list [d]).shown) := if_pos r
  have e0 : ∀ {i : Nat} {ρ : Mini.Env}, ρ[i]? = some (some d) → den ⟨callN fns L n, L⟩ (.blt .repr (.cons (.lst (.cons (.slot i) .nil)) .nil)) ρ h = .ok (.str (PyData.list [d]).shown) h := fun hr => by
    refine blt1_of ?_ e
    rw [n_lst, cons_of (slot_of hr) n_nil, b_ok, if_pos (by show 1 ≤ bigLine; unfold bigLine; omega)]
  have e2 : den ⟨callN fns L n, L⟩ (.cmp .eq (.blt .repr (.cons (.lst (.cons (.slot 0) .nil)) .nil)) (.blt .repr (.cons (.lst (.cons (.slot 1) .nil)) .nil))) [some d, some d] h = .ok (.bool true) h :=
    cmp_of (e0 rfl) (e0 rfl) (by rw [k_eqS]; simp)
  exact congrArg RS.out (q_ret (r := .nil) (ret_of e2))
theorem good_rp {t : Tk} (g : Good t) : RP 4 600000 t.d := by
  have r1 : RP 1 (10 * 103 + 5) (K00.sT t.ps) := RP.sT g.psn g.psl
  have r2 : RP 2 (14 * (5 * 103 + 5 + 3) + 5) (.tuple (t.ls.map Lk.d)) := RP.tup (k := 1) (B := 5 * 103 + 5) (fun d hd => by
    obtain ⟨l, hl, rfl⟩ := List.mem_map.mp hd
    have k := g.lok l hl
    refine RP.tup (k := 0) (B := 100) (fun x hx => ?_) (by simp)
    simp only [List.mem_cons, List.not_mem_nil, or_false] at hx
    rcases hx with rfl | rfl | rfl | rfl | rfl
    · exact RP.nm k.1
    · exact RP.nm (g.psn _ k.2.1)
    · exact RP.nm (g.psn _ k.2.2.1)
    · exact RP.int (by omega)
    · exact RP.int (by omega)) (by rw [List.length_map]; exact g.lsl)
  have r3 : RP 2 (8 * (5 * 103 + 5 + 3) + 5) (.tuple (t.ws.map Wi.d)) := RP.tup (k := 1) (B := 5 * 103 + 5) (fun d hd => by
    obtain ⟨l, hl, rfl⟩ := List.mem_map.mp hd
    have k := g.wok l hl
    refine RP.tup (k := 0) (B := 100) (fun x hx => ?_) (by simp)
    simp only [List.mem_cons, List.not_mem_nil, or_false] at hx
    rcases hx with rfl | rfl | rfl | rfl | rfl
    · exact RP.nm k.1
    · exact kinds_rp k.2.1
    · exact RP.nm (g.psn _ k.2.2.1)
    · exact RP.nm (g.psn _ k.2.2.2.1)
    · exact RP.int (by omega)) (by rw [List.length_map]; exact g.wsl)
  have r4 : RP 2 (10 * (2 * 103 + 5 + 3) + 5) (.tuple (t.ms.map Li.d)) := RP.tup (k := 1) (B := 2 * 103 + 5) (fun d hd => by
    obtain ⟨l, hl, rfl⟩ := List.mem_map.mp hd
    have k := g.mok l hl
    refine RP.tup (k := 0) (B := 100) (fun x hx => ?_) (by simp)
    simp only [List.mem_cons, List.not_mem_nil, or_false] at hx
    rcases hx with rfl | rfl
    · exact RP.nm (g.psn _ k.1)
    · exact RP.int (by omega)) (by rw [List.length_map]; exact g.msl)
  have r5 : RP 3 (6 * (3 * (64 * 103 + 5 + 3) + 5 + 3) + 5) (.tuple (t.bs.map Br.d)) := RP.tup (k := 2) (B := 3 * (64 * 103 + 5 + 3) + 5) (fun d hd => by
    obtain ⟨l, hl, rfl⟩ := List.mem_map.mp hd
    have k := g.bok l hl
    refine RP.tup (k := 1) (B := 64 * 103 + 5) (fun x hx => ?_) (by simp)
    simp only [List.mem_cons, List.not_mem_nil, or_false] at hx
    rcases hx with rfl | rfl | rfl
    · exact (RP.nm k.1).mono (by omega) (by omega)
    · exact RP.sT (fun x hx => g.lnn x (k.2.1 x hx)) (by omega)
    · exact RP.sT (fun x hx => g.psn x (k.2.2.1 x hx)) (by omega)) (by rw [List.length_map]; exact g.bsl)
  refine (RP.tup (n := 5) (k := 3) (B := 6 * (3 * (64 * 103 + 5 + 3) + 5 + 3) + 5) (fun x hx => ?_) (by simp)).mono (by omega) (by omega)
  simp only [List.mem_cons, List.not_mem_nil, or_false] at hx
  rcases hx with rfl | rfl | rfl | rfl | rfl
  · exact r1.mono (by omega) (by omega)
  · exact r2.mono (by omega) (by omega)
  · exact r3.mono (by omega) (by omega)
  · exact r4.mono (by omega) (by omega)
  · exact r5
theorem sum_le {f : Lk → Int} : ∀ {ls : List Lk}, (∀ l ∈ ls, 0 ≤ f l ∧ f l ≤ 1000) → 0 ≤ (ls.map f).sum ∧ (ls.map f).sum ≤ 1000 * ls.length
  | [], _ => by simp
  | l :: r, h => by
    have h1 := h l (List.mem_cons_self ..)
    have h2 := sum_le fun y hy => h y (List.mem_cons_of_mem _ hy)
    rw [List.map_cons, List.sum_cons, List.length_cons]
    omega
theorem kcost_rp {t : Tk} {net : List Str} (g : Good t) : RP 0 100 (.int (kcost t net)) := by
  have h1 : 0 ≤ kcost t net ∧ kcost t net ≤ 1000 * (t.ls.filter fun l => decide (l.n ∈ net)).length := sum_le (f := fun l => l.c) (fun l hl => (g.lok l (List.mem_filter.mp hl).1).2.2.2.2.1)
  have h2 := List.length_filter_le (fun l : Lk => decide (l.n ∈ net)) t.ls
  have := g.lsl
  exact RP.int (by omega)
end K00

set_option Elab.async false
set_option linter.all false
set_option maxRecDepth 100000
set_option maxHeartbeats 4000000
/-! k00, plain law, part 15: the law's parts. -/
namespace K00
open PySem Mini
def i0 : S := (.asg (.tp [5, 6]) (.call "_law_left" false (.cons (.slot 13) (.cons (.slot 3) (.cons (.slot 4) .nil)))))
def i1a : C := (.call "left_of" false (.cons (.slot 13) (.cons (.slot 3) (.cons (.slot 4) .nil))))
def i1b : C := (.tup (.cons (.blt .tuple (.cons (.slot 5) .nil)) (.cons (.blt .tuple (.cons (.lc (.idx (.slot 15) (.lit (.int 0))) (.nm 15) (.slot 6) (.lit (.bool true))) .nil)) .nil)))
def same (a b : C) : C := .notv (.call "_law_same" false (.cons a (.cons b .nil)))
def no (c : C) : S := .ife c (.cons (.ret (.lit (.bool false))) .nil) .nil
def inB : Ss := .cons i0 (.cons (no (same i1a i1b)) .nil)
def t0c : C := (.call "_law_task" false (.cons (.slot 1) .nil))
def t0 : S := .asg (.nm 13) t0c
def t1c : C := (.call "_law_names" false (.cons (.slot 13) .nil))
def t1 : S := .asg (.nm 12) t1c
def t2c : C := (.blt .tuple (.cons (.lc (.slot 14) (.nm 14) (.slot 12) (.cmp .gt (.call "_law_next" false (.cons (.slot 1) (.cons (.lit (.int 3)) .nil))) (.lit (.int 0)))) .nil))
def t2 : S := .asg (.nm 3) t2c
def t3it : C := (.bin .add (.lst (.cons (.lit (.str "")) .nil)) (.lc (.idx (.slot 15) (.lit (.int 0))) (.nm 15) (.idx (.slot 13) (.lit (.int 4))) (.lit (.bool true))))
def t3 : S := .for_ (.nm 4) t3it inB
def t4a : C := (.lst (.cons (.call "cost_of" false (.cons (.slot 13) (.cons (.slot 3) .nil))) (.cons (.call "over_limits" false (.cons (.slot 13) (.cons (.slot 3) .nil))) (.cons (.call "check_task" false (.cons (.slot 13) .nil)) (.cons (.call "check_net" false (.cons (.slot 13) (.cons (.slot 3) .nil))) .nil)))))
def t4b : C := (.lst (.cons (.call "_law_cost" false (.cons (.slot 13) (.cons (.slot 3) .nil))) (.cons (.blt .tuple (.cons (.call "_law_over" false (.cons (.slot 13) (.cons (.slot 3) .nil))) .nil)) (.cons (.lit .none) (.cons (.lit .none) .nil)))))
def t4 : S := no (same t4a t4b)
def t5a : C := (.lc (.call "links_at" false (.cons (.slot 13) (.cons (.slot 16) .nil))) (.nm 16) (.idx (.slot 13) (.lit (.int 0))) (.lit (.bool true)))
def t5b : C := (.lc (.blt .tuple (.cons (.lc (.idx (.slot 15) (.lit (.int 0))) (.nm 15) (.idx (.slot 13) (.lit (.int 1))) (.cmp .in_ (.slot 16) (.slc (.slot 15) (.lit (.int 1)) (.lit (.int 3))))) .nil)) (.nm 16) (.idx (.slot 13) (.lit (.int 0))) (.lit (.bool true)))
def t5 : S := no (same t5a t5b)
def t6c : C := (.blt .tuple (.cons (.lc (.tup (.cons (.slot 14) (.cons (.call "_law_next" false (.cons (.slot 1) (.cons (.lit (.int 1001)) .nil))) .nil))) (.nm 14) (.slot 3) (.lit (.bool true))) .nil))
def t6 : S := .asg (.nm 7) t6c
def t7c : C := (.blt .dict (.cons (.slot 7) .nil))
def t7 : S := .asg (.nm 8) t7c
def t8c : C := (.bin .add (.tup (.cons (.idx (.slot 13) (.lit (.int 0))) (.cons (.blt .tuple (.cons (.lc (.bin .add (.slc (.slot 15) (.lit .none) (.lit (.int 3))) (.tup (.cons (.met .get2 (.slot 8) (.cons (.idx (.slot 15) (.lit (.int 0))) (.cons (.idx (.slot 15) (.lit (.int 3))) .nil))) (.cons (.idx (.slot 15) (.lit (.int 4))) .nil)))) (.nm 15) (.idx (.slot 13) (.lit (.int 1))) (.lit (.bool true))) .nil)) .nil))) (.slc (.slot 13) (.lit (.int 2)) (.lit .none)))
def t8 : S := .asg (.nm 9) t8c
def t9a : C := (.call "with_costs" false (.cons (.slot 13) (.cons (.slot 7) .nil)))
def t9b : C := (.slot 9)
def t9 : S := no (same t9a t9b)
def t10c : C := (.lst (.cons (.told (.call "check_net" false (.cons (.slot 13) (.cons (.tup (.cons (.idx (.slot 12) (.lit (.int 0))) (.cons (.idx (.slot 12) (.lit (.int 0))) .nil))) .nil)))) (.cons (.told (.call "check_net" false (.cons (.slot 13) (.cons (.tup (.cons (.lit (.str "zz")) .nil)) .nil)))) (.cons (.told (.call "with_costs" false (.cons (.slot 13) (.cons (.tup (.cons (.tup (.cons (.idx (.slot 12) (.lit (.int 0))) (.cons (.lit (.int 1001)) .nil))) .nil)) .nil)))) (.cons (.told (.call "with_costs" false (.cons (.slot 13) (.cons (.tup (.cons (.tup (.cons (.lit (.str "zz")) (.cons (.lit (.int 1)) .nil))) .nil)) .nil)))) (.cons (.told (.call "with_costs" false (.cons (.slot 13) (.cons (.tup (.cons (.tup (.cons (.idx (.slot 12) (.lit (.int 0))) (.cons (.lit (.int 1)) .nil))) (.cons (.tup (.cons (.idx (.slot 12) (.lit (.int 0))) (.cons (.lit (.int 1)) .nil))) .nil))) .nil)))) (.cons (.told (.call "left_of" false (.cons (.slot 13) (.cons (.tup (.cons (.lit (.str "zz")) .nil)) (.cons (.lit (.str "zz")) .nil))))) (.cons (.told (.call "left_of" false (.cons (.slot 13) (.cons (.tup .nil) (.cons (.lit (.str "zz")) .nil))))) (.cons (.told (.call "check_break" false (.cons (.slot 13) (.cons (.lit (.str "zz")) .nil)))) (.cons (.told (.call "links_at" false (.cons (.slot 13) (.cons (.lit (.str "z")) .nil)))) .nil))))))))))
def t10 : S := .asg (.nm 10) t10c
def t11c : C := (.cmp .ne (.slot 10) (.bin .add (.bin .mul (.lst (.cons (.tup (.cons (.lit (.str "refused")) .nil)) .nil)) (.lit (.int 6))) (.bin .mul (.lst (.cons (.tup (.cons (.lit (.str "missing")) .nil)) .nil)) (.lit (.int 3)))))
def t11 : S := no t11c
def tB : Ss := (.cons t0 (.cons t1 (.cons t2 (.cons t3 (.cons t4 (.cons t5 (.cons t6 (.cons t7 (.cons t8 (.cons t9 (.cons t10 (.cons t11 .nil))))))))))))
def l0 : S := (.newcell 1 (.cons (.call "_law_stream" false (.cons (.slot 0) .nil)) (.cons (.lit (.int 0)) .nil)))
def l1 : S := .for_ (.nm 2) (.blt .range1 (.cons (.lit (.int 3)) .nil)) tB
def l2c : C := (.lc (.call "_law_one" false (.cons (.slot 1) (.cons (.lst (.cons (.lit (.str "")) (.cons (.lit (.str "a")) (.cons (.lit (.str "abcdefgh")) (.cons (.lit (.str "abcdefghi")) (.cons (.lit (.str "A")) (.cons (.lit (.str "a1")) (.cons (.lit (.str "way")) (.cons (.lit (.str "ways")) (.cons (.lit (.str "wayz")) (.cons (.lit (.str "none")) (.cons (.lit (.str "case")) (.cons (.lit (.str "price")) (.cons (.lit (.str "x")) .nil)))))))))))))) .nil))) (.nm 17) (.blt .range1 (.cons (.lit (.int 6)) .nil)) (.lit (.bool true)))
def l2 : S := .asg (.nm 11) l2c
def l3a : C := (.lc (.call "is_name" false (.cons (.slot 18) .nil)) (.nm 18) (.slot 11) (.lit (.bool true)))
def l3b : C := (.lc (.call "_law_is_name" false (.cons (.slot 18) .nil)) (.nm 18) (.slot 11) (.lit (.bool true)))
def l3c : C := (.notv (.call "_law_spoilt" false (.cons (.slot 1) .nil)))
def l3 : S := no (.or2 (same l3a l3b) l3c)
def l4c : C := (.or2 (.notv (.call "_law_same" false (.cons (.lc (.call "_law_is_name" false (.cons (.slot 18) .nil)) (.nm 18) (.lit (.tuple [(.str "apart"), (.str "barred"), (.str "bound"), (.str "break"), (.str "carry"), (.str "case"), (.str "cut"), (.str "far"), (.str "flow"), (.str "lay"), (.str "limit"), (.str "link"), (.str "links"), (.str "near"), (.str "net"), (.str "none"), (.str "place"), (.str "places"), (.str "price"), (.str "void"), (.str "way"), (.str "ways"), (.str "wish"), (.str "without")])) (.lit (.bool true))) (.cons (.bin .mul (.lst (.cons (.lit (.bool false)) .nil)) (.lit (.int 24))) .nil)))) (.cmp .ne (.lit (.dict [(.none, (.bool true)), ((.str "apart"), (.int 4)), ((.str "carry"), (.int 200)), ((.str "near"), (.int 9)), ((.str "places"), (.int 4))])) (.dct (.cons (.lit (.str "apart")) (.cons (.lit (.str "carry")) (.cons (.lit (.str "near")) (.cons (.lit (.str "places")) .nil)))) (.cons (.lit (.int 4)) (.cons (.lit (.int 200)) (.cons (.lit (.int 9)) (.cons (.lit (.int 4)) .nil)))))))
def l4 : S := no l4c
def l5 : S := (.ret (.cmp .eq (.lst (.cons (.lit (.int 10)) (.cons (.lit (.int 14)) (.cons (.lit (.int 8)) (.cons (.lit (.int 6)) (.cons (.lit (.int 1000)) (.cons (.lit (.int 50)) (.cons (.blt .list (.cons (.lit (.tuple [(.str "apart"), (.str "carry"), (.str "near"), (.str "places")])) .nil)) .nil)))))))) (.lst (.cons (.lit (.int 10)) (.cons (.lit (.int 14)) (.cons (.lit (.int 8)) (.cons (.lit (.int 6)) (.cons (.lit (.int 1000)) (.cons (.lit (.int 50)) (.cons (.lst (.cons (.lit (.str "apart")) (.cons (.lit (.str "carry")) (.cons (.lit (.str "near")) (.cons (.lit (.str "places")) .nil))))) .nil))))))))))
theorem c_law_eq : c_law = .cons l0 (.cons l1 (.cons l2 (.cons l3 (.cons l4 (.cons l5 .nil))))) := rfl
abbrev le (sc : D) (o2 o3 o4 o5 o6 o7 o8 o9 o10 o11 o12 o13 : Option D) : Mini.Env := [some sc, some (cel 0), o2, o3, o4, o5, o6, o7, o8, o9, o10, o11, o12, o13, none, none, none, none, none]
theorem same_of {L n : Nat} {ρ : Mini.Env} {h h1 h2 : Hs} {a b : C} {d : D} (ea : den ⟨callN fns L (n + 1), L⟩ a ρ h = .ok d h1) (eb : den ⟨callN fns L (n + 1), L⟩ b ρ h1 = .ok d h2) (r : okRepr (.list [d]) = true) : den ⟨callN fns L (n + 1), L⟩ (same a b) ρ h = .ok (.bool false) h2 := by
  unfold same
  rw [n_not, call_of (cons_of ea (cons_of eb n_nil)) (law_same_ok r), b_ok]
  rfl
theorem no_of {g : G} {ρ : Mini.Env} {h h' : Hs} {c : C} (e : den g c ρ h = .ok (.bool false) h') : denS g (no c) ρ h = .next ρ h' := by
  unfold no
  rw [ife_f e, q_nil]
section
variable {L n m : Nat} {sc : D} {o2 o3 o4 o5 o6 o7 o8 o9 o10 o11 o12 o13 : Option D} {h : Hs} {t : Tk} {net : List Str}
theorem t2_ok (hl : t.nms.length ≤ 8) (s : St m h) (hm : m + 8 < 2 ^ 60) : ∃ (net : List Str) (h' : Hs), den ⟨callN fns L (n + 1), L⟩ t2c (le sc o2 o3 o4 o5 o6 o7 o8 o9 o10 o11 (some (sL t.nms)) o13) h = .ok (sT net) h' ∧ St (m + 8) h' ∧ net.Sublist t.nms := by
  obtain ⟨ms, h2, e2, s2, sl⟩ := lc_st (g := ⟨callN fns L (n + 1), L⟩) (i := 14) (k := 1) (elt := .slot 14) (cond := .cmp .gt (.call "_law_next" false (.cons (.slot 1) (.cons (.lit (.int 3)) .nil))) (.lit (.int 0))) (ρ := le sc o2 o3 o4 o5 o6 o7 o8 o9 o10 o11 (some (sL t.nms)) o13) t.nms PyData.str PyData.str
    (fun p o => ∀ w, o = some w → w = p) (slot_of (i := 12) rfl) rfl (by unfold bigLine; omega) s (by
      intro p hp m' h' hm' s'
      obtain ⟨v, h3, e3, hv, s3⟩ := next_of (L := L) (n := n) (i := 1) (ρ := (le sc o2 o3 o4 o5 o6 o7 o8 o9 o10 o11 (some (sL t.nms)) o13).set 14 none |>.set 14 (some (.str p))) (many := 3) rfl s' (by omega) (by omega)
      have ec := cmp_of (o := .gt) e3 (n_lit (d := .int 0)) k_gtI
      cases q : decide ((0 : Int) < v) with
      | false => rw [q] at ec; exact ⟨none, h3, turn_no ec, s3, fun w e => by cases e⟩
      | true => rw [q] at ec; exact ⟨some p, h3, turn_yes ec (slot_of rfl), s3, fun w e => by cases e; rfl⟩)
  refine ⟨ms, h2, blt1_of e2 tup_sL, s2.mono (by omega), ?_⟩
  have := sl.sub (f := fun p => p) (k := fun w => w) fun y z hg => hg z rfl
  rwa [List.map_id', List.map_id'] at this
theorem t3_it (g : Good t) : den ⟨callN fns L n, L⟩ t3it (le sc o2 o3 o4 o5 o6 o7 o8 o9 o10 o11 o12 (some t.d)) h = .ok (sL (("" : Str) :: t.bs.map (·.n))) h := by
  have e1 : den ⟨callN fns L n, L⟩ (.lst (.cons (.lit (.str "")) .nil)) (le sc o2 o3 o4 o5 o6 o7 o8 o9 o10 o11 o12 (some t.d)) h = .ok (.list [.str ""]) h := by
    rw [n_lst, cons_of n_lit n_nil, b_ok, if_pos (by show 1 ≤ bigLine; unfold bigLine; omega)]
  have hl := g.bsl
  have e2 := lc_all (g := ⟨callN fns L n, L⟩) (h := h) (ρ := le sc o2 o3 o4 o5 o6 o7 o8 o9 o10 o11 o12 (some t.d)) t.bs Br.d (fun b => .str b.n) (elt := .idx (.slot 15) (.lit (.int 0))) (it := .idx (.slot 13) (.lit (.int 4))) (i := 15) (x := .tuple (t.bs.map Br.d)) (by rw [n_idx, slot_of rfl, b_ok, n_lit, b_ok]; rfl) rfl (by unfold bigLine; omega)
    (fun y hy => by rw [n_idx, slot_of rfl, b_ok, n_lit, b_ok]; rfl)
  refine bin_of e1 e2 ?_
  have e3 : binD .add (.list [.str ""]) (.list (t.bs.map fun b => .str b.n)) = if [PyData.str ""].length + (t.bs.map fun b => PyData.str b.n).length ≤ bigLine then some (.list ([.str ""] ++ t.bs.map fun b => .str b.n)) else none := rfl
  rw [e3, if_pos (by rw [List.length_map]; show 1 + t.bs.length ≤ bigLine; unfold bigLine; omega)]
  unfold sL
  rw [List.map_cons, List.map_map]
  rfl
theorem kps_in {b : Br} (g : Good t) : ∀ x ∈ kps t b, x ∈ Nms := fun x hx => g.psn x (List.mem_filter.mp hx).1
/-- one break: what is left, both ways -/
theorem in_turn {name : Str} {b : Br} (g : Good t) (hl : net.length < 64) (hx : ∀ x ∈ net, x ∈ t.nms) (ha : Asc net) (hb : fbr t name = some b) (hb2 : ((t.bs.find? fun b => b.n == name).getD ⟨"", [], []⟩) = b) :
    ∃ o5' o6', denSs ⟨callN fns L (n + 6), L⟩ inB (le sc o2 (some (sT net)) (some (.str name)) o5 o6 o7 o8 o9 o10 o11 o12 (some t.d)) h = .next (le sc o2 (some (sT net)) (some (.str name)) o5' o6' o7 o8 o9 o10 o11 o12 (some t.d)) h := by
  refine ⟨some (sL (kps t b)), some (.list ((kls t net b).map Lk.d)), ?_⟩
  have l2 := g.lsl
  have l1 := g.psl
  have a0 : denS ⟨callN fns L (n + 6), L⟩ i0 (le sc o2 (some (sT net)) (some (.str name)) o5 o6 o7 o8 o9 o10 o11 o12 (some t.d)) h = .next (le sc o2 (some (sT net)) (some (.str name)) (some (sL (kps t b))) (some (.list ((kls t net b).map Lk.d))) o7 o8 o9 o10 o11 o12 (some t.d)) h :=
    asg_of (call_of (cons_of (slot_of rfl) (cons_of (slot_of rfl) (cons_of (slot_of rfl) n_nil))) (law_left_eq (n := n + 4) g hb2)) rfl
  have ea : den ⟨callN fns L (n + 6), L⟩ i1a (le sc o2 (some (sT net)) (some (.str name)) (some (sL (kps t b))) (some (.list ((kls t net b).map Lk.d))) o7 o8 o9 o10 o11 o12 (some t.d)) h = .ok (.tuple [sT (kps t b), sT ((kls t net b).map (·.n))]) h :=
    call_of (cons_of (slot_of rfl) (cons_of (slot_of rfl) (cons_of (slot_of rfl) n_nil))) (left_of_eq (n := n + 1) g hl hx ha hb)
  have eb : den ⟨callN fns L (n + 6), L⟩ i1b (le sc o2 (some (sT net)) (some (.str name)) (some (sL (kps t b))) (some (.list ((kls t net b).map Lk.d))) o7 o8 o9 o10 o11 o12 (some t.d)) h = .ok (.tuple [sT (kps t b), sT ((kls t net b).map (·.n))]) h := by
    have e2 := lc_all (g := ⟨callN fns L (n + 6), L⟩) (h := h) (ρ := le sc o2 (some (sT net)) (some (.str name)) (some (sL (kps t b))) (some (.list ((kls t net b).map Lk.d))) o7 o8 o9 o10 o11 o12 (some t.d)) (kls t net b) Lk.d (fun l => .str l.n) (elt := .idx (.slot 15) (.lit (.int 0))) (it := .slot 6) (i := 15) (x := .list ((kls t net b).map Lk.d)) (slot_of rfl) rfl (Nat.le_trans (List.length_filter_le ..) (by unfold bigLine; omega))
      (fun y hy => by rw [n_idx, slot_of rfl, b_ok, n_lit, b_ok]; rfl)
    have e3 : (PyData.tuple ((kls t net b).map fun l => .str l.n)) = sT ((kls t net b).map (·.n)) := by unfold sT; rw [List.map_map]; rfl
    unfold i1b
    rw [n_tup, cons_of (blt1_of (slot_of rfl) tup_sL) (cons_of (blt1_of e2 tup_L) n_nil), b_ok, if_pos (by show 2 ≤ bigLine; unfold bigLine; omega), e3]
  have r : okRepr (.list [.tuple [sT (kps t b), sT ((kls t net b).map (·.n))]]) = true := by
    refine RP.okR (RP.tup (k := 1) (n := 2) (B := 14 * 103 + 5) (fun x hx => ?_) (by simp)) (by omega) (by omega)
    simp only [List.mem_cons, List.not_mem_nil, or_false] at hx
    rcases hx with rfl | rfl
    · exact RP.sT (kps_in g) (Nat.le_trans (List.length_filter_le ..) (by omega))
    · refine RP.sT (fun x hx => ?_) (by rw [List.length_map]; exact Nat.le_trans (List.length_filter_le ..) l2)
      obtain ⟨l, hl, rfl⟩ := List.mem_map.mp hx
      exact (g.lok l (List.mem_filter.mp hl).1).1
  exact (q_next (r := .cons _ .nil) a0).trans ((q_next (r := .nil) (no_of (same_of (n := n + 5) ea eb r))).trans q_nil)
theorem in_loop (g : Good t) (hl : net.length < 64) (hx : ∀ x ∈ net, x ∈ t.nms) (ha : Asc net) : ∀ (names : List Str) (o4 o5 o6 : Option D), (∀ name ∈ names, ∃ b, fbr t name = some b ∧ ((t.bs.find? fun b => b.n == name).getD ⟨"", [], []⟩) = b) →
    ∃ o4' o5' o6', loopF (.nm 4) (fun ρ h => denSs ⟨callN fns L (n + 6), L⟩ inB ρ h) (names.map .str) (le sc o2 (some (sT net)) o4 o5 o6 o7 o8 o9 o10 o11 o12 (some t.d)) h = .next (le sc o2 (some (sT net)) o4' o5' o6' o7 o8 o9 o10 o11 o12 (some t.d)) h := by
  intro names
  induction names with
  | nil => exact fun o4 o5 o6 _ => ⟨o4, o5, o6, rfl⟩
  | cons name r ih =>
    intro o4 o5 o6 H
    obtain ⟨b, hb, hb2⟩ := H name (List.mem_cons_self ..)
    obtain ⟨o5', o6', e1⟩ := in_turn (L := L) (n := n) (sc := sc) (o2 := o2) (o5 := o5) (o6 := o6) (o7 := o7) (o8 := o8) (o9 := o9) (o10 := o10) (o11 := o11) (o12 := o12) (h := h) g hl hx ha hb hb2
    obtain ⟨o4'', o5'', o6'', e2⟩ := ih (some (.str name)) o5' o6' fun x hx => H x (List.mem_cons_of_mem _ hx)
    refine ⟨o4'', o5'', o6'', ?_⟩
    rw [List.map_cons, loopF]
    show (match denSs ⟨callN fns L (n + 6), L⟩ inB (le sc o2 (some (sT net)) (some (.str name)) o5 o6 o7 o8 o9 o10 o11 o12 (some t.d)) h with
      | .next ρ h => _
      | .cnt ρ h => _
      | .brk ρ h => _
      | .ret d h => _
      | .err e h => _
      | .bad => _) = _
    rw [e1]
    exact e2
theorem brk_all (d : Drawn t) : ∀ name ∈ (("" : Str) :: t.bs.map (·.n)), ∃ b, fbr t name = some b ∧ ((t.bs.find? fun b => b.n == name).getD ⟨"", [], []⟩) = b := by
  have ne : ∀ b ∈ t.bs, b.n ≠ "" := fun b hb e => by
    have := d.bsl.subset (List.mem_map_of_mem (f := (·.n)) hb)
    rw [e] at this
    exact absurd this (by decide +kernel)
  intro name hn
  by_cases q : name = ""
  · rw [q]
    refine ⟨⟨"", [], []⟩, by unfold fbr; rw [if_pos rfl], ?_⟩
    have : (t.bs.find? fun b => b.n == ("" : Str)) = none := List.find?_eq_none.mpr fun b hb => by simpa using ne b hb
    rw [this]
    rfl
  · rcases List.mem_cons.mp hn with hn | hn
    · exact absurd hn q
    · obtain ⟨b, hb, rfl⟩ := List.mem_map.mp hn
      have : ((t.bs.find? fun c => c.n == b.n)).isSome = true := List.find?_isSome.mpr ⟨b, hb, by simp⟩
      obtain ⟨c, hc⟩ := Option.isSome_iff_exists.mp this
      exact ⟨c, by unfold fbr; rw [if_neg q, hc], by rw [hc]; rfl⟩
end
end K00

set_option Elab.async false
set_option linter.all false
set_option maxRecDepth 100000
set_option maxHeartbeats 4000000
/-! k00, plain law, part 16: one turn of the law. -/
namespace K00
open PySem Mini
section
variable {L n m : Nat} {sc : D} {o2 o3 o4 o5 o6 o7 o8 o9 o10 o11 o12 o13 : Option D} {h : Hs} {t : Tk} {net : List Str}
theorem kat_in (g : Good t) {p : Str} : ∀ x ∈ kat t p, x ∈ Nms := fun x hx => by
  obtain ⟨l, hl, rfl⟩ := List.mem_map.mp hx
  exact (g.lok l (List.mem_filter.mp hl).1).1
theorem kov_in (g : Good t) : ∀ x ∈ kov t net, x ∈ Nms := fun x hx => by
  obtain ⟨l, hl, rfl⟩ := List.mem_map.mp hx
  exact g.psn _ (g.mok l (List.mem_filter.mp hl).1).1
theorem t4_ok (g : Good t) (hl : net.length < 64) (hx : ∀ x ∈ net, x ∈ t.nms) (ha : Asc net) : denS ⟨callN fns L (n + 6), L⟩ t4 (le sc o2 (some (sT net)) o4 o5 o6 o7 o8 o9 o10 o11 o12 (some t.d)) h = .next (le sc o2 (some (sT net)) o4 o5 o6 o7 o8 o9 o10 o11 o12 (some t.d)) h := by
  have two : ∀ {f : Str} {d : D}, callN fns L (n + 6) f [t.d, sT net] h = .ok d h → den ⟨callN fns L (n + 6), L⟩ (.call f false (.cons (.slot 13) (.cons (.slot 3) .nil))) (le sc o2 (some (sT net)) o4 o5 o6 o7 o8 o9 o10 o11 o12 (some t.d)) h = .ok d h :=
    fun e => call_of (cons_of (slot_of rfl) (cons_of (slot_of rfl) n_nil)) e
  have ea : den ⟨callN fns L (n + 6), L⟩ t4a (le sc o2 (some (sT net)) o4 o5 o6 o7 o8 o9 o10 o11 o12 (some t.d)) h = .ok (.list [.int (kcost t net), sT (kov t net), .none, .none]) h := by
    unfold t4a
    rw [n_lst, cons_of (two (cost_of_eq (n := n + 1) g hl hx ha)) (cons_of (two (over_limits_eq (n := n + 1) g hl hx ha)) (cons_of (call_of (cons_of (slot_of rfl) n_nil) (check_task_ok (n := n + 3) g)) (cons_of (two (check_net_ok (n := n + 2) g hl hx ha)) n_nil))), b_ok, if_pos (by show 4 ≤ bigLine; unfold bigLine; omega)]
  have eb : den ⟨callN fns L (n + 6), L⟩ t4b (le sc o2 (some (sT net)) o4 o5 o6 o7 o8 o9 o10 o11 o12 (some t.d)) h = .ok (.list [.int (kcost t net), sT (kov t net), .none, .none]) h := by
    unfold t4b
    rw [n_lst, cons_of (two (law_cost_eq (n := n + 5) g)) (cons_of (blt1_of (two (law_over_eq (n := n + 5) g)) tup_sL) (cons_of n_lit (cons_of n_lit n_nil))), b_ok, if_pos (by show 4 ≤ bigLine; unfold bigLine; omega)]
  refine no_of (same_of (n := n + 5) ea eb (RP.okR (RP.lst (k := 1) (n := 4) (B := 2000) (fun x hx => ?_) (by simp)) (by omega) (by omega)))
  simp only [List.mem_cons, List.not_mem_nil, or_false] at hx
  rcases hx with rfl | rfl | rfl | rfl
  · exact (kcost_rp g).mono (by omega) (by omega)
  · have := g.msl
    refine (RP.sT (n := 10) (kov_in g) ?_).mono (by omega) (by omega)
    unfold kov
    rw [List.length_map]
    exact Nat.le_trans (List.length_filter_le ..) this
  · exact RP.non.mono (by omega) (by omega)
  · exact RP.non.mono (by omega) (by omega)
theorem t5_ok (g : Good t) : denS ⟨callN fns L (n + 6), L⟩ t5 (le sc o2 o3 o4 o5 o6 o7 o8 o9 o10 o11 o12 (some t.d)) h = .next (le sc o2 o3 o4 o5 o6 o7 o8 o9 o10 o11 o12 (some t.d)) h := by
  have l1 := g.psl
  have l2 := g.lsl
  have hit : ∀ {ρ : Mini.Env}, ρ[13]? = some (some t.d) → den ⟨callN fns L (n + 6), L⟩ (.idx (.slot 13) (.lit (.int 0))) ρ h = .ok (sT t.ps) h := fun hr => by
    rw [n_idx, slot_of hr, b_ok, n_lit, b_ok]
    rfl
  have hit1 : ∀ {ρ : Mini.Env}, ρ[13]? = some (some t.d) → den ⟨callN fns L (n + 6), L⟩ (.idx (.slot 13) (.lit (.int 1))) ρ h = .ok (.tuple (t.ls.map Lk.d)) h := fun hr => by
    rw [n_idx, slot_of hr, b_ok, n_lit, b_ok]
    rfl
  have ea : den ⟨callN fns L (n + 6), L⟩ t5a (le sc o2 o3 o4 o5 o6 o7 o8 o9 o10 o11 o12 (some t.d)) h = .ok (.list (t.ps.map fun p => sT (kat t p))) h :=
    lc_all t.ps .str (fun p => sT (kat t p)) (hit rfl) rfl (by unfold bigLine; omega) fun p hp => call_of (cons_of (slot_of rfl) (cons_of (slot_of rfl) n_nil)) ((links_at_eq (n := n + 2) g).trans (if_pos hp))
  have eb : den ⟨callN fns L (n + 6), L⟩ t5b (le sc o2 o3 o4 o5 o6 o7 o8 o9 o10 o11 o12 (some t.d)) h = .ok (.list (t.ps.map fun p => sT (kat t p))) h := by
    refine lc_all t.ps .str (fun p => sT (kat t p)) (hit rfl) rfl (by unfold bigLine; omega) fun p hp => ?_
    have e2 := lc_nm (g := ⟨callN fns L (n + 6), L⟩) (h := h) (ρ := ((le sc o2 o3 o4 o5 o6 o7 o8 o9 o10 o11 o12 (some t.d)).set 16 none).set 16 (some (.str p))) t.ls Lk.d (fun l => decide (p = l.a) || decide (p = l.b)) (fun l => .str l.n)
      (elt := .idx (.slot 15) (.lit (.int 0))) (it := .idx (.slot 13) (.lit (.int 1))) (cond := .cmp .in_ (.slot 16) (.slc (.slot 15) (.lit (.int 1)) (.lit (.int 3)))) (i := 15) (hit1 rfl) rfl (by unfold bigLine; omega)
      (fun y hy => by
        have e : den ⟨callN fns L (n + 6), L⟩ (.slc (.slot 15) (.lit (.int 1)) (.lit (.int 3))) (((((le sc o2 o3 o4 o5 o6 o7 o8 o9 o10 o11 o12 (some t.d)).set 16 none).set 16 (some (.str p))).set 15 none).set 15 (some y.d)) h = .ok (.tuple [.str y.a, .str y.b]) h := by
          rw [n_slc, slot_of rfl, b_ok, n_lit, b_ok, partC_i]
          dsimp only
          rw [n_lit, b_ok, partC_i]
          dsimp only
          rw [lk_d, slc_T, cut13, l_some]
        exact cmp_of (slot_of rfl) e (k_in.trans in2))
      (fun y hy _ => by rw [n_idx, slot_of rfl, b_ok, n_lit, b_ok]; rfl)
    have e3 : (PyData.tuple ((t.ls.filter fun l => decide (p = l.a) || decide (p = l.b)).map fun l => .str l.n)) = sT (kat t p) := by unfold sT kat; rw [List.map_map]; rfl
    rw [← e3]
    exact blt1_of e2 tup_L
  refine no_of (same_of (n := n + 5) ea eb (RP.okR (RP.lst (k := 1) (n := 10) (B := 2000) (fun x hx => ?_) (by rw [List.length_map]; exact l1)) (by omega) (by omega)))
  obtain ⟨p, hp, rfl⟩ := List.mem_map.mp hx
  refine (RP.sT (n := 14) (kat_in g) ?_).mono (by omega) (by omega)
  unfold kat
  rw [List.length_map]
  exact Nat.le_trans (List.length_filter_le ..) l2
theorem t6_ok (hl : net.length ≤ 8) (s : St m h) (hm : m + 8 < 2 ^ 60) : ∃ (cs : List (Str × Int)) (h' : Hs), den ⟨callN fns L (n + 1), L⟩ t6c (le sc o2 (some (sT net)) o4 o5 o6 o7 o8 o9 o10 o11 o12 o13) h = .ok (cD cs) h' ∧ St (m + 8) h' ∧ cNms cs = net ∧ ∀ p ∈ cs, 0 ≤ p.2 ∧ p.2 ≤ 1000 := by
  obtain ⟨ms, h2, e2, s2, sl⟩ := lc_st (g := ⟨callN fns L (n + 1), L⟩) (i := 14) (k := 1) (elt := .tup (.cons (.slot 14) (.cons (.call "_law_next" false (.cons (.slot 1) (.cons (.lit (.int 1001)) .nil))) .nil))) (cond := .lit (.bool true)) (ρ := le sc o2 (some (sT net)) o4 o5 o6 o7 o8 o9 o10 o11 o12 o13) net PyData.str (fun p : Str × Int => .tuple [.str p.1, .int p.2])
    (fun p o => ∃ c, o = some (p, c) ∧ 0 ≤ c ∧ c ≤ 1000) (slot_of (i := 3) rfl) rfl (by unfold bigLine; omega) s (by
      intro p hp m' h' hm' s'
      obtain ⟨v, h3, e3, hv, s3⟩ := next_of (L := L) (n := n) (i := 1) (ρ := (le sc o2 (some (sT net)) o4 o5 o6 o7 o8 o9 o10 o11 o12 o13).set 14 none |>.set 14 (some (.str p))) (many := 1001) rfl s' (by omega) (by omega)
      refine ⟨some (p, v), h3, turn_yes n_lit ?_, s3, v, rfl, by omega, by omega⟩
      rw [n_tup, cons_of (slot_of rfl) (cons_of e3 n_nil), b_ok, if_pos (by show 2 ≤ bigLine; unfold bigLine; omega)])
  refine ⟨ms, h2, blt1_of e2 tup_L, s2.mono (by omega), ?_, fun p hp => ?_⟩
  · have := sl.all (f := fun p => p) (k := fun w => w.1) (fun y z hg => by
      obtain ⟨c, e, _⟩ := hg
      cases e
      rfl) (fun y hg => by
      obtain ⟨c, e, _⟩ := hg
      cases e)
    rwa [List.map_id'] at this
  · obtain ⟨y, _, c, e, hc⟩ := sl.mem p hp
    cases e
    exact hc
theorem t8_ok {cs : List (Str × Int)} {lo hi : Int} (g : Good t) (hk : ∀ p ∈ cs, lo ≤ p.2 ∧ p.2 ≤ hi) : den ⟨callN fns L n, L⟩ t8c (le sc o2 o3 o4 o5 o6 o7 (some (.dict (kv cs))) o9 o10 o11 o12 (some t.d)) h = .ok (newl cs t).d h := by
  have l2 := g.lsl
  have e1 : den ⟨callN fns L n, L⟩ (.idx (.slot 13) (.lit (.int 1))) (le sc o2 o3 o4 o5 o6 o7 (some (.dict (kv cs))) o9 o10 o11 o12 (some t.d)) h = .ok (.tuple (t.ls.map Lk.d)) h := by
    rw [n_idx, slot_of rfl, b_ok, n_lit, b_ok]
    rfl
  have e0 : den ⟨callN fns L n, L⟩ (.idx (.slot 13) (.lit (.int 0))) (le sc o2 o3 o4 o5 o6 o7 (some (.dict (kv cs))) o9 o10 o11 o12 (some t.d)) h = .ok (sT t.ps) h := by
    rw [n_idx, slot_of rfl, b_ok, n_lit, b_ok]
    rfl
  have e2 := lc_all (g := ⟨callN fns L n, L⟩) (h := h) (ρ := le sc o2 o3 o4 o5 o6 o7 (some (.dict (kv cs))) o9 o10 o11 o12 (some t.d)) t.ls Lk.d (fun l => Lk.d { l with c := nc cs l })
    (elt := .bin .add (.slc (.slot 15) (.lit .none) (.lit (.int 3))) (.tup (.cons (.met .get2 (.slot 8) (.cons (.idx (.slot 15) (.lit (.int 0))) (.cons (.idx (.slot 15) (.lit (.int 3))) .nil))) (.cons (.idx (.slot 15) (.lit (.int 4))) .nil)))) (i := 15) e1 rfl (by unfold bigLine; omega) (fun y hy => by
      have mm := met_cD (l := y) hk
      have z1 : den ⟨callN fns L n, L⟩ (.slc (.slot 15) (.lit .none) (.lit (.int 3))) (((le sc o2 o3 o4 o5 o6 o7 (some (.dict (kv cs))) o9 o10 o11 o12 (some t.d)).set 15 none).set 15 (some y.d)) h = .ok (.tuple [.str y.n, .str y.a, .str y.b]) h := by
        rw [n_slc, slot_of rfl, b_ok, n_lit, b_ok, partC_no]
        dsimp only
        rw [n_lit, b_ok, partC_i]
        dsimp only
        rw [lk_d, slc_T, cut03, l_some]
      have zi : ∀ (i : Int) (d : D), atI [PyData.str y.n, .str y.a, .str y.b, .int y.c, .int y.s] i = some d → den ⟨callN fns L n, L⟩ (.idx (.slot 15) (.lit (.int i))) (((le sc o2 o3 o4 o5 o6 o7 (some (.dict (kv cs))) o9 o10 o11 o12 (some t.d)).set 15 none).set 15 (some y.d)) h = .ok d h := fun i d e => by
        rw [n_idx, slot_of rfl, b_ok, n_lit, b_ok, lk_d, i_tup, e, l_some]
      have z2 : den ⟨callN fns L n, L⟩ (.tup (.cons (.met .get2 (.slot 8) (.cons (.idx (.slot 15) (.lit (.int 0))) (.cons (.idx (.slot 15) (.lit (.int 3))) .nil))) (.cons (.idx (.slot 15) (.lit (.int 4))) .nil))) (((le sc o2 o3 o4 o5 o6 o7 (some (.dict (kv cs))) o9 o10 o11 o12 (some t.d)).set 15 none).set 15 (some y.d)) h = .ok (.tuple [.int (nc cs y), .int y.s]) h := by
        have z3 : den ⟨callN fns L n, L⟩ (.met .get2 (.slot 8) (.cons (.idx (.slot 15) (.lit (.int 0))) (.cons (.idx (.slot 15) (.lit (.int 3))) .nil))) (((le sc o2 o3 o4 o5 o6 o7 (some (.dict (kv cs))) o9 o10 o11 o12 (some t.d)).set 15 none).set 15 (some y.d)) h = .ok (.int (nc cs y)) h := by
          rw [n_met, slot_of rfl, b_ok, if_pos mm.1, cons_of (zi 0 _ rfl) (cons_of (zi 3 _ rfl) n_nil), b_ok, mm.2, l_some]
        rw [n_tup, cons_of z3 (cons_of (zi 4 _ rfl) n_nil), b_ok, if_pos (by show 2 ≤ bigLine; unfold bigLine; omega)]
      refine bin_of z1 z2 ?_
      show (if 3 + 2 ≤ bigLine then some (PyData.tuple _) else none) = _
      rw [if_pos (by unfold bigLine; omega)]
      rfl)
  have e3 : den ⟨callN fns L n, L⟩ (.slc (.slot 13) (.lit (.int 2)) (.lit .none)) (le sc o2 o3 o4 o5 o6 o7 (some (.dict (kv cs))) o9 o10 o11 o12 (some t.d)) h = .ok (.tuple [.tuple (t.ws.map Wi.d), .tuple (t.ms.map Li.d), .tuple (t.bs.map Br.d)]) h := by
    rw [n_slc, slot_of rfl, b_ok, n_lit, b_ok, partC_i]
    dsimp only
    rw [n_lit, b_ok, partC_no]
    dsimp only
    rw [tk_d, slc_T, cut2_, l_some]
  unfold t8c
  refine bin_of (x := .tuple [sT t.ps, .tuple (t.ls.map fun l => Lk.d { l with c := nc cs l })]) (by rw [n_tup, cons_of e0 (cons_of (blt1_of e2 tup_L) n_nil), b_ok, if_pos (by show 2 ≤ bigLine; unfold bigLine; omega)]) e3 ?_
  show (if 2 + 3 ≤ bigLine then some (PyData.tuple _) else none) = _
  rw [if_pos (by unfold bigLine; omega)]
  have e4 : (newl cs t).d = .tuple [sT t.ps, .tuple (((newl cs t).ls).map Lk.d), .tuple (t.ws.map Wi.d), .tuple (t.ms.map Li.d), .tuple (t.bs.map Br.d)] := rfl
  rw [e4, show (newl cs t).ls = t.ls.map fun l => { l with c := nc cs l } from rfl, List.map_map]
  rfl
/-! the nine odd calls -/
def rf : D := .tuple [.str "refused"]
def mi : D := .tuple [.str "missing"]
theorem told_rf {g : G} {ρ : Mini.Env} {h h' : Hs} {c : C} (e : den g c ρ h = .err ⟨"NotAllowed", none⟩ h') : den g (.told c) ρ h = .ok rf h' := by
  rw [n_told, e]
  kernel_rfl
theorem told_mi {g : G} {ρ : Mini.Env} {h h' : Hs} {c : C} (e : den g c ρ h = .err ⟨"Missing", none⟩ h') : den g (.told c) ρ h = .ok mi h' := by
  rw [n_told, e]
  kernel_rfl
theorem call_err {g : G} {ρ : Mini.Env} {h h1 h2 : Hs} {f : Str} {es : Cs} {xs : List D} {x : Exc} (e : dens g es ρ h = .ok xs h1) (e2 : g.call f xs h1 = .err x h2) : den g (.call f false es) ρ h = .err x h2 := by
  rw [n_call, e, b_ok, e2]
theorem zz_no (d : Drawn t) : ("zz" : Str) ∉ t.nms := fun h => absurd (d.nml.subset h) (by decide +kernel)
theorem z_no (d : Drawn t) : ("z" : Str) ∉ t.ps := fun h => absurd (d.psl.subset h) (by decide +kernel)
theorem zz_br (d : Drawn t) : fbr t "zz" = none := by
  unfold fbr
  rw [if_neg (by decide +kernel)]
  refine List.find?_eq_none.mpr fun b hb e => ?_
  have e : b.n = "zz" := by simpa using e
  have := d.bsl.subset (List.mem_map_of_mem (f := (·.n)) hb)
  rw [e] at this
  exact absurd this (by decide +kernel)
theorem zz_ok : PyData.strOk "zz" = true := by decide +kernel
theorem two_no (x : Str) : decide ([x, x] = sortS [x, x]) = false := by
  apply decide_eq_false
  intro e
  have : sortS [x, x] = [x] := by simp [sortS, insS]
  rw [this] at e
  cases e
theorem t10_ok (d : Drawn t) : den ⟨callN fns L (n + 6), L⟩ t10c (le sc o2 o3 o4 o5 o6 o7 o8 o9 o10 o11 (some (sL t.nms)) (some t.d)) h = .ok (.list [rf, rf, rf, rf, rf, rf, mi, mi, mi]) h := by
  obtain ⟨x, r, ex⟩ := d.ne
  have g := d.good
  have hx : x ∈ t.nms := by rw [ex]; exact List.mem_cons_self ..
  have ox := Nms_ok _ (g.lnn x hx)
  have n0 : den ⟨callN fns L (n + 6), L⟩ (.idx (.slot 12) (.lit (.int 0))) (le sc o2 o3 o4 o5 o6 o7 o8 o9 o10 o11 (some (sL t.nms)) (some t.d)) h = .ok (.str x) h := by
    rw [n_idx, slot_of rfl, b_ok, n_lit, b_ok, ex]
    have e0 : atI (PyData.str x :: r.map PyData.str) 0 = some (.str x) := by
      unfold atI ixN
      rw [if_pos (by omega), if_pos (by rw [List.length_cons]; omega)]
      rfl
    unfold sL
    rw [List.map_cons, i_lst, e0, l_some]
  have s13 : den ⟨callN fns L (n + 6), L⟩ (.slot 13) (le sc o2 o3 o4 o5 o6 o7 o8 o9 o10 o11 (some (sL t.nms)) (some t.d)) h = .ok t.d h := slot_of rfl
  generalize le sc o2 o3 o4 o5 o6 o7 o8 o9 o10 o11 (some (sL t.nms)) (some t.d) = ρ at *
  have tp : ∀ {es : Cs} {xs : List D}, dens ⟨callN fns L (n + 6), L⟩ es ρ h = .ok xs h → xs.length ≤ 9 → den ⟨callN fns L (n + 6), L⟩ (.tup es) ρ h = .ok (.tuple xs) h := fun e hl => by
    rw [n_tup, e, b_ok, if_pos (by unfold bigLine; omega)]
  have k1 := told_rf (call_err (f := "check_net") (cons_of s13 (cons_of (tp (cons_of n0 (cons_of n0 n_nil)) (by simp)) n_nil)) ((check_net_eq (L := L) (n := n + 2) (h := h) (net := [x, x]) g (by simp) (fun y hy => by
    simp only [List.mem_cons, List.not_mem_nil, or_false, or_self] at hy
    rw [hy]
    exact ox)).trans (if_neg (by unfold netOk; rw [two_no, Bool.and_false]; simp))))
  have k2 := told_rf (call_err (f := "check_net") (cons_of s13 (cons_of (tp (cons_of (n_lit (d := .str "zz")) n_nil) (by simp)) n_nil)) ((check_net_eq (L := L) (n := n + 2) (h := h) (net := ["zz"]) g (by simp) (fun y hy => by
    rw [List.mem_singleton.mp hy]
    exact zz_ok)).trans (if_neg (by unfold netOk; simp [zz_no d]))))
  have k3 := told_rf (call_err (f := "with_costs") (cons_of s13 (cons_of (tp (cons_of (tp (cons_of n0 (cons_of (n_lit (d := .int 1001)) n_nil)) (by simp)) n_nil) (by simp)) n_nil)) (with_costs_big (L := L) (n := n + 2) (h := h) g hx))
  have k4 := told_rf (call_err (f := "with_costs") (cons_of s13 (cons_of (tp (cons_of (tp (cons_of (n_lit (d := .str "zz")) (cons_of (n_lit (d := .int 1)) n_nil)) (by simp)) n_nil) (by simp)) n_nil)) (with_costs_no (L := L) (n := n + 2) (h := h) (cs := [("zz", 1)]) (lo := 1) (hi := 1) g (by simp) (fun y hy => by
    rw [List.mem_singleton.mp hy]
    exact zz_ok) (fun y hy => by
    rw [List.mem_singleton.mp hy]
    omega) (by simp [zz_no d])))
  have k5 := told_rf (call_err (f := "with_costs") (cons_of s13 (cons_of (tp (cons_of (tp (cons_of n0 (cons_of (n_lit (d := .int 1)) n_nil)) (by simp)) (cons_of (tp (cons_of n0 (cons_of (n_lit (d := .int 1)) n_nil)) (by simp)) n_nil)) (by simp)) n_nil)) (with_costs_no (L := L) (n := n + 2) (h := h) (cs := [(x, 1), (x, 1)]) (lo := 1) (hi := 1) g (by simp) (fun y hy => by
    simp only [List.mem_cons, List.not_mem_nil, or_false, or_self] at hy
    rw [hy]
    exact ox) (fun y hy => by
    simp only [List.mem_cons, List.not_mem_nil, or_false, or_self] at hy
    rw [hy]
    omega) (by rw [show cNms [(x, (1 : Int)), (x, 1)] = [x, x] from rfl, two_no, Bool.false_and])))
  have k6 := told_rf (call_err (f := "left_of") (cons_of s13 (cons_of (tp (cons_of (n_lit (d := .str "zz")) n_nil) (by simp)) (cons_of (n_lit (d := .str "zz")) n_nil))) (left_of_net (L := L) (n := n + 1) (h := h) (net := ["zz"]) g (by simp) (fun y hy => by
    rw [List.mem_singleton.mp hy]
    exact zz_ok) (by unfold netOk; simp [zz_no d])))
  have k7 := told_mi (call_err (f := "left_of") (cons_of s13 (cons_of (tp n_nil (by simp)) (cons_of (n_lit (d := .str "zz")) n_nil))) (left_of_miss (L := L) (n := n + 1) (h := h) (net := []) g (by simp) (fun y hy => by cases hy) List.Pairwise.nil (zz_br d)))
  have k8 := told_mi (call_err (f := "check_break") (cons_of s13 (cons_of (n_lit (d := .str "zz")) n_nil)) ((check_break_eq (L := L) (n := n + 2) (h := h) (name := "zz") g).trans (by rw [zz_br d]; rfl)))
  have k9 := told_mi (call_err (f := "links_at") (cons_of s13 (cons_of (n_lit (d := .str "z")) n_nil)) ((links_at_eq (L := L) (n := n + 2) (h := h) (p := "z") g).trans (if_neg (z_no d))))
  unfold t10c
  rw [n_lst, cons_of k1 (cons_of k2 (cons_of k3 (cons_of k4 (cons_of k5 (cons_of k6 (cons_of k7 (cons_of k8 (cons_of k9 n_nil)))))))), b_ok, if_pos (by show 9 ≤ bigLine; unfold bigLine; omega)]
theorem t11_ok : den ⟨callN fns L n, L⟩ t11c (le sc o2 o3 o4 o5 o6 o7 o8 o9 (some (.list [rf, rf, rf, rf, rf, rf, mi, mi, mi])) o11 o12 o13) h = .ok (.bool false) h := by kernel_rfl
end
end K00

set_option Elab.async false
set_option linter.all false
set_option maxRecDepth 100000
set_option maxHeartbeats 4000000
/-! k00, plain law, part 17: the law. -/
namespace K00
open PySem Mini
def W13 : List Str := ["", "a", "abcdefgh", "abcdefghi", "A", "a1", "way", "ways", "wayz", "none", "case", "price", "x"]
def nmb (w : Str) : Bool := (["a", "abcdefgh", "wayz", "x"] : List Str).contains w
theorem w_is {L n : Nat} {h : Hs} {w : Str} (hw : w ∈ W13) : callN fns L (n + 1) "is_name" [.str w] h = .ok (.bool (nmb w)) h ∧ callN fns L (n + 1) "_law_is_name" [.str w] h = .ok (.bool (nmb w)) h := by
  simp only [W13, List.mem_cons, List.not_mem_nil, or_false] at hw
  rcases hw with rfl | rfl | rfl | rfl | rfl | rfl | rfl | rfl | rfl | rfl | rfl | rfl | rfl <;> exact ⟨by kernel_rfl, by kernel_rfl⟩
section
variable {L n m : Nat} {sc : D} {h : Hs}
/-- some state of the law's names -/
def IsE (sc : D) (ρ : Mini.Env) : Prop := ∃ o2 o3 o4 o5 o6 o7 o8 o9 o10 o11 o12 o13, ρ = le sc o2 o3 o4 o5 o6 o7 o8 o9 o10 o11 o12 o13
theorem turn_ok {ρ : Mini.Env} (i : IsE sc ρ) (s : St m h) (hm : m + 1000 < 2 ^ 60) : ∃ ρ' h', denSs ⟨callN fns L (n + 6), L⟩ tB ρ h = .next ρ' h' ∧ IsE sc ρ' ∧ St (m + 116) h' := by
  obtain ⟨o2, o3, o4, o5, o6, o7, o8, o9, o10, o11, o12, o13, rfl⟩ := i
  obtain ⟨t, h1, e1, s1, d⟩ := law_task_ok (L := L) (n := n + 2) s (by omega)
  have g := d.good
  have nl : t.nms.length ≤ 8 := d.nml.length_le
  have a0 : denS ⟨callN fns L (n + 6), L⟩ t0 (le sc o2 o3 o4 o5 o6 o7 o8 o9 o10 o11 o12 o13) h = .next (le sc o2 o3 o4 o5 o6 o7 o8 o9 o10 o11 o12 (some t.d)) h1 := asg_of (call_of (cons_of (slot_of rfl) n_nil) e1) rfl
  have a1 : denS ⟨callN fns L (n + 6), L⟩ t1 (le sc o2 o3 o4 o5 o6 o7 o8 o9 o10 o11 o12 (some t.d)) h1 = .next (le sc o2 o3 o4 o5 o6 o7 o8 o9 o10 o11 (some (sL t.nms)) (some t.d)) h1 := asg_of (call_of (cons_of (slot_of rfl) n_nil) (law_names_eq (n := n + 5) g.lsl)) rfl
  obtain ⟨net, h2, e2, s2, sub⟩ := t2_ok (L := L) (n := n + 5) (sc := sc) (o2 := o2) (o3 := o3) (o4 := o4) (o5 := o5) (o6 := o6) (o7 := o7) (o8 := o8) (o9 := o9) (o10 := o10) (o11 := o11) (o13 := some t.d) nl s1 (by omega)
  have a2 : denS ⟨callN fns L (n + 6), L⟩ t2 (le sc o2 o3 o4 o5 o6 o7 o8 o9 o10 o11 (some (sL t.nms)) (some t.d)) h1 = .next (le sc o2 (some (sT net)) o4 o5 o6 o7 o8 o9 o10 o11 (some (sL t.nms)) (some t.d)) h2 := asg_of e2 rfl
  have hl8 : net.length ≤ 8 := Nat.le_trans sub.length_le nl
  have hl : net.length < 64 := by omega
  have hx : ∀ x ∈ net, x ∈ t.nms := fun x hx => sub.subset hx
  have ha : Asc net := Asc.sub g.lsa sub
  obtain ⟨p4, p5, p6, e3⟩ := in_loop (L := L) (n := n) (sc := sc) (o2 := o2) (o7 := o7) (o8 := o8) (o9 := o9) (o10 := o10) (o11 := o11) (o12 := some (sL t.nms)) (h := h2) g hl hx ha _ o4 o5 o6 (brk_all d)
  have a3 : denS ⟨callN fns L (n + 6), L⟩ t3 (le sc o2 (some (sT net)) o4 o5 o6 o7 o8 o9 o10 o11 (some (sL t.nms)) (some t.d)) h2 = .next (le sc o2 (some (sT net)) p4 p5 p6 o7 o8 o9 o10 o11 (some (sL t.nms)) (some t.d)) h2 := (for_of (t3_it g) rfl).trans e3
  have a4 := t4_ok (L := L) (n := n) (sc := sc) (o2 := o2) (o4 := p4) (o5 := p5) (o6 := p6) (o7 := o7) (o8 := o8) (o9 := o9) (o10 := o10) (o11 := o11) (o12 := some (sL t.nms)) (h := h2) g hl hx ha
  have a5 := t5_ok (L := L) (n := n) (sc := sc) (o2 := o2) (o3 := some (sT net)) (o4 := p4) (o5 := p5) (o6 := p6) (o7 := o7) (o8 := o8) (o9 := o9) (o10 := o10) (o11 := o11) (o12 := some (sL t.nms)) (h := h2) g
  obtain ⟨cs, h3, e6, s3, ecs, hk⟩ := t6_ok (L := L) (n := n + 5) (sc := sc) (o2 := o2) (o4 := p4) (o5 := p5) (o6 := p6) (o7 := o7) (o8 := o8) (o9 := o9) (o10 := o10) (o11 := o11) (o12 := some (sL t.nms)) (o13 := some t.d) hl8 s2 (by omega)
  have a6 : denS ⟨callN fns L (n + 6), L⟩ t6 (le sc o2 (some (sT net)) p4 p5 p6 o7 o8 o9 o10 o11 (some (sL t.nms)) (some t.d)) h2 = .next (le sc o2 (some (sT net)) p4 p5 p6 (some (cD cs)) o8 o9 o10 o11 (some (sL t.nms)) (some t.d)) h3 := asg_of e6 rfl
  have a7 : denS ⟨callN fns L (n + 6), L⟩ t7 (le sc o2 (some (sT net)) p4 p5 p6 (some (cD cs)) o8 o9 o10 o11 (some (sL t.nms)) (some t.d)) h3 = .next (le sc o2 (some (sT net)) p4 p5 p6 (some (cD cs)) (some (.dict (kv cs))) o9 o10 o11 (some (sL t.nms)) (some t.d)) h3 := asg_of (blt1_of (slot_of rfl) dict_cD) rfl
  have a8 : denS ⟨callN fns L (n + 6), L⟩ t8 (le sc o2 (some (sT net)) p4 p5 p6 (some (cD cs)) (some (.dict (kv cs))) o9 o10 o11 (some (sL t.nms)) (some t.d)) h3 = .next (le sc o2 (some (sT net)) p4 p5 p6 (some (cD cs)) (some (.dict (kv cs))) (some (newl cs t).d) o10 o11 (some (sL t.nms)) (some t.d)) h3 := asg_of (t8_ok g hk) rfl
  have csl : cs.length = net.length := by rw [← ecs]; exact (List.length_map ..).symm
  have hcs : ∀ p ∈ cs, p.1 ∈ t.nms := fun p hp => hx _ (by rw [← ecs]; exact List.mem_map_of_mem (f := (·.1)) hp)
  have a9 : denS ⟨callN fns L (n + 6), L⟩ t9 (le sc o2 (some (sT net)) p4 p5 p6 (some (cD cs)) (some (.dict (kv cs))) (some (newl cs t).d) o10 o11 (some (sL t.nms)) (some t.d)) h3 = .next (le sc o2 (some (sT net)) p4 p5 p6 (some (cD cs)) (some (.dict (kv cs))) (some (newl cs t).d) o10 o11 (some (sL t.nms)) (some t.d)) h3 :=
    no_of (same_of (n := n + 5) (call_of (cons_of (slot_of rfl) (cons_of (slot_of rfl) n_nil)) (with_costs_ok (n := n + 2) g (by omega) hcs (by rw [ecs]; exact ha) hk)) (slot_of rfl) (RP.okR (good_rp (good_newl g hk)) (by omega) (by omega)))
  have a10 : denS ⟨callN fns L (n + 6), L⟩ t10 (le sc o2 (some (sT net)) p4 p5 p6 (some (cD cs)) (some (.dict (kv cs))) (some (newl cs t).d) o10 o11 (some (sL t.nms)) (some t.d)) h3 = .next (le sc o2 (some (sT net)) p4 p5 p6 (some (cD cs)) (some (.dict (kv cs))) (some (newl cs t).d) (some (.list [rf, rf, rf, rf, rf, rf, mi, mi, mi])) o11 (some (sL t.nms)) (some t.d)) h3 := asg_of (t10_ok d) rfl
  have a11 : denS ⟨callN fns L (n + 6), L⟩ t11 (le sc o2 (some (sT net)) p4 p5 p6 (some (cD cs)) (some (.dict (kv cs))) (some (newl cs t).d) (some (.list [rf, rf, rf, rf, rf, rf, mi, mi, mi])) o11 (some (sL t.nms)) (some t.d)) h3 = .next (le sc o2 (some (sT net)) p4 p5 p6 (some (cD cs)) (some (.dict (kv cs))) (some (newl cs t).d) (some (.list [rf, rf, rf, rf, rf, rf, mi, mi, mi])) o11 (some (sL t.nms)) (some t.d)) h3 := no_of t11_ok
  refine ⟨le sc o2 (some (sT net)) p4 p5 p6 (some (cD cs)) (some (.dict (kv cs))) (some (newl cs t).d) (some (.list [rf, rf, rf, rf, rf, rf, mi, mi, mi])) o11 (some (sL t.nms)) (some t.d), h3, ?_, ⟨_, _, _, _, _, _, _, _, _, _, _, _, rfl⟩, s3.mono (by omega)⟩
  unfold tB
  rw [q_next a0, q_next a1, q_next a2, q_next a3, q_next a4, q_next a5, q_next a6, q_next a7, q_next a8, q_next a9, q_next a10, q_next a11, q_nil]
theorem turns_ok : ∀ (ks : List Nat) (m : Nat) (h : Hs) (ρ : Mini.Env), IsE sc ρ → St m h → m + 116 * ks.length + 1000 < 2 ^ 60 → ∃ ρ' h', loopF (.nm 2) (fun ρ h => denSs ⟨callN fns L (n + 6), L⟩ tB ρ h) (ks.map fun k => .int (k : Nat)) ρ h = .next ρ' h' ∧ IsE sc ρ' ∧ St (m + 116 * ks.length) h' := by
  intro ks
  induction ks with
  | nil => exact fun m h ρ i s _ => ⟨ρ, h, rfl, i, s⟩
  | cons k r ih =>
    intro m h ρ i s hm
    rw [List.length_cons] at hm
    have i2 : IsE sc (ρ.set 2 (some (.int (k : Nat)))) := by
      obtain ⟨o2, o3, o4, o5, o6, o7, o8, o9, o10, o11, o12, o13, rfl⟩ := i
      exact ⟨_, _, _, _, _, _, _, _, _, _, _, _, rfl⟩
    obtain ⟨ρ1, h1, e1, i1, s1⟩ := turn_ok (L := L) (n := n) i2 s (by omega)
    obtain ⟨ρ2, h2, e2, i3, s2⟩ := ih (m + 116) h1 ρ1 i1 s1 (by omega)
    refine ⟨ρ2, h2, ?_, i3, s2.mono (by rw [List.length_cons]; omega)⟩
    rw [List.map_cons, loopF]
    show (match denSs ⟨callN fns L (n + 6), L⟩ tB (ρ.set 2 (some (.int (k : Nat)))) h with
      | .next ρ h => _
      | .cnt ρ h => _
      | .brk ρ h => _
      | .ret d h => _
      | .err e h => _
      | .bad => _) = _
    rw [e1]
    exact e2
theorem words_ok {o2 o3 o4 o5 o6 o7 o8 o9 o10 o11 o12 o13 : Option D} (s : St m h) (hm : m + 8 < 2 ^ 60) : ∃ (ws : List Str) (h' : Hs), den ⟨callN fns L (n + 2), L⟩ l2c (le sc o2 o3 o4 o5 o6 o7 o8 o9 o10 o11 o12 o13) h = .ok (sL ws) h' ∧ (∀ w ∈ ws, w ∈ W13) ∧ ws.length ≤ 6 := by
  have hit : den ⟨callN fns L (n + 2), L⟩ (.blt .range1 (.cons (.lit (.int 6)) .nil)) (le sc o2 o3 o4 o5 o6 o7 o8 o9 o10 o11 o12 o13) h = .ok (.list ((List.range' 0 6).map fun k => .int (k : Nat))) h := blt1_of n_lit (range1_I (n := 6) (by omega))
  obtain ⟨ms, h2, e2, s2, sl⟩ := lc_st (g := ⟨callN fns L (n + 2), L⟩) (i := 17) (k := 1) (elt := .call "_law_one" false (.cons (.slot 1) (.cons (.lst (.cons (.lit (.str "")) (.cons (.lit (.str "a")) (.cons (.lit (.str "abcdefgh")) (.cons (.lit (.str "abcdefghi")) (.cons (.lit (.str "A")) (.cons (.lit (.str "a1")) (.cons (.lit (.str "way")) (.cons (.lit (.str "ways")) (.cons (.lit (.str "wayz")) (.cons (.lit (.str "none")) (.cons (.lit (.str "case")) (.cons (.lit (.str "price")) (.cons (.lit (.str "x")) .nil)))))))))))))) .nil))) (cond := .lit (.bool true)) (List.range' 0 6) (fun k => .int (k : Nat)) PyData.str
    (fun p o => ∃ w, o = some w ∧ w ∈ W13) hit rfl (by rw [List.length_range']; unfold bigLine; omega) s (by
      intro p hp m' h' hm' s'
      rw [List.length_range'] at hm'
      obtain ⟨d, h3, e3, hd, s3⟩ := law_one_ok (L := L) (n := n) (xs := W13.map .str) s' (by omega) (by unfold W13; simp)
      obtain ⟨w, hw, rfl⟩ := List.mem_map.mp hd
      refine ⟨some w, h3, turn_yes n_lit (call_of (cons_of (slot_of rfl) (cons_of ?_ n_nil)) e3), s3, w, rfl, hw⟩
      rw [n_lst]
      simp only [n_cons, n_lit, n_nil, b_ok]
      rw [if_pos (by show 13 ≤ bigLine; unfold bigLine; omega)]
      rfl)
  refine ⟨ms, h2, e2, fun w hw => ?_, by have := sl.len; rw [List.length_range'] at this; exact this⟩
  obtain ⟨y, _, w', e, h⟩ := sl.mem w hw
  cases e
  exact h
theorem spoilt_den {f : Str → List D → Hs → R D} {ρ : Mini.Env} (hr : ρ[1]? = some (some (cel 0))) (e : f "_law_spoilt" [cel 0] h = .ok (.bool true) h) : den ⟨f, L⟩ l3c ρ h = .ok (.bool false) h := by
  unfold l3c
  rw [n_not, call_of (g := ⟨f, L⟩) (cons_of (slot_of hr) n_nil) e, b_ok]
  rfl
theorem spoilt_ok : callN fns L (n + 7) "_law_spoilt" [cel 0] h = .ok (.bool true) h := by kernel_rfl
theorem l3_ok {o2 o3 o4 o5 o6 o7 o8 o9 o10 o12 o13 : Option D} {ws : List Str} (hw : ∀ w ∈ ws, w ∈ W13) (hl : ws.length ≤ 6) : denS ⟨callN fns L (n + 7), L⟩ l3 (le sc o2 o3 o4 o5 o6 o7 o8 o9 o10 (some (sL ws)) o12 o13) h = .next (le sc o2 o3 o4 o5 o6 o7 o8 o9 o10 (some (sL ws)) o12 o13) h := by
  have ea : den ⟨callN fns L (n + 7), L⟩ l3a (le sc o2 o3 o4 o5 o6 o7 o8 o9 o10 (some (sL ws)) o12 o13) h = .ok (.list (ws.map fun w => .bool (nmb w))) h :=
    lc_all ws .str (fun w => .bool (nmb w)) (slot_of rfl) rfl (by unfold bigLine; omega) fun w h => call_of (cons_of (slot_of rfl) n_nil) (w_is (n := n + 6) (hw w h)).1
  have eb : den ⟨callN fns L (n + 7), L⟩ l3b (le sc o2 o3 o4 o5 o6 o7 o8 o9 o10 (some (sL ws)) o12 o13) h = .ok (.list (ws.map fun w => .bool (nmb w))) h :=
    lc_all ws .str (fun w => .bool (nmb w)) (slot_of rfl) rfl (by unfold bigLine; omega) fun w h => call_of (cons_of (slot_of rfl) n_nil) (w_is (n := n + 6) (hw w h)).2
  have es := same_of (n := n + 6) ea eb (RP.okR (RP.lst (k := 0) (n := 6) (B := 100) (fun x hx => by
    obtain ⟨w, _, rfl⟩ := List.mem_map.mp hx
    exact RP.bl) (by rw [List.length_map]; exact hl)) (by omega) (by omega))
  refine no_of ?_
  rw [n_or, es, b_ok, tv_bool]
  dsimp only
  exact spoilt_den (f := callN fns L (n + 7)) rfl spoilt_ok
theorem l4_ok {o2 o3 o4 o5 o6 o7 o8 o9 o10 o11 o12 o13 : Option D} : den ⟨callN fns L (n + 7), L⟩ l4c (le sc o2 o3 o4 o5 o6 o7 o8 o9 o10 o11 o12 o13) h = .ok (.bool false) h := by kernel_rfl
theorem l5_ok {o2 o3 o4 o5 o6 o7 o8 o9 o10 o11 o12 o13 : Option D} : denS ⟨callN fns L (n + 7), L⟩ l5 (le sc o2 o3 o4 o5 o6 o7 o8 o9 o10 o11 o12 o13) h = .ret (.bool true) h := by kernel_rfl
end
/-- the law behind its first statement: the new cell holds xs and a count -/
theorem law_true (L n : Nat) (ns : List Int) : ∃ xs : List Int, callN fns L (n + 7) "_law_stream" [scr ns] [] = .ok (.list (xs.map .int)) [] ∧
    ∃ h, denSs ⟨callN fns L (n + 7), L⟩ (.cons l1 (.cons l2 (.cons l3 (.cons l4 (.cons l5 .nil))))) [some (scr ns), some (cel 0), none, none, none, none, none, none, none, none, none, none, none, none, none, none, none, none, none] [[.list (xs.map .int), .int 0]] = .ret (.bool true) h := by
  obtain ⟨xs, e0, hne, hlen⟩ := law_stream_ok (L := L) (n := n + 6) (h := []) (ns := ns)
  have s0 : St 0 [[.list (xs.map .int), .int 0]] := ⟨xs, 0, rfl, hne, hlen, by omega, by omega⟩
  refine ⟨xs, e0, ?_⟩
  obtain ⟨ρ1, h1, e1, i1, s1⟩ := turns_ok (L := L) (n := n + 1) (sc := scr ns) (List.range' 0 3) 0 _ _ ⟨none, none, none, none, none, none, none, none, none, none, none, none, rfl⟩ s0 (by rw [List.length_range']; omega)
  rw [List.length_range'] at s1
  have a1 : denS ⟨callN fns L (n + 7), L⟩ l1 (le (scr ns) none none none none none none none none none none none none) [[.list (xs.map .int), .int 0]] = .next ρ1 h1 := (for_of (blt1_of n_lit (range1_I (n := 3) (by omega))) rfl).trans e1
  obtain ⟨o2, o3, o4, o5, o6, o7, o8, o9, o10, o11, o12, o13, rfl⟩ := i1
  obtain ⟨ws, h2, e2, hw, hl⟩ := words_ok (L := L) (n := n + 5) (sc := scr ns) (o2 := o2) (o3 := o3) (o4 := o4) (o5 := o5) (o6 := o6) (o7 := o7) (o8 := o8) (o9 := o9) (o10 := o10) (o11 := o11) (o12 := o12) (o13 := o13) s1 (by omega)
  have a2 : denS ⟨callN fns L (n + 7), L⟩ l2 (le (scr ns) o2 o3 o4 o5 o6 o7 o8 o9 o10 o11 o12 o13) h1 = .next (le (scr ns) o2 o3 o4 o5 o6 o7 o8 o9 o10 (some (sL ws)) o12 o13) h2 := asg_of e2 rfl
  have a4 : denS ⟨callN fns L (n + 7), L⟩ l4 (le (scr ns) o2 o3 o4 o5 o6 o7 o8 o9 o10 (some (sL ws)) o12 o13) h2 = .next (le (scr ns) o2 o3 o4 o5 o6 o7 o8 o9 o10 (some (sL ws)) o12 o13) h2 := no_of l4_ok
  refine ⟨h2, ?_⟩
  exact (q_next (r := .cons l2 (.cons l3 (.cons l4 (.cons l5 .nil)))) a1).trans ((q_next (r := .cons l3 (.cons l4 (.cons l5 .nil))) a2).trans ((q_next (r := .cons l4 (.cons l5 .nil)) (l3_ok hw hl)).trans ((q_next (r := .cons l5 .nil) a4).trans (q_ret (r := .nil) l5_ok))))
end K00

set_option Elab.async false
set_option linter.all false
set_option maxRecDepth 100000
set_option maxHeartbeats 4000000
/-! k00: the world of its defs. -/
namespace K00
open PySem PySem.Spec PyProof.Rows L2 Mini HeadK
def d_is_name : Df := ⟨"is_name", top 19, ["text"], ["text", "letter"], [], c_is_name, false, false⟩
def d_is_whole : Df := ⟨"is_whole", top 20, ["value", "low", "high"], ["value", "low", "high"], [], c_is_whole, false, false⟩
def d_ascends : Df := ⟨"ascends", top 21, ["names"], ["names"], [], c_ascends, false, false⟩
def d_are_places : Df := ⟨"are_places", top 22, ["places"], ["places", "place"], [], c_are_places, false, false⟩
def d_is_link : Df := ⟨"is_link", top 23, ["places", "row"], ["places", "row"], [], c_is_link, false, false⟩
def d_is_wish : Df := ⟨"is_wish", top 24, ["places", "row"], ["places", "row"], [], c_is_wish, false, false⟩
def d_is_limit : Df := ⟨"is_limit", top 25, ["places", "row"], ["places", "row"], [], c_is_limit, false, false⟩
def d_is_break : Df := ⟨"is_break", top 26, ["places", "links", "row"], ["places", "links", "row", "link", "place"], [], c_is_break, false, false⟩
def d_are_rows : Df := ⟨"are_rows", top 27, ["rows", "most", "good"], ["rows", "most", "good", "row"], [], c_are_rows, false, false⟩
def d_check_task : Df := ⟨"check_task", top 28, ["task"], ["task", "places", "links", "wishes", "limits", "breaks", "names", "row"], [], c_check_task, false, false⟩
def d_link_names : Df := ⟨"link_names", top 29, ["task"], ["task", "row"], [], c_link_names, false, false⟩
def d_check_net : Df := ⟨"check_net", top 30, ["task", "net"], ["task", "net", "link"], [], c_check_net, false, false⟩
def d_known_break : Df := ⟨"known_break", top 31, ["task", "name"], ["task", "name", "row"], [], c_known_break, false, false⟩
def d_check_break : Df := ⟨"check_break", top 32, ["task", "name"], ["task", "name"], [], c_check_break, false, false⟩
def d_known_left : Df := ⟨"known_left", top 33, ["task", "net", "name"], ["task", "net", "name", "broken", "places", "rows", "place", "row"], [], c_known_left, false, false⟩
def d_left_of : Df := ⟨"left_of", top 34, ["task", "net", "name"], ["task", "net", "name", "places", "rows", "row"], [], c_left_of, false, false⟩
def d_known_cost : Df := ⟨"known_cost", top 35, ["task", "net"], ["task", "net", "row"], [], c_known_cost, false, false⟩
def d_cost_of : Df := ⟨"cost_of", top 36, ["task", "net"], ["task", "net"], [], c_cost_of, false, false⟩
def d_links_at : Df := ⟨"links_at", top 37, ["task", "place"], ["task", "place"], [], c_links_at, false, false⟩
def d_known_at : Df := ⟨"known_at", top 38, ["task", "place"], ["task", "place", "row"], [], c_known_at, false, false⟩
def d_known_over : Df := ⟨"known_over", top 39, ["task", "net"], ["task", "net", "place", "most", "link"], [], c_known_over, false, false⟩
def d_over_limits : Df := ⟨"over_limits", top 40, ["task", "net"], ["task", "net"], [], c_over_limits, false, false⟩
def d_with_costs : Df := ⟨"with_costs", top 41, ["task", "costs"], ["task", "costs", "told", "links", "found", "link", "_", "row"], [], c_with_costs, false, false⟩
def d__law_same : Df := ⟨"_law_same", top 43, ["told", "due"], ["told", "due"], [], c__law_same, true, false⟩
def d__law_stream : Df := ⟨"_law_stream", top 44, ["script"], ["script", "numbers", "cell", "rest", "k", "stirred"], [1], c__law_stream, false, false⟩
def d__law_next : Df := ⟨"_law_next", top 45, ["state", "many"], ["state", "many", "turn"], [], c__law_next, false, false⟩
def d__law_one : Df := ⟨"_law_one", top 47, ["state", "rows"], ["state", "rows"], [], c__law_one, false, false⟩
def d__law_links : Df := ⟨"_law_links", top 48, ["state", "places", "many"], ["state", "places", "many", "found", "k", "one", "two"], [3], c__law_links, false, false⟩
def d__law_wish : Df := ⟨"_law_wish", top 49, ["state", "places", "name"], ["state", "places", "name", "one", "two", "kind"], [], c__law_wish, false, false⟩
def d__law_task : Df := ⟨"_law_task", top 50, ["state"], ["state", "places", "links", "wishes", "limits", "breaks", "name", "own", "k", "place", "row"], [5], c__law_task, false, false⟩
def d__law_names : Df := ⟨"_law_names", top 51, ["task"], ["task", "row"], [], c__law_names, false, false⟩
def d__law_break : Df := ⟨"_law_break", top 52, ["task", "name"], ["task", "name", "row"], [], c__law_break, false, false⟩
def d__law_left : Df := ⟨"_law_left", top 53, ["task", "net", "name"], ["task", "net", "name", "broken", "places", "rows", "place", "row"], [], c__law_left, false, false⟩
def d__law_over : Df := ⟨"_law_over", top 54, ["task", "net"], ["task", "net", "place", "most", "row"], [], c__law_over, false, false⟩
def d__law_cost : Df := ⟨"_law_cost", top 55, ["task", "net"], ["task", "net", "row"], [], c__law_cost, false, false⟩
def d__law_is_name : Df := ⟨"_law_is_name", top 56, ["text"], ["text", "words", "sign"], [], c__law_is_name, false, false⟩
def d__law_spoilt : Df := ⟨"_law_spoilt", top 57, ["state"], ["state", "places", "link", "wish", "wrong", "rows", "part", "place", "good", "task", "one", "row"], [], c__law_spoilt, false, true⟩
def d_law : Df := ⟨"law", top 58, ["script"], ["script", "state", "turn", "net", "name", "places", "rows", "costs", "told", "due", "odd", "words", "names", "task", "link", "row", "place", "k", "word"], [], .nil, true, true⟩
def ds : List Df := [d_is_name, d_is_whole, d_ascends, d_are_places, d_is_link, d_is_wish, d_is_limit, d_is_break, d_are_rows, d_check_task, d_link_names, d_check_net, d_known_break, d_check_break, d_known_left, d_left_of, d_known_cost, d_cost_of, d_links_at, d_known_at, d_known_over, d_over_limits, d_with_costs, d__law_same, d__law_stream, d__law_next, d__law_one, d__law_links, d__law_wish, d__law_task, d__law_names, d__law_break, d__law_left, d__law_over, d__law_cost, d__law_is_name, d__law_spoilt]
def consts : List (Str × D) := [("MAX_PLACES", .int 10), ("MAX_LINKS", .int 14), ("MAX_WISHES", .int 8), ("MAX_BREAKS", .int 6), ("MAX_COST", .int 1000), ("MAX_SIZE", .int 50), ("KINDS", .tuple ([("apart" : Str), ("carry" : Str), ("near" : Str), ("places" : Str)].map PyData.str)), ("MOST", tbl ([(("apart" : Str), (4 : Int)), (("carry" : Str), (200 : Int)), (("near" : Str), (9 : Int)), (("places" : Str), (4 : Int))].map fun p => (.str p.1, .int p.2))), ("SMALL", .str "abcdefghijklmnopqrstuvwxyz"), ("WORDS", .tuple ([("apart" : Str), ("barred" : Str), ("bound" : Str), ("break" : Str), ("carry" : Str), ("case" : Str), ("cut" : Str), ("far" : Str), ("flow" : Str), ("lay" : Str), ("limit" : Str), ("link" : Str), ("links" : Str), ("near" : Str), ("net" : Str), ("none" : Str), ("place" : Str), ("places" : Str), ("price" : Str), ("void" : Str), ("way" : Str), ("ways" : Str), ("wish" : Str), ("without" : Str)].map PyData.str))]
def sig : Sig := ⟨ds.map fun d => (d.name, d.ps.length), consts, "_law_told", "state", ["NetError", "NotAllowed", "TooLarge", "Missing", "BadPaper"], false, ["_law_same", "law"]⟩
theorem fc {α : Type} {P : α → Prop} {a : α} {l : List α} (h : P a) (r : ∀ d ∈ l, P d) : ∀ d ∈ a :: l, P d := fun d hd => (List.mem_cons.mp hd).elim (fun e => by rw [e]; exact h) (r d)
theorem fn0 {α : Type} {P : α → Prop} : ∀ d ∈ ([] : List α), P d := fun _ h => by cases h
def scB (N ps : List Str) (sc : Scope) : Bool := decide (sc.kind = .function) && (!sc.isCoroutine && (!sc.isGenerator && (decide N.Nodup && (decide (N.take ps.length = ps) && ((ps.all fun x => decide (sc.names.lookup x = some .local) || decide (sc.names.lookup x = some .cell)) && sc.names.all fun y => !decide (y.2 = .free))))))
theorem sc_by {N ps : List Str} {sc : Scope} (h : scB N ps sc = true) : FnScope N ps sc := by
  unfold scB at h
  simp only [Bool.and_eq_true, decide_eq_true_eq, Bool.not_eq_true', List.all_eq_true, Bool.or_eq_true, decide_eq_false_iff_not] at h
  obtain ⟨h1, h2, h3, h4, h5, h6, h7⟩ := h
  exact ⟨h1, h2, h3, h4, h5, h6, h7⟩
theorem ok_is_name : DfOk sig d_is_name := ⟨sc_by (by decide +kernel), ⟨100, by kernel_rfl⟩, by kernel_rfl, by decide, fun kV doc pm an cdv ct us h => match us, h with | [a0], _ => by kernel_rfl⟩
theorem ok_is_whole : DfOk sig d_is_whole := ⟨sc_by (by decide +kernel), ⟨100, by kernel_rfl⟩, by kernel_rfl, by decide, fun kV doc pm an cdv ct us h => match us, h with | [a0, a1, a2], _ => by kernel_rfl⟩
theorem ok_ascends : DfOk sig d_ascends := ⟨sc_by (by decide +kernel), ⟨100, by kernel_rfl⟩, by kernel_rfl, by decide, fun kV doc pm an cdv ct us h => match us, h with | [a0], _ => by kernel_rfl⟩
theorem ok_are_places : DfOk sig d_are_places := ⟨sc_by (by decide +kernel), ⟨100, by kernel_rfl⟩, by kernel_rfl, by decide, fun kV doc pm an cdv ct us h => match us, h with | [a0], _ => by kernel_rfl⟩
theorem ok_is_link : DfOk sig d_is_link := ⟨sc_by (by decide +kernel), ⟨100, by kernel_rfl⟩, by kernel_rfl, by decide, fun kV doc pm an cdv ct us h => match us, h with | [a0, a1], _ => by kernel_rfl⟩
theorem ok_is_wish : DfOk sig d_is_wish := ⟨sc_by (by decide +kernel), ⟨100, by kernel_rfl⟩, by kernel_rfl, by decide, fun kV doc pm an cdv ct us h => match us, h with | [a0, a1], _ => by kernel_rfl⟩
theorem ok_is_limit : DfOk sig d_is_limit := ⟨sc_by (by decide +kernel), ⟨100, by kernel_rfl⟩, by kernel_rfl, by decide, fun kV doc pm an cdv ct us h => match us, h with | [a0, a1], _ => by kernel_rfl⟩
theorem ok_is_break : DfOk sig d_is_break := ⟨sc_by (by decide +kernel), ⟨100, by kernel_rfl⟩, by kernel_rfl, by decide, fun kV doc pm an cdv ct us h => match us, h with | [a0, a1, a2], _ => by kernel_rfl⟩
theorem ok_are_rows : DfOk sig d_are_rows := ⟨sc_by (by decide +kernel), ⟨100, by kernel_rfl⟩, by kernel_rfl, by decide, fun kV doc pm an cdv ct us h => match us, h with | [a0, a1, a2], _ => by kernel_rfl⟩
theorem ok_check_task : DfOk sig d_check_task := ⟨sc_by (by decide +kernel), ⟨100, by kernel_rfl⟩, by kernel_rfl, by decide, fun kV doc pm an cdv ct us h => match us, h with | [a0], _ => by kernel_rfl⟩
theorem ok_link_names : DfOk sig d_link_names := ⟨sc_by (by decide +kernel), ⟨100, by kernel_rfl⟩, by kernel_rfl, by decide, fun kV doc pm an cdv ct us h => match us, h with | [a0], _ => by kernel_rfl⟩
theorem ok_check_net : DfOk sig d_check_net := ⟨sc_by (by decide +kernel), ⟨100, by kernel_rfl⟩, by kernel_rfl, by decide, fun kV doc pm an cdv ct us h => match us, h with | [a0, a1], _ => by kernel_rfl⟩
theorem ok_known_break : DfOk sig d_known_break := ⟨sc_by (by decide +kernel), ⟨100, by kernel_rfl⟩, by kernel_rfl, by decide, fun kV doc pm an cdv ct us h => match us, h with | [a0, a1], _ => by kernel_rfl⟩
theorem ok_check_break : DfOk sig d_check_break := ⟨sc_by (by decide +kernel), ⟨100, by kernel_rfl⟩, by kernel_rfl, by decide, fun kV doc pm an cdv ct us h => match us, h with | [a0, a1], _ => by kernel_rfl⟩
theorem ok_known_left : DfOk sig d_known_left := ⟨sc_by (by decide +kernel), ⟨100, by kernel_rfl⟩, by kernel_rfl, by decide, fun kV doc pm an cdv ct us h => match us, h with | [a0, a1, a2], _ => by kernel_rfl⟩
theorem ok_left_of : DfOk sig d_left_of := ⟨sc_by (by decide +kernel), ⟨100, by kernel_rfl⟩, by kernel_rfl, by decide, fun kV doc pm an cdv ct us h => match us, h with | [a0, a1, a2], _ => by kernel_rfl⟩
theorem ok_known_cost : DfOk sig d_known_cost := ⟨sc_by (by decide +kernel), ⟨100, by kernel_rfl⟩, by kernel_rfl, by decide, fun kV doc pm an cdv ct us h => match us, h with | [a0, a1], _ => by kernel_rfl⟩
theorem ok_cost_of : DfOk sig d_cost_of := ⟨sc_by (by decide +kernel), ⟨100, by kernel_rfl⟩, by kernel_rfl, by decide, fun kV doc pm an cdv ct us h => match us, h with | [a0, a1], _ => by kernel_rfl⟩
theorem ok_links_at : DfOk sig d_links_at := ⟨sc_by (by decide +kernel), ⟨100, by kernel_rfl⟩, by kernel_rfl, by decide, fun kV doc pm an cdv ct us h => match us, h with | [a0, a1], _ => by kernel_rfl⟩
theorem ok_known_at : DfOk sig d_known_at := ⟨sc_by (by decide +kernel), ⟨100, by kernel_rfl⟩, by kernel_rfl, by decide, fun kV doc pm an cdv ct us h => match us, h with | [a0, a1], _ => by kernel_rfl⟩
theorem ok_known_over : DfOk sig d_known_over := ⟨sc_by (by decide +kernel), ⟨100, by kernel_rfl⟩, by kernel_rfl, by decide, fun kV doc pm an cdv ct us h => match us, h with | [a0, a1], _ => by kernel_rfl⟩
theorem ok_over_limits : DfOk sig d_over_limits := ⟨sc_by (by decide +kernel), ⟨100, by kernel_rfl⟩, by kernel_rfl, by decide, fun kV doc pm an cdv ct us h => match us, h with | [a0, a1], _ => by kernel_rfl⟩
theorem ok_with_costs : DfOk sig d_with_costs := ⟨sc_by (by decide +kernel), ⟨100, by kernel_rfl⟩, by kernel_rfl, by decide, fun kV doc pm an cdv ct us h => match us, h with | [a0, a1], _ => by kernel_rfl⟩
theorem ok__law_same : DfOk sig d__law_same := ⟨sc_by (by decide +kernel), ⟨100, by kernel_rfl⟩, by kernel_rfl, by decide, fun kV doc pm an cdv ct us h => match us, h with | [a0, a1], _ => by kernel_rfl⟩
theorem ok__law_stream : DfOk sig d__law_stream := ⟨sc_by (by decide +kernel), ⟨100, by kernel_rfl⟩, by kernel_rfl, by decide, fun kV doc pm an cdv ct us h => match us, h with | [a0], _ => by kernel_rfl⟩
theorem ok__law_next : DfOk sig d__law_next := ⟨sc_by (by decide +kernel), ⟨100, by kernel_rfl⟩, by kernel_rfl, by decide, fun kV doc pm an cdv ct us h => match us, h with | [a0, a1], _ => by kernel_rfl⟩
theorem ok__law_one : DfOk sig d__law_one := ⟨sc_by (by decide +kernel), ⟨100, by kernel_rfl⟩, by kernel_rfl, by decide, fun kV doc pm an cdv ct us h => match us, h with | [a0, a1], _ => by kernel_rfl⟩
theorem ok__law_links : DfOk sig d__law_links := ⟨sc_by (by decide +kernel), ⟨100, by kernel_rfl⟩, by kernel_rfl, by decide, fun kV doc pm an cdv ct us h => match us, h with | [a0, a1, a2], _ => by kernel_rfl⟩
theorem ok__law_wish : DfOk sig d__law_wish := ⟨sc_by (by decide +kernel), ⟨100, by kernel_rfl⟩, by kernel_rfl, by decide, fun kV doc pm an cdv ct us h => match us, h with | [a0, a1, a2], _ => by kernel_rfl⟩
theorem ok__law_task : DfOk sig d__law_task := ⟨sc_by (by decide +kernel), ⟨100, by kernel_rfl⟩, by kernel_rfl, by decide, fun kV doc pm an cdv ct us h => match us, h with | [a0], _ => by kernel_rfl⟩
theorem ok__law_names : DfOk sig d__law_names := ⟨sc_by (by decide +kernel), ⟨100, by kernel_rfl⟩, by kernel_rfl, by decide, fun kV doc pm an cdv ct us h => match us, h with | [a0], _ => by kernel_rfl⟩
theorem ok__law_break : DfOk sig d__law_break := ⟨sc_by (by decide +kernel), ⟨100, by kernel_rfl⟩, by kernel_rfl, by decide, fun kV doc pm an cdv ct us h => match us, h with | [a0, a1], _ => by kernel_rfl⟩
theorem ok__law_left : DfOk sig d__law_left := ⟨sc_by (by decide +kernel), ⟨100, by kernel_rfl⟩, by kernel_rfl, by decide, fun kV doc pm an cdv ct us h => match us, h with | [a0, a1, a2], _ => by kernel_rfl⟩
theorem ok__law_over : DfOk sig d__law_over := ⟨sc_by (by decide +kernel), ⟨100, by kernel_rfl⟩, by kernel_rfl, by decide, fun kV doc pm an cdv ct us h => match us, h with | [a0, a1], _ => by kernel_rfl⟩
theorem ok__law_cost : DfOk sig d__law_cost := ⟨sc_by (by decide +kernel), ⟨100, by kernel_rfl⟩, by kernel_rfl, by decide, fun kV doc pm an cdv ct us h => match us, h with | [a0, a1], _ => by kernel_rfl⟩
theorem ok__law_is_name : DfOk sig d__law_is_name := ⟨sc_by (by decide +kernel), ⟨100, by kernel_rfl⟩, by kernel_rfl, by decide, fun kV doc pm an cdv ct us h => match us, h with | [a0], _ => by kernel_rfl⟩
theorem ok__law_spoilt : DfOk sig d__law_spoilt := ⟨sc_by (by decide +kernel), ⟨100, by kernel_rfl⟩, by kernel_rfl, by decide, fun kV doc pm an cdv ct us h => match us, h with | [a0], _ => by kernel_rfl⟩
theorem ds_ok : ∀ d ∈ ds, DfOk sig d := fc ok_is_name ( fc ok_is_whole ( fc ok_ascends ( fc ok_are_places ( fc ok_is_link ( fc ok_is_wish ( fc ok_is_limit ( fc ok_is_break ( fc ok_are_rows ( fc ok_check_task ( fc ok_link_names ( fc ok_check_net ( fc ok_known_break ( fc ok_check_break ( fc ok_known_left ( fc ok_left_of ( fc ok_known_cost ( fc ok_cost_of ( fc ok_links_at ( fc ok_known_at ( fc ok_known_over ( fc ok_over_limits ( fc ok_with_costs ( fc ok__law_same ( fc ok__law_stream ( fc ok__law_next ( fc ok__law_one ( fc ok__law_links ( fc ok__law_wish ( fc ok__law_task ( fc ok__law_names ( fc ok__law_break ( fc ok__law_left ( fc ok__law_over ( fc ok__law_cost ( fc ok__law_is_name ( fc ok__law_spoilt (fn0)))))))))))))))))))))))))))))))))))))
theorem ds_find : ∀ d ∈ ds, (ds.map Df.fn).find? (fun e => e.name == d.name) = some d.fn := fc (by kernel_rfl) (fc (by kernel_rfl) (fc (by kernel_rfl) (fc (by kernel_rfl) (fc (by kernel_rfl) (fc (by kernel_rfl) (fc (by kernel_rfl) (fc (by kernel_rfl) (fc (by kernel_rfl) (fc (by kernel_rfl) (fc (by kernel_rfl) (fc (by kernel_rfl) (fc (by kernel_rfl) (fc (by kernel_rfl) (fc (by kernel_rfl) (fc (by kernel_rfl) (fc (by kernel_rfl) (fc (by kernel_rfl) (fc (by kernel_rfl) (fc (by kernel_rfl) (fc (by kernel_rfl) (fc (by kernel_rfl) (fc (by kernel_rfl) (fc (by kernel_rfl) (fc (by kernel_rfl) (fc (by kernel_rfl) (fc (by kernel_rfl) (fc (by kernel_rfl) (fc (by kernel_rfl) (fc (by kernel_rfl) (fc (by kernel_rfl) (fc (by kernel_rfl) (fc (by kernel_rfl) (fc (by kernel_rfl) (fc (by kernel_rfl) (fc (by kernel_rfl) (fc (by kernel_rfl) (fn0)))))))))))))))))))))))))))))))))))))
theorem ds_gf : ∀ d ∈ ds, sig.gfns.contains d.name = d.gd := fc (by kernel_rfl) (fc (by kernel_rfl) (fc (by kernel_rfl) (fc (by kernel_rfl) (fc (by kernel_rfl) (fc (by kernel_rfl) (fc (by kernel_rfl) (fc (by kernel_rfl) (fc (by kernel_rfl) (fc (by kernel_rfl) (fc (by kernel_rfl) (fc (by kernel_rfl) (fc (by kernel_rfl) (fc (by kernel_rfl) (fc (by kernel_rfl) (fc (by kernel_rfl) (fc (by kernel_rfl) (fc (by kernel_rfl) (fc (by kernel_rfl) (fc (by kernel_rfl) (fc (by kernel_rfl) (fc (by kernel_rfl) (fc (by kernel_rfl) (fc (by kernel_rfl) (fc (by kernel_rfl) (fc (by kernel_rfl) (fc (by kernel_rfl) (fc (by kernel_rfl) (fc (by kernel_rfl) (fc (by kernel_rfl) (fc (by kernel_rfl) (fc (by kernel_rfl) (fc (by kernel_rfl) (fc (by kernel_rfl) (fc (by kernel_rfl) (fc (by kernel_rfl) (fc (by kernel_rfl) (fn0)))))))))))))))))))))))))))))))))))))
theorem ds_fns : ds.map Df.fn = fns := by kernel_rfl
theorem sig_fns : ∀ f k, sig.fns.lookup f = some k → ∃ d ∈ ds, d.name = f ∧ d.ps.length = k := fun f k h => by
  obtain ⟨d, hd, e⟩ := List.mem_map.mp (PySem.mem_of_lookup h)
  cases e
  exact ⟨d, hd, rfl, rfl⟩
section
variable {w : World} {K : PySem.W.Frag} {h : Heap} {mg : Str → Option Value}
theorem at1 {d : Df} {i k : Nat} (c : He.SaysD fa fn K) (X : K.In h) (G : h.Ns mainGlobals mg) (h1 : fn[i]? = some (defD k d.name)) (h2 : fa[i]? = some (.glo d.name)) (h3 : d.st = top k) : ∃ f fd, DfAt K d f fd ∧ mg d.name = some (.ref f) := by
  obtain ⟨fd, F⟩ := c.def_ i h1
  refine ⟨He.ga K d.name, fd, ?_, He.glo_ok X G (c.fact i h2)⟩
  show FunD K d.name d.name (defArgs d.st) (defBody d.st) (defScope d.st) [] [] (He.ga K d.name) fd
  rw [h3]
  exact F
theorem ds_at (c : He.SaysD fa fn K) (X : K.In h) (G : h.Ns mainGlobals mg) : ∀ d ∈ ds, ∃ f fd, DfAt K d f fd ∧ mg d.name = some (.ref f) := fc (at1 (i := 0) (k := 19) c X G rfl rfl rfl) ( fc (at1 (i := 1) (k := 20) c X G rfl rfl rfl) ( fc (at1 (i := 2) (k := 21) c X G rfl rfl rfl) ( fc (at1 (i := 3) (k := 22) c X G rfl rfl rfl) ( fc (at1 (i := 4) (k := 23) c X G rfl rfl rfl) ( fc (at1 (i := 5) (k := 24) c X G rfl rfl rfl) ( fc (at1 (i := 6) (k := 25) c X G rfl rfl rfl) ( fc (at1 (i := 7) (k := 26) c X G rfl rfl rfl) ( fc (at1 (i := 8) (k := 27) c X G rfl rfl rfl) ( fc (at1 (i := 9) (k := 28) c X G rfl rfl rfl) ( fc (at1 (i := 10) (k := 29) c X G rfl rfl rfl) ( fc (at1 (i := 11) (k := 30) c X G rfl rfl rfl) ( fc (at1 (i := 12) (k := 31) c X G rfl rfl rfl) ( fc (at1 (i := 13) (k := 32) c X G rfl rfl rfl) ( fc (at1 (i := 14) (k := 33) c X G rfl rfl rfl) ( fc (at1 (i := 15) (k := 34) c X G rfl rfl rfl) ( fc (at1 (i := 16) (k := 35) c X G rfl rfl rfl) ( fc (at1 (i := 17) (k := 36) c X G rfl rfl rfl) ( fc (at1 (i := 18) (k := 37) c X G rfl rfl rfl) ( fc (at1 (i := 19) (k := 38) c X G rfl rfl rfl) ( fc (at1 (i := 20) (k := 39) c X G rfl rfl rfl) ( fc (at1 (i := 21) (k := 40) c X G rfl rfl rfl) ( fc (at1 (i := 22) (k := 41) c X G rfl rfl rfl) ( fc (at1 (i := 23) (k := 43) c X G rfl rfl rfl) ( fc (at1 (i := 24) (k := 44) c X G rfl rfl rfl) ( fc (at1 (i := 25) (k := 45) c X G rfl rfl rfl) ( fc (at1 (i := 27) (k := 47) c X G rfl rfl rfl) ( fc (at1 (i := 28) (k := 48) c X G rfl rfl rfl) ( fc (at1 (i := 29) (k := 49) c X G rfl rfl rfl) ( fc (at1 (i := 30) (k := 50) c X G rfl rfl rfl) ( fc (at1 (i := 31) (k := 51) c X G rfl rfl rfl) ( fc (at1 (i := 32) (k := 52) c X G rfl rfl rfl) ( fc (at1 (i := 33) (k := 53) c X G rfl rfl rfl) ( fc (at1 (i := 34) (k := 54) c X G rfl rfl rfl) ( fc (at1 (i := 35) (k := 55) c X G rfl rfl rfl) ( fc (at1 (i := 36) (k := 56) c X G rfl rfl rfl) ( fc (at1 (i := 37) (k := 57) c X G rfl rfl rfl) (fn0)))))))))))))))))))))))))))))))))))))
theorem tupZ_ok {x : Str} {vs : List Str} (e : tupZB K x vs = true) {μ : List Addr} {F : Addr → Prop} {H : Hp} : Rep ⟨K, w, μ⟩ F H (.ref (He.ga K x)) (.tuple (vs.map PyData.str)) := by
  unfold tupZB at e
  split at e
  · rename_i c its n sl q
    simp only [Bool.and_eq_true, decide_eq_true_eq] at e
    obtain ⟨rfl, e2, e3⟩ := e
    refine Rep.tup (xs := vs.map V.str) (.inr ⟨_, its, n, q, rfl, rfl, e2, He.relAll_ok e3, rfl⟩) ?_
    clear e3
    induction vs with
    | nil => exact .nil
    | cons a r ih => exact .cons (.str a) ih
  · cases e
theorem tabE_ok : ∀ {es : List DictEntry} {l : List (Str × Int)}, tabEB es l = true → TabEs es (l.map fun p => (.str p.1, .int p.2))
  | [], [], _ => trivial
  | [], _ :: _, e => by cases e
  | _ :: _, [], e => by cases e
  | a :: r, (x, i) :: l, e => by
    unfold tabEB at e
    rw [Bool.and_eq_true] at e
    obtain ⟨e1, e2⟩ := e
    have := tabE_ok e2
    split at e1
    · rename_i y t j u q1 q2
      simp only [Bool.and_eq_true, decide_eq_true_eq] at e1
      obtain ⟨rfl, rfl⟩ := e1
      exact ⟨⟨_, q1⟩, ⟨_, q2⟩, this⟩
    · cases e1
theorem getKV_mem {z : Str} {i : Int} : ∀ {l : List (Str × Int)}, getKV (l.map fun p => (.str p.1, .int p.2)) (.str z) = some (.int i) → (z, i) ∈ l
  | [], e => by cases e
  | (x, j) :: r, e => by
    rw [List.map_cons, getKV] at e
    split at e
    · rename_i q
      rw [eqv_str] at q
      cases e
      rw [show z = x from (beq_iff_eq.mp q).symm]
      exact List.mem_cons_self ..
    · exact List.mem_cons_of_mem _ (getKV_mem e)
theorem tab_ok {x : Str} {l : List (Str × Int)} (e : tabB K x l = true) (D : ∃ es n, KDict K w (He.ga K x) es n) {μ : List Addr} {F : Addr → Prop} {H : Hp} : Rep ⟨K, w, μ⟩ F H (.ref (He.ga K x)) (tbl (l.map fun p => (.str p.1, .int p.2))) := by
  obtain ⟨es, n, D⟩ := D
  unfold tabB at e
  rw [Bool.and_eq_true, D.at_] at e
  refine Rep.kdc ⟨es, n, D, tabE_ok e.1⟩ fun z i hz => ?_
  have := List.all_eq_true.mp e.2 _ (getKV_mem hz)
  dsimp only at this
  split at this
  · rename_i j t q
    rw [decide_eq_true_eq] at this
    rw [← this]
    exact ⟨t, q⟩
  · cases this
/-- what the head says of K, all at once -/
structure Said (w : World) (K : PySem.W.Frag) (h : Heap) (mg : Str → Option Value) : Prop where
  X : K.In h
  G : h.Ns mainGlobals mg
  d : He.SaysD fa fn K
  t : He.SaysT fa fn ts w K
  m : ex K = true
theorem Said.x (S : Said w K h mg) : tupZB K "KINDS" ["apart", "carry", "near", "places"] = true ∧ tupZB K "WORDS" ["apart", "barred", "bound", "break", "carry", "case", "cut", "far", "flow", "lay", "limit", "link", "links", "near", "net", "none", "place", "places", "price", "void", "way", "ways", "wish", "without"] = true ∧ tabB K "MOST" [("apart", 4), ("carry", 200), ("near", 9), ("places", 4)] = true ∧ (["NetError", "NotAllowed", "TooLarge", "Missing", "BadPaper"] : List Str).all (excB K) = true ∧ (List.range 4).all (fun j => excCB K (excNm j)) = true ∧ kitB4 K = true ∧ (tf.map fun p => (He.cT K p).2).Nodup := by
  have := S.m
  unfold ex at this
  simpa only [Bool.and_eq_true, decide_eq_true_eq] using this
theorem k_consts (S : Said w K h mg) : ∀ p ∈ consts, ∃ v u, mg p.1 = some u ∧ RelV v u ∧ ∀ μ F H, Rep ⟨K, w, μ⟩ F H v p.2 := fc (let ⟨t, e⟩ := He.int_ok S.X S.G (S.d.fact 49); ⟨.int _, _, e, ⟨t, rfl⟩, fun _ _ _ => .int _⟩) ( fc (let ⟨t, e⟩ := He.int_ok S.X S.G (S.d.fact 50); ⟨.int _, _, e, ⟨t, rfl⟩, fun _ _ _ => .int _⟩) ( fc (let ⟨t, e⟩ := He.int_ok S.X S.G (S.d.fact 51); ⟨.int _, _, e, ⟨t, rfl⟩, fun _ _ _ => .int _⟩) ( fc (let ⟨t, e⟩ := He.int_ok S.X S.G (S.d.fact 52); ⟨.int _, _, e, ⟨t, rfl⟩, fun _ _ _ => .int _⟩) ( fc (let ⟨t, e⟩ := He.int_ok S.X S.G (S.d.fact 53); ⟨.int _, _, e, ⟨t, rfl⟩, fun _ _ _ => .int _⟩) ( fc (let ⟨t, e⟩ := He.int_ok S.X S.G (S.d.fact 54); ⟨.int _, _, e, ⟨t, rfl⟩, fun _ _ _ => .int _⟩) ( fc ⟨.ref (He.ga K "KINDS"), _, He.glo_ok S.X S.G (S.d.fact 46), rfl, fun _ _ _ => tupZ_ok S.x.1⟩ ( fc ⟨.ref (He.ga K "MOST"), _, He.glo_ok S.X S.G (S.d.fact 48), rfl, fun _ _ _ => tab_ok S.x.2.2.1 (S.t.tab 0)⟩ ( fc (let ⟨t, e⟩ := He.str_ok S.X S.G (S.d.fact 55); ⟨.str _, _, e, ⟨t, rfl⟩, fun _ _ _ => .str _⟩) ( fc ⟨.ref (He.ga K "WORDS"), _, He.glo_ok S.X S.G (S.d.fact 47), rfl, fun _ _ _ => tupZ_ok S.x.2.1⟩ (fn0))))))))))
theorem k_blt (S : Said w K h mg) : ∀ x ∈ (["len", "all", "any", "sum", "min", "max", "abs", "int", "tuple", "list", "sorted", "dict", "repr", "set", "next", "iter", "isinstance", "str", "range"] : List Str), mg x = none := fc (He.free_ok S.X S.G (S.d.fact 56)) ( fc (He.free_ok S.X S.G (S.d.fact 57)) ( fc (He.free_ok S.X S.G (S.d.fact 58)) ( fc (He.free_ok S.X S.G (S.d.fact 59)) ( fc (He.free_ok S.X S.G (S.d.fact 60)) ( fc (He.free_ok S.X S.G (S.d.fact 61)) ( fc (He.free_ok S.X S.G (S.d.fact 62)) ( fc (He.free_ok S.X S.G (S.d.fact 63)) ( fc (He.free_ok S.X S.G (S.d.fact 64)) ( fc (He.free_ok S.X S.G (S.d.fact 65)) ( fc (He.free_ok S.X S.G (S.d.fact 66)) ( fc (He.free_ok S.X S.G (S.d.fact 67)) ( fc (He.free_ok S.X S.G (S.d.fact 68)) ( fc (He.free_ok S.X S.G (S.d.fact 69)) ( fc (He.free_ok S.X S.G (S.d.fact 70)) ( fc (He.free_ok S.X S.G (S.d.fact 71)) ( fc (He.free_ok S.X S.G (S.d.fact 72)) ( fc (He.free_ok S.X S.G (S.d.fact 73)) ( fc (He.free_ok S.X S.G (S.d.fact 74)) (fn0)))))))))))))))))))
def exA (K : PySem.W.Frag) (x : Str) : Option Addr := if (["NetError", "NotAllowed", "TooLarge", "Missing", "BadPaper"] : List Str).contains x then some (He.ga K x) else none
theorem k_exc1 {x : Str} (S : Said w K h mg) (g : mg x = some (.ref (He.ga K x))) (k : PySem.W.keepIn K (.ref (He.ga K x)) = true) (e : excB K x = true) (hx : exA K x = some (He.ga K x)) : ∀ (X : Cx), X.K = K → X.mg = mg → ∃ C, exA K x = some C ∧ ∀ (m : Str) (j : Nat) (p p2 pos : Pos), Gl X x → (x == ("__debug__" : Str)) = false → L2N.PMk X (.Call (.Name x p) [.Constant (.str m) j p2] [] pos) (fun _ H Q => Q (.ref C) none H) := by
  intro X e1 e2
  subst e1 e2
  unfold excB at e
  simp only [Bool.and_eq_true, decide_eq_true_eq] at e
  exact ⟨_, hx, fun m j p p2 pos hg hd => L2N.pmk_own PySem.F.excBase_Exception e.1 g k (raises_own e.2.1 e.2.2) hg hd⟩
theorem k_exc (S : Said w K h mg) : ∀ x ∈ (["NetError", "NotAllowed", "TooLarge", "Missing", "BadPaper"] : List Str), ∀ (X : Cx), X.K = K → X.mg = mg → ∃ C, exA K x = some C ∧ ∀ (m : Str) (j : Nat) (p p2 pos : Pos), Gl X x → (x == ("__debug__" : Str)) = false → L2N.PMk X (.Call (.Name x p) [.Constant (.str m) j p2] [] pos) (fun _ H Q => Q (.ref C) none H) := fc (k_exc1 S (He.glo_ok S.X S.G (S.d.fact 39)) (He.keep_ok (S.d.fact 87)) (List.all_eq_true.mp S.x.2.2.2.1 "NetError" (by decide)) rfl) ( fc (k_exc1 S (He.glo_ok S.X S.G (S.d.fact 40)) (He.keep_ok (S.d.fact 88)) (List.all_eq_true.mp S.x.2.2.2.1 "NotAllowed" (by decide)) rfl) ( fc (k_exc1 S (He.glo_ok S.X S.G (S.d.fact 41)) (He.keep_ok (S.d.fact 89)) (List.all_eq_true.mp S.x.2.2.2.1 "TooLarge" (by decide)) rfl) ( fc (k_exc1 S (He.glo_ok S.X S.G (S.d.fact 42)) (He.keep_ok (S.d.fact 90)) (List.all_eq_true.mp S.x.2.2.2.1 "Missing" (by decide)) rfl) ( fc (k_exc1 S (He.glo_ok S.X S.G (S.d.fact 43)) (He.keep_ok (S.d.fact 91)) (List.all_eq_true.mp S.x.2.2.2.1 "BadPaper" (by decide)) rfl) (fn0)))))
def cA (K : PySem.W.Frag) (j : Nat) : Addr := He.ga K (excNm j)
theorem k_told (S : Said w K h mg) : ToldH K mg (He.ga K "Broken") (He.ga K "BadForm") (He.ga K "NetError") (cA K) where
  m0 := He.glo_ok S.X S.G (S.d.fact 44)
  m1 := He.glo_ok S.X S.G (S.d.fact 45)
  m2 := He.glo_ok S.X S.G (S.d.fact 39)
  n0 := He.glo_ok S.X S.G (S.d.fact 40)
  n1 := He.glo_ok S.X S.G (S.d.fact 41)
  n2 := He.glo_ok S.X S.G (S.d.fact 42)
  n3 := He.glo_ok S.X S.G (S.d.fact 43)
  iso := k_blt S _ (by decide)
  rng := k_blt S _ (by decide)
  int := k_blt S _ (by decide)
  len := k_blt S _ (by decide)
  x0 := fun j hj => match j, hj with
    | 0, _ => He.exm_ok (S.d.fact 75)
    | 1, _ => He.exm_ok (S.d.fact 78)
    | 2, _ => He.exm_ok (S.d.fact 81)
    | 3, _ => He.exm_ok (S.d.fact 84)
  x1 := fun j hj => match j, hj with
    | 0, _ => He.exm_ok (S.d.fact 76)
    | 1, _ => He.exm_ok (S.d.fact 79)
    | 2, _ => He.exm_ok (S.d.fact 82)
    | 3, _ => He.exm_ok (S.d.fact 85)
  x2 := fun j hj => match j, hj with
    | 0, _ => He.exm_ok (S.d.fact 77)
    | 1, _ => He.exm_ok (S.d.fact 80)
    | 2, _ => He.exm_ok (S.d.fact 83)
    | 3, _ => He.exm_ok (S.d.fact 86)
  exc := fun j hj => by
    have := List.all_eq_true.mp S.x.2.2.2.2.1 j (List.mem_range.mpr hj)
    unfold excCB at this
    simp only [Bool.and_eq_true, decide_eq_true_eq] at this
    obtain ⟨a1, a2, a3, a4, a5, a6, a7, a8⟩ := this
    exact ⟨a1, a2, a3, a4, a5, a6, a7, a8⟩
  kit := fun j i hj hi => by
    have := S.x.2.2.2.2.2.1
    unfold kitB4 at this
    exact of_decide_eq_true (List.all_eq_true.mp (List.all_eq_true.mp this j (List.mem_range.mpr hj)) i (List.mem_range.mpr hi))
theorem k_exh : ExH (exA K) (cA K) := ⟨rfl, rfl, rfl, rfl⟩
end
end K00

set_option Elab.async false
set_option linter.all false
set_option maxRecDepth 100000
set_option maxHeartbeats 4000000
/-! k00: the law's end. -/
namespace K00
open PySem PySem.Spec PyProof.Rows L2 Mini HeadK
abbrev lw : PySem.W.OpenLaw := PySem.Challenge.rw_stilljoined_k00_whole_tasks_and_what_is
abbrev PP : Program := lw.prog
def Tt (K : PySem.W.Frag) : List (Addr × Str) := tf.map fun p => ((He.cT K p).2, p.1 ++ ".<locals>." ++ "<lambda>")
def lawS0 : Stmt := match defBody (top 58) with
  | s :: _ => s
  | [] => .Pass ⟨0, 0, 0, 0⟩
def lawRest : List Stmt := match defBody (top 58) with
  | _ :: r => r
  | [] => []
def lawE : Expr := match lawS0 with
  | .Assign _ (.List (e :: _) _) _ => e
  | _ => .Constant .none 0 ⟨0, 0, 0, 0⟩
def lawC : C := .call "_law_stream" false (.cons (.slot 0) .nil)
def restC : Ss := .cons l1 (.cons l2 (.cons l3 (.cons l4 (.cons l5 .nil))))
theorem lawC_ok : compE (d_law.cx sig) 100 lawE (defScope d_law.st) = some lawC := by kernel_rfl
theorem restC_ok : compSs (d_law.cx sig) (defScope d_law.st) 100 lawRest = some restC := by kernel_rfl
theorem restC_nc : restC.noCell = true := by kernel_rfl
theorem law_sc : FnScope d_law.N d_law.ps (defScope d_law.st) := sc_by (by decide +kernel)
section
variable {w : World} {K : PySem.W.Frag} {h : Heap} {mg : Str → Option Value} {base : Heap}
theorem tabD_of (S : Said w K h mg) (TB : ∀ p ∈ tf.map (He.cT K), LamX.TabB base mg p.1 p.2) {p : He.Defn} (hp : p ∈ tf) (h2 : p.2 = none) (g : mg p.1 = some (.ref (He.ga K p.1))) : TabD K mg base (Tt K) p.1 := by
  rintro v ⟨f, c, oc, od, osl, fd, e1, e2, e3, rfl⟩
  rw [g] at e1
  cases e1
  obtain ⟨x, y⟩ := p
  cases h2
  have ec : He.codeOf K (x, none) = c := He.codeOf_eq (p := (x, none)) e2 e3
  have nd : (tf.map fun p => (He.cT K p).2).Nodup := S.x.2.2.2.2.2.2
  refine ⟨c, (He.cT K (x, none)).2, rfl, ?_, List.mem_map.mpr ⟨_, hp, rfl⟩, fun q hq e => ?_⟩
  · have := TB _ (List.mem_map.mpr ⟨_, hp, rfl⟩)
    rw [← ec]
    exact this
  · obtain ⟨r, hr, rfl⟩ := List.mem_map.mp hq
    have : r = (x, none) := by
      have key : ∀ {l : List He.Defn}, (l.map fun p => (He.cT K p).2).Nodup → r ∈ l → (x, none) ∈ l → (He.cT K r).2 = (He.cT K (x, none)).2 → r = (x, none) := by
        intro l
        induction l with
        | nil => exact fun _ h => by cases h
        | cons a l ih =>
          intro n h1 h2 e
          rw [List.map_cons, List.nodup_cons] at n
          rcases List.mem_cons.mp h1 with q1 | q1 <;> rcases List.mem_cons.mp h2 with q2 | q2
          · rw [q1, q2]
          · exact absurd (List.mem_map.mpr ⟨_, q2, by rw [← e, q1]⟩) n.1
          · exact absurd (List.mem_map.mpr ⟨_, q1, by rw [e, q2]⟩) n.1
          · exact ih n.2 q1 q2 e
      exact key nd hr hp e
    rw [this]
theorem told_at (S : Said w K h mg) (TB : ∀ p ∈ tf.map (He.cT K), LamX.TabB base mg p.1 p.2) {n : Nat} {d : Df} (td : TabD K mg base (Tt K) d.name) {X : Cx} {St : Stat} (e1 : X.prog = PP) (e2 : X.w = w) (e3 : X.K = K) (e4 : X.mg = mg) (e5 : X.base = base) (hq : X.env.qual = d.name ++ ".<locals>.") (hc : CodeAt K mg d.name X.env.code)
    (s1 : St.K = K) (s2 : St.w = w) (s3 : St.T = Tt K) (s4 : St.exA = exA K) (s5 : St.own = d.own) (ht : (d.sig sig).told ≠ "") (x : XOk X St (d.cx sig) (defScope d.st) n) (fo : FnsOk X St (d.sig sig) n) : ToldOk X St (d.cx sig) (defScope d.st) n := by
  obtain ⟨fd, F⟩ := S.d.def_ (fn := fn) 26 (d := defD 46 "_law_told") rfl
  exact told_all (k_told S) k_exh rfl F (He.glo_ok S.X S.G (S.d.fact 26 (f := .glo "_law_told") rfl)) (fun kV doc pm an cdv ct us h => match us, h with | [a], _ => by kernel_rfl) td e1 e2 e3 e4 e5 hq hc s1 s2 s3 s4 s5 ht x fo
theorem lam_ds : ∀ d ∈ ds, (d.sig sig).told ≠ "" → (d.name, none) ∈ tf := fun d hd ht => by
  have hl : d.lam = true := by
    cases q : d.lam with
    | true => rfl
    | false =>
      unfold Df.sig at ht
      rw [q] at ht
      exact absurd rfl ht
  have : ∀ d ∈ ds, d.lam = true → (d.name, none) ∈ tf := by
    intro d hd hl
    have e : (ds.all fun d => !d.lam || decide ((d.name, none) ∈ tf)) = true := by kernel_rfl
    have := List.all_eq_true.mp e d hd
    rw [hl] at this
    simpa using this
  exact this d hd hl
theorem tf_glo (S : Said w K h mg) : ∀ p ∈ tf, p.2 = none ∧ mg p.1 = some (.ref (He.ga K p.1)) := by
  intro p hp
  have e : (tf.all fun p => decide (p.2 = none) && fa.any fun f => match f with
    | .glo x => decide (x = p.1)
    | _ => false) = true := by kernel_rfl
  have := List.all_eq_true.mp e p hp
  rw [Bool.and_eq_true, decide_eq_true_eq] at this
  refine ⟨this.1, ?_⟩
  obtain ⟨f, hf, hx⟩ := List.any_eq_true.mp this.2
  split at hx
  · rw [decide_eq_true_eq] at hx
    rw [← hx]
    exact He.glo_ok S.X S.G (S.d.facts hf)
  · cases hx
theorem k_wld (S : Said w K h mg) (TB : ∀ p ∈ tf.map (He.cT K), LamX.TabB base mg p.1 p.2) (L : Nat) : Wld PP w K mg base (Tt K) (exA K) sig ds L where
  consts := fun x d hx => k_consts S _ (PySem.mem_of_lookup hx)
  blt := k_blt S
  exc := fun X St e1 e2 e3 e4 e5 x hx => by
    obtain ⟨C, h1, h2⟩ := k_exc S x hx X e3 e4
    exact ⟨C, by rw [e5]; exact h1, h2⟩
  gf := ds_gf
  ok := ds_ok
  at_ := ds_at S.d S.X S.G
  fns := sig_fns
  find := ds_find
  told := fun n d X St hd e1 e2 e3 e4 e5 hq hc s1 s2 s3 s4 s5 ht x fo => by
    have hp := lam_ds d hd ht
    have g := tf_glo S _ hp
    exact told_at S TB (tabD_of S TB hp g.1 g.2) e1 e2 e3 e4 e5 hq hc s1 s2 s3 s4 s5 ht x fo
end
end K00

set_option Elab.async false
set_option linter.all false
set_option maxRecDepth 100000
set_option maxHeartbeats 4000000
/-! k00: the law's def. -/
namespace K00
open PySem PySem.Spec PyProof.Rows L2 Mini HeadK
/-- the law's promise -/
def spL (K : PySem.W.Frag) : Sp := fun vs H Q _ => ∃ (a : Addr) (ns : List Int), vs = [.ref a] ∧ (∀ p ∈ tf.map (He.cT K), H p.2 = some (.tbl #[])) ∧ SqL K H a (ns.map V.int) ∧ ∀ H', Q (.bl true) H'
section
variable {w : World} {K : PySem.W.Frag} {h : Heap} {mg : Str → Option Value} {base : Heap}
theorem ints_map : ∀ xs : List Int, intsOf (xs.map .int) = some xs
  | [] => rfl
  | x :: r => by
    rw [List.map_cons, intsOf, ints_map r]
    rfl
theorem reps_ints {X : Fx} {F : Addr → Prop} {H : Hp} : ∀ xs : List Int, Reps X F H (xs.map V.int) (xs.map .int)
  | [] => .nil
  | x :: r => .cons (.int x) (reps_ints r)
theorem law_cell : (defScope (top 58)).names.lookup ("state" : Str) = some .cell := by decide +kernel
theorem tabs0 {H : Hp} (hT : ∀ p ∈ tf.map (He.cT K), H p.2 = some (.tbl #[])) : LamX.Tabs (Tt K) H := fun p hp => by
  obtain ⟨q, hq, rfl⟩ := List.mem_map.mp hp
  exact LamX.TabS.nil (hT _ (List.mem_map.mpr ⟨q, hq, rfl⟩))
theorem law_body (S : Said w K h mg) (TB : ∀ p ∈ tf.map (He.cT K), LamX.TabB base mg p.1 p.2) {f : Addr} {oc : Value} {od : Option Addr} {osl : Array (Option Value)} {dV kV doc pm cdv ct : Value} {an : Option Addr} (hmf : mg "law" = some (.ref f))
    (lk : K.lookup f = some ⟨oc, od, .func (PySem.W.fnOf "law" "law" (defArgs (top 58)) (defBody (top 58)) (defScope (top 58)) dV kV doc pm an cdv ct), osl⟩) (hcd : PySem.W.codeIn K cdv "law" = true)
    (A : Around) (outer : List PySem.Env) (s : Shared) (H : Hp) (vs : List V) (Q : VK) (E : XK) (gd : A.guards = some []) (hr : Room 23 (A.deeper (envOfC "law" (defScope (top 58)) s.heap.objs.size f cdv))) (hsp : spL K vs H Q E) :
    ∃ t, PSs (cxOf (L2N.CX PP w) PP w K mg base d_law.N "law" (defScope (top 58)) f cdv A outer s H E) (defBody (top 58)) t ∧ t { nx := fun _ H' => Q .non H', rt := Q } (L2.start d_law.N vs) H := by
  obtain ⟨a, ns, rfl, hT, hS, hQ⟩ := hsp
  have W := k_wld S TB 0
  let St : Stat := ⟨K, w, Tt K, [], ⟨callN (ds.map Df.fn) 0 7, 0⟩, fun cls dd _ H' => E cls dd H', exA K⟩
  have hx : XOk (cxOf (L2N.CX PP w) PP w K mg base d_law.N "law" (defScope (top 58)) f cdv A outer s H E) St (d_law.cx sig) (defScope d_law.st) 21 :=
    ⟨⟨rfl, rfl, rfl, hr.mono (by omega), L2N.takes_of rfl rfl rfl rfl, W.consts, fun _ => gd, W.blt⟩, rfl, law_sc.nd, rfl, rfl, fun _ => hr⟩
  have fo : FnsOk (cxOf (L2N.CX PP w) PP w K mg base d_law.N "law" (defScope (top 58)) f cdv A outer s H E) St (d_law.sig sig) 21 := fun g kk hg hgf => by
    obtain ⟨e, he, rfl, rfl⟩ := W.fns g kk hg
    obtain ⟨f2, fd2, F2, hm⟩ := W.at_ e he
    obtain ⟨i1, i2⟩ := defs_ok W 7 e he f2 fd2 F2 hm
    have gfe := W.gf e he
    refine ⟨f2, fd2, e.ps, hm, F2.kp, F2.bindsN ((W.ok e he).bd), ?_⟩
    cases q : e.gd with
    | false => exact .inl ⟨gfe.trans q, i1 q⟩
    | true => exact .inr ⟨gfe.trans q, gd, i2⟩
  have td : (d_law.cx sig).sig.told ≠ "" → ToldOk (cxOf (L2N.CX PP w) PP w K mg base d_law.N "law" (defScope (top 58)) f cdv A outer s H E) St (d_law.cx sig) (defScope d_law.st) 21 := fun ht => by
    obtain ⟨c, rfl⟩ := code_ref hcd
    exact told_at S TB (d := d_law) (tabD_of S TB (p := ("law", none)) (by decide) rfl (tf_glo S ("law", none) (by decide)).2) rfl rfl rfl rfl rfl rfl ⟨f, c, _, _, _, _, hmf, lk, rfl, rfl⟩ rfl rfl rfl rfl rfl ht hx fo
  have fok : FOk (cxOf (L2N.CX PP w) PP w K mg base d_law.N "law" (defScope (top 58)) f cdv A outer s H E) St (d_law.cx sig) (defScope d_law.st) 21 :=
    ⟨hx, fo, td, W.exc _ St rfl rfl rfl rfl rfl, passes_of rfl, fun _ => rfl⟩
  have E1 : PE (cxOf (L2N.CX PP w) PP w K mg base d_law.N "law" (defScope (top 58)) f cdv A outer s H E) lawE (tE St lawC) := (comp_ok 100 lawC_ok hx fo td).1
  obtain ⟨xs, e0, h', eR⟩ := law_true 0 0 ns
  refine ⟨_, (show PSs _ (lawS0 :: lawRest) _ from pss_cons (ps_set (i := 1) (x := "state") law_sc.nd rfl (.inr law_cell) (pe_lst (pa_cons E1 (pa_cons pe_int pa_nil))) rfl (.inl rfl)) ((stm_ok fok 100).2 lawRest restC restC_ok restC_nc)), ?_⟩
  have rs : Rep ⟨K, w, []⟩ (fun _ => False) H (.ref a) (Mini.scr ns) := Rep.scr (hS.imp (fun z => ⟨fun z => z, z⟩) fun z => z)
  have W0 : Wd ⟨K, w, []⟩ (Tt K) (fun _ => False) [] H := ⟨List.nodup_nil, rfl, fun i a ds e => (by simp at e), fun a h => (by cases h), fun a z => z.elim, tabs0 hT⟩
  have ok0 := start_ok (S := St) (μ := []) (F := fun _ => False) (N := d_law.N) (np := 1) (vs := [.ref a]) (xs := [Mini.scr ns]) (.cons rs .nil) W0 rfl (fun i hi => by cases hi)
  have g0 : St.g = ⟨callN fns 0 7, 0⟩ := by show (⟨callN (ds.map Df.fn) 0 7, 0⟩ : G) = _; rw [ds_fns]
  refine ⟨_, [], ⟨[], fun _ => False, fun _ => False⟩, ok0.ok, ?_⟩
  have d1 : den St.g lawC ([Mini.scr ns].map some ++ List.replicate (d_law.N.length - 1) none) [] = .ok (.list (xs.map .int)) [] := by
    rw [g0]
    exact call_of (cons_of (slot_of rfl) n_nil) e0
  rw [d1]
  intro v H1 k1 w1 r1
  refine ⟨big_line (n := 2) (by unfold bigLine; omega), fun p hp => ?_⟩
  have hb : ∃ b ys, v = .ref b ∧ H1 b = some (.lst ys) ∧ ys = xs.map V.int := by
    have r1 : Rep ⟨K, w, []⟩ (fun _ => False) H1 v (.list (xs.map .int)) := r1
    cases r1 with
    | lst _ e rr => exact ⟨_, _, rfl, e, rr.ints (ints_map xs)⟩
  obtain ⟨b, ys, rfl, eb, rfl⟩ := hb
  have hap : a ≠ p ∨ ∃ (o : Obj) (its : Array Value) (n : Nat), K.lookup a = some o ∧ o.cls = .type "list" ∧ o.dict = none ∧ o.data = .seq its n ∧ its.size ≤ sizeLine ∧ Vals (ns.map V.int) its.toList := by
    rcases hS with e | e
    · obtain ⟨o, e2⟩ := rd_ex e
      refine .inl fun z => ?_
      have := k1 a o e2 (fun z => by cases z) (by rcases e with e | ⟨o', e⟩ <;> (rw [e] at e2; cases e2; exact fun ps z => by cases z))
      rw [z, hp] at this
      cases this
    · exact .inr e
  have hS1 : SqL K H1 a (ns.map V.int) := by
    rcases hS with e | e
    · exact .inl (rd_keep (P := fun _ => False) (fun b o e1 n t => k1 b o e1 (fun z => by cases z) t) e (fun z => z) (fun ps z => by cases z))
    · exact .inr e
  have x2 := ext_upd (o := HO.lst [V.ref b, .int 0]) hp
  have hbp : b ≠ p := fun z => by
    rw [z, hp] at eb
    cases eb
  have rs2 : Rep ⟨K, w, [p]⟩ (fun c => c = p) (upd H1 p (.lst [V.ref b, .int 0])) (.ref a) (Mini.scr ns) := by
    refine Rep.scr ?_
    rcases hS1 with e | e
    · rcases hap with q | q
      · refine .inl ⟨q, ?_⟩
        rcases e with e | ⟨o, e⟩
        · exact .inl (x2 _ _ e)
        · exact .inr ⟨o, x2 _ _ e⟩
      · exact .inr q
    · exact .inr e
  have W2 : Wd ⟨K, w, [p]⟩ (Tt K) (fun c => c = p) [[.list (xs.map .int), .int 0]] (upd H1 p (.lst [V.ref b, .int 0])) := by
    refine ⟨by simp, rfl, fun i c dd e1 e2 => ?_, fun c hc => List.mem_singleton.mp hc, fun c hc => ⟨.lst [V.ref b, .int 0], by rw [hc]; exact upd_same, rfl⟩, LamX.Tabs.ext w1.tab x2⟩
    match i, e1, e2 with
    | 0, e1, e2 =>
      cases e1
      cases e2
      exact ⟨_, upd_same, .cons (Rep.lst hbp (x2 _ _ eb) (reps_ints xs)) (.cons (.int 0) .nil)⟩
    | i + 1, e1, _ => simp at e1
  refine ⟨some (Mini.scr ns) :: some (cel 0) :: List.replicate 17 none, [[.list (xs.map .int), .int 0]], ⟨[p], fun c => c = p, fun c => c = p⟩, upd H1 p (.lst [V.ref b, .int 0]), [], ⟨⟨⟨rfl, fun i dd e ho => ?_, fun i dd e ho => (by cases ho), fun i j c dd e h1 => (by cases h1), fun _ z => z, fun c hc => List.mem_singleton.mp hc⟩, W2⟩, Keep.refl, fun c z => .inl z, fun q hq => by cases hq⟩, ?_⟩
  · match i, e with
    | 0, e =>
      cases e
      exact ⟨_, rfl, rs2⟩
    | 1, e =>
      cases e
      exact ⟨_, rfl, Rep.cel rfl⟩
    | i + 2, e =>
      have e : (List.replicate 17 (none : Option D))[i]? = some (some dd) := e
      rw [List.getElem?_replicate] at e
      split at e <;> cases e
  · show postS St [p] (fun c => c = p) (upd H1 p (.lst [V.ref b, .int 0])) [] _ (denSs St.g restC (some (Mini.scr ns) :: some (cel 0) :: List.replicate 17 none) [[.list (xs.map .int), .int 0]])
    have d2 : denSs St.g restC (some (Mini.scr ns) :: some (cel 0) :: List.replicate 17 none) [[.list (xs.map .int), .int 0]] = .ret (.bool true) h' := by
      rw [g0]
      exact eR
    rw [d2]
    intro v H3 k3 w3 r3
    have r3 : Rep ⟨K, w, [p]⟩ (fun c => c = p) H3 v (.bool true) := r3
    cases r3
    exact hQ H3
end
end K00

set_option Elab.async false
set_option linter.all false
set_option maxRecDepth 100000
set_option maxHeartbeats 4000000
/-! k00: the statement. -/
namespace K00
open PySem PySem.Spec PyProof.Rows L2 Mini HeadK
section
variable {w : World} {K : PySem.W.Frag} {h : Heap} {mg : Str → Option Value}
theorem law_fn (S : Said w K h mg) : ∃ fd, (∀ (s : Shared) (u : Value), BindsTo s fd ⟨[u], []⟩ [(("script" : Str), u)]) ∧ ∀ base : Heap, (∀ p ∈ tf.map (He.cT K), LamX.TabB base mg p.1 p.2) → FnG PP w K mg base (L2N.CX PP w) 24 (He.ga K "law") fd ["script"] (spL K) := by
  obtain ⟨fd, F⟩ := S.d.def_ (fn := fn) 38 (d := defD 58 "law") rfl
  refine ⟨fd, fun s u => F.bindsA (ps := ["script"]) (fun kV doc pm an cdv ct us h => match us, h with | [a], _ => by kernel_rfl) s [u] rfl, fun base TB => ?_⟩
  obtain ⟨oc, od, dV, kV, doc, pm, an, cdv, ct, osl, rfl, lk, hcd, hD, hK⟩ := F.ex
  exact fn_ofG (k := 23) lk hcd law_sc (fun vs H Q E h => by obtain ⟨a, ns, rfl, _⟩ := h; rfl) fun A outer s H vs Q E gd hr hsp => law_body S TB (tf_glo S ("law", none) (by decide)).2 lk hcd A outer s H vs Q E gd hr hsp
end
theorem walk {d : DefRec} (hd : d.params.defaults = []) (hn : d.name = "law") (n : Nat) (hm : lw.most = some n) (hn2 : n ≤ sizeLine) : PySem.W.WalkO HeadK.qv HeadK.loose (PySem.W.XL HeadK.qv []) HeadK.hk.says lw.row.toRowW d [] (fun f vs => PySem.call f vs) := by
  refine MiniE.walk_ofTG (k := 24) (x := "script") (CX := fun w => L2N.CX PP w) hm hn2 hd (by constructor <;> decide) (fun w mg fa h Y G hmg => ?_) (fun w H s e s' c => ?_)
  · obtain ⟨K, hK, X⟩ := Y
    have S : Said w K h mg := ⟨hK, G, X.t.d, X.t, X.more⟩
    obtain ⟨fd, hb, hF⟩ := law_fn S
    rw [hn, (tf_glo S ("law", none) (by decide)).2] at hmg
    cases hmg
    refine ⟨K, hK, fd, tf.map (He.cT K), spL K, fun p hp => ?_, fun p hp => ?_, fun p hp => ?_, hb, fun H a ns _ _ hT hS => ⟨a, ns, rfl, hT, hS, fun _ => rfl⟩, fun base _ _ TB => hF base TB⟩
    · obtain ⟨q, hq, rfl⟩ := List.mem_map.mp hp
      exact X.empty q hq
    · obtain ⟨q, hq, rfl⟩ := List.mem_map.mp hp
      exact X.out q hq
    · obtain ⟨q, hq, rfl⟩ := List.mem_map.mp hp
      exact PySem.W.codeHd_of_K hK (X.hd q hq)
  · obtain ⟨_, _, _, _, _, _, _, _, _, _, _, _, z⟩ := c
    exact z
end K00
open PySem PySem.W PySem.Calls PyProof.Rows
theorem PySem.Challenge.cw_stilljoined_k00_whole_tasks_and_what_is_holds : PySem.Challenge.rw_stilljoined_k00_whole_tasks_and_what_is.Holds := by
  w_on; o_law
  refine HandSHeadRun.head_any (r := OpenLaw.row PySem.Challenge.rw_stilljoined_k00_whole_tasks_and_what_is) (q := HeadK.qv) (H := HeadK.hk) (ob := HeadK.ob) (M := 4000) (loose := HeadK.loose) (kwd := []) HeadK.ob_eq (by kernel_rfl) (fun s => by kernel_rfl) HeadK.run (by rfl) (by rfl) (by rfl) (by rfl) (by first | assumption | decide +kernel) (by decide +kernel) ⟨rfl, rfl, rfl, rfl, rfl, by decide +kernel⟩ ?hw ?hc
  case hw => w_witness2
  case hc => exact K00.walk rfl rfl 63 rfl (by decide)

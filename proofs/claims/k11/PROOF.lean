import PyProof.Rows.All
import PySem.Challenge.RW_leastgate_k11_diagrams_by_orders
import PySem.PyData
import PyProof.P3Statements
import PyProof.EqLayable
import KE.SortData
import KE.DataFind
import KE.BitLaws
import KE.OsArith
import HandS.Base
import HandS.Call
import HandS.List
import HandS.Comp
import HandS.Dict
import HandS.Iter
import HandS.Text
import HandS.Words
import HandS.WordsList
import HandS.Flow
import HandS.Deep
import HandS.IsInst
import HandS.AnyAll
import HandS.Walk
import HandS.Conv
import HandS.Style
import HandS.Zip
import HandS.Rev
import HandS.RevRange
import HandS.TupLe
import HandS.TupAny
import HandS.TupMul
import HandS.TupSets
import HandS.Strs
import HandS.TupLen
import KE.DataMinMax
import HandS.WordsDict
import HandS.Codes
import HandS.SetFor
import KE.GoesSet
import HandS.GenOver
import HandS.GenList
import PyProof.TupleOfGen
import HandS.Defaults
import HandS.HeadHook2
import HandS.EndTab
import KE.KNestM
import HandS.Head0
import HandS.Head1
import HandS.Head2
section
set_option Elab.async false
set_option linter.all false
/-! a small language of values, its evaluator -/
namespace Fw
open PySem
abbrev D := PyData

/-! ### values -/
def lim : Nat := 16777216
def truth : D → Option Bool
  | .none => some false
  | .bool b => some b
  | .int i => some (i != 0)
  | .str x => if x.length ≤ lim then some (x.length != 0) else none
  | .list xs => some (!xs.isEmpty)
  | .tuple xs => some (!xs.isEmpty)
  | .dict _ => none
inductive Bop where
  | add | sub | mul | fdiv | mod | pow | shl | shr | band | bor | bxor
  deriving DecidableEq, Repr
inductive Cop where
  | eq | ne | lt | le | gt | ge | isin | notin | is | isnot
  deriving DecidableEq, Repr
def big64 : Int := 18446744073709551616
def small64 (i : Int) : Bool := decide (-big64 < i) && decide (i < big64)
def powOk (i j : Int) : Bool := decide (0 ≤ j) && (decide (j ≤ 1000000) && decide (i.natAbs < 18446744073709551616))
def binI : Bop → Int → Int → Option Int
  | .add, i, j => some (i + j)
  | .sub, i, j => some (i - j)
  | .mul, i, j => if small64 i || small64 j then some (i * j) else none
  | .fdiv, i, j => if j ≠ 0 ∧ j.natAbs < 1073741824 then some (i.fdiv j) else none
  | .mod, i, j => if j ≠ 0 then some (i.fmod j) else none
  | .pow, i, j => if powOk i j then some (i ^ j.toNat) else none
  | .shl, i, j => if powOk i j then some (i * 2 ^ j.toNat) else none
  | .shr, i, j => if 0 ≤ j then some (i / 2 ^ j.toNat) else none
  | .band, i, j => some (Builtin.bitAnd i j)
  | .bor, i, j => some (Builtin.bitOr i j)
  | .bxor, i, j => some (Builtin.bitXor i j)
def repL {α : Type} (xs : List α) : Nat → List α
  | 0 => []
  | n + 1 => xs ++ repL xs n
def binD : Bop → D → D → Option D
  | o, .int i, .int j => (binI o i j).map .int
  | .add, .str x, .str y => if x.length + y.length ≤ lim then some (.str (x ++ y)) else none
  | .add, .list xs, .list ys => if xs.length + ys.length ≤ lim then some (.list (xs ++ ys)) else none
  | .add, .tuple xs, .tuple ys => if xs.length + ys.length ≤ lim then some (.tuple (xs ++ ys)) else none
  | .mul, .list xs, .int k => if 0 ≤ k ∧ k < 9223372036854775808 ∧ xs.length * k.toNat ≤ lim then some (.list (repL xs k.toNat)) else none
  | .mul, .tuple xs, .int k => if xs ≠ [] ∧ 2 ≤ k ∧ k ≤ 1000 ∧ xs.length ≤ 1000 then some (.tuple (repL xs k.toNat)) else none
  | _, _, _ => none
def isD : D → D → Option Bool
  | .none, .none => some true
  | _, .none => some false
  | .bool c, .bool b => some (c == b)
  | _, _ => none
def shp (d : D) : Bool := SeqAt.shaped d
def kget (k : D) : List (D × D) → Option D
  | [] => none
  | kv :: r => if PyData.eqv kv.1 k then some kv.2 else kget k r
def kput (k v : D) (kvs : List (D × D)) : List (D × D) := if kvs.any fun kv => PyData.eqv kv.1 k then kvs.map fun kv => if PyData.eqv kv.1 k then (kv.1, v) else kv else kvs ++ [(k, v)]
/-- a dict as a value: ahead of its pairs whether its keys are tuples -/
def dictV (tk : Bool) (kvs : List (D × D)) : D := .dict ((.none, .bool tk) :: kvs)
def keyA (d : D) : Bool := match d with | .int _ => true | .str _ => true | _ => false
def keyOk (tk : Bool) (d : D) : Bool := if tk then (match d with | .tuple xs => xs.all keyA | _ => false) else keyA d
def dget (k : D) : List (D × D) → Option (Option D)
  | (.none, .bool tk) :: kvs => if keyOk tk k then some (kget k kvs) else none
  | _ => none
def inD (x : D) : D → Option Bool
  | .list ds => if shp x && shp (.list ds) then some (ds.any fun z => PyData.eqv z x) else none
  | .tuple ds => if shp x && shp (.tuple ds) then some (ds.any fun z => PyData.eqv z x) else none
  | .dict kvs => (dget x kvs).map Option.isSome
  | _ => none
def isDict : D → Bool
  | .dict _ => true
  | _ => false
def isTup : D → Bool
  | .tuple _ => true
  | _ => false
def ltD : D → D → Option Bool
  | .int i, .int j => some (decide (i < j))
  | .str x, .str y => some (decide (x.cps.toList < y.cps.toList))
  | x, y => if PySem.W.alike x y && (shp x && shp y) && isTup x then some (PySem.W.dataLt x y) else none
def eqD : D → D → Option Bool
  | .str x, .str y => some (decide (x = y))
  | x, y => if shp x && shp y then some (PyData.eqv x y) else none
def cmpD : Cop → D → D → Option Bool
  | .eq, x, y => eqD x y
  | .ne, x, y => (eqD x y).map not
  | .lt, x, y => ltD x y
  | .gt, .int i, .int j => some (decide (j < i))
  | .gt, _, _ => none
  | .le, .int i, .int j => some (decide (i ≤ j))
  | .le, .str x, .str y => some (!decide (y.cps.toList < x.cps.toList))
  | .le, _, _ => none
  | .ge, .int i, .int j => some (decide (j ≤ i))
  | .ge, _, _ => none
  | .isin, x, y => inD x y
  | .notin, x, y => (inD x y).map not
  | .is, x, y => isD x y
  | .isnot, x, y => (isD x y).map not
def ixOf (n : Nat) (i : Int) : Option Nat := if 0 ≤ i then (if i < n then some i.toNat else none) else if -(n : Int) ≤ i then some (i + n).toNat else none
def atD {α : Type} (xs : List α) (i : Int) : Option α := (ixOf xs.length i).bind fun j => xs[j]?
def idxD : D → D → Option D
  | .list xs, .int i => atD xs i
  | .tuple xs, .int i => atD xs i
  | .str x, .int i => if x.length ≤ lim then (atD x.cps.toList i).map fun c => .str ⟨#[c]⟩ else none
  | .dict kvs, k => (dget k kvs).bind id
  | _, _ => none
def sixD (n d : Nat) : Option Int → Nat
  | none => d
  | some v => if v < 0 then (v + (n : Int)).toNat else min v.toNat n
def cutL {α : Type} (xs : List α) (lo hi : Option Int) : List α := (xs.drop (sixD xs.length 0 lo)).take (sixD xs.length xs.length hi - sixD xs.length 0 lo)
def cutD : D → Option Int → Option Int → Option D
  | .list xs, lo, hi => some (.list (cutL xs lo hi))
  | .tuple xs, lo, hi => some (.tuple (cutL xs lo hi))
  | _, _, _ => none
def lenD : D → Option Nat
  | .str x => if x.length ≤ lim then some x.length else none
  | .list xs => some xs.length
  | .tuple xs => some xs.length
  | .dict (_ :: kvs) => some kvs.length
  | _ => none
/-- what may be walked -/
def itemsD : D → Option (List D)
  | .list xs => some xs
  | .tuple xs => some xs
  | .str x => some (x.cps.toList.map fun c => .str ⟨#[c]⟩)
  | _ => none
def seqD : D → Option (List D)
  | .list xs => some xs
  | .tuple xs => some xs
  | _ => none
def intsOf : List D → Option (List Int)
  | [] => some []
  | .int i :: r => (intsOf r).map (i :: ·)
  | _ :: _ => none
def boolsOf : List D → Option (List Bool)
  | [] => some []
  | .bool i :: r => (boolsOf r).map (i :: ·)
  | _ :: _ => none
def rngL (lo : Int) (n : Nat) : List D := (List.range n).map fun k => .int (lo + (k : Nat))
def rngOk (i : Int) : Bool := decide (-4611686018427387904 ≤ i) && decide (i < 4611686018427387904)
/-- range(..) walked -/
def rangeD : List D → Option (List D)
  | [.int b] => if rngOk b then some (rngL 0 b.toNat) else none
  | [.int a, .int b] => if rngOk a && rngOk b then some (rngL a (b - a).toNat) else none
  | [.int a, .int b, .int (-1)] => if rngOk a && rngOk b then some ((List.range (a - b).toNat).map fun k => .int (a - (k : Nat))) else none
  | _ => none
/-- a list, a tuple of a range -/
def lrgD (tup : Bool) (l : List D) : Option D := if l.length ≤ lim then some (if tup then .tuple l else .list l) else none
def sortable (ds : List D) : Bool := (ds.all fun d => ds.all fun e => PySem.W.alike d e) && ((ds.all fun d => match d with | .tuple (_ :: _) => true | _ => false) || ds.all fun d => match d with | .none => false | .tuple _ => false | _ => true) &&
  decide (ds.length ≤ lim) && ds.all fun d => decide (d.depth ≤ 64)
def minOk (ds : List D) : Bool := (ds.all fun d => ds.all fun e => PySem.W.alike d e) && (ds.all fun d => match d with | .none => false | .list _ => false | .dict _ => false | _ => true) && decide (PyData.depthAll ds ≤ 63)
def sortD (ds : List D) : List D := ds.mergeSort (PySem.W.dataLe false id)
/-- the first one kept of each -/
def dedupA {α : Type} [BEq α] (ds : List α) : List α := ds.foldl (fun acc d => if acc.contains d then acc else acc ++ [d]) []
def insA {α : Type} (le : α → α → Bool) (x : α) : List α → List α
  | [] => [x]
  | y :: r => if le x y then x :: y :: r else y :: insA le x r
/-- sorted, the small ones' way -/
def isort {α : Type} (le : α → α → Bool) : List α → List α
  | [] => []
  | x :: r => insA le x (isort le r)
def tupI (ks : List Int) : D := .tuple (ks.map .int)
def tupIs : List D → Option (List (List Int))
  | [] => some []
  | .tuple xs :: r => (intsOf xs).bind fun ks => (tupIs r).map (ks :: ·)
  | _ :: _ => none
def setI (ds : List D) : Option (List Int) := if ds.length < 4000 then intsOf ds else none
def tupsOk (ks : List (List Int)) : Bool := match ks with
  | [] => false
  | k :: _ => decide (ks.length < 64) && (decide (1 ≤ k.length) && ks.all fun q => q.length == k.length && q.all fun i => decide (0 ≤ i))
def setT (ds : List D) : Option (List (List Int)) := (tupIs ds).bind fun ks => if tupsOk ks then some ks else none
/-- what a set of them has -/
def lenS (ds : List D) : Option Nat := match setI ds with
  | some ns => some (dedupA ns).length
  | none => (setT ds).map fun ks => (dedupA ks).length
def leI (a b : Int) : Bool := decide (a ≤ b)
def leT (a b : List Int) : Bool := decide (a ≤ b)
def sortI (ns : List Int) : Option D := if (dedupA ns).length < 64 then some (.list ((isort leI (dedupA ns)).map .int)) else none
/-- .. sorted -/
def sortS (ds : List D) : Option D := match setI ds with
  | some ns => sortI ns
  | none => (setT ds).map fun ks => .list ((isort leT (dedupA ks)).map tupI)
def flatD : D → Bool
  | .none => true
  | .bool _ => true
  | .int _ => true
  | .str _ => true
  | _ => false
/-- nothing that may be changed lies in it -/
def noList : D → Bool
  | .none => true
  | .bool _ => true
  | .int _ => true
  | .str _ => true
  | .tuple xs => go xs
  | _ => false
where go : List D → Bool
  | [] => true
  | x :: xs => noList x && go xs
def genGo (f : D → Option (List D)) : List D → Option (List D)
  | [] => some []
  | d :: r => (f d).bind fun x => (genGo f r).map (x ++ ·)
/-- all: the walk ends at the first that is not so -/
def allGo (f : D → Option Bool) : List D → Option Bool
  | [] => some true
  | d :: r => (f d).bind fun b => if b then allGo f r else some false
def anyGo (f : D → Option Bool) : List D → Option Bool
  | [] => some false
  | d :: r => (f d).bind fun b => if b then some true else anyGo f r
inductive Blt where
  | len | abs | int | str | list | tuple | sorted | sum | min | max | all | any | lenset | sortset
  deriving DecidableEq, Repr
def bltD : Blt → List D → Option D
  | .len, [x] => (lenD x).map fun n => .int (n : Nat)
  | .abs, [.int i] => some (.int (if i < 0 then -i else i))
  | .int, [.int i] => some (.int i)
  | .int, [.bool b] => some (.int (if b then 1 else 0))
  | .list, [x] => (seqD x).map .list
  | .tuple, [x] => (seqD x).map .tuple
  | .sorted, [.list ds] => if sortable ds then some (.list (sortD ds)) else none
  | .sum, [.list ds] => (intsOf ds).map fun ns => .int ns.sum
  | .all, [.list ds] => (boolsOf ds).map fun bs => .bool (bs.all id)
  | .any, [.list ds] => (boolsOf ds).map fun bs => .bool (bs.any id)
  | .min, [.int i, .int j] => some (.int (if j < i then j else i))
  | .max, [.int i, .int j] => some (.int (if j > i then j else i))
  | .min, [.list (d :: ds)] => if minOk (d :: ds) then some (ds.foldl (fun a y => if PySem.W.dataLt y a then y else a) d) else none
  | .max, [.list (d :: ds)] => if minOk (d :: ds) then some (ds.foldl (fun a y => if PySem.W.dataLt a y then y else a) d) else none
  | .lenset, [.list ds] => (lenS ds).map fun n => .int (n : Nat)
  | .lenset, [.tuple ds] => (setI ds).map fun ns => .int ((dedupA ns).length : Nat)
  | .sortset, [.list ds] => sortS ds
  | .sortset, [.tuple ds] => (setI ds).bind sortI
  | _, _ => none
inductive Mth where
  | index | get1 | get2 | count
  deriving DecidableEq, Repr
def idxFrom (x : D) : List D → Nat → Option Nat
  | [], _ => none
  | d :: r, n => if PyData.eqv d x then some n else idxFrom x r (n + 1)
def mthD : Mth → D → List D → Option D
  | .index, .list ds, [x] => if shp x && shp (.list ds) then (idxFrom x ds 0).map fun n => .int (n : Nat) else none
  | .index, .tuple ds, [x] => if shp x && shp (.tuple ds) then (idxFrom x ds 0).map fun n => .int (n : Nat) else none
  | .count, .list ds, [x] => if ds.all PyData.plain && (x.plain && decide (x.depth ≤ 63)) then some (.int ((ds.countP fun y => PyData.eqv y x : Nat) : Int)) else none
  | .count, .tuple ds, [x] => if ds.all PyData.plain && (x.plain && decide (x.depth ≤ 63)) then some (.int ((ds.countP fun y => PyData.eqv y x : Nat) : Int)) else none
  | .get1, .dict kvs, [k] => (dget k kvs).map fun o => o.getD .none
  | .get2, .dict kvs, [k, d] => (dget k kvs).map fun o => o.getD d
  | _, _, _ => none
inductive Ty where
  | int | bool | str | list | tuple
  deriving DecidableEq, Repr
def isTy : D → Ty → Bool
  | .int _, .int => true
  | .bool _, .int => true
  | .bool _, .bool => true
  | .str _, .str => true
  | .list _, .list => true
  | .tuple _, .tuple => true
  | _, _ => false
/-! ### the language -/
inductive Tg where
  | n (i : Nat)
  | t (is : List Nat)
  deriving Repr
inductive Ck where
  | lst | all | any | sum | tup | sset | lset
  deriving DecidableEq, Repr
inductive E where
  | c (d : D)
  | v (i : Nat)
  | glob (k : Nat)
  | bin (o : Bop) (a b : E)
  | neg (a : E)
  | not (a : E)
  | bo (conj : Bool) (es : List E)
  | cmp (o : Cop) (a b : E)
  | chn (o o' : Cop) (a b c : E)
  | ife (c a b : E)
  | tup (es : List E)
  | lst (es : List E)
  | idx (a i : E)
  | cut (hl hh : Bool) (a lo hi : E)
  | rev (a : E)
  | call (f : Nat) (kf : List Bool) (es : List E)
  | blt (b : Blt) (es : List E)
  | isi (a : E) (ts : List Ty)
  | mth (m : Mth) (o : E) (es : List E)
  | cmpn (k : Ck) (g : E)
  | gen (ow : List Nat) (tg : Tg) (it : E) (ifs : List E) (rest : E)
  | yld (e : E)
  | rng (es : List E)
  | lrg (tup : Bool) (es : List E)
  | enm (a : E)
  | zp (a b : E)
  | rvd (a : E)
inductive S where
  | set (i : Nat) (own : Bool) (e : E)
  | asg (is : List Nat) (e : E)
  | par (i j : Nat) (a b : E)
  | newD (i : Nat) (tk : Bool) (ks vs : List E)
  | newS (i : Nat)
  | app (i : Nat) (e : E)
  | add (i : Nat) (e : E)
  | put (i : Nat) (k e : E)
  | aug (i : Nat) (e : E)
  | ex (e : E)
  | ife (c : E) (a b : List S)
  | for_ (tg : Tg) (it : E) (b : List S)
  | whl (fuel : Nat) (c : E) (b : List S)
  | ret (e : E)
  | retN
  | brk
  | cnt
  | pass
  | never
  | frz (i : Nat)
/-- what a name holds: nothing; a value that stands; one that stands, of the module's own it may be (to be looked at alone); a list, a dict, a set of ints that this name alone holds -/
inductive Slot where
  | un
  | fz (d : D)
  | fk (d : D)
  | ol (xs : List D)
  | od (tk : Bool) (kvs : List (D × D))
  | os (xs : List Int)
abbrev Tau := List Slot
inductive Out where
  | nx (τ : Tau)
  | rt (d : D)
  | bk (τ : Tau)
  | ct (τ : Tau)
abbrev FT := Nat → List D → Option D
def Slot.val : Slot → Option D
  | .fz d => some d
  | .ol xs => some (.list xs)
  | .od tk kvs => some (dictV tk kvs)
  | _ => none
def Slot.own : Slot → Bool
  | .ol _ => true
  | .od _ _ => true
  | .os _ => true
  | _ => false
def isOwned (τ : Tau) : E → Bool
  | .v i => match τ[i]? with | some s => s.own | none => false
  | _ => false
def bindTg : Tg → D → Tau → Option Tau
  | .n i, d, τ => some (τ.set i (.fz d))
  | .t is, .tuple ds, τ => if is.length = ds.length then some ((is.zip ds).foldl (fun τ p => τ.set p.1 (.fz p.2)) τ) else none
  | _, _, _ => none
def Tg.own : Tg → List Nat
  | .n i => [i]
  | .t is => is
def wipeT (τ : Tau) (is : List Nat) : Tau := is.foldl (fun τ i => τ.set i .un) τ
def ckD : Ck → List D → Option D
  | .lst, ds => if ds.length ≤ lim then some (.list ds) else none
  | .tup, ds => if ds.length ≤ lim then some (.tuple ds) else none
  | .sum, ds => (intsOf ds).bind fun ns => if ns.length ≤ lim ∧ ns.all fun i => decide (0 ≤ i) && decide (i < 2147483648) then some (.int ns.sum) else none
  | .sset, ds => sortS ds
  | .lset, ds => (lenS ds).map fun n => .int (n : Nat)
  | _, _ => none
/-- what an expression tells: as a value, as a test, as clauses of a comprehension, as what all and any walk; its name if it is one; whether it makes a list of its own -/
structure Dn where
  val : Tau → Option D
  tst : Tau → Option Bool
  gen : Tau → Option (List D)
  all : Tau → Option Bool
  any : Tau → Option Bool
  kv : Tau → Option D
  nm : Option Nat
def Dn.of (v : Tau → Option D) : Dn where
  val := v
  tst := fun τ => (v τ).bind truth
  gen := fun _ => none
  all := fun _ => none
  any := fun _ => none
  kv := fun _ => none
  nm := none
def Dn.none : Dn := Dn.of fun _ => Option.none
/-- a name's value though it may change, all else as it is -/
def Dn.bor (d : Dn) (τ : Tau) : Option D := match d.nm with
  | some i => τ[i]?.bind Slot.val
  | Option.none => d.val τ
/-- .. or a value of the module's own, to be looked at -/
def Dn.bok (d : Dn) (τ : Tau) : Option D := match d.kv τ with
  | some x => some x
  | Option.none => d.bor τ
/-- a value that stands, of the module's own it may be -/
def Dn.lok (d : Dn) (τ : Tau) : Option D := match d.kv τ with
  | some x => some x
  | Option.none => d.val τ
/-- a slice's part: an int, or left out -/
def Dn.part (h : Bool) (d : Dn) (τ : Tau) : Option (Option Int) := if h then (d.bor τ).bind (fun x => match x with | .int i => some (some i) | _ => Option.none) else some Option.none
def Dn.owns (d : Dn) (τ : Tau) : Bool := match d.nm with
  | some i => (match τ[i]? with | some s => s.own | Option.none => false)
  | Option.none => false
def valsL : List Dn → Tau → Option (List D)
  | [], _ => some []
  | d :: r, τ => (d.val τ).bind fun x => (valsL r τ).map (x :: ·)
def borsL : List Dn → Tau → Option (List D)
  | [], _ => some []
  | d :: r, τ => (d.bor τ).bind fun x => (borsL r τ).map (x :: ·)
/-- arguments: at the marked places what is looked at alone -/
def argsL : List Bool → List Dn → Tau → Option (List D)
  | [], [], _ => some []
  | _ :: _, [], _ => none
  | k :: ks, d :: r, τ => (if k then d.lok τ else d.bor τ).bind fun x => if isDict x then none else (argsL ks r τ).map (x :: ·)
  | [], _ :: _, _ => none
def tstsL : List Dn → Tau → Option Bool
  | [], _ => some true
  | d :: r, τ => (d.tst τ).bind fun b => if b then tstsL r τ else some false
def boT (k : Bool) : List Dn → Tau → Option Bool
  | [], _ => some k
  | d :: r, τ => (d.tst τ).bind fun b => if b == k then boT k r τ else some (!k)
def boV (k : Bool) : List Dn → Tau → Option D
  | [], _ => none
  | d :: r, τ => (d.val τ).bind fun x => match r with
    | [] => some x
    | _ => (truth x).bind fun b => if b == k then boV k r τ else some x
def Cop.isIn : Cop → Bool
  | .isin => true
  | .notin => true
  | _ => false
def cmpT (o : Cop) (a b : Dn) (τ : Tau) : Option Bool := (if o.isIn then a.bor τ else a.bok τ).bind fun x => (b.bok τ).bind fun y => cmpD o x y
def chnT (o o' : Cop) (a b c : Dn) (τ : Tau) : Option Bool := if o.isIn || o'.isIn then none else (a.bok τ).bind fun x => (b.bok τ).bind fun y => (cmpD o x y).bind fun k =>
  if k then (c.bok τ).bind fun z => cmpD o' y z else some false
def enumD (xs : List D) : List D := ((List.range xs.length).zip xs).map fun p => .tuple [.int (p.1 : Nat), p.2]
def clause {α : Type} (ow : List Nat) (tg : Tg) (ifs : List Dn) (off : α) (rest : Tau → Option α) (τ : Tau) (d : D) : Option α :=
  (bindTg tg d (wipeT τ ow)).bind fun τ' => (tstsL ifs τ').bind fun b => if b then rest τ' else some off
def asB : D → Option Bool
  | .bool b => some b
  | _ => none
section
variable (G : Nat → Option D) (F : FT)
mutual
def den : E → Dn
  | .c d => .of fun _ => some d
  | .v i => { Dn.of (fun τ => match τ[i]? with | some (.fz d) => some d | _ => none) with nm := some i, kv := fun τ => (match τ[i]? with | some (.fk d) => some d | _ => none), tst := fun τ => (τ[i]?.bind Slot.val).bind truth }
  | .glob k => { Dn.of (fun _ => (G k).bind fun d => if flatD d then some d else none) with kv := fun _ => G k }
  | .bin o a b => .of fun τ => ((den a).bor τ).bind fun x => ((den b).bor τ).bind fun y => binD o x y
  | .neg a => .of fun τ => ((den a).bor τ).bind fun x => match x with | .int i => some (.int (-i)) | _ => none
  | .not a => { Dn.of (fun τ => (((den a).bor τ).bind truth).map fun b => .bool (!b)) with tst := fun τ => ((den a).tst τ).map not }
  | .bo k es => { Dn.of (fun τ => boV k (dens es) τ) with tst := fun τ => boT k (dens es) τ }
  | .cmp o a b => { Dn.of (fun τ => (cmpT o (den a) (den b) τ).map .bool) with tst := fun τ => cmpT o (den a) (den b) τ }
  | .chn o o' a b c => { Dn.of (fun τ => (chnT o o' (den a) (den b) (den c) τ).map .bool) with tst := fun τ => chnT o o' (den a) (den b) (den c) τ }
  | .ife c a b => { Dn.of (fun τ => ((den c).tst τ).bind fun k => if k then (den a).val τ else (den b).val τ) with tst := fun τ => ((den c).tst τ).bind fun k => if k then (den a).tst τ else (den b).tst τ }
  | .tup es => .of fun τ => (valsL (dens es) τ).bind fun ds => if ds.length ≤ lim then some (.tuple ds) else none
  | .lst es => .of fun τ => (valsL (dens es) τ).bind fun ds => if ds.length ≤ lim then some (.list ds) else none
  | .idx a i => .of fun τ => ((den a).bor τ).bind fun x => ((den i).bor τ).bind fun y => idxD x y
  | .cut hl hh a lo hi => .of fun τ => ((den a).bor τ).bind fun x => ((den lo).part hl τ).bind fun l => ((den hi).part hh τ).bind fun h => cutD x l h
  | .rev a => .of fun τ => ((den a).bor τ).bind fun x => match x with | .list xs => some (.list xs.reverse) | .tuple xs => some (.tuple xs.reverse) | _ => none
  | .call f kf es => .of fun τ => (argsL kf (dens es) τ).bind fun vs => (F f vs).bind fun r => if (dens es).any (·.owns τ) && !noList r then none else some r
  | .blt b es => .of fun τ => (borsL (dens es) τ).bind fun vs => bltD b vs
  | .isi a ts => .of fun τ => ((den a).bor τ).bind fun x => match x with | .dict _ => none | _ => some (.bool (ts.any (isTy x)))
  | .mth m o es => .of fun τ => ((den o).bor τ).bind fun x => (valsL (dens es) τ).bind fun vs => mthD m x vs
  | .cmpn k g => .of fun τ => match k with
    | .all => ((den g).all τ).map .bool
    | .any => ((den g).any τ).map .bool
    | k => ((den g).gen τ).bind fun ds => ckD k ds
  | .gen ow tg it ifs rest => { Dn.none with
      gen := fun τ => ((den it).bor τ).bind fun x => (itemsD x).bind fun ds => genGo (clause ow tg (dens ifs) [] (den rest).gen τ) ds
      all := fun τ => ((den it).bor τ).bind fun x => (itemsD x).bind fun ds => allGo (clause ow tg (dens ifs) true (den rest).all τ) ds
      any := fun τ => ((den it).bor τ).bind fun x => (itemsD x).bind fun ds => anyGo (clause ow tg (dens ifs) false (den rest).any τ) ds }
  | .yld e => { Dn.none with gen := fun τ => ((den e).val τ).map ([·]), all := fun τ => ((den e).val τ).bind asB, any := fun τ => ((den e).val τ).bind asB }
  | .rng es => .of fun τ => (borsL (dens es) τ).bind fun vs => (rangeD vs).map .list
  | .lrg k es => .of fun τ => (borsL (dens es) τ).bind fun vs => (rangeD vs).bind (lrgD k)
  | .enm a => .of fun τ => ((den a).bor τ).bind fun x => (seqD x).map fun xs => .list (enumD xs)
  | .zp a b => .of fun τ => ((den a).bor τ).bind fun x => (seqD x).bind fun xs => ((den b).bor τ).bind fun y => (seqD y).map fun ys => .list ((xs.zip ys).map fun p => .tuple [p.1, p.2])
  | .rvd a => .of fun τ => ((den a).bor τ).bind fun x => (seqD x).map fun xs => .list xs.reverse
def dens : List E → List Dn
  | [] => []
  | e :: r => den e :: dens r
end
/-! ### statements -/
/-- the expressions that make a list of their own -/
def fresh : E → Bool
  | .lst _ => true
  | .cmpn .lst _ => true
  | .bin .add _ _ => true
  | .bin .mul _ _ => true
  | .blt .list _ => true
  | .blt .sorted _ => true
  | .blt .sortset _ => true
  | .cut _ _ _ _ _ => true
  | .rev _ => true
  | .lrg false _ => true
  | _ => false
def mkSlot (fr : Bool) (d : D) : Slot := match fr, d with
  | true, .list xs => .ol xs
  | _, d => .fz d
def addS (xs : List Int) (i : Int) : List Int := if xs.contains i then xs else xs ++ [i]
def seqO (a : Option Out) (k : Tau → Option Out) : Option Out := match a with
  | some (.nx τ) => k τ
  | o => o
def forGo (body : D → Tau → Option Out) : List D → Tau → Option Out
  | [], τ => some (.nx τ)
  | d :: r, τ => match body d τ with
    | some (.nx τ') => forGo body r τ'
    | some (.ct τ') => forGo body r τ'
    | some (.bk τ') => some (.nx τ')
    | o => o
def whlGo (c : Tau → Option Bool) (body : Tau → Option Out) : Nat → Tau → Option Out
  | 0, _ => none
  | n + 1, τ => (c τ).bind fun b => if b then (match body τ with
    | some (.nx τ') => whlGo c body n τ'
    | some (.ct τ') => whlGo c body n τ'
    | some (.bk τ') => some (.nx τ')
    | o => o) else some (.nx τ)
def freeze : Slot → Slot
  | .ol xs => .fz (.list xs)
  | s => s
mutual
def exS : S → Tau → Option Out
  | .set i own e, τ => ((den G F e).val τ).map fun d => .nx (τ.set i (mkSlot (own && fresh e) d))
  | .asg is e, τ => ((den G F e).bor τ).bind fun d => (bindTg (.t is) d τ).map .nx
  | .par i j a b, τ => ((den G F a).val τ).bind fun x => ((den G F b).val τ).map fun y => .nx ((τ.set i (.fz x)).set j (.fz y))
  | .newD i tk ks vs, τ => (valsL (dens G F ks) τ).bind fun kl => (valsL (dens G F vs) τ).bind fun vl => if kl.all (keyOk tk) && decide (kl.length ≤ 15) then some (.nx (τ.set i (.od tk ((kl.zip vl).foldl (fun m p => kput p.1 p.2 m) [])))) else none
  | .newS i, τ => some (.nx (τ.set i (.os [])))
  | .app i e, τ => ((den G F e).val τ).bind fun d => match τ[i]? with
    | some (.ol xs) => if xs.length < lim then some (.nx (τ.set i (.ol (xs ++ [d])))) else none
    | _ => none
  | .add i e, τ => ((den G F e).val τ).bind fun d => match τ[i]?, d with
    | some (.os xs), .int k => if xs.length < 4000 then some (.nx (τ.set i (.os (addS xs k)))) else none
    | _, _ => none
  | .put i k e, τ => ((den G F e).val τ).bind fun d => ((den G F k).val τ).bind fun kd => match τ[i]? with
    | some (.ol xs) => (match kd with
      | .int j => (ixOf xs.length j).map fun n => .nx (τ.set i (.ol (xs.set n d)))
      | _ => none)
    | some (.od tk kvs) => if keyOk tk kd && decide (kvs.length < lim) then some (.nx (τ.set i (.od tk (kput kd d kvs)))) else none
    | _ => none
  | .aug i e, τ => ((den G F e).val τ).bind fun d => match τ[i]?, d with
    | some (.fz (.int a)), .int b => some (.nx (τ.set i (.fz (.int (a + b)))))
    | _, _ => none
  | .ex e, τ => ((den G F e).val τ).map fun _ => .nx τ
  | .ife c a b, τ => ((den G F c).tst τ).bind fun k => if k then exL a τ else exL b τ
  | .for_ tg it b, τ => ((den G F it).val τ).bind fun x => (itemsD x).bind fun ds => forGo (fun d τ => (bindTg tg d τ).bind fun τ' => exL b τ') ds τ
  | .whl n c b, τ => whlGo (den G F c).tst (exL b) n τ
  | .ret e, τ => ((den G F e).val τ).map .rt
  | .retN, _ => some (.rt .none)
  | .brk, τ => some (.bk τ)
  | .cnt, τ => some (.ct τ)
  | .pass, τ => some (.nx τ)
  | .never, _ => none
  | .frz i, τ => some (.nx (match τ[i]? with | some s => τ.set i (freeze s) | none => τ))
def exL : List S → Tau → Option Out
  | [], τ => some (.nx τ)
  | s :: r, τ => seqO (exS s τ) fun τ' => exL r τ'
end
/-- a def: how many names, its body; called with its arguments -/
structure Df where
  kf : List Bool
  nv : Nat
  body : List S
def entA : List Bool → List D → Tau
  | k :: ks, d :: ds => (if k then .fk d else .fz d) :: entA ks ds
  | _, _ => []
def entry (kf : List Bool) (nv : Nat) (args : List D) : Tau := entA kf args ++ List.replicate (nv - args.length) .un
def outV : Out → Option D
  | .rt d => some d
  | .nx _ => some .none
  | _ => none
def Df.run (d : Df) (args : List D) : Option D := if args.length = d.kf.length then (exL G F d.body (entry d.kf d.nv args)).bind outV else none
end
end Fw
end
section
set_option Elab.async false
set_option linter.all false
/-! tuples in the place of lists; the table of defs by levels -/
namespace Fw
open PySem
mutual
/-- tuples in the place of lists -/
def tup : D → D
  | .list xs => .tuple (tups xs)
  | .tuple xs => .tuple (tups xs)
  | .none => .none
  | .bool b => .bool b
  | .int i => .int i
  | .str x => .str x
  | .dict m => .dict m
def tups : List D → List D
  | [] => []
  | x :: r => tup x :: tups r
end
mutual
def sz : D → Nat
  | .list xs => 2 + szs xs
  | .tuple xs => 2 + szs xs
  | .none => 1
  | .bool _ => 1
  | .int _ => 1
  | .str _ => 1
  | .dict _ => 1
def szs : List D → Nat
  | [] => 0
  | x :: r => sz x + szs r
end
mutual
def dpt : D → Nat
  | .list xs => 1 + dpts xs
  | .tuple xs => 1 + dpts xs
  | .none => 0
  | .bool _ => 0
  | .int _ => 0
  | .str _ => 0
  | .dict _ => 0
def dpts : List D → Nat
  | [] => 0
  | x :: r => max (dpt x) (dpts r)
end
/-- what `tupled` tells -/
def tupF : List D → Option D
  | [d] => if decide (sz d ≤ 1000000) && decide (dpt d ≤ 1999) then some (tup d) else none
  | _ => none
/-- the defs' answers at a level, by their bodies -/
def FTI (G0 : Nat → Option D) (irs : List Df) (jt : Nat) (g : List D → Option D) : Nat → FT
  | 0 => fun _ _ => none
  | n + 1 => fun i args => if i = jt then g args else match irs[i]? with
    | some d => d.run G0 (FTI G0 irs jt g n) args
    | none => none
end Fw
end
section
set_option linter.all false
set_option maxRecDepth 100000
namespace Sy
open PySem Fw
section
variable (G : Nat → Option D) (F : FT) (τ : Tau)
@[simp] theorem v_c (d) : (den G F (.c d)).val τ = some d := rfl
@[simp] theorem b_c (d) : (den G F (.c d)).bor τ = some d := rfl
@[simp] theorem k_c (d) : (den G F (.c d)).bok τ = some d := rfl
@[simp] theorem t_c (d) : (den G F (.c d)).tst τ = truth d := rfl
@[simp] theorem v_v (i) : (den G F (.v i)).val τ = match τ[i]? with | some (.fz d) => some d | _ => none := rfl
@[simp] theorem b_v (i) : (den G F (.v i)).bor τ = τ[i]?.bind Slot.val := rfl
@[simp] theorem t_v (i) : (den G F (.v i)).tst τ = (τ[i]?.bind Slot.val).bind truth := rfl
theorem k_v (i) : (den G F (.v i)).bok τ = match (match τ[i]? with | some (.fk d) => some d | _ => none) with | some x => some x | none => τ[i]?.bind Slot.val := rfl
theorem l_v (i) : (den G F (.v i)).lok τ = match (match τ[i]? with | some (.fk d) => some d | _ => none) with | some x => some x | none => (match τ[i]? with | some (.fz d) => some d | _ => none) := rfl
@[simp] theorem v_glob (k) : (den G F (.glob k)).val τ = (G k).bind fun d => if flatD d then some d else none := rfl
@[simp] theorem b_glob (k) : (den G F (.glob k)).bor τ = (G k).bind fun d => if flatD d then some d else none := rfl
@[simp] theorem k_glob (k) : (den G F (.glob k)).bok τ = match G k with | some x => some x | none => ((G k).bind fun d => if flatD d then some d else none) := rfl
@[simp] theorem l_glob (k) : (den G F (.glob k)).lok τ = match G k with | some x => some x | none => ((G k).bind fun d => if flatD d then some d else none) := rfl
@[simp] theorem v_bin (o a b) : (den G F (.bin o a b)).val τ = ((den G F a).bor τ).bind fun x => ((den G F b).bor τ).bind fun y => binD o x y := rfl
@[simp] theorem b_bin (o a b) : (den G F (.bin o a b)).bor τ = ((den G F a).bor τ).bind fun x => ((den G F b).bor τ).bind fun y => binD o x y := rfl
@[simp] theorem k_bin (o a b) : (den G F (.bin o a b)).bok τ = ((den G F a).bor τ).bind fun x => ((den G F b).bor τ).bind fun y => binD o x y := rfl
@[simp] theorem t_bin (o a b) : (den G F (.bin o a b)).tst τ = (((den G F a).bor τ).bind fun x => ((den G F b).bor τ).bind fun y => binD o x y).bind truth := rfl
def negD : D → Option D | .int i => some (.int (-i)) | _ => none
@[simp] theorem v_neg (a) : (den G F (.neg a)).val τ = ((den G F a).bor τ).bind negD := by
  show ((den G F a).bor τ).bind _ = _
  congr 1
@[simp] theorem b_neg (a) : (den G F (.neg a)).bor τ = ((den G F a).bor τ).bind negD := v_neg G F τ a
@[simp] theorem k_neg (a) : (den G F (.neg a)).bok τ = ((den G F a).bor τ).bind negD := v_neg G F τ a
@[simp] theorem v_not (a) : (den G F (.not a)).val τ = (((den G F a).bor τ).bind truth).map fun b => .bool (!b) := rfl
@[simp] theorem b_not (a) : (den G F (.not a)).bor τ = (((den G F a).bor τ).bind truth).map fun b => .bool (!b) := rfl
@[simp] theorem t_not' (a) : (den G F (.not a)).tst τ = ((den G F a).tst τ).map not := rfl
@[simp] theorem v_bo (k es) : (den G F (.bo k es)).val τ = boV k (dens G F es) τ := rfl
@[simp] theorem b_bo (k es) : (den G F (.bo k es)).bor τ = boV k (dens G F es) τ := rfl
@[simp] theorem t_bo (k es) : (den G F (.bo k es)).tst τ = boT k (dens G F es) τ := rfl
@[simp] theorem v_cmp (o a b) : (den G F (.cmp o a b)).val τ = (cmpT o (den G F a) (den G F b) τ).map .bool := rfl
@[simp] theorem b_cmp (o a b) : (den G F (.cmp o a b)).bor τ = (cmpT o (den G F a) (den G F b) τ).map .bool := rfl
@[simp] theorem k_cmp (o a b) : (den G F (.cmp o a b)).bok τ = (cmpT o (den G F a) (den G F b) τ).map .bool := rfl
@[simp] theorem t_cmp' (o a b) : (den G F (.cmp o a b)).tst τ = cmpT o (den G F a) (den G F b) τ := rfl
@[simp] theorem v_chn (o o' a b c) : (den G F (.chn o o' a b c)).val τ = (chnT o o' (den G F a) (den G F b) (den G F c) τ).map .bool := rfl
@[simp] theorem b_chn (o o' a b c) : (den G F (.chn o o' a b c)).bor τ = (chnT o o' (den G F a) (den G F b) (den G F c) τ).map .bool := rfl
@[simp] theorem t_chn' (o o' a b c) : (den G F (.chn o o' a b c)).tst τ = chnT o o' (den G F a) (den G F b) (den G F c) τ := rfl
@[simp] theorem v_ife (c a b) : (den G F (.ife c a b)).val τ = ((den G F c).tst τ).bind fun k => if k then (den G F a).val τ else (den G F b).val τ := rfl
@[simp] theorem b_ife (c a b) : (den G F (.ife c a b)).bor τ = ((den G F c).tst τ).bind fun k => if k then (den G F a).val τ else (den G F b).val τ := rfl
@[simp] theorem k_ife (c a b) : (den G F (.ife c a b)).bok τ = ((den G F c).tst τ).bind fun k => if k then (den G F a).val τ else (den G F b).val τ := rfl
@[simp] theorem t_ife' (c a b) : (den G F (.ife c a b)).tst τ = ((den G F c).tst τ).bind fun k => if k then (den G F a).tst τ else (den G F b).tst τ := rfl
@[simp] theorem v_tup (es) : (den G F (.tup es)).val τ = (valsL (dens G F es) τ).bind fun ds => if ds.length ≤ lim then some (.tuple ds) else none := rfl
@[simp] theorem b_tup (es) : (den G F (.tup es)).bor τ = (valsL (dens G F es) τ).bind fun ds => if ds.length ≤ lim then some (.tuple ds) else none := rfl
@[simp] theorem k_tup (es) : (den G F (.tup es)).bok τ = (valsL (dens G F es) τ).bind fun ds => if ds.length ≤ lim then some (.tuple ds) else none := rfl
@[simp] theorem v_lst (es) : (den G F (.lst es)).val τ = (valsL (dens G F es) τ).bind fun ds => if ds.length ≤ lim then some (.list ds) else none := rfl
@[simp] theorem b_lst (es) : (den G F (.lst es)).bor τ = (valsL (dens G F es) τ).bind fun ds => if ds.length ≤ lim then some (.list ds) else none := rfl
@[simp] theorem k_lst (es) : (den G F (.lst es)).bok τ = (valsL (dens G F es) τ).bind fun ds => if ds.length ≤ lim then some (.list ds) else none := rfl
@[simp] theorem v_idx (a i) : (den G F (.idx a i)).val τ = ((den G F a).bor τ).bind fun x => ((den G F i).bor τ).bind fun y => idxD x y := rfl
@[simp] theorem b_idx (a i) : (den G F (.idx a i)).bor τ = ((den G F a).bor τ).bind fun x => ((den G F i).bor τ).bind fun y => idxD x y := rfl
@[simp] theorem k_idx (a i) : (den G F (.idx a i)).bok τ = ((den G F a).bor τ).bind fun x => ((den G F i).bor τ).bind fun y => idxD x y := rfl
@[simp] theorem t_idx (a i) : (den G F (.idx a i)).tst τ = (((den G F a).bor τ).bind fun x => ((den G F i).bor τ).bind fun y => idxD x y).bind truth := rfl
@[simp] theorem v_cut (hl hh a lo hi) : (den G F (.cut hl hh a lo hi)).val τ = ((den G F a).bor τ).bind fun x => ((den G F lo).part hl τ).bind fun l => ((den G F hi).part hh τ).bind fun h => cutD x l h := rfl
@[simp] theorem b_cut (hl hh a lo hi) : (den G F (.cut hl hh a lo hi)).bor τ = ((den G F a).bor τ).bind fun x => ((den G F lo).part hl τ).bind fun l => ((den G F hi).part hh τ).bind fun h => cutD x l h := rfl
@[simp] theorem p_no (d : Dn) : d.part false τ = some none := rfl
def asI : D → Option (Option Int) | .int i => some (some i) | _ => none
@[simp] theorem p_yes (d : Dn) : d.part true τ = (d.bor τ).bind asI := by
  show (d.bor τ).bind _ = _
  congr 1
def revD : D → Option D | .list xs => some (.list xs.reverse) | .tuple xs => some (.tuple xs.reverse) | _ => none
@[simp] theorem v_rev (a) : (den G F (.rev a)).val τ = ((den G F a).bor τ).bind revD := by
  show ((den G F a).bor τ).bind _ = _
  congr 1
@[simp] theorem b_rev (a) : (den G F (.rev a)).bor τ = ((den G F a).bor τ).bind revD := v_rev G F τ a
def callV (f : Nat) (kf : List Bool) (ds : List Dn) : Option D := (argsL kf ds τ).bind fun vs => (F f vs).bind fun r => if ds.any (·.owns τ) && !noList r then none else some r
@[simp] theorem v_call (f kf es) : (den G F (.call f kf es)).val τ = callV F τ f kf (dens G F es) := rfl
@[simp] theorem b_call (f kf es) : (den G F (.call f kf es)).bor τ = callV F τ f kf (dens G F es) := rfl
@[simp] theorem k_call (f kf es) : (den G F (.call f kf es)).bok τ = callV F τ f kf (dens G F es) := rfl
@[simp] theorem t_call (f kf es) : (den G F (.call f kf es)).tst τ = (callV F τ f kf (dens G F es)).bind truth := rfl
@[simp] theorem v_blt (b es) : (den G F (.blt b es)).val τ = (borsL (dens G F es) τ).bind fun vs => bltD b vs := rfl
@[simp] theorem b_blt (b es) : (den G F (.blt b es)).bor τ = (borsL (dens G F es) τ).bind fun vs => bltD b vs := rfl
@[simp] theorem k_blt (b es) : (den G F (.blt b es)).bok τ = (borsL (dens G F es) τ).bind fun vs => bltD b vs := rfl
@[simp] theorem t_blt (b es) : (den G F (.blt b es)).tst τ = ((borsL (dens G F es) τ).bind fun vs => bltD b vs).bind truth := rfl
def isiV (ts : List Ty) (x : D) : Option D := match x with | .dict _ => none | _ => some (.bool (ts.any (isTy x)))
@[simp] theorem v_isi (a ts) : (den G F (.isi a ts)).val τ = ((den G F a).bor τ).bind (isiV ts) := rfl
@[simp] theorem b_isi (a ts) : (den G F (.isi a ts)).bor τ = ((den G F a).bor τ).bind (isiV ts) := rfl
@[simp] theorem t_isi (a ts) : (den G F (.isi a ts)).tst τ = (((den G F a).bor τ).bind (isiV ts)).bind truth := rfl
@[simp] theorem k_isi (a ts) : (den G F (.isi a ts)).bok τ = ((den G F a).bor τ).bind (isiV ts) := rfl
@[simp] theorem v_mth (m o es) : (den G F (.mth m o es)).val τ = ((den G F o).bor τ).bind fun x => (valsL (dens G F es) τ).bind fun vs => mthD m x vs := rfl
@[simp] theorem b_mth (m o es) : (den G F (.mth m o es)).bor τ = ((den G F o).bor τ).bind fun x => (valsL (dens G F es) τ).bind fun vs => mthD m x vs := rfl
@[simp] theorem k_mth (m o es) : (den G F (.mth m o es)).bok τ = ((den G F o).bor τ).bind fun x => (valsL (dens G F es) τ).bind fun vs => mthD m x vs := rfl
@[simp] theorem v_cl (g) : (den G F (.cmpn .lst g)).val τ = ((den G F g).gen τ).bind (ckD .lst) := rfl
@[simp] theorem b_cl (g) : (den G F (.cmpn .lst g)).bor τ = ((den G F g).gen τ).bind (ckD .lst) := rfl
@[simp] theorem k_cl (g) : (den G F (.cmpn .lst g)).bok τ = ((den G F g).gen τ).bind (ckD .lst) := rfl
@[simp] theorem v_cs (g) : (den G F (.cmpn .sset g)).val τ = ((den G F g).gen τ).bind (ckD .sset) := rfl
@[simp] theorem b_cs (g) : (den G F (.cmpn .sset g)).bor τ = ((den G F g).gen τ).bind (ckD .sset) := rfl
@[simp] theorem v_cn (g) : (den G F (.cmpn .lset g)).val τ = ((den G F g).gen τ).bind (ckD .lset) := rfl
@[simp] theorem b_cn (g) : (den G F (.cmpn .lset g)).bor τ = ((den G F g).gen τ).bind (ckD .lset) := rfl
@[simp] theorem v_ct (g) : (den G F (.cmpn .tup g)).val τ = ((den G F g).gen τ).bind (ckD .tup) := rfl
@[simp] theorem b_ct (g) : (den G F (.cmpn .tup g)).bor τ = ((den G F g).gen τ).bind (ckD .tup) := rfl
@[simp] theorem v_csum (g) : (den G F (.cmpn .sum g)).val τ = ((den G F g).gen τ).bind (ckD .sum) := rfl
@[simp] theorem b_csum (g) : (den G F (.cmpn .sum g)).bor τ = ((den G F g).gen τ).bind (ckD .sum) := rfl
@[simp] theorem v_ca (g) : (den G F (.cmpn .all g)).val τ = ((den G F g).all τ).map .bool := rfl
@[simp] theorem b_ca (g) : (den G F (.cmpn .all g)).bor τ = ((den G F g).all τ).map .bool := rfl
theorem bt_bool (o : Option Bool) : (o.map PyData.bool).bind truth = o := by cases o <;> rfl
@[simp] theorem t_ca (g) : (den G F (.cmpn .all g)).tst τ = (den G F g).all τ := bt_bool _
@[simp] theorem v_cy (g) : (den G F (.cmpn .any g)).val τ = ((den G F g).any τ).map .bool := rfl
@[simp] theorem b_cy (g) : (den G F (.cmpn .any g)).bor τ = ((den G F g).any τ).map .bool := rfl
@[simp] theorem t_cy (g) : (den G F (.cmpn .any g)).tst τ = (den G F g).any τ := bt_bool _
@[simp] theorem g_gen (ow tg it ifs rest) : (den G F (.gen ow tg it ifs rest)).gen τ = ((den G F it).bor τ).bind fun x => (itemsD x).bind fun ds => genGo (clause ow tg (dens G F ifs) [] (den G F rest).gen τ) ds := rfl
@[simp] theorem g_all (ow tg it ifs rest) : (den G F (.gen ow tg it ifs rest)).all τ = ((den G F it).bor τ).bind fun x => (itemsD x).bind fun ds => allGo (clause ow tg (dens G F ifs) true (den G F rest).all τ) ds := rfl
@[simp] theorem g_any (ow tg it ifs rest) : (den G F (.gen ow tg it ifs rest)).any τ = ((den G F it).bor τ).bind fun x => (itemsD x).bind fun ds => anyGo (clause ow tg (dens G F ifs) false (den G F rest).any τ) ds := rfl
@[simp] theorem y_gen (e) : (den G F (.yld e)).gen τ = ((den G F e).val τ).map ([·]) := rfl
@[simp] theorem y_all (e) : (den G F (.yld e)).all τ = ((den G F e).val τ).bind asB := rfl
@[simp] theorem y_any (e) : (den G F (.yld e)).any τ = ((den G F e).val τ).bind asB := rfl
@[simp] theorem v_rng (es) : (den G F (.rng es)).val τ = (borsL (dens G F es) τ).bind fun vs => (rangeD vs).map .list := rfl
@[simp] theorem b_rng (es) : (den G F (.rng es)).bor τ = (borsL (dens G F es) τ).bind fun vs => (rangeD vs).map .list := rfl
@[simp] theorem v_lrg (k es) : (den G F (.lrg k es)).val τ = (borsL (dens G F es) τ).bind fun vs => (rangeD vs).bind (lrgD k) := rfl
@[simp] theorem b_lrg (k es) : (den G F (.lrg k es)).bor τ = (borsL (dens G F es) τ).bind fun vs => (rangeD vs).bind (lrgD k) := rfl
@[simp] theorem dens_nil : dens G F [] = [] := rfl
@[simp] theorem dens_cons (e r) : dens G F (e :: r) = den G F e :: dens G F r := rfl
@[simp] theorem valsL_nil : valsL [] τ = some [] := rfl
@[simp] theorem valsL_cons' (d r) : valsL (d :: r) τ = (d.val τ).bind fun x => (valsL r τ).map (x :: ·) := rfl
@[simp] theorem borsL_nil : borsL [] τ = some [] := rfl
@[simp] theorem borsL_cons' (d r) : borsL (d :: r) τ = (d.bor τ).bind fun x => (borsL r τ).map (x :: ·) := rfl
@[simp] theorem tstsL_nil : tstsL [] τ = some true := rfl
@[simp] theorem tstsL_cons' (d r) : tstsL (d :: r) τ = (d.tst τ).bind fun b => if b then tstsL r τ else some false := rfl
@[simp] theorem boT_nil (k) : boT k [] τ = some k := rfl
@[simp] theorem boT_cons (k d r) : boT k (d :: r) τ = (d.tst τ).bind fun b => if b == k then boT k r τ else some (!k) := rfl
@[simp] theorem boV_one (k d) : boV k [d] τ = d.val τ := by
  show (d.val τ).bind (fun x => some x) = _
  cases d.val τ <;> rfl
@[simp] theorem boV_cons (k d e r) : boV k (d :: e :: r) τ = (d.val τ).bind fun x => (truth x).bind fun b => if b == k then boV k (e :: r) τ else some x := rfl
@[simp] theorem argsL_nil : argsL [] [] τ = some [] := rfl
@[simp] theorem argsL_f (ks d r) : argsL (false :: ks) (d :: r) τ = (d.bor τ).bind fun x => if isDict x then none else (argsL ks r τ).map (x :: ·) := rfl
@[simp] theorem argsL_t (ks d r) : argsL (true :: ks) (d :: r) τ = (d.lok τ).bind fun x => if isDict x then none else (argsL ks r τ).map (x :: ·) := rfl
@[simp] theorem ow_c (d) : (den G F (.c d)).owns τ = false := rfl
@[simp] theorem ow_glob (k) : (den G F (.glob k)).owns τ = false := rfl
@[simp] theorem ow_bin (o a b) : (den G F (.bin o a b)).owns τ = false := rfl
@[simp] theorem ow_neg (a) : (den G F (.neg a)).owns τ = false := rfl
@[simp] theorem ow_not (a) : (den G F (.not a)).owns τ = false := rfl
@[simp] theorem ow_bo (k es) : (den G F (.bo k es)).owns τ = false := rfl
@[simp] theorem ow_cmp (o a b) : (den G F (.cmp o a b)).owns τ = false := rfl
@[simp] theorem ow_chn (o o' a b c) : (den G F (.chn o o' a b c)).owns τ = false := rfl
@[simp] theorem ow_ife (c a b) : (den G F (.ife c a b)).owns τ = false := rfl
@[simp] theorem ow_tup (es) : (den G F (.tup es)).owns τ = false := rfl
@[simp] theorem ow_lst (es) : (den G F (.lst es)).owns τ = false := rfl
@[simp] theorem ow_idx (a i) : (den G F (.idx a i)).owns τ = false := rfl
@[simp] theorem ow_cut (hl hh a lo hi) : (den G F (.cut hl hh a lo hi)).owns τ = false := rfl
@[simp] theorem ow_rev (a) : (den G F (.rev a)).owns τ = false := rfl
@[simp] theorem ow_call (f kf es) : (den G F (.call f kf es)).owns τ = false := rfl
@[simp] theorem ow_blt (b es) : (den G F (.blt b es)).owns τ = false := rfl
@[simp] theorem ow_isi (a ts) : (den G F (.isi a ts)).owns τ = false := rfl
@[simp] theorem ow_mth (m o es) : (den G F (.mth m o es)).owns τ = false := rfl
@[simp] theorem ow_cmpn (k g) : (den G F (.cmpn k g)).owns τ = false := rfl
@[simp] theorem ow_lrg (k es) : (den G F (.lrg k es)).owns τ = false := rfl
@[simp] theorem ow_v (i) : (den G F (.v i)).owns τ = (match τ[i]? with | some s => s.own | none => false) := rfl
/-! statements -/
@[simp] theorem x_nil : exL G F [] τ = some (.nx τ) := rfl
@[simp] theorem x_cons (s r) : exL G F (s :: r) τ = seqO (exS G F s τ) fun τ' => exL G F r τ' := rfl
@[simp] theorem x_set (i own e) : exS G F (.set i own e) τ = ((den G F e).val τ).map fun d => .nx (τ.set i (mkSlot (own && fresh e) d)) := rfl
@[simp] theorem x_asg (is e) : exS G F (.asg is e) τ = ((den G F e).bor τ).bind fun d => (bindTg (.t is) d τ).map .nx := rfl
@[simp] theorem x_par (i j a b) : exS G F (.par i j a b) τ = ((den G F a).val τ).bind fun x => ((den G F b).val τ).map fun y => .nx ((τ.set i (.fz x)).set j (.fz y)) := rfl
@[simp] theorem x_app (i e) : exS G F (.app i e) τ = ((den G F e).val τ).bind fun d => match τ[i]? with
    | some (.ol xs) => if xs.length < lim then some (.nx (τ.set i (.ol (xs ++ [d])))) else none
    | _ => none := rfl
@[simp] theorem x_aug (i e) : exS G F (.aug i e) τ = ((den G F e).val τ).bind fun d => match τ[i]?, d with
    | some (.fz (.int a)), .int b => some (.nx (τ.set i (.fz (.int (a + b)))))
    | _, _ => none := rfl
@[simp] theorem x_ex (e) : exS G F (.ex e) τ = ((den G F e).val τ).map fun _ => .nx τ := rfl
@[simp] theorem x_ife (c a b) : exS G F (.ife c a b) τ = ((den G F c).tst τ).bind fun k => if k then exL G F a τ else exL G F b τ := rfl
/-- a loop, not to be looked into -/
def forS (tg : Tg) (b : List S) (ds : List D) (τ : Tau) : Option Out := forGo (fun d τ => (bindTg tg d τ).bind fun τ' => exL G F b τ') ds τ
@[simp] theorem x_for (tg it b) : exS G F (.for_ tg it b) τ = ((den G F it).val τ).bind fun x => (itemsD x).bind fun ds => forS G F tg b ds τ := rfl
def whlS (n : Nat) (c : E) (b : List S) (τ : Tau) : Option Out := whlGo (den G F c).tst (exL G F b) n τ
@[simp] theorem x_whl (n c b) : exS G F (.whl n c b) τ = whlS G F n c b τ := rfl
@[simp] theorem x_ret (e) : exS G F (.ret e) τ = ((den G F e).val τ).map .rt := rfl
@[simp] theorem x_retN : exS G F .retN τ = some (.rt .none) := rfl
@[simp] theorem x_brk : exS G F .brk τ = some (.bk τ) := rfl
@[simp] theorem x_cnt : exS G F .cnt τ = some (.ct τ) := rfl
@[simp] theorem x_pass : exS G F .pass τ = some (.nx τ) := rfl
@[simp] theorem x_never : exS G F .never τ = none := rfl
@[simp] theorem x_frz (i) : exS G F (.frz i) τ = some (.nx (match τ[i]? with | some s => τ.set i (freeze s) | none => τ)) := rfl
@[simp] theorem x_newD (i tk ks vs) : exS G F (.newD i tk ks vs) τ = (valsL (dens G F ks) τ).bind fun kl => (valsL (dens G F vs) τ).bind fun vl => if kl.all (keyOk tk) && decide (kl.length ≤ 15) then some (.nx (τ.set i (.od tk ((kl.zip vl).foldl (fun m p => kput p.1 p.2 m) [])))) else none := rfl
@[simp] theorem x_put (i k e) : exS G F (.put i k e) τ = ((den G F e).val τ).bind fun d => ((den G F k).val τ).bind fun kd => match τ[i]? with
    | some (.ol xs) => (match kd with
      | .int j => (ixOf xs.length j).map fun n => .nx (τ.set i (.ol (xs.set n d)))
      | _ => none)
    | some (.od tk kvs) => if keyOk tk kd && decide (kvs.length < lim) then some (.nx (τ.set i (.od tk (kput kd d kvs)))) else none
    | _ => none := rfl
@[simp] theorem seq_nx (τ k) : seqO (some (.nx τ)) k = k τ := rfl
@[simp] theorem seq_rt (d k) : seqO (some (.rt d)) k = some (.rt d) := rfl
@[simp] theorem seq_bk (d k) : seqO (some (.bk d)) k = some (.bk d) := rfl
@[simp] theorem seq_ct (d k) : seqO (some (.ct d)) k = some (.ct d) := rfl
@[simp] theorem seq_none (k) : seqO none k = none := rfl
@[simp] theorem out_rt (d) : outV (.rt d) = some d := rfl
@[simp] theorem out_nx (τ) : outV (.nx τ) = some .none := rfl
@[simp] theorem val_fz (d) : Slot.val (.fz d) = some d := rfl
@[simp] theorem val_ol (d) : Slot.val (.ol d) = some (.list d) := rfl
@[simp] theorem val_od (k d) : Slot.val (.od k d) = some (dictV k d) := rfl
@[simp] theorem own_fz (d) : Slot.own (.fz d) = false := rfl
@[simp] theorem own_ol (d) : Slot.own (.ol d) = true := rfl
@[simp] theorem own_od (k d) : Slot.own (.od k d) = true := rfl
@[simp] theorem frz_fz (d) : freeze (.fz d) = .fz d := rfl
@[simp] theorem frz_ol (d) : freeze (.ol d) = .fz (.list d) := rfl
@[simp] theorem truth_bool (b) : truth (.bool b) = some b := rfl
@[simp] theorem truth_int (b) : truth (.int b) = some (b != 0) := rfl
@[simp] theorem truth_list (b) : truth (.list b) = some (!b.isEmpty) := rfl
@[simp] theorem truth_tuple (b) : truth (.tuple b) = some (!b.isEmpty) := rfl
@[simp] theorem truth_none : truth .none = some false := rfl
@[simp] theorem asB_bool (b) : asB (.bool b) = some b := rfl
@[simp] theorem isDict_int (b) : isDict (.int b) = false := rfl
@[simp] theorem isDict_bool (b) : isDict (.bool b) = false := rfl
@[simp] theorem isDict_str (b) : isDict (.str b) = false := rfl
@[simp] theorem isDict_list (b) : isDict (.list b) = false := rfl
@[simp] theorem isDict_tuple (b) : isDict (.tuple b) = false := rfl
@[simp] theorem isDict_none : isDict .none = false := rfl
@[simp] theorem noList_int (b) : noList (.int b) = true := rfl
@[simp] theorem noList_bool (b) : noList (.bool b) = true := rfl
@[simp] theorem noList_str (b) : noList (.str b) = true := rfl
@[simp] theorem noList_none : noList .none = true := rfl
@[simp] theorem mk_t (xs) : mkSlot true (.list xs) = .ol xs := rfl
@[simp] theorem mk_f (d) : mkSlot false d = .fz d := rfl
@[simp] theorem asI_int (b) : asI (.int b) = some (some b) := rfl
@[simp] theorem negD_int (b) : negD (.int b) = some (.int (-b)) := rfl
@[simp] theorem fresh_lst (es) : Fw.fresh (.lst es) = true := rfl
@[simp] theorem fresh_cl (g) : Fw.fresh (.cmpn .lst g) = true := rfl
@[simp] theorem fresh_add (a b) : Fw.fresh (.bin .add a b) = true := rfl
@[simp] theorem fresh_mul (a b) : Fw.fresh (.bin .mul a b) = true := rfl
@[simp] theorem fresh_list (a) : Fw.fresh (.blt .list a) = true := rfl
@[simp] theorem fresh_sorted (a) : Fw.fresh (.blt .sorted a) = true := rfl
@[simp] theorem fresh_sortset (a) : Fw.fresh (.blt .sortset a) = true := rfl
@[simp] theorem fresh_cut (a b c d e) : Fw.fresh (.cut a b c d e) = true := rfl
@[simp] theorem fresh_rev (a) : Fw.fresh (.rev a) = true := rfl
@[simp] theorem seqD_list (b) : seqD (.list b) = some b := rfl
@[simp] theorem seqD_tuple (b) : seqD (.tuple b) = some b := rfl
@[simp] theorem itemsD_list (b) : itemsD (.list b) = some b := rfl
@[simp] theorem itemsD_tuple (b) : itemsD (.tuple b) = some b := rfl
@[simp] theorem lenD_list (b) : lenD (.list b) = some b.length := rfl
@[simp] theorem lenD_tuple (b) : lenD (.tuple b) = some b.length := rfl
end
end Sy
end
section
set_option Elab.async false
set_option linter.all false
set_option maxRecDepth 100000
namespace Sy
open PySem Fw
/-! ### ints -/
theorem powOk_nat {a b : Nat} (ha : a < 18446744073709551616) (hb : b ≤ 1000000) : powOk (a : Int) (b : Int) = true := by
  unfold powOk
  simp only [Bool.and_eq_true, decide_eq_true_eq]
  omega
theorem shl_nat {a b : Nat} (ha : a < 18446744073709551616) (hb : b ≤ 1000000) : binD .shl (.int (a : Nat)) (.int (b : Nat)) = some (.int ((a * 2 ^ b : Nat) : Int)) := by
  show (if powOk (a : Int) (b : Int) then some ((a : Int) * 2 ^ (b : Int).toNat) else none).map PyData.int = _
  rw [powOk_nat ha hb, if_pos rfl]
  simp
theorem shl_one {b : Nat} (hb : b ≤ 1000000) : binD .shl (.int 1) (.int (b : Nat)) = some (.int ((2 ^ b : Nat) : Int)) := by
  have := shl_nat (a := 1) (b := b) (by decide) hb
  rw [Nat.one_mul] at this
  exact this
theorem shr_nat {a b : Nat} : binD .shr (.int (a : Nat)) (.int (b : Nat)) = some (.int ((a / 2 ^ b : Nat) : Int)) := by
  show (if 0 ≤ (b : Int) then some ((a : Int) / 2 ^ (b : Int).toNat) else none).map PyData.int = _
  rw [if_pos (by omega)]
  simp
theorem and_nat {a b : Nat} : binD .band (.int (a : Nat)) (.int (b : Nat)) = some (.int ((a &&& b : Nat) : Int)) := by
  show some (PyData.int (Builtin.bitAnd (a : Int) (b : Int))) = _
  rfl
theorem and_one {a : Nat} : binD .band (.int (a : Nat)) (.int 1) = some (.int ((a % 2 : Nat) : Int)) := by
  show some (PyData.int (Builtin.bitAnd (a : Int) 1)) = _
  rw [PyProof.Rows.bitAnd_m1]; simp
theorem bitOr_nat {a b : Nat} : Builtin.bitOr (a : Int) (b : Int) = ((a ||| b : Nat) : Int) := by
  unfold Builtin.bitOr Builtin.bitAnd
  have h1 : ¬ (0 : Int) ≤ Builtin.bitNot (a : Int) := by simp [Builtin.bitNot]; omega
  have h2 : ¬ (0 : Int) ≤ Builtin.bitNot (b : Int) := by simp [Builtin.bitNot]; omega
  simp only [decide_eq_false h1, decide_eq_false h2]
  simp [Builtin.bitNot]
  have e1 : ∀ x : Nat, (-(-(x : Int) - 1)).toNat - 1 = x := by intro x; omega
  rw [e1, e1]
  omega
theorem or_nat {a b : Nat} : binD .bor (.int (a : Nat)) (.int (b : Nat)) = some (.int ((a ||| b : Nat) : Int)) := by
  show some (PyData.int (Builtin.bitOr (a : Int) (b : Int))) = _
  rw [bitOr_nat]
theorem or_xor_and : ∀ (a b : Nat), a ||| b = (a ^^^ b) + (a &&& b) := by
  intro a
  induction a using Nat.strongRecOn with
  | ind a ih =>
    intro b
    by_cases h0 : a = 0
    · subst h0; simp
    have h1 := ih (a / 2) (by omega) (b / 2)
    have e1 := Nat.or_div_two (a := a) (b := b)
    have e2 := Nat.xor_div_two (a := a) (b := b)
    have e3 := Nat.and_div_two (a := a) (b := b)
    have m1 := Nat.or_mod_two_pow (a := a) (b := b) (n := 1)
    have m2 := Nat.xor_mod_two_pow (a := a) (b := b) (n := 1)
    have m3 := Nat.and_mod_two_pow (a := a) (b := b) (n := 1)
    rw [Nat.pow_one] at m1 m2 m3
    have ha : a % 2 = 0 ∨ a % 2 = 1 := by omega
    have hb : b % 2 = 0 ∨ b % 2 = 1 := by omega
    have k : (a ||| b) % 2 = (a ^^^ b) % 2 + (a &&& b) % 2 := by
      rw [m1, m2, m3]
      rcases ha with ha | ha <;> rcases hb with hb | hb <;> rw [ha, hb] <;> decide
    rw [← e1, ← e2, ← e3] at h1
    omega
theorem xor_nat {a b : Nat} : binD .bxor (.int (a : Nat)) (.int (b : Nat)) = some (.int ((a ^^^ b : Nat) : Int)) := by
  show some (PyData.int (Builtin.bitOr (a : Int) (b : Int) - Builtin.bitAnd (a : Int) (b : Int))) = _
  rw [bitOr_nat]
  have : Builtin.bitAnd (a : Int) (b : Int) = ((a &&& b : Nat) : Int) := rfl
  rw [this, or_xor_and]
  simp
theorem add_int {a b : Int} : binD .add (.int a) (.int b) = some (.int (a + b)) := rfl
theorem sub_int {a b : Int} : binD .sub (.int a) (.int b) = some (.int (a - b)) := rfl
theorem add_nat {a b : Nat} : binD .add (.int (a : Nat)) (.int (b : Nat)) = some (.int ((a + b : Nat) : Int)) := by rw [add_int]; simp
theorem sub_nat {a b : Nat} (h : b ≤ a) : binD .sub (.int (a : Nat)) (.int (b : Nat)) = some (.int ((a - b : Nat) : Int)) := by rw [sub_int]; congr 2; omega
theorem mul_nat {a b : Nat} (h : a < 18446744073709551616) : binD .mul (.int (a : Nat)) (.int (b : Nat)) = some (.int ((a * b : Nat) : Int)) := by
  show (if small64 (a : Int) || small64 (b : Int) then some ((a : Int) * (b : Int)) else none).map PyData.int = _
  have : small64 (a : Int) = true := by unfold small64 big64; simp only [Bool.and_eq_true, decide_eq_true_eq]; omega
  rw [this]
  simp
theorem mul_int {a b : Int} (h : small64 a = true) : binD .mul (.int a) (.int b) = some (.int (a * b)) := by
  show (if small64 a || small64 b then some (a * b) else none).map PyData.int = _
  rw [h]; rfl
theorem fdiv_nat {a b : Nat} (h : 0 < b) (h2 : b < 1073741824) : binD .fdiv (.int (a : Nat)) (.int (b : Nat)) = some (.int ((a / b : Nat) : Int)) := by
  show (if (b : Int) ≠ 0 ∧ (b : Int).natAbs < 1073741824 then some ((a : Int).fdiv (b : Int)) else none).map PyData.int = _
  rw [if_pos (by constructor <;> omega), Int.fdiv_eq_ediv_of_nonneg _ (by omega)]
  simp
theorem fdiv_int {a : Int} {b : Nat} (h : 0 < b) (h2 : b < 1073741824) : binD .fdiv (.int a) (.int (b : Nat)) = some (.int (a / (b : Int))) := by
  show (if (b : Int) ≠ 0 ∧ (b : Int).natAbs < 1073741824 then some (a.fdiv (b : Int)) else none).map PyData.int = _
  rw [if_pos (by constructor <;> omega), Int.fdiv_eq_ediv_of_nonneg _ (by omega)]
  rfl
theorem mod_int {a : Int} {b : Nat} (h : 0 < b) : binD .mod (.int a) (.int (b : Nat)) = some (.int (a % (b : Int))) := by
  show (if (b : Int) ≠ 0 then some (a.fmod (b : Int)) else none).map PyData.int = _
  rw [if_pos (by omega), Int.fmod_eq_emod_of_nonneg _ (by omega)]
  rfl
theorem mod_nat {a b : Nat} (h : 0 < b) : binD .mod (.int (a : Nat)) (.int (b : Nat)) = some (.int ((a % b : Nat) : Int)) := by
  rw [mod_int h]; simp
theorem le_int {a b : Int} : cmpD .le (.int a) (.int b) = some (decide (a ≤ b)) := rfl
theorem lt_int {a b : Int} : cmpD .lt (.int a) (.int b) = some (decide (a < b)) := rfl
theorem ge_int {a b : Int} : cmpD .ge (.int a) (.int b) = some (decide (b ≤ a)) := rfl
theorem gt_int {a b : Int} : cmpD .gt (.int a) (.int b) = some (decide (b < a)) := rfl
theorem beq_dec {a b : Int} : (a == b) = decide (a = b) := by by_cases h : a = b <;> simp [h]
theorem eq_int {a b : Int} : cmpD .eq (.int a) (.int b) = some (decide (a = b)) := by
  show some (PyData.eqv (.int a) (.int b)) = _
  simp only [PyData.eqv, beq_dec]
theorem ne_int {a b : Int} : cmpD .ne (.int a) (.int b) = some (!decide (a = b)) := by
  show some (!PyData.eqv (.int a) (.int b)) = _
  simp only [PyData.eqv, beq_dec]
/-! ### walks -/
def rngN (n : Nat) : List D := (List.range n).map fun k => .int (k : Nat)
theorem range_nat {n : Nat} (h : n ≤ 1000000) : rangeD [.int (n : Nat)] = some (rngN n) := by
  show (if rngOk (n : Int) then some (rngL 0 (n : Int).toNat) else none) = _
  have : rngOk (n : Int) = true := by unfold rngOk; simp only [Bool.and_eq_true, decide_eq_true_eq]; omega
  rw [this, if_pos rfl]
  unfold rngL rngN
  simp
theorem range_neg {n : Int} (h : n ≤ 0) (h2 : -1000000 ≤ n) : rangeD [.int n] = some [] := by
  show (if rngOk n then some (rngL 0 n.toNat) else none) = _
  have : rngOk n = true := by unfold rngOk; simp only [Bool.and_eq_true, decide_eq_true_eq]; omega
  have e : n.toNat = 0 := by omega
  rw [this, if_pos rfl, e]
  rfl
theorem range_down {n : Nat} (h : n ≤ 1000000) : rangeD [.int ((n : Nat) - 1 : Int), .int (-1), .int (-1)] = some ((List.range n).map fun k => .int ((n : Int) - 1 - (k : Nat))) := by
  show (if rngOk ((n : Int) - 1) && rngOk (-1) then some ((List.range ((n : Int) - 1 - (-1)).toNat).map fun k => PyData.int ((n : Int) - 1 - (k : Nat))) else none) = _
  have : rngOk ((n : Int) - 1) = true := by unfold rngOk; simp only [Bool.and_eq_true, decide_eq_true_eq]; omega
  have e : ((n : Int) - 1 - (-1)).toNat = n := by omega
  rw [this, e]; rfl
theorem len_rngN (n : Nat) : (rngN n).length = n := by simp [rngN]
variable {α β σ : Type}
theorem genGo_flat {f : D → Option (List D)} {e : α → D} {g : α → List D} : ∀ {xs : List α}, (∀ a ∈ xs, f (e a) = some (g a)) → genGo f (xs.map e) = some (xs.flatMap g)
  | [], _ => rfl
  | a :: r, h => by
    show (f (e a)).bind (fun x => (genGo f (r.map e)).map (x ++ ·)) = _
    rw [h a List.mem_cons_self, genGo_flat fun b hb => h b (List.mem_cons_of_mem _ hb)]
    rfl
theorem genGo_map {f : D → Option (List D)} {e : α → D} {g : α → D} {xs : List α} (h : ∀ a ∈ xs, f (e a) = some [g a]) : genGo f (xs.map e) = some (xs.map g) := by
  rw [genGo_flat (g := fun a => [g a]) h]
  congr 1
  clear h
  induction xs with
  | nil => rfl
  | cons a r ih => rw [List.flatMap_cons, ih]; rfl
theorem genGo_filter {f : D → Option (List D)} {e : α → D} {g : α → D} {p : α → Bool} {xs : List α} (h : ∀ a ∈ xs, f (e a) = some (if p a then [g a] else [])) : genGo f (xs.map e) = some ((xs.filter p).map g) := by
  rw [genGo_flat (g := fun a => if p a then [g a] else []) h]
  congr 1
  clear h
  induction xs with
  | nil => rfl
  | cons a r ih =>
    rw [List.flatMap_cons, ih, List.filter_cons]
    cases p a <;> rfl
theorem genGo_rng {f : D → Option (List D)} {g : Nat → D} {n : Nat} (h : ∀ k, k < n → f (.int (k : Nat)) = some [g k]) : genGo f (rngN n) = some ((List.range n).map g) :=
  genGo_map fun a ha => h a (List.mem_range.mp ha)
theorem genGo_rngF {f : D → Option (List D)} {g : Nat → D} {p : Nat → Bool} {n : Nat} (h : ∀ k, k < n → f (.int (k : Nat)) = some (if p k then [g k] else [])) : genGo f (rngN n) = some (((List.range n).filter p).map g) :=
  genGo_filter fun a ha => h a (List.mem_range.mp ha)
theorem allGo_of {f : D → Option Bool} {e : α → D} {p : α → Bool} : ∀ {xs : List α}, (∀ a ∈ xs, f (e a) = some (p a)) → allGo f (xs.map e) = some (xs.all p)
  | [], _ => rfl
  | a :: r, h => by
    show (f (e a)).bind (fun b => if b then allGo f (r.map e) else some false) = _
    rw [h a List.mem_cons_self, List.all_cons]
    cases hp : p a
    · rfl
    · show allGo f (r.map e) = _
      rw [allGo_of fun b hb => h b (List.mem_cons_of_mem _ hb)]; rfl
theorem anyGo_of {f : D → Option Bool} {e : α → D} {p : α → Bool} : ∀ {xs : List α}, (∀ a ∈ xs, f (e a) = some (p a)) → anyGo f (xs.map e) = some (xs.any p)
  | [], _ => rfl
  | a :: r, h => by
    show (f (e a)).bind (fun b => if b then some true else anyGo f (r.map e)) = _
    rw [h a List.mem_cons_self, List.any_cons]
    cases hp : p a
    · show anyGo f (r.map e) = _
      rw [anyGo_of fun b hb => h b (List.mem_cons_of_mem _ hb)]; rfl
    · rfl
/-- a loop that carries a state: R says how the slots bear it -/
theorem forGo_fold {body : D → Tau → Option Out} {e : α → D} {R : σ → Tau → Prop} {step : σ → α → σ} : ∀ {xs : List α}, (∀ a ∈ xs, ∀ s τ, R s τ → ∃ τ', body (e a) τ = some (.nx τ') ∧ R (step s a) τ') → ∀ {s : σ} {τ : Tau}, R s τ →
    ∃ τ', forGo body (xs.map e) τ = some (.nx τ') ∧ R (xs.foldl step s) τ'
  | [], _, s, τ, r => ⟨τ, rfl, r⟩
  | a :: xs, h, s, τ, r => by
    obtain ⟨τ1, h1, r1⟩ := h a List.mem_cons_self s τ r
    obtain ⟨τ2, h2, r2⟩ := forGo_fold (fun b hb => h b (List.mem_cons_of_mem _ hb)) r1
    refine ⟨τ2, ?_, r2⟩
    show (match body (e a) τ with
      | some (.nx τ') => forGo body (xs.map e) τ'
      | some (.ct τ') => forGo body (xs.map e) τ'
      | some (.bk τ') => some (.nx τ')
      | o => o) = _
    rw [h1]; exact h2
/-- .. that may be left by a return -/
theorem forGo_ret {body : D → Tau → Option Out} {e : α → D} {R : Tau → Prop} {g : α → Option D} : ∀ {xs : List α}, (∀ a ∈ xs, ∀ τ, R τ → match g a with | some d => body (e a) τ = some (.rt d) | none => ∃ τ', body (e a) τ = some (.nx τ') ∧ R τ') → ∀ {τ : Tau}, R τ →
    match xs.findSome? g with | some d => forGo body (xs.map e) τ = some (.rt d) | none => ∃ τ', forGo body (xs.map e) τ = some (.nx τ') ∧ R τ'
  | [], _, τ, r => ⟨τ, rfl, r⟩
  | a :: xs, h, τ, r => by
    have h1 := h a List.mem_cons_self τ r
    rw [List.findSome?_cons]
    have hh : forGo body ((a :: xs).map e) τ = (match body (e a) τ with
      | some (.nx τ') => forGo body (xs.map e) τ'
      | some (.ct τ') => forGo body (xs.map e) τ'
      | some (.bk τ') => some (.nx τ')
      | o => o) := rfl
    cases hg : g a with
    | some d =>
      rw [hg] at h1
      dsimp only at h1 ⊢
      rw [hh, h1]
    | none =>
      rw [hg] at h1
      dsimp only at h1 ⊢
      obtain ⟨τ1, k1, r1⟩ := h1
      have ih := forGo_ret (fun b hb => h b (List.mem_cons_of_mem _ hb)) r1
      rw [hh, k1]
      exact ih
theorem le_lim {n : Nat} (h : n ≤ 1000000) : n ≤ lim := Nat.le_trans h (by decide)
theorem lt_lim {n : Nat} (h : n ≤ 1000000) : n < lim := Nat.lt_of_le_of_lt h (by decide)
theorem ck_lst {ds : List D} (h : ds.length ≤ 1000000) : ckD .lst ds = some (.list ds) := if_pos (le_lim h)
theorem ck_tup {ds : List D} (h : ds.length ≤ 1000000) : ckD .tup ds = some (.tuple ds) := if_pos (le_lim h)
theorem lrg_nat {n : Nat} {k : Bool} (h : n ≤ 1000000) : lrgD k (rngN n) = some (if k then .tuple (rngN n) else .list (rngN n)) := if_pos (le_lim (by rw [len_rngN]; exact h))
theorem intsOf_map : ∀ (f : α → Int) (xs : List α), intsOf (xs.map fun a => .int (f a)) = some (xs.map f)
  | _, [] => rfl
  | f, a :: r => by
    show (intsOf (r.map fun a => PyData.int (f a))).map (f a :: ·) = _
    rw [intsOf_map f r]; rfl
theorem sum_map {f : α → Int} {xs : List α} : bltD .sum [.list (xs.map fun a => .int (f a))] = some (.int (xs.map f).sum) := by
  show (intsOf _).map _ = _
  rw [intsOf_map]; rfl
theorem cast_sum : ∀ (xs : List α) (f : α → Nat), (xs.map fun a => ((f a : Nat) : Int)).sum = (((xs.map f).sum : Nat) : Int)
  | [], _ => rfl
  | a :: r, f => by simp [cast_sum r f]
theorem sum_nat {f : α → Nat} {xs : List α} : bltD .sum [.list (xs.map fun a => .int (f a : Nat))] = some (.int ((xs.map f).sum : Nat)) := by
  rw [sum_map (f := fun a => ((f a : Nat) : Int)), cast_sum]
theorem atD_nat {xs : List α} {k : Nat} : atD xs (k : Nat) = xs[k]? := by
  unfold atD ixOf
  by_cases h : k < xs.length
  · rw [if_pos (by omega), if_pos (by omega)]; simp
  · rw [if_pos (by omega), if_neg (by omega)]
    simp only [Option.bind_none]
    rw [List.getElem?_eq_none (by omega)]
theorem idx_list {xs : List D} {k : Nat} : idxD (.list xs) (.int (k : Nat)) = xs[k]? := atD_nat
theorem idx_tuple {xs : List D} {k : Nat} : idxD (.tuple xs) (.int (k : Nat)) = xs[k]? := atD_nat
theorem idx_t0 {a : D} {r : List D} : idxD (.tuple (a :: r)) (.int 0) = some a := by have := idx_tuple (xs := a :: r) (k := 0); exact this
theorem idx_t1 {a b : D} {r : List D} : idxD (.tuple (a :: b :: r)) (.int 1) = some b := by have := idx_tuple (xs := a :: b :: r) (k := 1); exact this
theorem idx_t2 {a b c : D} {r : List D} : idxD (.tuple (a :: b :: c :: r)) (.int 2) = some c := by have := idx_tuple (xs := a :: b :: c :: r) (k := 2); exact this
theorem idx_map {e : α → D} {xs : List α} {k : Nat} : idxD (.list (xs.map e)) (.int (k : Nat)) = xs[k]?.map e := by rw [idx_list, List.getElem?_map]
theorem idx_mapT {e : α → D} {xs : List α} {k : Nat} : idxD (.tuple (xs.map e)) (.int (k : Nat)) = xs[k]?.map e := by rw [idx_tuple, List.getElem?_map]
end Sy
end
section
set_option Elab.async false
set_option linter.all false
set_option maxRecDepth 100000
namespace Sy
open PySem Fw
/-- a number that is not negative -/
def N (n : Nat) : D := .int (n : Nat)
theorem i0 : PyData.int 0 = N 0 := rfl
theorem i1 : PyData.int 1 = N 1 := rfl
theorem i2 : PyData.int 2 = N 2 := rfl
theorem i3 : PyData.int 3 = N 3 := rfl
theorem i4 : PyData.int 4 = N 4 := rfl
theorem i5 : PyData.int 5 = N 5 := rfl
theorem i6 : PyData.int 6 = N 6 := rfl
theorem i7 : PyData.int 7 = N 7 := rfl
theorem i8 : PyData.int 8 = N 8 := rfl
theorem i9 : PyData.int 9 = N 9 := rfl
theorem i15 : PyData.int 15 = N 15 := rfl
theorem i30 : PyData.int 30 = N 30 := rfl
variable {a b n : Nat} {i j : Int} {α β σ : Type}
theorem N_def : N a = .int (a : Nat) := rfl
theorem N_inj : (N a = N b) ↔ a = b := by unfold N; rw [PyData.int.injEq]; omega
@[simp] theorem n_add : binD .add (N a) (N b) = some (N (a + b)) := add_nat
theorem n_sub (h : b ≤ a) : binD .sub (N a) (N b) = some (N (a - b)) := sub_nat h
theorem n_subI : binD .sub (N a) (N b) = some (.int ((a : Int) - b)) := rfl
theorem n_sub1 : binD .sub (N (a + 1)) (N 1) = some (N a) := by rw [n_sub (by omega)]; rfl
theorem n_mul (h : a < 18446744073709551616) : binD .mul (N a) (N b) = some (N (a * b)) := mul_nat h
theorem n_fdiv (h : 0 < b) (h2 : b < 1073741824) : binD .fdiv (N a) (N b) = some (N (a / b)) := fdiv_nat h h2
theorem n_mod (h : 0 < b) : binD .mod (N a) (N b) = some (N (a % b)) := mod_nat h
@[simp] theorem n_mod2 : binD .mod (N a) (N 2) = some (N (a % 2)) := mod_nat (by decide)
@[simp] theorem n_mod3 : binD .mod (N a) (N 3) = some (N (a % 3)) := mod_nat (by decide)
theorem int_modN (h : 0 < b) : binD .mod (.int i) (N b) = some (N (i % (b : Int)).toNat) := by
  show binD .mod (.int i) (.int (b : Nat)) = _
  rw [mod_int h]
  unfold N
  congr 2
  have := Int.emod_nonneg i (show (b : Int) ≠ 0 by omega)
  omega
theorem n_shl (ha : a < 18446744073709551616) (hb : b ≤ 1000000) : binD .shl (N a) (N b) = some (N (a * 2 ^ b)) := shl_nat ha hb
theorem n_shl1 (hb : b ≤ 1000000) : binD .shl (N 1) (N b) = some (N (2 ^ b)) := shl_one hb
@[simp] theorem n_shr : binD .shr (N a) (N b) = some (N (a / 2 ^ b)) := shr_nat
@[simp] theorem n_and1 : binD .band (N a) (N 1) = some (N (a % 2)) := and_one
theorem n_and : binD .band (N a) (N b) = some (N (a &&& b)) := and_nat
@[simp] theorem n_or : binD .bor (N a) (N b) = some (N (a ||| b)) := or_nat
@[simp] theorem n_xor : binD .bxor (N a) (N b) = some (N (a ^^^ b)) := xor_nat
@[simp] theorem n_le : cmpD .le (N a) (N b) = some (decide (a ≤ b)) := by show cmpD .le (.int (a : Nat)) (.int (b : Nat)) = _; rw [le_int]; simp
@[simp] theorem n_lt : cmpD .lt (N a) (N b) = some (decide (a < b)) := by show cmpD .lt (.int (a : Nat)) (.int (b : Nat)) = _; rw [lt_int]; simp
@[simp] theorem n_ge : cmpD .ge (N a) (N b) = some (decide (b ≤ a)) := by show cmpD .ge (.int (a : Nat)) (.int (b : Nat)) = _; rw [ge_int]; simp
@[simp] theorem n_gt : cmpD .gt (N a) (N b) = some (decide (b < a)) := by show cmpD .gt (.int (a : Nat)) (.int (b : Nat)) = _; rw [gt_int]; simp
@[simp] theorem n_eq : cmpD .eq (N a) (N b) = some (decide (a = b)) := by show cmpD .eq (.int (a : Nat)) (.int (b : Nat)) = _; rw [Sy.eq_int]; congr 1; exact decide_eq_decide.mpr (by omega)
@[simp] theorem n_ne : cmpD .ne (N a) (N b) = some (!decide (a = b)) := by show cmpD .ne (.int (a : Nat)) (.int (b : Nat)) = _; rw [Sy.ne_int]; congr 2; exact decide_eq_decide.mpr (by omega)
@[simp] theorem n_truth : truth (N a) = some (!decide (a = 0)) := by
  show some ((a : Int) != 0) = _
  congr 1
  by_cases h : a = 0
  · subst h; rfl
  · rw [decide_eq_false h]; simp; omega
@[simp] theorem n_dict : isDict (N a) = false := rfl
@[simp] theorem n_noList : noList (N a) = true := rfl
@[simp] theorem n_neg : negD (N a) = some (.int (-(a : Int))) := rfl
@[simp] theorem n_asI : asI (N a) = some (some (a : Int)) := rfl
@[simp] theorem n_isi (ts) : isiV ts (N a) = some (.bool (ts.any fun t => decide (t = .int))) := by
  show some (PyData.bool (ts.any (isTy (.int (a : Nat))))) = _
  congr 2
  induction ts with
  | nil => rfl
  | cons t r ih => simp only [List.any_cons, ih]; cases t <;> rfl
@[simp] theorem isi_tuple (ts) (xs) : isiV ts (.tuple xs) = some (.bool (ts.any fun t => decide (t = .tuple))) := by
  show some (PyData.bool (ts.any (isTy (.tuple xs)))) = _
  congr 2
  induction ts with
  | nil => rfl
  | cons t r ih => simp only [List.any_cons, ih]; cases t <;> rfl
@[simp] theorem isi_list (ts) (xs) : isiV ts (.list xs) = some (.bool (ts.any fun t => decide (t = .list))) := by
  show some (PyData.bool (ts.any (isTy (.list xs)))) = _
  congr 2
  induction ts with
  | nil => rfl
  | cons t r ih => simp only [List.any_cons, ih]; cases t <;> rfl
@[simp] theorem isi_int (ts) (i) : isiV ts (.int i) = some (.bool (ts.any fun t => decide (t = .int))) := by
  show some (PyData.bool (ts.any (isTy (.int i)))) = _
  congr 2
  induction ts with
  | nil => rfl
  | cons t r ih => simp only [List.any_cons, ih]; cases t <;> rfl
@[simp] theorem isi_bool (ts) (i) : isiV ts (.bool i) = some (.bool (ts.any fun t => decide (t = .int) || decide (t = .bool))) := by
  show some (PyData.bool (ts.any (isTy (.bool i)))) = _
  congr 2
  induction ts with
  | nil => rfl
  | cons t r ih => simp only [List.any_cons, ih]; cases t <;> rfl
@[simp] theorem isi_str (ts) (x) : isiV ts (.str x) = some (.bool (ts.any fun t => decide (t = .str))) := by
  show some (PyData.bool (ts.any (isTy (.str x)))) = _
  congr 2
  induction ts with
  | nil => rfl
  | cons t r ih => simp only [List.any_cons, ih]; cases t <;> rfl
@[simp] theorem isi_none (ts) : isiV ts .none = some (.bool false) := by
  show some (PyData.bool (ts.any (isTy .none))) = _
  congr 2
  induction ts with
  | nil => rfl
  | cons t r ih => simp only [List.any_cons, ih]; cases t <;> rfl
@[simp] theorem blt_len (x) : bltD .len [x] = (lenD x).map N := rfl
@[simp] theorem blt_list (x) : bltD .list [x] = (seqD x).map .list := rfl
@[simp] theorem blt_tuple (x) : bltD .tuple [x] = (seqD x).map .tuple := rfl
@[simp] theorem blt_intN : bltD .int [N a] = some (N a) := rfl
@[simp] theorem blt_int : bltD .int [.int i] = some (.int i) := rfl
theorem n_range (h : n ≤ 1000000) : rangeD [N n] = some (rngN n) := range_nat h
theorem n_rng : rngN n = (List.range n).map N := rfl
theorem n_idxL {xs : List D} : idxD (.list xs) (N a) = xs[a]? := idx_list
theorem n_idxT {xs : List D} : idxD (.tuple xs) (N a) = xs[a]? := idx_tuple
@[simp] theorem n_idx0 {x : D} {r : List D} : idxD (.tuple (x :: r)) (N 0) = some x := idx_t0
@[simp] theorem n_idx1 {x y : D} {r : List D} : idxD (.tuple (x :: y :: r)) (N 1) = some y := idx_t1
@[simp] theorem n_idx2 {x y z : D} {r : List D} : idxD (.tuple (x :: y :: z :: r)) (N 2) = some z := idx_t2
theorem n_idxM {e : α → D} {xs : List α} : idxD (.list (xs.map e)) (N a) = xs[a]?.map e := idx_map
theorem n_idxMT {e : α → D} {xs : List α} : idxD (.tuple (xs.map e)) (N a) = xs[a]?.map e := idx_mapT
theorem n_sum {f : α → Nat} {xs : List α} : bltD .sum [.list (xs.map fun a => N (f a))] = some (N ((xs.map f).sum)) := sum_nat
theorem n_sum' {xs : List Nat} : bltD .sum [.list (xs.map N)] = some (N xs.sum) := by
  have := n_sum (f := id) (xs := xs)
  simpa using this
theorem genGo_N {f : D → Option (List D)} {g : Nat → D} {n : Nat} (h : ∀ k, k < n → f (N k) = some [g k]) : genGo f (rngN n) = some ((List.range n).map g) := genGo_rng h
theorem genGo_NF {f : D → Option (List D)} {g : Nat → D} {p : Nat → Bool} {n : Nat} (h : ∀ k, k < n → f (N k) = some (if p k then [g k] else [])) : genGo f (rngN n) = some (((List.range n).filter p).map g) := genGo_rngF h
@[simp] theorem lim0 : 0 ≤ lim := le_lim (by decide)
@[simp] theorem lim1 : 1 ≤ lim := le_lim (by decide)
@[simp] theorem lim2 : 2 ≤ lim := le_lim (by decide)
@[simp] theorem lim3 : 3 ≤ lim := le_lim (by decide)
@[simp] theorem lim4 : 4 ≤ lim := le_lim (by decide)
@[simp] theorem lim5 : 5 ≤ lim := le_lim (by decide)
@[simp] theorem lim6 : 6 ≤ lim := le_lim (by decide)
theorem lc_rng {f : D → Option (List D)} {g : Nat → D} (hn : n ≤ 1000000) (h : ∀ k, k < n → f (N k) = some [g k]) : (genGo f (rngN n)).bind (ckD .lst) = some (.list ((List.range n).map g)) := by
  rw [genGo_N h, Option.bind_some]; exact ck_lst (by simpa using hn)
theorem lc_rngF {f : D → Option (List D)} {g : Nat → D} {p : Nat → Bool} (hn : n ≤ 1000000) (h : ∀ k, k < n → f (N k) = some (if p k then [g k] else [])) : (genGo f (rngN n)).bind (ckD .lst) = some (.list (((List.range n).filter p).map g)) := by
  rw [genGo_NF h, Option.bind_some]; refine ck_lst ?_
  rw [List.length_map]
  exact Nat.le_trans (List.length_filter_le _ _) (by simpa using hn)
theorem lc_map {f : D → Option (List D)} {e : α → D} {g : α → D} {xs : List α} (hn : xs.length ≤ 1000000) (h : ∀ a ∈ xs, f (e a) = some [g a]) : (genGo f (xs.map e)).bind (ckD .lst) = some (.list (xs.map g)) := by
  rw [genGo_map h, Option.bind_some]; exact ck_lst (by simpa using hn)
theorem lc_mapF {f : D → Option (List D)} {e : α → D} {g : α → D} {p : α → Bool} {xs : List α} (hn : xs.length ≤ 1000000) (h : ∀ a ∈ xs, f (e a) = some (if p a then [g a] else [])) : (genGo f (xs.map e)).bind (ckD .lst) = some (.list ((xs.filter p).map g)) := by
  rw [genGo_filter h, Option.bind_some]; refine ck_lst ?_
  rw [List.length_map]
  exact Nat.le_trans (List.length_filter_le _ _) (by simpa using hn)
theorem lc_flat {f : D → Option (List D)} {e : α → D} {g : α → List D} {xs : List α} (hn : (xs.flatMap g).length ≤ 1000000) (h : ∀ a ∈ xs, f (e a) = some (g a)) : (genGo f (xs.map e)).bind (ckD .lst) = some (.list (xs.flatMap g)) := by
  rw [genGo_flat h, Option.bind_some]; exact ck_lst hn
theorem len_N {xs : List Nat} : (xs.map N).length = xs.length := List.length_map ..
end Sy
end
section
set_option Elab.async false
set_option linter.all false
set_option maxRecDepth 100000
namespace Sy
open PySem Fw
/-! ### strictly ascending lists -/
section
variable {α β : Type}
abbrev Strict (l : List Nat) : Prop := l.Pairwise (· < ·)
theorem strict_ext : ∀ {l1 l2 : List Nat}, Strict l1 → Strict l2 → (∀ x, x ∈ l1 ↔ x ∈ l2) → l1 = l2
  | [], [], _, _, _ => rfl
  | [], y :: r, _, _, h => absurd ((h y).mpr List.mem_cons_self) (by simp)
  | x :: r, [], _, _, h => absurd ((h x).mp List.mem_cons_self) (by simp)
  | x :: r, y :: s, h1, h2, h => by
    obtain ⟨a1, b1⟩ := List.pairwise_cons.mp h1
    obtain ⟨a2, b2⟩ := List.pairwise_cons.mp h2
    have e : x = y := by
      rcases List.mem_cons.mp ((h x).mp List.mem_cons_self) with z | z
      · exact z
      · rcases List.mem_cons.mp ((h y).mpr List.mem_cons_self) with w | w
        · exact w.symm
        · have := a2 x z; have := a1 y w; omega
    subst e
    congr 1
    refine strict_ext b1 b2 fun z => ⟨fun hz => ?_, fun hz => ?_⟩
    · rcases List.mem_cons.mp ((h z).mp (List.mem_cons_of_mem _ hz)) with w | w
      · have := a1 z hz; omega
      · exact w
    · rcases List.mem_cons.mp ((h z).mpr (List.mem_cons_of_mem _ hz)) with w | w
      · have := a2 z hz; omega
      · exact w
/-- put in at its place, once -/
def insN (x : Nat) : List Nat → List Nat
  | [] => [x]
  | y :: r => match Nat.ble x y with
    | true => (match Nat.beq x y with | true => y :: r | false => x :: y :: r)
    | false => y :: insN x r
def sortN (l : List Nat) : List Nat := l.foldr insN []
theorem mem_insN {x z : Nat} : ∀ {l : List Nat}, z ∈ insN x l ↔ z = x ∨ z ∈ l
  | [] => by simp [insN]
  | y :: r => by
    unfold insN
    cases h1 : Nat.ble x y with
    | true =>
      cases h2 : Nat.beq x y with
      | true =>
        have : x = y := Nat.eq_of_beq_eq_true h2
        subst this
        simp
      | false => simp
    | false =>
      simp only [List.mem_cons, mem_insN (l := r)]
      constructor
      · rintro (h | h | h)
        · exact .inr (.inl h)
        · exact .inl h
        · exact .inr (.inr h)
      · rintro (h | h | h)
        · exact .inr (.inl h)
        · exact .inl h
        · exact .inr (.inr h)
theorem strict_insN {x : Nat} : ∀ {l : List Nat}, Strict l → Strict (insN x l)
  | [], _ => by simp [insN, Strict]
  | y :: r, h => by
    obtain ⟨a, b⟩ := List.pairwise_cons.mp h
    unfold insN
    cases h1 : Nat.ble x y with
    | true =>
      have hle : x ≤ y := Nat.le_of_ble_eq_true h1
      cases h2 : Nat.beq x y with
      | true => exact h
      | false =>
        have hne : x ≠ y := fun e => by rw [e, Nat.beq_refl] at h2; cases h2
        refine List.pairwise_cons.mpr ⟨fun z hz => ?_, h⟩
        rcases List.mem_cons.mp hz with rfl | hz
        · omega
        · have := a z hz; omega
    | false =>
      have hlt : y < x := by
        rcases Nat.lt_or_ge y x with z | z
        · exact z
        · rw [Nat.ble_eq_true_of_le z] at h1; cases h1
      refine List.pairwise_cons.mpr ⟨fun z hz => ?_, strict_insN b⟩
      rcases mem_insN.mp hz with rfl | hz
      · exact hlt
      · exact a z hz
theorem mem_sortN {z : Nat} : ∀ {l : List Nat}, z ∈ sortN l ↔ z ∈ l
  | [] => by simp [sortN]
  | x :: r => by
    show z ∈ insN x (sortN r) ↔ _
    rw [mem_insN, mem_sortN (l := r), List.mem_cons]
theorem strict_sortN : ∀ {l : List Nat}, Strict (sortN l)
  | [] => by simp [sortN, Strict]
  | x :: r => strict_insN (strict_sortN (l := r))
/-- whatever is strictly ascending and has these members -/
theorem sortN_of {l s : List Nat} (h : Strict s) (m : ∀ x, x ∈ s ↔ x ∈ l) : s = sortN l := strict_ext h strict_sortN fun x => (m x).trans mem_sortN.symm
end
/-! ### sets of pairs of numbers, sorted -/
section
variable {α : Type} [BEq α] [LawfulBEq α]
theorem mem_dedup {x : α} {l : List α} : x ∈ dedupA l ↔ x ∈ l := by
  have gen : ∀ (l acc : List α), x ∈ l.foldl (fun acc d => if acc.contains d then acc else acc ++ [d]) acc ↔ x ∈ acc ∨ x ∈ l := by
    intro l
    induction l with
    | nil => intro acc; simp
    | cons d r ih =>
      intro acc
      rw [List.foldl_cons, ih]
      by_cases h : acc.contains d = true
      · rw [if_pos h]
        have : d ∈ acc := by simpa using h
        constructor
        · rintro (z | z)
          · exact .inl z
          · exact .inr (List.mem_cons_of_mem _ z)
        · rintro (z | z)
          · exact .inl z
          · rcases List.mem_cons.mp z with rfl | z
            · exact .inl this
            · exact .inr z
      · rw [if_neg h]
        simp only [List.mem_append, List.mem_cons, List.mem_nil_iff, or_false]
        constructor
        · rintro ((z | z) | z)
          · exact .inl z
          · exact .inr (.inl z)
          · exact .inr (.inr z)
        · rintro (z | z | z)
          · exact .inl (.inl z)
          · exact .inl (.inr z)
          · exact .inr z
  have := gen l []
  simpa [dedupA] using this
theorem nodup_dedup {l : List α} : (dedupA l).Nodup := by
  have gen : ∀ (l acc : List α), acc.Nodup → (l.foldl (fun acc d => if acc.contains d then acc else acc ++ [d]) acc).Nodup := by
    intro l
    induction l with
    | nil => intro acc h; exact h
    | cons d r ih =>
      intro acc h
      rw [List.foldl_cons]
      apply ih
      by_cases hc : acc.contains d = true
      · rw [if_pos hc]; exact h
      · rw [if_neg hc]
        have : d ∉ acc := by simpa using hc
        rw [List.nodup_append]
        refine ⟨h, by simp, fun a ha b hb => ?_⟩
        simp only [List.mem_singleton] at hb
        subst hb
        intro e; exact this (e ▸ ha)
  exact gen l [] List.nodup_nil
end
theorem map_self {α : Type} {f : α → α} : ∀ {l : List α}, (∀ a ∈ l, f a = a) → l.map f = l
  | [], _ => rfl
  | a :: r, h => by rw [List.map_cons, h a List.mem_cons_self, map_self fun b hb => h b (List.mem_cons_of_mem _ hb)]
theorem mem_insA {α : Type} {le : α → α → Bool} {x z : α} : ∀ {l : List α}, z ∈ insA le x l ↔ z = x ∨ z ∈ l
  | [] => by simp [insA]
  | y :: r => by
    unfold insA
    by_cases h : le x y = true
    · rw [if_pos h]; simp
    · rw [if_neg h]
      simp only [List.mem_cons, mem_insA (l := r)]
      constructor
      · rintro (h | h | h)
        · exact .inr (.inl h)
        · exact .inl h
        · exact .inr (.inr h)
      · rintro (h | h | h)
        · exact .inr (.inl h)
        · exact .inl h
        · exact .inr (.inr h)
theorem mem_isort {α : Type} {le : α → α → Bool} {z : α} : ∀ {l : List α}, z ∈ isort le l ↔ z ∈ l
  | [] => by simp [isort]
  | x :: r => by
    show z ∈ insA le x (isort le r) ↔ _
    rw [mem_insA, mem_isort (l := r), List.mem_cons]
/-- sorted by a key on numbers, those being all unlike -/
theorem isort_strict {α : Type} {le : α → α → Bool} {f : α → Nat} (hle : ∀ a b, le a b = true ↔ f a ≤ f b) : ∀ {l : List α}, (l.map f).Nodup → Strict ((isort le l).map f)
  | [], _ => by simp [isort, Strict]
  | x :: r, h => by
    obtain ⟨h1, h2⟩ := List.nodup_cons.mp (show (f x :: r.map f).Nodup from h)
    have ih := isort_strict hle h2
    have key : ∀ {l : List α}, Strict (l.map f) → f x ∉ l.map f → Strict ((insA le x l).map f) := by
      intro l
      induction l with
      | nil => intro _ _; simp [insA, Strict]
      | cons y s ih2 =>
        intro hs hn
        obtain ⟨a, b⟩ := List.pairwise_cons.mp (show (f y :: s.map f).Pairwise (· < ·) from hs)
        simp only [List.map_cons, List.mem_cons, not_or] at hn
        unfold insA
        by_cases hc : le x y = true
        · rw [if_pos hc]
          have : f x < f y := by have := (hle x y).mp hc; omega
          refine List.pairwise_cons.mpr ⟨fun z hz => ?_, hs⟩
          rcases List.mem_cons.mp (show z ∈ f y :: s.map f from hz) with rfl | hz
          · exact this
          · have := a z hz; omega
        · rw [if_neg hc]
          have : f y < f x := by
            rcases Nat.lt_or_ge (f y) (f x) with z | z
            · exact z
            · exact absurd ((hle x y).mpr z) hc
          refine List.pairwise_cons.mpr ⟨fun z hz => ?_, ih2 b hn.2⟩
          obtain ⟨w, hw, rfl⟩ := List.mem_map.mp hz
          rcases mem_insA.mp hw with rfl | hw
          · exact this
          · exact a _ (List.mem_map_of_mem hw)
    refine key ih fun hm => h1 ?_
    obtain ⟨w, hw, e⟩ := List.mem_map.mp hm
    exact List.mem_map.mpr ⟨w, mem_isort.mp hw, e⟩
abbrev tbD (m a : Nat) : D := .tuple [N m, N a]
def prI (m a : Nat) : List Int := [(m : Int), (a : Int)]
theorem tupIs_tb (m : Nat) : ∀ as : List Nat, tupIs (as.map (tbD m)) = some (as.map (prI m))
  | [] => rfl
  | a :: r => by
    show (intsOf [N m, N a]).bind (fun ks => (tupIs (r.map (tbD m))).map (ks :: ·)) = _
    rw [tupIs_tb m r]; rfl
theorem prI_inj {m a b : Nat} (h : prI m a = prI m b) : a = b := by unfold prI at h; simp only [List.cons.injEq] at h; omega
theorem leT_prI {m a b : Nat} : leT (prI m a) (prI m b) = true ↔ a ≤ b := by
  unfold leT prI
  rw [decide_eq_true_eq]
  constructor
  · intro h
    rcases Nat.lt_or_ge b a with z | z
    · exfalso
      apply h
      refine List.Lex.cons (List.Lex.rel ?_)
      omega
    · exact z
  · intro h hl
    cases hl with
    | rel h1 => omega
    | cons h1 =>
      cases h1 with
      | rel h2 => omega
      | cons h3 => cases h3
theorem sset_tb {m : Nat} {as : List Nat} (h0 : as ≠ []) (h1 : as.length < 64) : ckD .sset (as.map (tbD m)) = some (.list ((sortN as).map (tbD m))) := by
  show sortS (as.map (tbD m)) = _
  have e1 : setI (as.map (tbD m)) = none := by
    unfold setI
    split
    · cases as with
      | nil => exact absurd rfl h0
      | cons a r => rfl
    · rfl
  have e2 : setT (as.map (tbD m)) = some (as.map (prI m)) := by
    unfold setT
    rw [tupIs_tb, Option.bind_some]
    have : tupsOk (as.map (prI m)) = true := by
      cases as with
      | nil => exact absurd rfl h0
      | cons a r =>
        show (decide ((prI m a :: r.map (prI m)).length < 64) && (decide (1 ≤ (prI m a).length) && (prI m a :: r.map (prI m)).all fun q => q.length == (prI m a).length && q.all fun i => decide (0 ≤ i))) = true
        simp only [Bool.and_eq_true, decide_eq_true_eq, List.all_eq_true, beq_iff_eq]
        refine ⟨by simpa using h1, by simp [prI], fun q hq => ?_⟩
        have : ∃ b, q = prI m b := by
          rcases List.mem_cons.mp hq with rfl | hq
          · exact ⟨a, rfl⟩
          · obtain ⟨b, _, rfl⟩ := List.mem_map.mp hq; exact ⟨b, rfl⟩
        obtain ⟨b, rfl⟩ := this
        refine ⟨rfl, fun i hi => ?_⟩
        simp only [prI, List.mem_cons, List.mem_nil_iff, or_false] at hi
        rcases hi with rfl | rfl <;> omega
    rw [this]; rfl
  unfold sortS
  rw [e1, e2]
  dsimp only
  rw [Option.map_some]
  congr 2
  -- the sorted list is the image of one of numbers
  have hall : ∀ q ∈ isort leT (dedupA (as.map (prI m))), ∃ a, a ∈ as ∧ q = prI m a := fun q hq => by
    have := mem_dedup.mp (mem_isort.mp hq)
    obtain ⟨a, ha, rfl⟩ := List.mem_map.mp this
    exact ⟨a, ha, rfl⟩
  let g : List Int → Nat := fun q => (q.getD 1 0).toNat
  have hg : ∀ a, g (prI m a) = a := fun a => by simp [g, prI]
  have hs : (isort leT (dedupA (as.map (prI m)))) = ((isort leT (dedupA (as.map (prI m)))).map g).map (prI m) := by
    rw [List.map_map]
    refine (map_self fun q hq => ?_).symm
    obtain ⟨a, _, rfl⟩ := hall q hq
    simp [hg]
  -- strictly ascending
  have st : Strict ((isort leT (dedupA (as.map (prI m)))).map g) := by
    have key : ∀ l : List (List Int), (∀ q ∈ l, ∃ a, q = prI m a) → l.Nodup → Strict ((isort leT l).map g) := by
      intro l hl nd
      have e : l = (l.map g).map (prI m) := by
        rw [List.map_map]
        refine (map_self fun q hq => ?_).symm
        obtain ⟨a, rfl⟩ := hl q hq
        simp [hg]
      have nd2 : (l.map g).Nodup := by
        rw [e] at nd
        exact (List.pairwise_map.mp nd).imp fun h e => h (by rw [e])
      have conv : ∀ ks : List Nat, isort leT (ks.map (prI m)) = (isort (fun a b => decide (a ≤ b)) ks).map (prI m) := by
        intro ks
        have ins : ∀ (x : Nat) (l : List Nat), insA leT (prI m x) (l.map (prI m)) = (insA (fun a b => decide (a ≤ b)) x l).map (prI m) := by
          intro x l
          induction l with
          | nil => rfl
          | cons y s ih =>
            show (if leT (prI m x) (prI m y) then _ else _) = (if decide (x ≤ y) = true then x :: y :: s else y :: insA _ x s).map (prI m)
            by_cases h : x ≤ y
            · rw [if_pos (leT_prI.mpr h), if_pos (decide_eq_true h)]; rfl
            · rw [if_neg (fun z => h (leT_prI.mp z)), if_neg (by simpa using h), ih]; rfl
        induction ks with
        | nil => rfl
        | cons x r ih =>
          show insA leT (prI m x) (isort leT (r.map (prI m))) = _
          rw [ih, ins]; rfl
      rw [e, conv, List.map_map]
      have : (g ∘ prI m) = id := by funext a; exact hg a
      rw [this, List.map_id]
      have := isort_strict (le := fun a b : Nat => decide (a ≤ b)) (f := id) (fun a b => by simp) (l := l.map g) (by simpa using nd2)
      simpa using this
    refine key _ (fun q hq => ?_) nodup_dedup
    obtain ⟨a, _, rfl⟩ := List.mem_map.mp (mem_dedup.mp hq)
    exact ⟨a, rfl⟩
  have hmem : ∀ x, x ∈ (isort leT (dedupA (as.map (prI m)))).map g ↔ x ∈ as := fun x => by
    constructor
    · intro hx
      obtain ⟨q, hq, rfl⟩ := List.mem_map.mp hx
      obtain ⟨a, ha, rfl⟩ := hall q hq
      rw [hg]; exact ha
    · intro hx
      refine List.mem_map.mpr ⟨prI m x, mem_isort.mpr (mem_dedup.mpr (List.mem_map_of_mem hx)), hg x⟩
  rw [hs, sortN_of st hmem, List.map_map]
  refine List.map_congr_left fun a _ => rfl
end Sy
end
section
set_option Elab.async false
set_option linter.all false
set_option maxRecDepth 100000
namespace Sy
open PySem Fw
open PySem.W (alike alikeAll dataLt dataLe dataLt_ii dataLt_cons dataLt_int)
variable {α β σ : Type}
/-- a loop that carries a state, by places -/
theorem forGo_foldI {body : D → Tau → Option Out} {e : α → D} {step : σ → α → σ} : ∀ {xs : List α} {R : Nat → σ → Tau → Prop}, (∀ i a, xs[i]? = some a → ∀ s τ, R i s τ → ∃ τ', body (e a) τ = some (.nx τ') ∧ R (i + 1) (step s a) τ') → ∀ {s : σ} {τ : Tau}, R 0 s τ →
    ∃ τ', forGo body (xs.map e) τ = some (.nx τ') ∧ R xs.length (xs.foldl step s) τ'
  | [], R, _, s, τ, r => ⟨τ, rfl, r⟩
  | a :: xs, R, h, s, τ, r => by
    obtain ⟨τ1, h1, r1⟩ := h 0 a rfl s τ r
    obtain ⟨τ2, h2, r2⟩ := forGo_foldI (R := fun i => R (i + 1)) (fun i b hb => h (i + 1) b (by simpa using hb)) r1
    refine ⟨τ2, ?_, r2⟩
    show (match body (e a) τ with
      | some (.nx τ') => forGo body (xs.map e) τ'
      | some (.ct τ') => forGo body (xs.map e) τ'
      | some (.bk τ') => some (.nx τ')
      | o => o) = _
    rw [h1]; exact h2
theorem forS_foldI {G : Nat → Option D} {F : FT} {tg : Tg} {b : List S} {e : α → D} {step : σ → α → σ} {xs : List α} (R : Nat → σ → Tau → Prop) (s : σ) (τ : Tau) (h : ∀ i a, xs[i]? = some a → ∀ s τ, R i s τ → ∃ τ', ((bindTg tg (e a) τ).bind fun τ' => exL G F b τ') = some (.nx τ') ∧ R (i + 1) (step s a) τ') (h0 : R 0 s τ) :
    ∃ τ', forS G F tg b (xs.map e) τ = some (.nx τ') ∧ R xs.length (xs.foldl step s) τ' := forGo_foldI (body := fun d τ => (bindTg tg d τ).bind fun τ' => exL G F b τ') h h0
theorem forS_ret {G : Nat → Option D} {F : FT} {tg : Tg} {b : List S} {e : α → D} {xs : List α} (R : Tau → Prop) (g : α → Option D) (τ : Tau) (h : ∀ a ∈ xs, ∀ τ, R τ → match g a with | some d => ((bindTg tg (e a) τ).bind fun τ' => exL G F b τ') = some (.rt d) | none => ∃ τ', ((bindTg tg (e a) τ).bind fun τ' => exL G F b τ') = some (.nx τ') ∧ R τ') (h0 : R τ) :
    match xs.findSome? g with | some d => forS G F tg b (xs.map e) τ = some (.rt d) | none => ∃ τ', forS G F tg b (xs.map e) τ = some (.nx τ') ∧ R τ' := forGo_ret (body := fun d τ => (bindTg tg d τ).bind fun τ' => exL G F b τ') h h0
/-! ### sorted -/
theorem sortable_of' {ds : List D} (h1 : ∀ d ∈ ds, ∀ e ∈ ds, alike d e = true) (h2 : ∀ d ∈ ds, ∃ x r, d = .tuple (x :: r)) (h3 : ds.length ≤ 1000000) (h4 : ∀ d ∈ ds, d.depth ≤ 64) : sortable ds = true := by
  unfold sortable
  simp only [Bool.and_eq_true, List.all_eq_true, decide_eq_true_eq, Bool.or_eq_true]
  refine ⟨⟨⟨h1, .inl fun d hd => ?_⟩, le_lim h3⟩, h4⟩
  obtain ⟨x, r, rfl⟩ := h2 d hd
  rfl
theorem sortable_ints {ns : List Int} (h3 : ns.length ≤ 1000000) : sortable (ns.map .int) = true := by
  unfold sortable
  simp only [Bool.and_eq_true, List.all_eq_true, decide_eq_true_eq, Bool.or_eq_true]
  refine ⟨⟨⟨fun d hd e he => ?_, .inr fun d hd => ?_⟩, le_lim (by simpa using h3)⟩, fun d hd => ?_⟩
  · obtain ⟨i, _, rfl⟩ := List.mem_map.mp hd
    obtain ⟨j, _, rfl⟩ := List.mem_map.mp he
    simp [alike]
  · obtain ⟨i, _, rfl⟩ := List.mem_map.mp hd; rfl
  · obtain ⟨i, _, rfl⟩ := List.mem_map.mp hd
    simp [PyData.depth]
theorem sorted_of {e : α → D} {le : α → α → Bool} {xs : List α} (h : sortable (xs.map e) = true) (hle : ∀ a ∈ xs, ∀ b ∈ xs, le a b = !dataLt (e b) (e a)) : bltD .sorted [.list (xs.map e)] = some (.list ((xs.mergeSort le).map e)) := by
  show (if sortable (xs.map e) then some (PyData.list (sortD (xs.map e))) else none) = _
  rw [if_pos h]
  unfold sortD
  rw [List.map_mergeSort (s := dataLe false id) (fun a ha b hb => hle a ha b hb)]
theorem alike_tb {m a b : Nat} : alike (tbD m a) (tbD m b) = true := by simp [alike, alikeAll, N]
theorem depth_tb {m a : Nat} : (tbD m a).depth ≤ 64 := by simp [PyData.depth, PyData.depthAll, N]
theorem lt_tb {m a b : Nat} : dataLt (tbD m a) (tbD m b) = decide (a < b) := by
  show dataLt (.tuple [.int (m : Nat), .int (a : Nat)]) (.tuple [.int (m : Nat), .int (b : Nat)]) = _
  rw [dataLt_ii]
  simp
theorem sorted_tb {m : Nat} {as : List Nat} (h : as.length ≤ 1000000) : bltD .sorted [.list (as.map (tbD m))] = some (.list ((as.mergeSort fun a b => decide (a ≤ b)).map (tbD m))) := by
  refine sorted_of (sortable_of' (fun d hd e he => ?_) (fun d hd => ?_) (by simpa using h) (fun d hd => ?_)) fun a _ b _ => ?_
  · obtain ⟨a, _, rfl⟩ := List.mem_map.mp hd
    obtain ⟨b, _, rfl⟩ := List.mem_map.mp he
    exact alike_tb
  · obtain ⟨a, _, rfl⟩ := List.mem_map.mp hd; exact ⟨_, _, rfl⟩
  · obtain ⟨a, _, rfl⟩ := List.mem_map.mp hd; exact depth_tb
  · rw [lt_tb]
    by_cases h : a ≤ b
    · rw [decide_eq_true h, decide_eq_false (by omega)]; rfl
    · rw [decide_eq_false h, decide_eq_true (by omega)]; rfl
/-! ### one kept of neighbours alike -/
def adj (l : List Nat) : List Nat := ((List.range l.length).filter fun k => decide (k = 0) || !decide (l.getD k 0 = l.getD (k - 1) 0)).map fun k => l.getD k 0
theorem adj_sorted {l : List Nat} (h : l.Pairwise (· ≤ ·)) : adj l = sortN l := by
  have mono : ∀ i j, i ≤ j → j < l.length → l.getD i 0 ≤ l.getD j 0 := fun i j hij hj => by
    rcases Nat.lt_or_ge i j with z | z
    · have := List.pairwise_iff_getElem.mp h i j (by omega) hj z
      rw [List.getD_eq_getElem?_getD, List.getD_eq_getElem?_getD, List.getElem?_eq_getElem (by omega), List.getElem?_eq_getElem hj]
      exact this
    · have : i = j := by omega
      subst this; exact Nat.le_refl _
  refine sortN_of ?_ fun x => ?_
  · unfold adj
    refine List.pairwise_map.mpr ?_
    have p1 : ((List.range l.length).filter fun k => decide (k = 0) || !decide (l.getD k 0 = l.getD (k - 1) 0)).Pairwise (· < ·) := List.pairwise_lt_range.sublist List.filter_sublist
    refine List.Pairwise.imp_of_mem (fun {i j} hi hj hij => ?_) p1
    have hj' := List.mem_filter.mp hj
    have hjl : j < l.length := List.mem_range.mp hj'.1
    have hj2 := hj'.2
    simp only [Bool.or_eq_true, decide_eq_true_eq, Bool.not_eq_true', decide_eq_false_iff_not] at hj2
    have h1 := mono i (j - 1) (by omega) (by omega)
    have h2 := mono (j - 1) j (by omega) hjl
    rcases hj2 with z | z
    · omega
    · omega
  · unfold adj
    constructor
    · intro hx
      obtain ⟨k, hk, rfl⟩ := List.mem_map.mp hx
      have hkl : k < l.length := List.mem_range.mp (List.mem_filter.mp hk).1
      rw [List.getD_eq_getElem?_getD, List.getElem?_eq_getElem hkl]
      exact List.getElem_mem hkl
    · intro hx
      obtain ⟨k, hk, rfl⟩ := List.mem_iff_getElem.mp hx
      -- the first place with this number
      have key : ∀ k (hk : k < l.length), ∃ i, i ≤ k ∧ l.getD i 0 = l.getD k 0 ∧ (i = 0 ∨ l.getD i 0 ≠ l.getD (i - 1) 0) := by
        intro k
        induction k with
        | zero => intro _; exact ⟨0, Nat.le_refl _, rfl, .inl rfl⟩
        | succ k ih =>
          intro hk
          by_cases e : l.getD (k + 1) 0 = l.getD k 0
          · obtain ⟨i, h1, h2, h3⟩ := ih (by omega)
            exact ⟨i, by omega, by rw [h2, e], h3⟩
          · exact ⟨k + 1, Nat.le_refl _, rfl, .inr (by simpa using e)⟩
      obtain ⟨i, h1, h2, h3⟩ := key k hk
      refine List.mem_map.mpr ⟨i, List.mem_filter.mpr ⟨List.mem_range.mpr (by omega), ?_⟩, ?_⟩
      · simp only [Bool.or_eq_true, decide_eq_true_eq, Bool.not_eq_true', decide_eq_false_iff_not]
        exact h3
      · rw [h2, List.getD_eq_getElem?_getD, List.getElem?_eq_getElem hk]; rfl
theorem sortN_perm {l l' : List Nat} (h : l.Perm l') : sortN l = sortN l' := sortN_of strict_sortN fun x => mem_sortN.trans h.mem_iff
theorem msort_le (l : List Nat) : (l.mergeSort fun a b => decide (a ≤ b)).Pairwise (· ≤ ·) := by
  have := List.pairwise_mergeSort (le := fun a b : Nat => decide (a ≤ b)) (fun a b c => by simp; omega) (fun a b => by simp; omega) l
  exact this.imp fun h => by simpa using h
theorem adj_msort {l : List Nat} : adj (l.mergeSort fun a b => decide (a ≤ b)) = sortN l := by
  rw [adj_sorted (msort_le l)]
  exact sortN_perm (List.mergeSort_perm _ _)
/-! ### slices -/
theorem cut_hi {xs : List D} {k : Nat} : cutD (.tuple xs) none (some (k : Int)) = some (.tuple (xs.take k)) := by
  show some (PyData.tuple (cutL xs none (some (k : Int)))) = _
  congr 2
  unfold cutL sixD
  simp only [List.drop_zero, Nat.sub_zero]
  rw [if_neg (by omega)]
  simp [List.take_eq_take_iff]
theorem cut_lo {xs : List D} {k : Nat} : cutD (.tuple xs) (some (k : Int)) none = some (.tuple (xs.drop k)) := by
  show some (PyData.tuple (cutL xs (some (k : Int)) none)) = _
  congr 2
  unfold cutL sixD
  simp only []
  rw [if_neg (by omega)]
  have e : min (k : Int).toNat xs.length = min k xs.length := by simp
  rw [e]
  rcases Nat.lt_or_ge k xs.length with h | h
  · rw [Nat.min_eq_left (by omega), List.take_of_length_le (by simp)]
  · rw [Nat.min_eq_right h, List.drop_eq_nil_of_le (Nat.le_refl _), List.drop_eq_nil_of_le h]; simp
/-! ### bits -/
theorem sum_bits_lt {f : Nat → Nat} (hf : ∀ r, f r < 2) : ∀ n, ((List.range n).map fun k => f k * 2 ^ k).sum < 2 ^ n
  | 0 => by simp
  | n + 1 => by
    rw [List.range_succ, List.map_append, List.sum_append]
    have h1 := sum_bits_lt hf n
    have h2 := hf n
    have h3 : f n * 2 ^ n ≤ 1 * 2 ^ n := Nat.mul_le_mul_right _ (by omega)
    simp only [List.map_cons, List.map_nil, List.sum_cons, List.sum_nil, Nat.pow_succ]
    omega
theorem getD_map_range {f : Nat → Nat} {n k : Nat} (h : k < n) : ((List.range n).map f).getD k 0 = f k := by
  rw [List.getD_eq_getElem?_getD, List.getElem?_map, List.getElem?_range h]; rfl
end Sy
end
section
set_option Elab.async false
set_option linter.all false
set_option maxRecDepth 100000
namespace Sy
open PySem Fw
open PySem.W (alike alikeAll dataLt dataLe dataLt_ii dataLt_cons dataLt_int dataLt_tuple dataLt_pair)
variable {α β σ : Type}
theorem forGo_foldM {body : D → Tau → Option Out} {e : α → D} {step : σ → α → Option σ} : ∀ {xs : List α} {R : Nat → σ → Tau → Prop}, (∀ i a, xs[i]? = some a → ∀ s s' τ, R i s τ → step s a = some s' → ∃ τ', body (e a) τ = some (.nx τ') ∧ R (i + 1) s' τ') → ∀ {s s' : σ} {τ : Tau}, R 0 s τ → xs.foldlM step s = some s' →
    ∃ τ', forGo body (xs.map e) τ = some (.nx τ') ∧ R xs.length s' τ'
  | [], R, _, s, s', τ, r, h => by cases h; exact ⟨τ, rfl, r⟩
  | a :: xs, R, h, s, s', τ, r, hs => by
    rw [List.foldlM_cons] at hs
    obtain ⟨s1, k1, k2⟩ := Option.bind_eq_some_iff.mp hs
    obtain ⟨τ1, h1, r1⟩ := h 0 a rfl s s1 τ r k1
    obtain ⟨τ2, h2, r2⟩ := forGo_foldM (R := fun i => R (i + 1)) (fun i b hb => h (i + 1) b (by simpa using hb)) r1 k2
    refine ⟨τ2, ?_, r2⟩
    show (match body (e a) τ with
      | some (.nx τ') => forGo body (xs.map e) τ'
      | some (.ct τ') => forGo body (xs.map e) τ'
      | some (.bk τ') => some (.nx τ')
      | o => o) = _
    rw [h1]; exact h2
/-- a loop that carries a state and may fail -/
theorem forS_foldM {G : Nat → Option D} {F : FT} {tg : Tg} {b : List S} {e : α → D} {step : σ → α → Option σ} {xs : List α} (R : Nat → σ → Tau → Prop) (s s' : σ) (τ : Tau) (h : ∀ i a, xs[i]? = some a → ∀ s s' τ, R i s τ → step s a = some s' → ∃ τ', ((bindTg tg (e a) τ).bind fun τ' => exL G F b τ') = some (.nx τ') ∧ R (i + 1) s' τ') (h0 : R 0 s τ) (hs : xs.foldlM step s = some s') :
    ∃ τ', forS G F tg b (xs.map e) τ = some (.nx τ') ∧ R xs.length s' τ' := forGo_foldM (body := fun d τ => (bindTg tg d τ).bind fun τ' => exL G F b τ') h h0 hs
theorem n_range_down {m : Nat} (h : 1 ≤ m) (h2 : m ≤ 1000000) : rangeD [N (m - 1), .int (-1), .int (-1)] = some ((List.range m).reverse.map N) := by
  have e := range_down (n := m) h2
  have e1 : PyData.int ((m : Int) - 1) = N (m - 1) := by unfold N; congr 1; omega
  rw [e1] at e
  rw [e]
  refine congrArg some ?_
  apply List.ext_getElem
  · simp
  · intro i h1 h2
    have h3 : i < m := by simpa using h1
    simp only [List.getElem_map, List.getElem_range, List.getElem_reverse, List.length_range, N, PyData.int.injEq]
    omega
/-! ### dicts whose keys are pairs of numbers -/
abbrev Asc := List (Nat × Int)
def encA (m : Nat) (l : Asc) : List (D × D) := l.map fun p => (tbD m p.1, PyData.int p.2)
def agetO (k : Nat) : Asc → Option Int
  | [] => none
  | (a, v) :: r => if a = k then some v else agetO k r
def aput (k : Nat) (v : Int) (l : Asc) : Asc := if l.any (fun p => decide (p.1 = k)) then l.map fun p => if p.1 = k then (p.1, v) else p else l ++ [(k, v)]
theorem eqv_tb {m a b : Nat} : PyData.eqv (tbD m a) (tbD m b) = decide (a = b) := by
  simp [PyData.eqv, PyData.eqvAll, N, beq_dec]
  omega
theorem kget_tb {m k : Nat} : ∀ l : Asc, kget (tbD m k) (encA m l) = (agetO k l).map PyData.int
  | [] => rfl
  | (a, v) :: r => by
    show (if PyData.eqv (tbD m a) (tbD m k) then some (PyData.int v) else kget (tbD m k) (encA m r)) = _
    rw [eqv_tb, kget_tb r]
    by_cases h : a = k
    · rw [if_pos (decide_eq_true h)]; simp only [agetO, h, if_true, Option.map_some]
    · rw [if_neg (by simpa using h)]; simp only [agetO, h, if_false]
theorem kput_tb {m k : Nat} {v : Int} (l : Asc) : kput (tbD m k) (.int v) (encA m l) = encA m (aput k v l) := by
  unfold kput aput
  have h1 : ((encA m l).any fun kv => PyData.eqv kv.1 (tbD m k)) = l.any fun p => decide (p.1 = k) := by
    unfold encA
    rw [List.any_map]
    congr 1
    funext p
    exact eqv_tb
  rw [h1]
  by_cases h : (l.any fun p => decide (p.1 = k)) = true
  · rw [if_pos h, if_pos h]
    unfold encA
    rw [List.map_map, List.map_map]
    refine List.map_congr_left fun p _ => ?_
    simp only [Function.comp, eqv_tb]
    by_cases e : p.1 = k
    · simp [e]
    · simp [e]
  · rw [if_neg h, if_neg h]
    unfold encA
    rw [List.map_append]; rfl
@[simp] theorem keyOk_tb {m a : Nat} : keyOk true (tbD m a) = true := rfl
theorem idx_dict {m k : Nat} {l : Asc} : idxD (dictV true (encA m l)) (tbD m k) = (agetO k l).map PyData.int := by
  show (dget (tbD m k) ((.none, .bool true) :: encA m l)).bind id = _
  show (if keyOk true (tbD m k) then some (kget (tbD m k) (encA m l)) else none).bind id = _
  rw [keyOk_tb, kget_tb]; rfl
theorem get2_dict {m k : Nat} {d : D} {l : Asc} : mthD .get2 (dictV true (encA m l)) [tbD m k, d] = some (((agetO k l).map PyData.int).getD d) := by
  show (dget (tbD m k) ((.none, .bool true) :: encA m l)).map (fun o => o.getD d) = _
  show (if keyOk true (tbD m k) then some (kget (tbD m k) (encA m l)) else none).map (fun o => o.getD d) = _
  rw [keyOk_tb, kget_tb]; rfl
theorem len_encA {m : Nat} {l : Asc} : (encA m l).length = l.length := List.length_map ..
/-! ### in a tuple of numbers -/
theorem depthAll_N : ∀ l : List Nat, PyData.depthAll (l.map N) = 0
  | [] => rfl
  | a :: r => by
    have := depthAll_N r
    simp [PyData.depthAll, PyData.depth, N] at this ⊢
    exact this
theorem canLay_N : ∀ l : List Nat, PyData.canLayAll0 (l.map N) = true
  | [] => rfl
  | a :: r => by
    have := canLay_N r
    simp [PyData.canLayAll0, PyData.canLay0, N] at this ⊢
    exact this
theorem shp_N {a : Nat} : shp (N a) = true := rfl
theorem shp_tup_N {l : List Nat} : shp (.tuple (l.map N)) = true := by
  unfold shp SeqAt.shaped
  rw [Bool.and_eq_true]
  refine ⟨canLay_N l, ?_⟩
  rw [decide_eq_true_eq]
  show PyData.depthAll (l.map N) + 1 ≤ 64
  rw [depthAll_N]; decide
theorem eqv_N {a b : Nat} : PyData.eqv (N a) (N b) = decide (a = b) := by
  simp [PyData.eqv, N, beq_dec]
  omega
theorem in_tup_N {a : Nat} {l : List Nat} : cmpD .isin (N a) (.tuple (l.map N)) = some (l.contains a) := by
  show (if shp (N a) && shp (.tuple (l.map N)) then some ((l.map N).any fun z => PyData.eqv z (N a)) else none) = _
  rw [shp_N, shp_tup_N]
  show some _ = _
  congr 1
  rw [List.any_map, List.contains_eq_any_beq]
  congr 1
  funext b
  simp only [Function.comp, eqv_N]
  by_cases h : a = b
  · subst h; simp
  · have : ¬ b = a := fun z => h z.symm
    simp [h, this]
/-! ### triples, sorted -/
abbrev Tri := Int × Int × Nat
def triD (m : Nat) (x : Tri) : D := .tuple [.int x.1, .int x.2.1, tbD m x.2.2]
def lt3 (a b : Tri) : Bool := decide (a.1 < b.1 ∨ (a.1 = b.1 ∧ (a.2.1 < b.2.1 ∨ (a.2.1 = b.2.1 ∧ a.2.2 < b.2.2))))
theorem lt_tri {m : Nat} {a b : Tri} : dataLt (triD m a) (triD m b) = lt3 a b := by
  unfold triD
  rw [dataLt_tuple, dataLt_cons (by simp [alike]), dataLt_cons (by simp [alike]), dataLt_cons alike_tb, dataLt_int, dataLt_int, lt_tb, eqv_tb]
  simp only [PyData.eqv, beq_iff_eq, lt3]
  by_cases h1 : a.1 = b.1 <;> by_cases h2 : a.2.1 = b.2.1 <;> by_cases h3 : a.2.2 = b.2.2 <;> simp [h1, h2, h3]
  exact PyProof.Rows.lex_irrefl _
theorem depth_tri {m : Nat} {a : Tri} : (triD m a).depth ≤ 64 := by simp [triD, PyData.depth, PyData.depthAll, N]
theorem alike_tri {m : Nat} {a b : Tri} : alike (triD m a) (triD m b) = true := by simp [triD, alike, alikeAll, N]
def le3 (a b : Tri) : Bool := !lt3 b a
theorem le3_iff {a b : Tri} : le3 a b = true ↔ a.1 < b.1 ∨ (a.1 = b.1 ∧ (a.2.1 < b.2.1 ∨ (a.2.1 = b.2.1 ∧ a.2.2 ≤ b.2.2))) := by
  unfold le3 lt3
  simp only [Bool.not_eq_true', decide_eq_false_iff_not]
  omega
theorem mem_perm_insA {α : Type} {le : α → α → Bool} {x : α} : ∀ {l : List α}, (insA le x l).Perm (x :: l)
  | [] => List.Perm.refl _
  | y :: r => by
    unfold insA
    by_cases h : le x y = true
    · rw [if_pos h]
    · rw [if_neg h]
      exact (List.Perm.cons y mem_perm_insA).trans (List.Perm.swap x y r)
theorem isort_perm {α : Type} {le : α → α → Bool} : ∀ {l : List α}, (isort le l).Perm l
  | [] => List.Perm.refl _
  | x :: r => mem_perm_insA.trans (List.Perm.cons x isort_perm)
theorem insA_pairwise {α : Type} {le : α → α → Bool} (tr : ∀ a b c, le a b = true → le b c = true → le a c = true) (tot : ∀ a b, le a b = true ∨ le b a = true) {x : α} : ∀ {l : List α}, l.Pairwise (fun a b => le a b = true) → (insA le x l).Pairwise fun a b => le a b = true
  | [], _ => by simp [insA]
  | y :: r, h => by
    obtain ⟨a, b⟩ := List.pairwise_cons.mp h
    unfold insA
    by_cases hc : le x y = true
    · rw [if_pos hc]
      refine List.pairwise_cons.mpr ⟨fun z hz => ?_, h⟩
      rcases List.mem_cons.mp hz with rfl | hz
      · exact hc
      · exact tr _ _ _ hc (a z hz)
    · rw [if_neg hc]
      refine List.pairwise_cons.mpr ⟨fun z hz => ?_, insA_pairwise tr tot b⟩
      rcases mem_insA.mp hz with rfl | hz
      · exact (tot y z).resolve_right hc
      · exact a z hz
theorem isort_pairwise {α : Type} {le : α → α → Bool} (tr : ∀ a b c, le a b = true → le b c = true → le a c = true) (tot : ∀ a b, le a b = true ∨ le b a = true) : ∀ {l : List α}, (isort le l).Pairwise fun a b => le a b = true
  | [] => List.Pairwise.nil
  | _ :: _ => insA_pairwise tr tot (isort_pairwise tr tot)
theorem sorted_unique {α : Type} {le : α → α → Bool} (anti : ∀ a b, le a b = true → le b a = true → a = b) : ∀ {l1 l2 : List α}, l1.Pairwise (fun a b => le a b = true) → l2.Pairwise (fun a b => le a b = true) → l1.Perm l2 → l1 = l2
  | [], l2, _, _, p => (List.Perm.nil_eq p)
  | x :: r, [], _, _, p => absurd p.length_eq (by simp)
  | x :: r, y :: s, h1, h2, p => by
    obtain ⟨a1, b1⟩ := List.pairwise_cons.mp h1
    obtain ⟨a2, b2⟩ := List.pairwise_cons.mp h2
    have e : x = y := by
      rcases List.mem_cons.mp (p.mem_iff.mp (List.mem_cons_self (a := x) (l := r))) with z | z
      · exact z
      · rcases List.mem_cons.mp (p.mem_iff.mpr (List.mem_cons_self (a := y) (l := s))) with w | w
        · exact w.symm
        · exact anti _ _ (a1 y w) (a2 x z)
    subst e
    rw [sorted_unique anti b1 b2 (List.Perm.cons_inv p)]
theorem msort_isort {α : Type} {le : α → α → Bool} (tr : ∀ a b c, le a b = true → le b c = true → le a c = true) (tot : ∀ a b, le a b = true ∨ le b a = true) (anti : ∀ a b, le a b = true → le b a = true → a = b) (l : List α) : l.mergeSort le = isort le l :=
  sorted_unique anti (List.pairwise_mergeSort tr (fun a b => by rcases tot a b with h | h <;> simp [h]) l) (isort_pairwise tr tot) ((List.mergeSort_perm _ _).trans isort_perm.symm)
theorem sorted_tri {m : Nat} {xs : List Tri} (h : xs.length ≤ 1000000) : bltD .sorted [.list (xs.map (triD m))] = some (.list ((isort le3 xs).map (triD m))) := by
  rw [← msort_isort (le := le3) (fun a b c h1 h2 => by rw [le3_iff] at *; omega) (fun a b => by rw [le3_iff, le3_iff]; omega) (fun a b h1 h2 => by
    rw [le3_iff] at h1 h2
    obtain ⟨a1, a2, a3⟩ := a
    obtain ⟨b1, b2, b3⟩ := b
    simp only [Prod.mk.injEq]
    dsimp only at h1 h2
    omega)]
  refine sorted_of (sortable_of' (fun d hd e he => ?_) (fun d hd => ?_) (by simpa using h) (fun d hd => ?_)) fun a _ b _ => ?_
  · obtain ⟨a, _, rfl⟩ := List.mem_map.mp hd
    obtain ⟨b, _, rfl⟩ := List.mem_map.mp he
    exact alike_tri
  · obtain ⟨a, _, rfl⟩ := List.mem_map.mp hd; exact ⟨_, _, rfl⟩
  · obtain ⟨a, _, rfl⟩ := List.mem_map.mp hd; exact depth_tri
  · rw [lt_tri]; rfl
theorem genGo_mapM {f : D → Option (List D)} {e : α → D} {e' : β → D} {g : α → Option β} : ∀ {xs : List α} {bs : List β}, (∀ a ∈ xs, ∀ b, g a = some b → f (e a) = some [e' b]) → xs.mapM g = some bs → genGo f (xs.map e) = some (bs.map e')
  | [], bs, _, h => by
    rw [List.mapM_nil] at h
    cases h; rfl
  | a :: r, bs, h, hb => by
    rw [List.mapM_cons] at hb
    obtain ⟨b, h1, hb⟩ := Option.bind_eq_some_iff.mp hb
    obtain ⟨cs, h2, hb⟩ := Option.bind_eq_some_iff.mp hb
    cases hb
    show (f (e a)).bind (fun x => (genGo f (r.map e)).map (x ++ ·)) = _
    rw [h a List.mem_cons_self b h1, genGo_mapM (fun a ha => h a (List.mem_cons_of_mem _ ha)) h2]
    rfl
theorem mapM_len {g : α → Option β} : ∀ {xs : List α} {bs : List β}, xs.mapM g = some bs → bs.length = xs.length
  | [], bs, h => by rw [List.mapM_nil] at h; cases h; rfl
  | a :: r, bs, hb => by
    rw [List.mapM_cons] at hb
    obtain ⟨b, h1, hb⟩ := Option.bind_eq_some_iff.mp hb
    obtain ⟨cs, h2, hb⟩ := Option.bind_eq_some_iff.mp hb
    cases hb
    simp [mapM_len h2]
theorem lc_mapM {f : D → Option (List D)} {e : α → D} {e' : β → D} {g : α → Option β} {xs : List α} {bs : List β} (hn : xs.length ≤ 1000000) (h : ∀ a ∈ xs, ∀ b, g a = some b → f (e a) = some [e' b]) (hb : xs.mapM g = some bs) : (genGo f (xs.map e)).bind (ckD .lst) = some (.list (bs.map e')) := by
  rw [genGo_mapM h hb, Option.bind_some]; exact ck_lst (by rw [List.length_map, mapM_len hb]; exact hn)
theorem repL_one {x : α} : ∀ n, repL [x] n = (List.range n).map fun _ => x
  | 0 => rfl
  | n + 1 => by
    show [x] ++ repL [x] n = _
    rw [repL_one n]
    rw [show (List.range (n + 1)).map (fun _ => x) = List.replicate (n + 1) x from by simp [List.map_const'], show (List.range n).map (fun _ => x) = List.replicate n x from by simp [List.map_const']]
    rfl
theorem mul_list {x : D} {n : Nat} (h : n ≤ 1000000) : binD .mul (.list [x]) (N n) = some (.list ((List.range n).map fun _ => x)) := by
  show (if 0 ≤ (n : Int) ∧ (n : Int) < 9223372036854775808 ∧ ([x] : List D).length * (n : Int).toNat ≤ lim then some (PyData.list (repL [x] (n : Int).toNat)) else none) = _
  have e : (n : Int).toNat = n := by omega
  rw [e, if_pos ⟨by omega, by omega, by simpa using le_lim h⟩, repL_one]
theorem ck_map {f : α → D} {xs : List α} (h : xs.length ≤ 1000000) : ckD .lst (xs.map f) = some (.list (xs.map f)) := ck_lst (by simpa using h)
end Sy
end
section
set_option Elab.async false
set_option linter.all false
set_option maxRecDepth 100000
namespace Sy
open PySem Fw
variable {α β σ : Type}
/-! ### data of ints and tuples -/
mutual
def isID : D → Bool
  | .int _ => true
  | .tuple xs => isIDs xs
  | .list _ => false
  | .none => false
  | .bool _ => false
  | .str _ => false
  | .dict _ => false
def isIDs : List D → Bool
  | [] => true
  | x :: r => isID x && isIDs r
end
mutual
theorem eqv_id : ∀ (d e : D), isID d = true → isID e = true → (PyData.eqv d e = true ↔ d = e)
  | .int i, e, _, he => by
    cases e with
    | int j => simp [PyData.eqv]
    | tuple ys => simp [PyData.eqv]
    | _ => cases he
  | .tuple xs, e, hd, he => by
    cases e with
    | int j => simp [PyData.eqv]
    | tuple ys =>
      have := eqvs_id xs ys hd he
      simp only [PyData.eqv, PyData.tuple.injEq]
      exact this
    | _ => cases he
  | .list _, _, hd, _ => by cases hd
  | .none, _, hd, _ => by cases hd
  | .bool _, _, hd, _ => by cases hd
  | .str _, _, hd, _ => by cases hd
  | .dict _, _, hd, _ => by cases hd
theorem eqvs_id : ∀ (xs ys : List D), isIDs xs = true → isIDs ys = true → (PyData.eqvAll xs ys = true ↔ xs = ys)
  | [], [], _, _ => by simp [PyData.eqvAll]
  | [], _ :: _, _, _ => by simp [PyData.eqvAll]
  | _ :: _, [], _, _ => by simp [PyData.eqvAll]
  | x :: r, y :: s, h1, h2 => by
    have h1' := Bool.and_eq_true_iff.mp (show (isID x && isIDs r) = true from h1)
    have h2' := Bool.and_eq_true_iff.mp (show (isID y && isIDs s) = true from h2)
    simp only [PyData.eqvAll, Bool.and_eq_true, List.cons.injEq]
    rw [eqv_id x y h1'.1 h2'.1, eqvs_id r s h1'.2 h2'.2]
end
mutual
theorem canLay_id : ∀ d : D, isID d = true → PyData.canLay0 d = true
  | .int i, _ => by simp [PyData.canLay0]
  | .tuple xs, h => by
    simp only [PyData.canLay0]
    exact canLays_id xs h
  | .list _, hd => by cases hd
  | .none, hd => by cases hd
  | .bool _, hd => by cases hd
  | .str _, hd => by cases hd
  | .dict _, hd => by cases hd
theorem canLays_id : ∀ xs : List D, isIDs xs = true → PyData.canLayAll0 xs = true
  | [], _ => rfl
  | x :: r, h => by
    have h' := Bool.and_eq_true_iff.mp (show (isID x && isIDs r) = true from h)
    simp only [PyData.canLayAll0, Bool.and_eq_true]
    exact ⟨canLay_id x h'.1, canLays_id r h'.2⟩
end
theorem isIDs_map {f : α → D} : ∀ {xs : List α}, (∀ a ∈ xs, isID (f a) = true) → isIDs (xs.map f) = true
  | [], _ => rfl
  | a :: r, h => by
    show (isID (f a) && isIDs (r.map f)) = true
    rw [h a List.mem_cons_self, isIDs_map fun b hb => h b (List.mem_cons_of_mem _ hb)]; rfl
theorem depthAll_map {f : α → D} {k : Nat} : ∀ {xs : List α}, (∀ a ∈ xs, (f a).depth ≤ k) → PyData.depthAll (xs.map f) ≤ k
  | [], _ => by simp [PyData.depthAll]
  | a :: r, h => by
    have h1 := h a List.mem_cons_self
    have h2 := depthAll_map fun b hb => h b (List.mem_cons_of_mem _ hb)
    simp only [List.map_cons, PyData.depthAll]
    omega
@[simp] theorem isID_N {a : Nat} : isID (N a) = true := rfl
@[simp] theorem isID_int {a : Int} : isID (.int a) = true := rfl
@[simp] theorem depth_N {a : Nat} : (N a).depth = 0 := by simp [N, PyData.depth]
@[simp] theorem depth_int {a : Int} : (PyData.int a).depth = 0 := by simp [PyData.depth]
theorem shp_id {d : D} (h : isID d = true) (hd : d.depth ≤ 64) : shp d = true := by
  unfold shp SeqAt.shaped
  rw [canLay_id d h, decide_eq_true hd]; rfl
open Classical in
theorem eq_id {d e : D} (h1 : isID d = true) (h2 : isID e = true) (d1 : d.depth ≤ 64) (d2 : e.depth ≤ 64) : cmpD .eq d e = some (decide (d = e)) := by
  have key : eqD d e = if shp d && shp e then some (PyData.eqv d e) else none := by
    cases d <;> first | rfl | cases h1
  show eqD d e = _
  rw [key, shp_id h1 d1, shp_id h2 d2]
  show some _ = _
  congr 1
  by_cases h : d = e
  · rw [decide_eq_true h]; exact (eqv_id d e h1 h2).mpr h
  · rw [decide_eq_false h]
    cases hv : PyData.eqv d e with
    | true => exact absurd ((eqv_id d e h1 h2).mp hv) h
    | false => rfl
open Classical in
theorem ne_id {d e : D} (h1 : isID d = true) (h2 : isID e = true) (d1 : d.depth ≤ 64) (d2 : e.depth ≤ 64) : cmpD .ne d e = some (!decide (d = e)) := by
  have := eq_id h1 h2 d1 d2
  show (eqD d e).map not = _
  rw [show eqD d e = some (decide (d = e)) from this]; rfl
theorem map_inj {f : α → β} (hf : ∀ a b, f a = f b → a = b) : ∀ {xs ys : List α}, xs.map f = ys.map f → xs = ys
  | [], [], _ => rfl
  | [], _ :: _, h => by cases h
  | _ :: _, [], h => by cases h
  | x :: r, y :: s, h => by
    simp only [List.map_cons, List.cons.injEq] at h
    rw [hf x y h.1, map_inj hf h.2]
theorem N_inj' (a b : Nat) (h : N a = N b) : a = b := N_inj.mp h
/-! ### a number, a whole one -/
theorem ge_iN {i : Int} {k : Nat} : cmpD .ge (.int i) (N k) = some (decide ((k : Int) ≤ i)) := rfl
theorem lt_iN {i : Int} {k : Nat} : cmpD .lt (.int i) (N k) = some (decide (i < (k : Int))) := rfl
theorem int_toN {i : Int} (h : 0 ≤ i) : PyData.int i = N i.toNat := by unfold N; congr 1; omega
/-! ### where a number stands first -/
theorem idxFrom_N {a : Nat} : ∀ {l : List Nat} {k : Nat}, a ∈ l → idxFrom (N a) (l.map N) k = some (k + l.idxOf a)
  | x :: r, k, h => by
    show (if PyData.eqv (N x) (N a) then some k else idxFrom (N a) (r.map N) (k + 1)) = _
    rw [eqv_N]
    by_cases e : x = a
    · subst e; simp
    · rw [if_neg (by simpa using e), idxFrom_N ((List.mem_cons.mp h).resolve_left fun z => e z.symm), List.idxOf_cons]
      have : (x == a) = false := by simpa using e
      rw [this]
      congr 1
      simp; omega
theorem index_tup {a : Nat} {l : List Nat} (h : a ∈ l) : mthD .index (.tuple (l.map N)) [N a] = some (N (l.idxOf a)) := by
  show (if shp (N a) && shp (.list (l.map N)) then (idxFrom (N a) (l.map N) 0).map fun n => PyData.int (n : Nat) else none) = _
  have : shp (.list (l.map N)) = true := by
    unfold shp SeqAt.shaped
    rw [Bool.and_eq_true]
    refine ⟨canLay_N l, ?_⟩
    rw [decide_eq_true_eq]
    show PyData.depthAll (l.map N) + 1 ≤ 64
    rw [depthAll_N]; decide
  rw [shp_N, this, idxFrom_N h]
  simp [N]
theorem index_list {a : Nat} {l : List Nat} (h : a ∈ l) : mthD .index (.list (l.map N)) [N a] = some (N (l.idxOf a)) := by
  have := index_tup h
  exact this
end Sy
end
section
set_option Elab.async false
set_option linter.all false
set_option maxRecDepth 100000
namespace Sy
open PySem Fw
variable {α β σ : Type}
/-! ### data of ints, texts, None, truth values and tuples; with lists in the place of tuples -/
mutual
def isOk : D → Bool
  | .int _ => true
  | .str _ => true
  | .none => true
  | .bool _ => true
  | .tuple xs => decide (xs.length ≤ 1000) && isOks xs
  | .list _ => false
  | .dict _ => false
def isOks : List D → Bool
  | [] => true
  | x :: r => isOk x && isOks r
end
mutual
/-- lists in the place of tuples -/
def lstD : D → D
  | .tuple xs => .list (lstDs xs)
  | .list xs => .list xs
  | .int i => .int i
  | .str x => .str x
  | .none => .none
  | .bool b => .bool b
  | .dict m => .dict m
def lstDs : List D → List D
  | [] => []
  | x :: r => lstD x :: lstDs r
end
mutual
theorem tup_ok : ∀ d : D, isOk d = true → tup d = d ∧ tup (lstD d) = d ∧ sz (lstD d) = sz d ∧ dpt (lstD d) = dpt d
  | .int _, _ => ⟨rfl, rfl, rfl, rfl⟩
  | .str _, _ => ⟨rfl, rfl, rfl, rfl⟩
  | .none, _ => ⟨rfl, rfl, rfl, rfl⟩
  | .bool _, _ => ⟨rfl, rfl, rfl, rfl⟩
  | .tuple xs, h => by
    obtain ⟨h1, h2, h3, h4⟩ := tups_ok xs (Bool.and_eq_true_iff.mp (show (decide (xs.length ≤ 1000) && isOks xs) = true from h)).2
    refine ⟨?_, ?_, ?_, ?_⟩
    · show PyData.tuple (tups xs) = _; rw [h1]
    · show PyData.tuple (tups (lstDs xs)) = _; rw [h2]
    · show 2 + szs (lstDs xs) = 2 + szs xs; rw [h3]
    · show 1 + dpts (lstDs xs) = 1 + dpts xs; rw [h4]
  | .list _, h => by cases h
  | .dict _, h => by cases h
theorem tups_ok : ∀ xs : List D, isOks xs = true → tups xs = xs ∧ tups (lstDs xs) = xs ∧ szs (lstDs xs) = szs xs ∧ dpts (lstDs xs) = dpts xs
  | [], _ => ⟨rfl, rfl, rfl, rfl⟩
  | x :: r, h => by
    have h' := Bool.and_eq_true_iff.mp (show (isOk x && isOks r) = true from h)
    obtain ⟨a1, a2, a3, a4⟩ := tup_ok x h'.1
    obtain ⟨b1, b2, b3, b4⟩ := tups_ok r h'.2
    refine ⟨?_, ?_, ?_, ?_⟩
    · show tup x :: tups r = _; rw [a1, b1]
    · show tup (lstD x) :: tups (lstDs r) = _; rw [a2, b2]
    · show sz (lstD x) + szs (lstDs r) = sz x + szs r; rw [a3, b3]
    · show max (dpt (lstD x)) (dpts (lstDs r)) = max (dpt x) (dpts r); rw [a4, b4]
end
theorem tupF_of {d : D} (hs : sz d ≤ 1000000) (hd : dpt d ≤ 1999) : tupF [d] = some (tup d) := by
  show (if decide (sz d ≤ 1000000) && decide (dpt d ≤ 1999) then some (tup d) else none) = _
  rw [decide_eq_true hs, decide_eq_true hd]; rfl
theorem tupF_id {d : D} (h : isOk d = true) (hs : sz d ≤ 1000000) (hd : dpt d ≤ 1999) : tupF [d] = some d := by rw [tupF_of hs hd, (tup_ok d h).1]
theorem tupF_lst {d : D} (h : isOk d = true) (hs : sz d ≤ 1000000) (hd : dpt d ≤ 1999) : tupF [lstD d] = some d := by
  have := tup_ok d h
  rw [tupF_of (by rw [this.2.2.1]; exact hs) (by rw [this.2.2.2]; exact hd), this.2.1]
theorem lstDs_map : ∀ xs : List D, lstDs xs = xs.map lstD
  | [] => rfl
  | x :: r => by show lstD x :: lstDs r = _; rw [lstDs_map r]; rfl
theorem isOks_map {f : α → D} : ∀ {xs : List α}, (∀ a ∈ xs, isOk (f a) = true) → isOks (xs.map f) = true
  | [], _ => rfl
  | a :: r, h => by
    show (isOk (f a) && isOks (r.map f)) = true
    rw [h a List.mem_cons_self, isOks_map fun b hb => h b (List.mem_cons_of_mem _ hb)]; rfl
theorem isOks_get : ∀ {xs : List D} {k : Nat} {x : D}, isOks xs = true → xs[k]? = some x → isOk x = true
  | [], _, _, _, h => by simp at h
  | x :: r, 0, y, h, e => by
    simp at e; subst e
    exact (Bool.and_eq_true_iff.mp (show (isOk x && isOks r) = true from h)).1
  | x :: r, k + 1, y, h, e => isOks_get (Bool.and_eq_true_iff.mp (show (isOk x && isOks r) = true from h)).2 (by simpa using e)
theorem szs_map {f : α → D} {c : Nat} : ∀ {xs : List α}, (∀ a ∈ xs, sz (f a) ≤ c) → szs (xs.map f) ≤ c * xs.length
  | [], _ => by simp [szs]
  | a :: r, h => by
    have h1 := h a List.mem_cons_self
    have h2 := szs_map fun b hb => h b (List.mem_cons_of_mem _ hb)
    simp only [List.map_cons, szs, List.length_cons, Nat.mul_add, Nat.mul_one]
    omega
theorem dpts_map {f : α → D} {c : Nat} : ∀ {xs : List α}, (∀ a ∈ xs, dpt (f a) ≤ c) → dpts (xs.map f) ≤ c
  | [], _ => by simp [dpts]
  | a :: r, h => by
    have h1 := h a List.mem_cons_self
    have h2 := dpts_map fun b hb => h b (List.mem_cons_of_mem _ hb)
    simp only [List.map_cons, dpts]
    omega
theorem dpts_get : ∀ {xs : List D} {k : Nat} {x : D}, xs[k]? = some x → dpt x ≤ dpts xs
  | [], _, _, h => by simp at h
  | x :: r, 0, y, e => by simp at e; subst e; simp only [dpts]; omega
  | x :: r, k + 1, y, e => by have := dpts_get (xs := r) (k := k) (x := y) (by simpa using e); simp only [dpts]; omega
theorem eq_bool {b c : Bool} : cmpD .eq (.bool b) (.bool c) = some (b == c) := rfl
theorem eq_str {x y : Str} : cmpD .eq (.str x) (.str y) = some (decide (x = y)) := rfl
theorem eq_nil : cmpD .eq (.list []) (.list []) = some true := rfl
@[simp] theorem is_non (d : D) (h : d ≠ .none) : cmpD .is d .none = some false := by cases d <;> first | rfl | exact absurd rfl h
@[simp] theorem is_i (i) : cmpD .is (.int i) .none = some false := rfl
@[simp] theorem is_n (i) : cmpD .is (N i) .none = some false := rfl
@[simp] theorem is_s (i) : cmpD .is (.str i) .none = some false := rfl
@[simp] theorem is_t (i) : cmpD .is (.tuple i) .none = some false := rfl
@[simp] theorem is_b (i) : cmpD .is (.bool i) .none = some false := rfl
@[simp] theorem is_nn : cmpD .is .none .none = some true := rfl
@[simp] theorem isn_n : cmpD .isnot .none .none = some false := rfl
@[simp] theorem isn_t (i) : cmpD .isnot (.tuple i) .none = some true := rfl
@[simp] theorem isn_true : cmpD .isnot (.bool true) (.bool true) = some false := rfl
@[simp] theorem isn_false : cmpD .isnot (.bool false) (.bool false) = some false := rfl
theorem genGo_none {f : D → Option (List D)} {n : Nat} (h : ∀ k, k < n → f (N k) = some []) : genGo f (rngN n) = some [] := by
  have := genGo_NF (f := f) (g := fun k => N k) (p := fun _ => false) (n := n) (fun k hk => by simpa using h k hk)
  have e : (List.range n).filter (fun _ => false) = [] := List.filter_eq_nil_iff.mpr fun _ _ => by simp
  rw [e] at this
  exact this
end Sy
end
section
set_option Elab.async false
set_option linter.all false
set_option maxRecDepth 100000
namespace K11
open PySem Fw Sy
def f_need : Df := ⟨[false, false], 2, [.ife (.not (.v 0)) [.never] []]⟩
def f_is_int : Df := ⟨[false], 1, [.ret (.bo true [(.isi (.v 0) [.int]), (.not (.isi (.v 0) [.bool]))])]⟩
def f_is_between : Df := ⟨[false, false, false], 3, [.ret (.bo true [(.call 1 [false] [(.v 0)]), (.chn .le .le (.v 1) (.v 0) (.v 2))])]⟩
def f_is_seq : Df := ⟨[false], 1, [.ret (.bo false [(.isi (.v 0) [.list]), (.isi (.v 0) [.tuple])])]⟩
def f_is_row : Df := ⟨[false, false], 2, [.ret (.bo true [(.isi (.v 0) [.tuple]), (.cmp .eq (.blt .len [(.v 0)]) (.v 1))])]⟩
def f_is_name : Df := ⟨[false], 2, [.ret (.bo true [(.isi (.v 0) [.str]), (.chn .le .le (.c (.int 1)) (.blt .len [(.v 0)]) (.c (.int 8))), (.cmpn .all (.gen [1] (.n 1) (.v 0) [] (.yld (.chn .le .le (.c (.str ⟨#[97]⟩)) (.v 1) (.c (.str ⟨#[122]⟩))))))])]⟩
def f_tupled : Df := ⟨[false], 6, []⟩
def f_ascends : Df := ⟨[false], 2, [.ret (.cmpn .all (.gen [1] (.n 1) (.rng [(.bin .sub (.blt .len [(.v 0)]) (.c (.int 1)))]) [] (.yld (.cmp .lt (.idx (.v 0) (.v 1)) (.idx (.v 0) (.bin .add (.v 1) (.c (.int 1))))))))]⟩
def f_choices : Df := ⟨[false, false], 6, [.set 2 false (.lst [(.tup [])]), .for_ (.n 3) (.rng [(.v 1)]) [.set 2 false (.cmpn .lst (.gen [4, 5] (.n 4) (.v 2) [] (.gen [5] (.n 5) (.v 0) [] (.yld (.bin .add (.v 4) (.tup [(.v 5)]))))))], .ret (.v 2)]⟩
def f_orders_of : Df := ⟨[false], 2, [.ret (.cmpn .lst (.gen [1] (.n 1) (.call 8 [false, false] [(.lrg false [(.v 0)]), (.v 0)]) [(.cmp .eq (.blt .lenset [(.v 1)]) (.v 0))] (.yld (.v 1))))]⟩
def f_is_order : Df := ⟨[false, false], 3, [.ife (.bo false [(.not (.call 4 [false, false] [(.v 0), (.v 1)])), (.not (.cmpn .all (.gen [2] (.n 2) (.v 0) [] (.yld (.call 2 [false, false, false] [(.v 2), (.c (.int 0)), (.bin .sub (.v 1) (.c (.int 1)))])))))]) [.ret (.c (.bool false))] [], .ret (.cmp .eq (.blt .lenset [(.v 0)]) (.v 1))]⟩
def f_whole : Df := ⟨[false], 1, [.ret (.bin .sub (.bin .shl (.c (.int 1)) (.bin .shl (.c (.int 1)) (.v 0))) (.c (.int 1)))]⟩
def f_table_fits : Df := ⟨[false], 1, [.ret (.bo true [(.call 4 [false, false] [(.v 0), (.c (.int 2))]), (.call 2 [false, false, false] [(.idx (.v 0) (.c (.int 0))), (.c (.int 1)), (.c (.int 3))]), (.call 2 [false, false, false] [(.idx (.v 0) (.c (.int 1))), (.c (.int 0)), (.call 11 [false] [(.idx (.v 0) (.c (.int 0)))])])])]⟩
def f_bit_of : Df := ⟨[false, false], 2, [.ret (.bin .band (.bin .shr (.v 0) (.v 1)) (.c (.int 1)))]⟩
def f_from_bits : Df := ⟨[false], 2, [.ret (.blt .sum [(.cmpn .lst (.gen [1] (.n 1) (.rng [(.blt .len [(.v 0)])]) [] (.yld (.bin .shl (.idx (.v 0) (.v 1)) (.v 1)))))])]⟩
def f_input_numbers : Df := ⟨[false], 2, [.ret (.blt .tuple [(.cmpn .lst (.gen [1] (.n 1) (.rng [(.v 0)]) [] (.yld (.call 16 [false, false] [(.v 0), (.v 1)]))))])]⟩
def f_taker_number : Df := ⟨[false, false], 3, [.ret (.call 14 [false] [(.cmpn .lst (.gen [2] (.n 2) (.rng [(.bin .shl (.c (.int 1)) (.v 0))]) [] (.yld (.call 13 [false, false] [(.v 2), (.v 1)]))))])]⟩
def f_applied : Df := ⟨[false, false, false], 7, [.set 3 false (.idx (.v 0) (.c (.int 1))), .ife (.cmp .eq (.idx (.v 0) (.c (.int 0))) (.c (.int 1))) [.set 6 false (.c (.int 0)), .ife (.bin .band (.v 3) (.c (.int 1))) [.set 6 false (.bin .bxor (.v 2) (.idx (.v 1) (.c (.int 0))))] [], .ife (.bin .band (.v 3) (.c (.int 2))) [.set 6 false (.bin .bor (.v 6) (.idx (.v 1) (.c (.int 0))))] [], .ret (.v 6)] [], .ife (.cmp .eq (.idx (.v 0) (.c (.int 0))) (.c (.int 2))) [.ret (.call 18 [false, false, false, false] [(.v 3), (.idx (.v 1) (.c (.int 0))), (.idx (.v 1) (.c (.int 1))), (.v 2)])] [], .set 4 false (.call 18 [false, false, false, false] [(.bin .band (.v 3) (.c (.int 15))), (.idx (.v 1) (.c (.int 0))), (.idx (.v 1) (.c (.int 1))), (.v 2)]), .set 5 false (.call 18 [false, false, false, false] [(.bin .shr (.v 3) (.c (.int 4))), (.idx (.v 1) (.c (.int 0))), (.idx (.v 1) (.c (.int 1))), (.v 2)]), .ret (.bin .bor (.bin .band (.v 4) (.bin .bxor (.v 2) (.idx (.v 1) (.c (.int 2))))) (.bin .band (.v 5) (.idx (.v 1) (.c (.int 2)))))]⟩
def f_of_two : Df := ⟨[false, false, false, false], 5, [.set 4 false (.c (.int 0)), .ife (.bin .band (.v 0) (.c (.int 1))) [.set 4 false (.bin .bxor (.v 3) (.bin .bor (.v 1) (.v 2)))] [], .ife (.bin .band (.v 0) (.c (.int 2))) [.set 4 false (.bin .bor (.v 4) (.bin .band (.v 1) (.bin .bxor (.v 3) (.v 2))))] [], .ife (.bin .band (.v 0) (.c (.int 4))) [.set 4 false (.bin .bor (.v 4) (.bin .band (.v 2) (.bin .bxor (.v 3) (.v 1))))] [], .ife (.bin .band (.v 0) (.c (.int 8))) [.set 4 false (.bin .bor (.v 4) (.bin .band (.v 1) (.v 2)))] [], .ret (.v 4)]⟩
def f_need_two : Df := ⟨[false, false], 2, [.ex (.call 0 [false, false] [(.call 12 [false] [(.v 0)]), (.c (.int 1))]), .ex (.call 0 [false, false] [(.bo true [(.call 12 [false] [(.v 1)]), (.cmp .eq (.idx (.v 1) (.c (.int 0))) (.idx (.v 0) (.c (.int 0))))]), (.c (.int 2))])]⟩
def f_met : Df := ⟨[false, false], 2, [.par 0 1 (.call 6 [false] [(.v 0)]) (.call 6 [false] [(.v 1)]), .ex (.call 19 [false, false] [(.v 0), (.v 1)]), .ret (.tup [(.idx (.v 0) (.c (.int 0))), (.bin .band (.idx (.v 0) (.c (.int 1))) (.idx (.v 1) (.c (.int 1))))])]⟩
def f_either : Df := ⟨[false, false], 2, [.par 0 1 (.call 6 [false] [(.v 0)]) (.call 6 [false] [(.v 1)]), .ex (.call 19 [false, false] [(.v 0), (.v 1)]), .ret (.tup [(.idx (.v 0) (.c (.int 0))), (.bin .bor (.idx (.v 0) (.c (.int 1))) (.idx (.v 1) (.c (.int 1))))])]⟩
def f_hangs_on : Df := ⟨[false], 2, [.set 0 false (.call 6 [false] [(.v 0)]), .ex (.call 0 [false, false] [(.call 12 [false] [(.v 0)]), (.c (.int 1))]), .ret (.blt .tuple [(.cmpn .lst (.gen [1] (.n 1) (.rng [(.idx (.v 0) (.c (.int 0)))]) [(.cmp .gt (.call 23 [false, false] [(.v 0), (.v 1)]) (.c (.int 0)))] (.yld (.v 1))))])]⟩
def f_changes : Df := ⟨[false, false], 3, [.ret (.blt .sum [(.cmpn .lst (.gen [2] (.n 2) (.rng [(.bin .shl (.c (.int 1)) (.idx (.v 0) (.c (.int 0))))]) [] (.yld (.bin .bxor (.call 13 [false, false] [(.idx (.v 0) (.c (.int 1))), (.v 2)]) (.call 13 [false, false] [(.idx (.v 0) (.c (.int 1))), (.bin .bxor (.v 2) (.bin .shl (.c (.int 1)) (.v 1)))])))))])]⟩
def f_held : Df := ⟨[false, false, false], 5, [.set 0 false (.call 6 [false] [(.v 0)]), .ex (.call 0 [false, false] [(.call 12 [false] [(.v 0)]), (.c (.int 1))]), .ex (.call 0 [false, false] [(.call 2 [false, false, false] [(.v 1), (.c (.int 0)), (.bin .sub (.idx (.v 0) (.c (.int 0))) (.c (.int 1)))]), (.c (.int 2))]), .ex (.call 0 [false, false] [(.call 2 [false, false, false] [(.v 2), (.c (.int 0)), (.c (.int 1))]), (.c (.int 3))]), .set 3 false (.bin .shl (.c (.int 1)) (.v 1)), .ife (.cmp .eq (.v 2) (.c (.int 1))) [.ret (.tup [(.idx (.v 0) (.c (.int 0))), (.call 14 [false] [(.cmpn .lst (.gen [4] (.n 4) (.rng [(.bin .shl (.c (.int 1)) (.idx (.v 0) (.c (.int 0))))]) [] (.yld (.call 13 [false, false] [(.idx (.v 0) (.c (.int 1))), (.bin .bor (.v 4) (.v 3))]))))])])] [], .ret (.tup [(.idx (.v 0) (.c (.int 0))), (.call 14 [false] [(.cmpn .lst (.gen [4] (.n 4) (.rng [(.bin .shl (.c (.int 1)) (.idx (.v 0) (.c (.int 0))))]) [] (.yld (.call 13 [false, false] [(.idx (.v 0) (.c (.int 1))), (.bin .bxor (.bin .bor (.v 4) (.v 3)) (.v 3))]))))])])]⟩
def f_gate_fits : Df := ⟨[false], 1, [.ret (.bo true [(.call 4 [false, false] [(.v 0), (.c (.int 3))]), (.call 5 [false] [(.idx (.v 0) (.c (.int 0)))]), (.call 12 [false] [(.idx (.v 0) (.c (.int 1)))]), (.call 2 [false, false, false] [(.idx (.v 0) (.c (.int 2))), (.c (.int 1)), (.c (.int 9))])])]⟩
def f_set_fits : Df := ⟨[false], 2, [.ife (.bo false [(.not (.call 4 [false, false] [(.v 0), (.c (.int 3))])), (.not (.isi (.idx (.v 0) (.c (.int 0))) [.tuple])), (.not (.chn .le .le (.c (.int 1)) (.blt .len [(.idx (.v 0) (.c (.int 0)))]) (.c (.int 6))))]) [.ret (.c (.bool false))] [], .ife (.not (.cmpn .all (.gen [1] (.n 1) (.idx (.v 0) (.c (.int 0))) [] (.yld (.call 25 [false] [(.v 1)]))))) [.ret (.c (.bool false))] [], .ife (.not (.call 7 [false] [(.cmpn .lst (.gen [1] (.n 1) (.idx (.v 0) (.c (.int 0))) [] (.yld (.idx (.v 1) (.c (.int 0))))))])) [.ret (.c (.bool false))] [], .ret (.bo true [(.isi (.idx (.v 0) (.c (.int 1))) [.bool]), (.isi (.idx (.v 0) (.c (.int 2))) [.bool])])]⟩
def f_gate_named : Df := ⟨[false, false], 3, [.for_ (.n 2) (.idx (.v 0) (.c (.int 0))) [.ife (.bo true [(.isi (.v 1) [.str]), (.cmp .eq (.idx (.v 2) (.c (.int 0))) (.v 1))]) [.ret (.v 2)] []], .ret (.c .none)]⟩
def f_has_gate : Df := ⟨[false, false, true], 4, [.set 3 false (.call 27 [false, false] [(.v 0), (.v 1)]), .ret (.bo true [(.cmp .isnot (.v 3) (.c .none)), (.cmp .eq (.idx (.v 3) (.c (.int 1))) (.v 2))])]⟩
def f_chosen : Df := ⟨[], 0, [.ret (.tup [(.tup [(.tup [(.c (.str ⟨#[109, 117, 120]⟩)), (.tup [(.c (.int 3)), (.c (.int 202))]), (.c (.int 1))])]), (.c (.bool true)), (.c (.bool true))])]⟩
def f_order_fits : Df := ⟨[false], 1, [.ret (.bo true [(.isi (.v 0) [.tuple]), (.chn .le .le (.c (.int 1)) (.blt .len [(.v 0)]) (.c (.int 3))), (.call 10 [false, false] [(.v 0), (.blt .len [(.v 0)])])])]⟩
def f_held_tables : Df := ⟨[false, false, false], 7, [.set 3 false (.lst [(.v 0)]), .for_ (.n 4) (.cut false true (.v 1) (.c .none) (.v 2)) [.set 3 false (.cmpn .sset (.gen [5, 6] (.n 5) (.v 3) [] (.gen [6] (.n 6) (.tup [(.c (.int 0)), (.c (.int 1))]) [] (.yld (.call 24 [false, false, false] [(.v 5), (.v 4), (.v 6)])))))], .ret (.v 3)]⟩
def f_diagram_made : Df := ⟨[false, false], 11, [.set 2 false (.idx (.v 0) (.c (.int 0))), .newD 3 true [(.tup [(.v 2), (.c (.int 0))]), (.tup [(.v 2), (.call 11 [false] [(.v 2)])])] [(.neg (.c (.int 1))), (.neg (.c (.int 2)))], .set 4 true (.lst []), .for_ (.n 5) (.rng [(.bin .sub (.v 2) (.c (.int 1))), (.neg (.c (.int 1))), (.neg (.c (.int 1)))]) [.set 6 false (.idx (.v 1) (.v 5)), .set 7 true (.lst []), .for_ (.n 8) (.call 31 [false, false, false] [(.v 0), (.v 1), (.v 5)]) [.ife (.cmp .isin (.v 6) (.call 22 [false] [(.v 8)])) [.app 7 (.tup [(.idx (.v 3) (.call 24 [false, false, false] [(.v 8), (.v 6), (.c (.int 0))])), (.idx (.v 3) (.call 24 [false, false, false] [(.v 8), (.v 6), (.c (.int 1))])), (.v 8)])] []], .for_ (.t [9, 10, 8]) (.blt .sorted [(.v 7)]) [.put 3 (.v 8) (.blt .len [(.v 4)]), .app 4 (.tup [(.v 6), (.v 9), (.v 10)])]], .ret (.tup [(.v 1), (.blt .tuple [(.v 4)]), (.idx (.v 3) (.v 0))])]⟩
def f_bit_reached : Df := ⟨[false, false], 7, [.set 2 false (.idx (.v 0) (.c (.int 1))), .set 3 false (.idx (.v 0) (.c (.int 2))), .whl 1000000 (.cmp .ge (.v 3) (.c (.int 0))) [.asg [4, 5, 6] (.idx (.v 2) (.v 3)), .set 3 false (.ife (.cmp .eq (.bin .band (.bin .shr (.v 1) (.v 4)) (.c (.int 1))) (.c (.int 1))) (.v 6) (.v 5))], .ret (.bin .sub (.neg (.c (.int 1))) (.v 3))]⟩
def f_diagram_table : Df := ⟨[false], 4, [.set 1 false (.blt .len [(.idx (.v 0) (.c (.int 0)))]), .set 2 false (.c (.int 0)), .for_ (.n 3) (.rng [(.bin .shl (.c (.int 1)) (.v 1))]) [.set 2 false (.bin .bor (.v 2) (.bin .shl (.call 33 [false, false] [(.v 0), (.v 3)]) (.v 3)))], .ret (.tup [(.v 1), (.v 2)])]⟩
def f_node_fits : Df := ⟨[false, false, false], 7, [.ife (.bo false [(.not (.call 4 [false, false] [(.idx (.v 1) (.v 2)), (.c (.int 3))])), (.not (.call 2 [false, false, false] [(.idx (.idx (.v 1) (.v 2)) (.c (.int 0))), (.c (.int 0)), (.bin .sub (.blt .len [(.v 0)]) (.c (.int 1)))]))]) [.ret (.c (.bool false))] [], .asg [4, 5, 6] (.idx (.v 1) (.v 2)), .ife (.bo false [(.not (.call 2 [false, false, false] [(.v 5), (.neg (.c (.int 2))), (.bin .sub (.v 2) (.c (.int 1)))])), (.not (.call 2 [false, false, false] [(.v 6), (.neg (.c (.int 2))), (.bin .sub (.v 2) (.c (.int 1)))])), (.cmp .eq (.v 5) (.v 6))]) [.ret (.c (.bool false))] [], .set 3 false (.cut true false (.v 0) (.bin .add (.mth .index (.v 0) [(.v 4)]) (.c (.int 1))) (.c .none)), .ret (.bo true [(.bo false [(.cmp .lt (.v 5) (.c (.int 0))), (.cmp .isin (.idx (.idx (.v 1) (.v 5)) (.c (.int 0))) (.v 3))]), (.bo false [(.cmp .lt (.v 6) (.c (.int 0))), (.cmp .isin (.idx (.idx (.v 1) (.v 6)) (.c (.int 0))) (.v 3))])])]⟩
def f_diagram_fits : Df := ⟨[false], 5, [.ife (.bo false [(.not (.call 4 [false, false] [(.v 0), (.c (.int 3))])), (.not (.call 30 [false] [(.idx (.v 0) (.c (.int 0)))])), (.not (.isi (.idx (.v 0) (.c (.int 1))) [.tuple]))]) [.ret (.c (.bool false))] [], .asg [2, 3, 4] (.v 0), .for_ (.n 1) (.rng [(.blt .len [(.v 3)])]) [.ife (.not (.call 35 [false, false, false] [(.v 2), (.v 3), (.v 1)])) [.ret (.c (.bool false))] []], .ife (.not (.call 2 [false, false, false] [(.v 4), (.neg (.c (.int 2))), (.bin .sub (.blt .len [(.v 3)]) (.c (.int 1)))])) [.ret (.c (.bool false))] [], .ret (.cmp .eq (.call 32 [false, false] [(.call 34 [false] [(.v 0)]), (.v 2)]) (.v 0))]⟩
def f_diagram_by : Df := ⟨[false, false], 2, [.ret (.bo true [(.call 36 [false] [(.v 0)]), (.cmp .eq (.idx (.v 0) (.c (.int 0))) (.v 1))])]⟩
def f_diagram : Df := ⟨[false, false], 2, [.set 0 false (.call 6 [false] [(.v 0)]), .set 1 false (.call 6 [false] [(.v 1)]), .ex (.call 0 [false, false] [(.call 12 [false] [(.v 0)]), (.c (.int 1))]), .ex (.call 0 [false, false] [(.call 10 [false, false] [(.v 1), (.idx (.v 0) (.c (.int 0)))]), (.c (.int 2))]), .ret (.call 32 [false, false] [(.v 0), (.v 1)])]⟩
def f_is_diagram : Df := ⟨[false, false], 2, [.ex (.call 0 [false, false] [(.call 2 [false, false, false] [(.v 0), (.c (.int 1)), (.c (.int 3))]), (.c (.int 1))]), .set 1 false (.call 6 [false] [(.v 1)]), .ret (.bo true [(.call 36 [false] [(.v 1)]), (.cmp .eq (.blt .len [(.idx (.v 1) (.c (.int 0)))]) (.v 0))])]⟩
def f_bit_by : Df := ⟨[false, false], 2, [.set 0 false (.call 6 [false] [(.v 0)]), .ex (.call 0 [false, false] [(.call 36 [false] [(.v 0)]), (.c (.int 1))]), .ex (.call 0 [false, false] [(.call 2 [false, false, false] [(.v 1), (.c (.int 0)), (.bin .sub (.bin .shl (.c (.int 1)) (.blt .len [(.idx (.v 0) (.c (.int 0)))])) (.c (.int 1)))]), (.c (.int 2))]), .ret (.call 33 [false, false] [(.v 0), (.v 1)])]⟩
def f_table_by : Df := ⟨[false, false], 2, [.set 0 false (.call 6 [false] [(.v 0)]), .ex (.call 0 [false, false] [(.call 36 [false] [(.v 0)]), (.c (.int 1))]), .ex (.call 0 [false, false] [(.call 2 [false, false, false] [(.v 1), (.blt .len [(.idx (.v 0) (.c (.int 0)))]), (.blt .len [(.idx (.v 0) (.c (.int 0)))])]), (.c (.int 2))]), .ret (.call 34 [false] [(.v 0)])]⟩
def f_size_made : Df := ⟨[false, false], 2, [.ret (.blt .len [(.idx (.call 32 [false, false] [(.v 0), (.v 1)]) (.c (.int 1)))])]⟩
def f_size : Df := ⟨[false, false], 2, [.set 0 false (.call 6 [false] [(.v 0)]), .set 1 false (.call 6 [false] [(.v 1)]), .ex (.call 0 [false, false] [(.call 12 [false] [(.v 0)]), (.c (.int 1))]), .ex (.call 0 [false, false] [(.call 10 [false, false] [(.v 1), (.idx (.v 0) (.c (.int 0)))]), (.c (.int 2))]), .ret (.call 42 [false, false] [(.v 0), (.v 1)])]⟩
def f_best_order : Df := ⟨[false], 2, [.set 0 false (.call 6 [false] [(.v 0)]), .ex (.call 0 [false, false] [(.call 12 [false] [(.v 0)]), (.c (.int 1))]), .ret (.idx (.blt .min [(.cmpn .lst (.gen [1] (.n 1) (.call 9 [false] [(.idx (.v 0) (.c (.int 0)))]) [] (.yld (.tup [(.call 42 [false, false] [(.v 0), (.v 1)]), (.v 1)]))))]) (.c (.int 1)))]⟩
def f_sizes : Df := ⟨[false], 2, [.set 0 false (.call 6 [false] [(.v 0)]), .ex (.call 0 [false, false] [(.call 12 [false] [(.v 0)]), (.c (.int 1))]), .ret (.cmpn .tup (.gen [1] (.n 1) (.call 9 [false] [(.idx (.v 0) (.c (.int 0)))]) [] (.yld (.call 42 [false, false] [(.v 0), (.v 1)]))))]⟩
def f_kin : Df := ⟨[false, false, false], 3, [.set 0 false (.call 6 [false] [(.v 0)]), .set 1 false (.call 6 [false] [(.v 1)]), .ex (.call 0 [false, false] [(.call 12 [false] [(.v 0)]), (.c (.int 1))]), .ex (.call 0 [false, false] [(.call 10 [false, false] [(.v 1), (.idx (.v 0) (.c (.int 0)))]), (.c (.int 2))]), .ex (.call 0 [false, false] [(.call 2 [false, false, false] [(.v 2), (.c (.int 0)), (.idx (.v 0) (.c (.int 0)))]), (.c (.int 3))]), .ret (.blt .tuple [(.call 31 [false, false, false] [(.v 0), (.v 1), (.v 2)])])]⟩
def f_met_by : Df := ⟨[false, false], 2, [.set 0 false (.call 6 [false] [(.v 0)]), .set 1 false (.call 6 [false] [(.v 1)]), .ex (.call 0 [false, false] [(.call 36 [false] [(.v 0)]), (.c (.int 1))]), .ex (.call 0 [false, false] [(.call 37 [false, false] [(.v 1), (.idx (.v 0) (.c (.int 0)))]), (.c (.int 2))]), .ret (.call 32 [false, false] [(.call 20 [false, false] [(.call 34 [false] [(.v 0)]), (.call 34 [false] [(.v 1)])]), (.idx (.v 0) (.c (.int 0)))])]⟩
def f_either_by : Df := ⟨[false, false], 2, [.set 0 false (.call 6 [false] [(.v 0)]), .set 1 false (.call 6 [false] [(.v 1)]), .ex (.call 0 [false, false] [(.call 36 [false] [(.v 0)]), (.c (.int 1))]), .ex (.call 0 [false, false] [(.call 37 [false, false] [(.v 1), (.idx (.v 0) (.c (.int 0)))]), (.c (.int 2))]), .ret (.call 32 [false, false] [(.call 21 [false, false] [(.call 34 [false] [(.v 0)]), (.call 34 [false] [(.v 1)])]), (.idx (.v 0) (.c (.int 0)))])]⟩
def f_line_place : Df := ⟨[false, false], 2, [.ret (.ife (.cmp .lt (.v 1) (.c (.int 0))) (.v 1) (.bin .add (.v 0) (.v 1)))]⟩
def f_circuit_by : Df := ⟨[false, false, false], 10, [.set 0 false (.call 6 [false] [(.v 0)]), .set 1 false (.call 6 [false] [(.v 1)]), .set 2 false (.call 6 [false] [(.v 2)]), .ex (.call 0 [false, false] [(.call 26 [false] [(.v 0)]), (.c (.int 1))]), .ex (.call 0 [false, false] [(.call 12 [false] [(.v 1)]), (.c (.int 2))]), .ex (.call 0 [false, false] [(.call 10 [false, false] [(.v 2), (.idx (.v 1) (.c (.int 0)))]), (.c (.int 3))]), .ife (.bo false [(.not (.call 28 [false, false, true] [(.v 0), (.c (.str ⟨#[109, 117, 120]⟩)), (.glob 2)])), (.not (.idx (.v 0) (.c (.int 1)))), (.not (.idx (.v 0) (.c (.int 2))))]) [.ret (.c .none)] [], .set 3 false (.idx (.v 1) (.c (.int 0))), .asg [5, 6] (.cut true false (.call 32 [false, false] [(.v 1), (.v 2)]) (.c (.int 1)) (.c .none)), .set 4 true (.lst []), .for_ (.t [7, 8, 9]) (.v 5) [.app 4 (.tup [(.c (.str ⟨#[109, 117, 120]⟩)), (.tup [(.call 49 [false, false] [(.v 3), (.v 8)]), (.call 49 [false, false] [(.v 3), (.v 9)]), (.v 7)])])], .ret (.tup [(.v 3), (.blt .tuple [(.v 4)]), (.tup [(.call 49 [false, false] [(.v 3), (.v 6)])])])]⟩
def f_rows_of_one_at : Df := ⟨[false, false, false], 3, [.ife (.cmp .lt (.v 1) (.c (.int 0))) [.ret (.bin .mul (.v 2) (.bin .sub (.neg (.c (.int 1))) (.v 1)))] [], .ret (.idx (.v 0) (.v 1))]⟩
def f_ways : Df := ⟨[false, false], 7, [.set 0 false (.call 6 [false] [(.v 0)]), .ex (.call 0 [false, false] [(.call 36 [false] [(.v 0)]), (.c (.int 1))]), .ex (.call 0 [false, false] [(.call 2 [false, false, false] [(.v 1), (.blt .len [(.idx (.v 0) (.c (.int 0)))]), (.blt .len [(.idx (.v 0) (.c (.int 0)))])]), (.c (.int 2))]), .set 2 false (.bin .shl (.c (.int 1)) (.v 1)), .set 3 true (.lst []), .for_ (.t [4, 5, 6]) (.idx (.v 0) (.c (.int 1))) [.app 3 (.bin .fdiv (.bin .add (.call 51 [false, false, false] [(.v 3), (.v 5), (.v 2)]) (.call 51 [false, false, false] [(.v 3), (.v 6), (.v 2)])) (.c (.int 2)))], .ret (.call 51 [false, false, false] [(.v 3), (.idx (.v 0) (.c (.int 2))), (.v 2)])]⟩
def f_swapped : Df := ⟨[false, false, false], 5, [.set 0 false (.call 6 [false] [(.v 0)]), .ex (.call 0 [false, false] [(.call 36 [false] [(.v 0)]), (.c (.int 1))]), .set 3 false (.idx (.v 0) (.c (.int 0))), .ex (.call 0 [false, false] [(.call 2 [false, false, false] [(.v 1), (.c (.int 0)), (.bin .sub (.blt .len [(.v 3)]) (.c (.int 2)))]), (.c (.int 2))]), .ex (.call 0 [false, false] [(.call 2 [false, false, false] [(.v 2), (.blt .len [(.v 3)]), (.blt .len [(.v 3)])]), (.c (.int 3))]), .set 4 false (.bin .add (.bin .add (.cut false true (.v 3) (.c .none) (.v 1)) (.tup [(.idx (.v 3) (.bin .add (.v 1) (.c (.int 1)))), (.idx (.v 3) (.v 1))])) (.cut true false (.v 3) (.bin .add (.v 1) (.c (.int 2))) (.c .none))), .ret (.call 32 [false, false] [(.call 34 [false] [(.v 0)]), (.v 4)])]⟩
def f_place_fits : Df := ⟨[false, false, false], 3, [.ife (.not (.call 1 [false] [(.v 1)])) [.ret (.c (.bool false))] [], .ife (.cmp .eq (.v 1) (.neg (.c (.int 1)))) [.ret (.bo false [(.cmp .is (.v 0) (.c .none)), (.idx (.v 0) (.c (.int 1)))])] [], .ife (.cmp .eq (.v 1) (.neg (.c (.int 2)))) [.ret (.bo false [(.cmp .is (.v 0) (.c .none)), (.idx (.v 0) (.c (.int 2)))])] [], .ret (.chn .le .lt (.c (.int 0)) (.v 1) (.v 2))]⟩
def f_line_fits : Df := ⟨[false, false, false], 5, [.ife (.bo false [(.not (.call 4 [false, false] [(.v 1), (.c (.int 2))])), (.not (.call 5 [false] [(.idx (.v 1) (.c (.int 0)))])), (.not (.isi (.idx (.v 1) (.c (.int 1))) [.tuple]))]) [.ret (.c (.bool false))] [], .ife (.bo false [(.not (.chn .le .le (.c (.int 1)) (.blt .len [(.idx (.v 1) (.c (.int 1)))]) (.c (.int 3)))), (.not (.blt .all [(.cmpn .lst (.gen [4] (.n 4) (.idx (.v 1) (.c (.int 1))) [] (.yld (.call 54 [false, false, false] [(.v 0), (.v 4), (.v 2)]))))]))]) [.ret (.c (.bool false))] [], .ife (.cmp .is (.v 0) (.c .none)) [.ret (.c (.bool true))] [], .set 3 false (.call 27 [false, false] [(.v 0), (.idx (.v 1) (.c (.int 0)))]), .ret (.bo true [(.cmp .isnot (.v 3) (.c .none)), (.cmp .eq (.idx (.idx (.v 3) (.c (.int 1))) (.c (.int 0))) (.blt .len [(.idx (.v 1) (.c (.int 1)))]))])]⟩
def f_lines_fit : Df := ⟨[false, false, false], 4, [.ife (.not (.isi (.v 1) [.tuple])) [.ret (.c (.bool false))] [], .ret (.blt .all [(.cmpn .lst (.gen [3] (.n 3) (.rng [(.blt .len [(.v 1)])]) [] (.yld (.call 55 [false, false, false] [(.v 0), (.idx (.v 1) (.v 3)), (.bin .add (.v 2) (.v 3))]))))])]⟩
def f_circuit_fits : Df := ⟨[false, false], 6, [.ife (.bo false [(.not (.call 4 [false, false] [(.v 1), (.c (.int 3))])), (.not (.call 2 [false, false, false] [(.idx (.v 1) (.c (.int 0))), (.c (.int 1)), (.c (.int 3))]))]) [.ret (.c (.bool false))] [], .asg [2, 3, 4] (.v 1), .ife (.bo false [(.not (.call 56 [false, false, false] [(.v 0), (.v 3), (.v 2)])), (.cmp .gt (.blt .len [(.v 3)]) (.glob 3))]) [.ret (.c (.bool false))] [], .ife (.bo false [(.not (.isi (.v 4) [.tuple])), (.not (.chn .le .le (.c (.int 1)) (.blt .len [(.v 4)]) (.glob 4)))]) [.ret (.c (.bool false))] [], .ret (.blt .all [(.cmpn .lst (.gen [5] (.n 5) (.v 4) [] (.yld (.call 54 [false, false, false] [(.v 0), (.v 5), (.bin .add (.v 2) (.blt .len [(.v 3)]))]))))])]⟩
def f_need_circuit : Df := ⟨[false, false], 2, [.ex (.call 0 [false, false] [(.call 26 [false] [(.v 0)]), (.c (.int 1))]), .ex (.call 0 [false, false] [(.call 57 [false, false] [(.v 0), (.v 1)]), (.c (.int 2))])]⟩
def f_place_number : Df := ⟨[false, false, false], 3, [.ife (.cmp .eq (.v 1) (.neg (.c (.int 1)))) [.ret (.c (.int 0))] [], .ret (.ife (.cmp .eq (.v 1) (.neg (.c (.int 2)))) (.v 2) (.idx (.v 0) (.v 1)))]⟩
def f_wire_numbers : Df := ⟨[false, false], 11, [.asg [4, 5, 6] (.v 1), .set 2 false (.call 11 [false] [(.v 4)]), .set 3 true (.blt .list [(.call 15 [false] [(.v 4)])]), .for_ (.t [7, 8]) (.v 5) [.set 9 false (.cmpn .lst (.gen [10] (.n 10) (.v 8) [] (.yld (.call 59 [false, false, false] [(.v 3), (.v 10), (.v 2)])))), .app 3 (.call 17 [false, false, false] [(.idx (.call 27 [false, false] [(.v 0), (.v 7)]) (.c (.int 1))), (.v 9), (.v 2)])], .frz 3, .ret (.v 3)]⟩
def f_end_numbers : Df := ⟨[false, false], 5, [.set 2 false (.call 60 [false, false] [(.v 0), (.v 1)]), .set 3 false (.call 11 [false] [(.idx (.v 1) (.c (.int 0)))]), .ret (.blt .tuple [(.cmpn .lst (.gen [4] (.n 4) (.idx (.v 1) (.c (.int 2))) [] (.yld (.call 59 [false, false, false] [(.v 2), (.v 4), (.v 3)]))))])]⟩
def f_tells : Df := ⟨[false, false], 3, [.asg [0, 1] (.tup [(.call 6 [false] [(.v 0)]), (.call 6 [false] [(.v 1)])]), .ex (.call 58 [false, false] [(.v 0), (.v 1)]), .ret (.blt .tuple [(.cmpn .lst (.gen [2] (.n 2) (.call 61 [false, false] [(.v 0), (.v 1)]) [] (.yld (.tup [(.idx (.v 1) (.c (.int 0))), (.v 2)]))))])]⟩
def f__law_cell : Df := ⟨[false, false], 2, [.ife (.cmp .lt (.v 1) (.blt .len [(.v 0)])) [.ret (.blt .int [(.idx (.v 0) (.v 1))])] [], .ret (.c (.int 0))]⟩
def f__law_listed : Df := ⟨[false], 2, [.ife (.isi (.v 0) [.tuple]) [.ret (.cmpn .lst (.gen [1] (.n 1) (.v 0) [] (.yld (.call 64 [false] [(.v 1)]))))] [], .ret (.v 0)]⟩
def f__law_same : Df := ⟨[false, false], 3, [.ife (.bo true [(.isi (.v 0) [.tuple]), (.isi (.v 1) [.tuple])]) [.ret (.bo true [(.cmp .eq (.blt .len [(.v 0)]) (.blt .len [(.v 1)])), (.cmp .eq (.cmpn .lst (.gen [2] (.n 2) (.rng [(.blt .len [(.v 0)])]) [(.not (.call 65 [false, false] [(.idx (.v 0) (.v 2)), (.idx (.v 1) (.v 2))]))] (.yld (.v 2)))) (.lst []))])] [], .ife (.bo false [(.cmp .is (.v 0) (.c .none)), (.cmp .is (.v 1) (.c .none))]) [.ret (.bo true [(.cmp .is (.v 0) (.c .none)), (.cmp .is (.v 1) (.c .none))])] [], .ife (.bo false [(.isi (.v 0) [.bool]), (.isi (.v 1) [.bool])]) [.ret (.bo true [(.isi (.v 0) [.bool]), (.isi (.v 1) [.bool]), (.cmp .eq (.v 0) (.v 1))])] [], .ret (.bo true [(.isi (.v 0) [.int, .str]), (.cmp .eq (.isi (.v 0) [.int]) (.isi (.v 1) [.int])), (.cmp .eq (.v 0) (.v 1))])]⟩
def f__law_orders : Df := ⟨[false], 6, [.set 1 false (.lst [(.tup [])]), .for_ (.n 2) (.rng [(.blt .len [(.v 0)])]) [.set 3 false (.lst []), .for_ (.n 4) (.v 1) [.set 3 false (.bin .add (.v 3) (.cmpn .lst (.gen [5] (.n 5) (.v 0) [(.cmp .notin (.v 5) (.v 4))] (.yld (.bin .add (.v 4) (.tup [(.v 5)]))))))], .set 1 false (.v 3)], .ret (.v 1)]⟩
def f__law_unlike : Df := ⟨[false], 2, [.set 0 false (.blt .sorted [(.v 0)]), .ret (.blt .tuple [(.cmpn .lst (.gen [1] (.n 1) (.rng [(.blt .len [(.v 0)])]) [(.bo false [(.cmp .eq (.v 1) (.c (.int 0))), (.cmp .ne (.idx (.v 0) (.v 1)) (.idx (.v 0) (.bin .sub (.v 1) (.c (.int 1)))))])] (.yld (.idx (.v 0) (.v 1)))))])]⟩
def f__law_bit : Df := ⟨[false, false], 2, [.ret (.bin .mod (.blt .int [(.bin .fdiv (.v 0) (.bin .shl (.c (.int 1)) (.v 1)))]) (.c (.int 2)))]⟩
def f__law_of_bits : Df := ⟨[false, false], 3, [.ret (.tup [(.v 0), (.blt .sum [(.cmpn .lst (.gen [2] (.n 2) (.rng [(.blt .len [(.v 1)])]) [] (.yld (.bin .mul (.idx (.v 1) (.v 2)) (.bin .shl (.c (.int 1)) (.v 2))))))])])]⟩
def f__law_constant : Df := ⟨[false, false], 2, [.ret (.call 69 [false, false] [(.v 0), (.bin .mul (.lst [(.v 1)]) (.bin .shl (.c (.int 1)) (.v 0)))])]⟩
def f__law_held : Df := ⟨[false, false, false], 4, [.ret (.call 69 [false, false] [(.idx (.v 0) (.c (.int 0))), (.cmpn .lst (.gen [3] (.n 3) (.rng [(.bin .shl (.c (.int 1)) (.idx (.v 0) (.c (.int 0))))]) [] (.yld (.call 68 [false, false] [(.idx (.v 0) (.c (.int 1))), (.bin .add (.v 3) (.bin .mul (.bin .sub (.v 2) (.call 68 [false, false] [(.v 3), (.v 1)])) (.bin .shl (.c (.int 1)) (.v 1))))]))))])]⟩
def f__law_hangs : Df := ⟨[false, false], 2, [.ret (.cmp .ne (.call 71 [false, false, false] [(.v 0), (.v 1), (.c (.int 0))]) (.call 71 [false, false, false] [(.v 0), (.v 1), (.c (.int 1))]))]⟩
def f__law_kin : Df := ⟨[false, false, false], 7, [.set 3 false (.lst [(.v 0)]), .for_ (.n 4) (.cut false true (.v 1) (.c .none) (.v 2)) [.set 5 false (.lst []), .for_ (.n 6) (.v 3) [.set 5 false (.bin .add (.v 5) (.lst [(.call 71 [false, false, false] [(.v 6), (.v 4), (.c (.int 0))]), (.call 71 [false, false, false] [(.v 6), (.v 4), (.c (.int 1))])]))], .set 3 false (.v 5)], .ret (.call 67 [false] [(.v 3)])]⟩
def f__law_diagram : Df := ⟨[false, false], 11, [.set 2 false (.idx (.v 0) (.c (.int 0))), .newD 3 true [] [], .put 3 (.call 70 [false, false] [(.v 2), (.c (.int 0))]) (.bin .sub (.c (.int 0)) (.c (.int 1))), .put 3 (.call 70 [false, false] [(.v 2), (.c (.int 1))]) (.bin .sub (.c (.int 0)) (.c (.int 2))), .set 4 true (.lst []), .for_ (.n 5) (.rng [(.bin .sub (.v 2) (.c (.int 1))), (.bin .sub (.c (.int 0)) (.c (.int 1))), (.bin .sub (.c (.int 0)) (.c (.int 1)))]) [.set 6 false (.cmpn .lst (.gen [8] (.n 8) (.call 73 [false, false, false] [(.v 0), (.v 1), (.v 5)]) [(.call 72 [false, false] [(.v 8), (.idx (.v 1) (.v 5))])] (.yld (.v 8)))), .set 7 false (.blt .sorted [(.cmpn .lst (.gen [8] (.n 8) (.v 6) [] (.yld (.tup [(.idx (.v 3) (.call 71 [false, false, false] [(.v 8), (.idx (.v 1) (.v 5)), (.c (.int 0))])), (.idx (.v 3) (.call 71 [false, false, false] [(.v 8), (.idx (.v 1) (.v 5)), (.c (.int 1))])), (.v 8)]))))]), .for_ (.t [9, 10, 8]) (.v 7) [.put 3 (.v 8) (.blt .len [(.v 4)]), .app 4 (.tup [(.idx (.v 1) (.v 5)), (.v 9), (.v 10)])], .for_ (.n 8) (.call 73 [false, false, false] [(.v 0), (.v 1), (.v 5)]) [.ife (.not (.call 72 [false, false] [(.v 8), (.idx (.v 1) (.v 5))])) [.put 3 (.v 8) (.mth .get2 (.v 3) [(.v 8), (.c .none)])] []]], .ret (.tup [(.v 1), (.blt .tuple [(.v 4)]), (.idx (.v 3) (.v 0))])]⟩
def f__law_all : Df := ⟨[false], 2, [.ret (.cmpn .lst (.gen [1] (.n 1) (.call 66 [false] [(.lrg false [(.v 0)])]) [] (.yld (.blt .tuple [(.v 1)]))))]⟩
def f_law : Df := ⟨[false], 24, [.set 1 false (.bin .add (.c (.int 1)) (.bin .mod (.call 63 [false, false] [(.v 0), (.c (.int 0))]) (.c (.int 3)))), .set 2 false (.tup [(.v 1), (.bin .mod (.call 63 [false, false] [(.v 0), (.c (.int 1))]) (.bin .shl (.c (.int 1)) (.bin .shl (.c (.int 1)) (.v 1))))]), .set 3 false (.tup [(.v 1), (.bin .mod (.call 63 [false, false] [(.v 0), (.c (.int 2))]) (.bin .shl (.c (.int 1)) (.bin .shl (.c (.int 1)) (.v 1))))]), .set 4 false (.call 75 [false] [(.v 1)]), .set 5 false (.idx (.v 4) (.bin .mod (.call 63 [false, false] [(.v 0), (.c (.int 3))]) (.blt .len [(.v 4)]))), .set 6 false (.call 74 [false, false] [(.v 2), (.v 5)]), .set 7 false (.call 38 [false, false] [(.call 64 [false] [(.v 2)]), (.call 64 [false] [(.v 5)])]), .ife (.bo false [(.not (.call 65 [false, false] [(.v 7), (.v 6)])), (.cmp .isnot (.call 39 [false, false] [(.v 1), (.call 64 [false] [(.v 6)])]) (.c (.bool true))), (.not (.call 65 [false, false] [(.call 41 [false, false] [(.v 6), (.v 1)]), (.v 2)])), (.not (.call 65 [false, false] [(.call 43 [false, false] [(.v 2), (.v 5)]), (.blt .len [(.idx (.v 6) (.c (.int 1)))])]))]) [.ret (.c (.bool false))] [], .for_ (.n 8) (.rng [(.bin .shl (.c (.int 1)) (.v 1))]) [.ife (.not (.call 65 [false, false] [(.call 40 [false, false] [(.v 6), (.v 8)]), (.call 68 [false, false] [(.idx (.v 2) (.c (.int 1))), (.v 8)])])) [.ret (.c (.bool false))] []], .set 9 false (.cmpn .lst (.gen [19] (.n 19) (.v 4) [] (.yld (.blt .len [(.idx (.call 74 [false, false] [(.v 2), (.v 19)]) (.c (.int 1)))])))), .ife (.bo false [(.not (.call 65 [false, false] [(.call 45 [false] [(.v 2)]), (.blt .tuple [(.v 9)])])), (.not (.call 65 [false, false] [(.call 44 [false] [(.v 2)]), (.idx (.v 4) (.mth .index (.v 9) [(.blt .min [(.v 9)])]))])), (.not (.call 65 [false, false] [(.call 52 [false, false] [(.v 6), (.v 1)]), (.blt .sum [(.cmpn .lst (.gen [8] (.n 8) (.rng [(.bin .shl (.c (.int 1)) (.v 1))]) [] (.yld (.call 68 [false, false] [(.idx (.v 2) (.c (.int 1))), (.v 8)]))))])]))]) [.ret (.c (.bool false))] [], .for_ (.n 10) (.rng [(.bin .add (.v 1) (.c (.int 1)))]) [.ife (.not (.call 65 [false, false] [(.call 46 [false, false, false] [(.v 2), (.v 5), (.v 10)]), (.call 73 [false, false, false] [(.v 2), (.v 5), (.v 10)])])) [.ret (.c (.bool false))] []], .ife (.cmp .ne (.blt .len [(.idx (.v 6) (.c (.int 1)))]) (.blt .sum [(.cmpn .lst (.gen [10] (.n 10) (.rng [(.v 1)]) [] (.yld (.blt .len [(.cmpn .lst (.gen [19] (.n 19) (.call 73 [false, false, false] [(.v 2), (.v 5), (.v 10)]) [(.call 72 [false, false] [(.v 19), (.idx (.v 5) (.v 10))])] (.yld (.v 19))))]))))])) [.ret (.c (.bool false))] [], .set 11 false (.tup [(.v 1), (.blt .sum [(.cmpn .lst (.gen [8] (.n 8) (.rng [(.bin .shl (.c (.int 1)) (.v 1))]) [(.cmp .eq (.bin .add (.call 68 [false, false] [(.idx (.v 2) (.c (.int 1))), (.v 8)]) (.call 68 [false, false] [(.idx (.v 3) (.c (.int 1))), (.v 8)])) (.c (.int 2)))] (.yld (.bin .shl (.c (.int 1)) (.v 8)))))])]), .set 12 false (.tup [(.v 1), (.blt .sum [(.cmpn .lst (.gen [8] (.n 8) (.rng [(.bin .shl (.c (.int 1)) (.v 1))]) [(.cmp .gt (.bin .add (.call 68 [false, false] [(.idx (.v 2) (.c (.int 1))), (.v 8)]) (.call 68 [false, false] [(.idx (.v 3) (.c (.int 1))), (.v 8)])) (.c (.int 0)))] (.yld (.bin .shl (.c (.int 1)) (.v 8)))))])]), .ife (.bo false [(.not (.call 65 [false, false] [(.call 47 [false, false] [(.v 6), (.call 74 [false, false] [(.v 3), (.v 5)])]), (.call 74 [false, false] [(.v 11), (.v 5)])])), (.not (.call 65 [false, false] [(.call 48 [false, false] [(.v 6), (.call 74 [false, false] [(.v 3), (.v 5)])]), (.call 74 [false, false] [(.v 12), (.v 5)])]))]) [.ret (.c (.bool false))] [], .for_ (.n 13) (.rng [(.bin .sub (.v 1) (.c (.int 1)))]) [.set 17 false (.bin .add (.bin .add (.cut false true (.v 5) (.c .none) (.v 13)) (.tup [(.idx (.v 5) (.bin .add (.v 13) (.c (.int 1)))), (.idx (.v 5) (.v 13))])) (.cut true false (.v 5) (.bin .add (.v 13) (.c (.int 2))) (.c .none))), .ife (.not (.call 65 [false, false] [(.call 53 [false, false, false] [(.v 6), (.v 13), (.v 1)]), (.call 74 [false, false] [(.v 2), (.v 17)])])) [.ret (.c (.bool false))] []], .set 14 false (.call 50 [false, false, false] [(.call 29 [] []), (.v 2), (.v 5)]), .set 15 false (.blt .tuple [(.cmpn .lst (.gen [13, 21, 22] (.t [13, 21, 22]) (.idx (.v 6) (.c (.int 1))) [] (.yld (.tup [(.c (.str ⟨#[109, 117, 120]⟩)), (.tup [(.ife (.cmp .lt (.v 21) (.c (.int 0))) (.v 21) (.bin .add (.v 1) (.v 21))), (.ife (.cmp .lt (.v 22) (.c (.int 0))) (.v 22) (.bin .add (.v 1) (.v 22))), (.v 13)])]))))]), .ife (.not (.call 65 [false, false] [(.v 14), (.tup [(.v 1), (.v 15), (.tup [(.ife (.cmp .lt (.idx (.v 6) (.c (.int 2))) (.c (.int 0))) (.idx (.v 6) (.c (.int 2))) (.bin .add (.v 1) (.idx (.v 6) (.c (.int 2)))))])])])) [.ret (.c (.bool false))] [], .ife (.bo false [(.not (.call 65 [false, false] [(.call 62 [false, false] [(.call 29 [] []), (.v 14)]), (.tup [(.v 2)])])), (.cmp .ne (.blt .len [(.idx (.v 14) (.c (.int 1)))]) (.blt .len [(.idx (.v 6) (.c (.int 1)))])), (.cmp .ne (.cmpn .lst (.gen [23] (.n 23) (.idx (.v 14) (.c (.int 1))) [(.cmp .ne (.idx (.v 23) (.c (.int 0))) (.c (.str ⟨#[109, 117, 120]⟩)))] (.yld (.v 23)))) (.lst []))]) [.ret (.c (.bool false))] [], .set 16 false (.lst [(.c (.int 7)), (.tup [(.v 5), (.idx (.v 6) (.c (.int 1))), (.bin .sub (.c (.int 0)) (.c (.int 3)))]), (.tup [(.v 5), (.bin .add (.idx (.v 6) (.c (.int 1))) (.bin .mul (.tup [(.tup [(.idx (.v 5) (.c (.int 0))), (.bin .sub (.c (.int 0)) (.c (.int 1))), (.bin .sub (.c (.int 0)) (.c (.int 2)))])]) (.c (.int 2)))), (.idx (.v 6) (.c (.int 2)))]), (.ife (.cmp .gt (.blt .len [(.idx (.v 6) (.c (.int 1)))]) (.c (.int 1))) (.tup [(.rev (.v 5)), (.idx (.v 6) (.c (.int 1))), (.idx (.v 6) (.c (.int 2)))]) (.c (.int 8)))]), .ife (.cmp .ne (.idx (.v 6) (.c (.int 1))) (.tup [])) [.set 18 false (.idx (.idx (.v 6) (.c (.int 1))) (.neg (.c (.int 1)))), .set 16 false (.bin .add (.v 16) (.lst [(.tup [(.v 5), (.bin .add (.cut false true (.idx (.v 6) (.c (.int 1))) (.c .none) (.neg (.c (.int 1)))) (.tup [(.tup [(.idx (.v 18) (.c (.int 0))), (.idx (.v 18) (.c (.int 1))), (.idx (.v 18) (.c (.int 1)))])])), (.idx (.v 6) (.c (.int 2)))]), (.tup [(.v 5), (.idx (.v 6) (.c (.int 1))), (.bin .sub (.c (.int 0)) (.c (.int 1)))]), (.tup [(.v 5), (.bin .add (.idx (.v 6) (.c (.int 1))) (.cut true false (.idx (.v 6) (.c (.int 1))) (.neg (.c (.int 1))) (.c .none))), (.idx (.v 6) (.c (.int 2)))])]))] [], .ret (.cmp .eq (.cmpn .lst (.gen [20] (.n 20) (.v 16) [(.cmp .isnot (.call 39 [false, false] [(.v 1), (.v 20)]) (.c (.bool false)))] (.yld (.v 20)))) (.lst []))]⟩
def gl : List (PySem.Str × D) := [("DEEPEST", .int 2000), ("MOST_INNER", .int 1000000), ("MUX", .tuple [.int 3, .int 202]), ("MOST_LINES", .int 30), ("MOST_ENDS", .int 4)]
def irs : List Df := [f_need, f_is_int, f_is_between, f_is_seq, f_is_row, f_is_name, f_tupled, f_ascends, f_choices, f_orders_of, f_is_order, f_whole, f_table_fits, f_bit_of, f_from_bits, f_input_numbers, f_taker_number, f_applied, f_of_two, f_need_two, f_met, f_either, f_hangs_on, f_changes, f_held, f_gate_fits, f_set_fits, f_gate_named, f_has_gate, f_chosen, f_order_fits, f_held_tables, f_diagram_made, f_bit_reached, f_diagram_table, f_node_fits, f_diagram_fits, f_diagram_by, f_diagram, f_is_diagram, f_bit_by, f_table_by, f_size_made, f_size, f_best_order, f_sizes, f_kin, f_met_by, f_either_by, f_line_place, f_circuit_by, f_rows_of_one_at, f_ways, f_swapped, f_place_fits, f_line_fits, f_lines_fit, f_circuit_fits, f_need_circuit, f_place_number, f_wire_numbers, f_end_numbers, f_tells, f__law_cell, f__law_listed, f__law_same, f__law_orders, f__law_unlike, f__law_bit, f__law_of_bits, f__law_constant, f__law_held, f__law_hangs, f__law_kin, f__law_diagram, f__law_all, f_law]
abbrev G0 : Nat → Option D := fun k => (gl.map (·.2))[k]?
abbrev T (n : Nat) : FT := FTI G0 irs 6 tupF n
theorem un_need (n) (a) : T (n+1) 0 a = f_need.run G0 (T n) a := rfl
theorem un_is_int (n) (a) : T (n+1) 1 a = f_is_int.run G0 (T n) a := rfl
theorem un_is_between (n) (a) : T (n+1) 2 a = f_is_between.run G0 (T n) a := rfl
theorem un_is_seq (n) (a) : T (n+1) 3 a = f_is_seq.run G0 (T n) a := rfl
theorem un_is_row (n) (a) : T (n+1) 4 a = f_is_row.run G0 (T n) a := rfl
theorem un_is_name (n) (a) : T (n+1) 5 a = f_is_name.run G0 (T n) a := rfl
theorem un_ascends (n) (a) : T (n+1) 7 a = f_ascends.run G0 (T n) a := rfl
theorem un_choices (n) (a) : T (n+1) 8 a = f_choices.run G0 (T n) a := rfl
theorem un_orders_of (n) (a) : T (n+1) 9 a = f_orders_of.run G0 (T n) a := rfl
theorem un_is_order (n) (a) : T (n+1) 10 a = f_is_order.run G0 (T n) a := rfl
theorem un_whole (n) (a) : T (n+1) 11 a = f_whole.run G0 (T n) a := rfl
theorem un_table_fits (n) (a) : T (n+1) 12 a = f_table_fits.run G0 (T n) a := rfl
theorem un_bit_of (n) (a) : T (n+1) 13 a = f_bit_of.run G0 (T n) a := rfl
theorem un_from_bits (n) (a) : T (n+1) 14 a = f_from_bits.run G0 (T n) a := rfl
theorem un_input_numbers (n) (a) : T (n+1) 15 a = f_input_numbers.run G0 (T n) a := rfl
theorem un_taker_number (n) (a) : T (n+1) 16 a = f_taker_number.run G0 (T n) a := rfl
theorem un_applied (n) (a) : T (n+1) 17 a = f_applied.run G0 (T n) a := rfl
theorem un_of_two (n) (a) : T (n+1) 18 a = f_of_two.run G0 (T n) a := rfl
theorem un_need_two (n) (a) : T (n+1) 19 a = f_need_two.run G0 (T n) a := rfl
theorem un_met (n) (a) : T (n+1) 20 a = f_met.run G0 (T n) a := rfl
theorem un_either (n) (a) : T (n+1) 21 a = f_either.run G0 (T n) a := rfl
theorem un_hangs_on (n) (a) : T (n+1) 22 a = f_hangs_on.run G0 (T n) a := rfl
theorem un_changes (n) (a) : T (n+1) 23 a = f_changes.run G0 (T n) a := rfl
theorem un_held (n) (a) : T (n+1) 24 a = f_held.run G0 (T n) a := rfl
theorem un_gate_fits (n) (a) : T (n+1) 25 a = f_gate_fits.run G0 (T n) a := rfl
theorem un_set_fits (n) (a) : T (n+1) 26 a = f_set_fits.run G0 (T n) a := rfl
theorem un_gate_named (n) (a) : T (n+1) 27 a = f_gate_named.run G0 (T n) a := rfl
theorem un_has_gate (n) (a) : T (n+1) 28 a = f_has_gate.run G0 (T n) a := rfl
theorem un_chosen (n) (a) : T (n+1) 29 a = f_chosen.run G0 (T n) a := rfl
theorem un_order_fits (n) (a) : T (n+1) 30 a = f_order_fits.run G0 (T n) a := rfl
theorem un_held_tables (n) (a) : T (n+1) 31 a = f_held_tables.run G0 (T n) a := rfl
theorem un_diagram_made (n) (a) : T (n+1) 32 a = f_diagram_made.run G0 (T n) a := rfl
theorem un_bit_reached (n) (a) : T (n+1) 33 a = f_bit_reached.run G0 (T n) a := rfl
theorem un_diagram_table (n) (a) : T (n+1) 34 a = f_diagram_table.run G0 (T n) a := rfl
theorem un_node_fits (n) (a) : T (n+1) 35 a = f_node_fits.run G0 (T n) a := rfl
theorem un_diagram_fits (n) (a) : T (n+1) 36 a = f_diagram_fits.run G0 (T n) a := rfl
theorem un_diagram_by (n) (a) : T (n+1) 37 a = f_diagram_by.run G0 (T n) a := rfl
theorem un_diagram (n) (a) : T (n+1) 38 a = f_diagram.run G0 (T n) a := rfl
theorem un_is_diagram (n) (a) : T (n+1) 39 a = f_is_diagram.run G0 (T n) a := rfl
theorem un_bit_by (n) (a) : T (n+1) 40 a = f_bit_by.run G0 (T n) a := rfl
theorem un_table_by (n) (a) : T (n+1) 41 a = f_table_by.run G0 (T n) a := rfl
theorem un_size_made (n) (a) : T (n+1) 42 a = f_size_made.run G0 (T n) a := rfl
theorem un_size (n) (a) : T (n+1) 43 a = f_size.run G0 (T n) a := rfl
theorem un_best_order (n) (a) : T (n+1) 44 a = f_best_order.run G0 (T n) a := rfl
theorem un_sizes (n) (a) : T (n+1) 45 a = f_sizes.run G0 (T n) a := rfl
theorem un_kin (n) (a) : T (n+1) 46 a = f_kin.run G0 (T n) a := rfl
theorem un_met_by (n) (a) : T (n+1) 47 a = f_met_by.run G0 (T n) a := rfl
theorem un_either_by (n) (a) : T (n+1) 48 a = f_either_by.run G0 (T n) a := rfl
theorem un_line_place (n) (a) : T (n+1) 49 a = f_line_place.run G0 (T n) a := rfl
theorem un_circuit_by (n) (a) : T (n+1) 50 a = f_circuit_by.run G0 (T n) a := rfl
theorem un_rows_of_one_at (n) (a) : T (n+1) 51 a = f_rows_of_one_at.run G0 (T n) a := rfl
theorem un_ways (n) (a) : T (n+1) 52 a = f_ways.run G0 (T n) a := rfl
theorem un_swapped (n) (a) : T (n+1) 53 a = f_swapped.run G0 (T n) a := rfl
theorem un_place_fits (n) (a) : T (n+1) 54 a = f_place_fits.run G0 (T n) a := rfl
theorem un_line_fits (n) (a) : T (n+1) 55 a = f_line_fits.run G0 (T n) a := rfl
theorem un_lines_fit (n) (a) : T (n+1) 56 a = f_lines_fit.run G0 (T n) a := rfl
theorem un_circuit_fits (n) (a) : T (n+1) 57 a = f_circuit_fits.run G0 (T n) a := rfl
theorem un_need_circuit (n) (a) : T (n+1) 58 a = f_need_circuit.run G0 (T n) a := rfl
theorem un_place_number (n) (a) : T (n+1) 59 a = f_place_number.run G0 (T n) a := rfl
theorem un_wire_numbers (n) (a) : T (n+1) 60 a = f_wire_numbers.run G0 (T n) a := rfl
theorem un_end_numbers (n) (a) : T (n+1) 61 a = f_end_numbers.run G0 (T n) a := rfl
theorem un_tells (n) (a) : T (n+1) 62 a = f_tells.run G0 (T n) a := rfl
theorem un__law_cell (n) (a) : T (n+1) 63 a = f__law_cell.run G0 (T n) a := rfl
theorem un__law_listed (n) (a) : T (n+1) 64 a = f__law_listed.run G0 (T n) a := rfl
theorem un__law_same (n) (a) : T (n+1) 65 a = f__law_same.run G0 (T n) a := rfl
theorem un__law_orders (n) (a) : T (n+1) 66 a = f__law_orders.run G0 (T n) a := rfl
theorem un__law_unlike (n) (a) : T (n+1) 67 a = f__law_unlike.run G0 (T n) a := rfl
theorem un__law_bit (n) (a) : T (n+1) 68 a = f__law_bit.run G0 (T n) a := rfl
theorem un__law_of_bits (n) (a) : T (n+1) 69 a = f__law_of_bits.run G0 (T n) a := rfl
theorem un__law_constant (n) (a) : T (n+1) 70 a = f__law_constant.run G0 (T n) a := rfl
theorem un__law_held (n) (a) : T (n+1) 71 a = f__law_held.run G0 (T n) a := rfl
theorem un__law_hangs (n) (a) : T (n+1) 72 a = f__law_hangs.run G0 (T n) a := rfl
theorem un__law_kin (n) (a) : T (n+1) 73 a = f__law_kin.run G0 (T n) a := rfl
theorem un__law_diagram (n) (a) : T (n+1) 74 a = f__law_diagram.run G0 (T n) a := rfl
theorem un__law_all (n) (a) : T (n+1) 75 a = f__law_all.run G0 (T n) a := rfl
theorem un_law (n) (a) : T (n+1) 76 a = f_law.run G0 (T n) a := rfl
def law_s0 : S := .set 1 false (.bin .add (.c (.int 1)) (.bin .mod (.call 63 [false, false] [(.v 0), (.c (.int 0))]) (.c (.int 3))))
def law_s1 : S := .set 2 false (.tup [(.v 1), (.bin .mod (.call 63 [false, false] [(.v 0), (.c (.int 1))]) (.bin .shl (.c (.int 1)) (.bin .shl (.c (.int 1)) (.v 1))))])
def law_s2 : S := .set 3 false (.tup [(.v 1), (.bin .mod (.call 63 [false, false] [(.v 0), (.c (.int 2))]) (.bin .shl (.c (.int 1)) (.bin .shl (.c (.int 1)) (.v 1))))])
def law_s3 : S := .set 4 false (.call 75 [false] [(.v 1)])
def law_s4 : S := .set 5 false (.idx (.v 4) (.bin .mod (.call 63 [false, false] [(.v 0), (.c (.int 3))]) (.blt .len [(.v 4)])))
def law_s5 : S := .set 6 false (.call 74 [false, false] [(.v 2), (.v 5)])
def law_s6 : S := .set 7 false (.call 38 [false, false] [(.call 64 [false] [(.v 2)]), (.call 64 [false] [(.v 5)])])
def law_s7 : S := .ife (.bo false [(.not (.call 65 [false, false] [(.v 7), (.v 6)])), (.cmp .isnot (.call 39 [false, false] [(.v 1), (.call 64 [false] [(.v 6)])]) (.c (.bool true))), (.not (.call 65 [false, false] [(.call 41 [false, false] [(.v 6), (.v 1)]), (.v 2)])), (.not (.call 65 [false, false] [(.call 43 [false, false] [(.v 2), (.v 5)]), (.blt .len [(.idx (.v 6) (.c (.int 1)))])]))]) [.ret (.c (.bool false))] []
def law_s8 : S := .for_ (.n 8) (.rng [(.bin .shl (.c (.int 1)) (.v 1))]) [.ife (.not (.call 65 [false, false] [(.call 40 [false, false] [(.v 6), (.v 8)]), (.call 68 [false, false] [(.idx (.v 2) (.c (.int 1))), (.v 8)])])) [.ret (.c (.bool false))] []]
def law_s9 : S := .set 9 false (.cmpn .lst (.gen [19] (.n 19) (.v 4) [] (.yld (.blt .len [(.idx (.call 74 [false, false] [(.v 2), (.v 19)]) (.c (.int 1)))]))))
def law_s10 : S := .ife (.bo false [(.not (.call 65 [false, false] [(.call 45 [false] [(.v 2)]), (.blt .tuple [(.v 9)])])), (.not (.call 65 [false, false] [(.call 44 [false] [(.v 2)]), (.idx (.v 4) (.mth .index (.v 9) [(.blt .min [(.v 9)])]))])), (.not (.call 65 [false, false] [(.call 52 [false, false] [(.v 6), (.v 1)]), (.blt .sum [(.cmpn .lst (.gen [8] (.n 8) (.rng [(.bin .shl (.c (.int 1)) (.v 1))]) [] (.yld (.call 68 [false, false] [(.idx (.v 2) (.c (.int 1))), (.v 8)]))))])]))]) [.ret (.c (.bool false))] []
def law_s11 : S := .for_ (.n 10) (.rng [(.bin .add (.v 1) (.c (.int 1)))]) [.ife (.not (.call 65 [false, false] [(.call 46 [false, false, false] [(.v 2), (.v 5), (.v 10)]), (.call 73 [false, false, false] [(.v 2), (.v 5), (.v 10)])])) [.ret (.c (.bool false))] []]
def law_s12 : S := .ife (.cmp .ne (.blt .len [(.idx (.v 6) (.c (.int 1)))]) (.blt .sum [(.cmpn .lst (.gen [10] (.n 10) (.rng [(.v 1)]) [] (.yld (.blt .len [(.cmpn .lst (.gen [19] (.n 19) (.call 73 [false, false, false] [(.v 2), (.v 5), (.v 10)]) [(.call 72 [false, false] [(.v 19), (.idx (.v 5) (.v 10))])] (.yld (.v 19))))]))))])) [.ret (.c (.bool false))] []
def law_s13 : S := .set 11 false (.tup [(.v 1), (.blt .sum [(.cmpn .lst (.gen [8] (.n 8) (.rng [(.bin .shl (.c (.int 1)) (.v 1))]) [(.cmp .eq (.bin .add (.call 68 [false, false] [(.idx (.v 2) (.c (.int 1))), (.v 8)]) (.call 68 [false, false] [(.idx (.v 3) (.c (.int 1))), (.v 8)])) (.c (.int 2)))] (.yld (.bin .shl (.c (.int 1)) (.v 8)))))])])
def law_s14 : S := .set 12 false (.tup [(.v 1), (.blt .sum [(.cmpn .lst (.gen [8] (.n 8) (.rng [(.bin .shl (.c (.int 1)) (.v 1))]) [(.cmp .gt (.bin .add (.call 68 [false, false] [(.idx (.v 2) (.c (.int 1))), (.v 8)]) (.call 68 [false, false] [(.idx (.v 3) (.c (.int 1))), (.v 8)])) (.c (.int 0)))] (.yld (.bin .shl (.c (.int 1)) (.v 8)))))])])
def law_s15 : S := .ife (.bo false [(.not (.call 65 [false, false] [(.call 47 [false, false] [(.v 6), (.call 74 [false, false] [(.v 3), (.v 5)])]), (.call 74 [false, false] [(.v 11), (.v 5)])])), (.not (.call 65 [false, false] [(.call 48 [false, false] [(.v 6), (.call 74 [false, false] [(.v 3), (.v 5)])]), (.call 74 [false, false] [(.v 12), (.v 5)])]))]) [.ret (.c (.bool false))] []
def law_s16 : S := .for_ (.n 13) (.rng [(.bin .sub (.v 1) (.c (.int 1)))]) [.set 17 false (.bin .add (.bin .add (.cut false true (.v 5) (.c .none) (.v 13)) (.tup [(.idx (.v 5) (.bin .add (.v 13) (.c (.int 1)))), (.idx (.v 5) (.v 13))])) (.cut true false (.v 5) (.bin .add (.v 13) (.c (.int 2))) (.c .none))), .ife (.not (.call 65 [false, false] [(.call 53 [false, false, false] [(.v 6), (.v 13), (.v 1)]), (.call 74 [false, false] [(.v 2), (.v 17)])])) [.ret (.c (.bool false))] []]
def law_s17 : S := .set 14 false (.call 50 [false, false, false] [(.call 29 [] []), (.v 2), (.v 5)])
def law_s18 : S := .set 15 false (.blt .tuple [(.cmpn .lst (.gen [13, 21, 22] (.t [13, 21, 22]) (.idx (.v 6) (.c (.int 1))) [] (.yld (.tup [(.c (.str ⟨#[109, 117, 120]⟩)), (.tup [(.ife (.cmp .lt (.v 21) (.c (.int 0))) (.v 21) (.bin .add (.v 1) (.v 21))), (.ife (.cmp .lt (.v 22) (.c (.int 0))) (.v 22) (.bin .add (.v 1) (.v 22))), (.v 13)])]))))])
def law_s19 : S := .ife (.not (.call 65 [false, false] [(.v 14), (.tup [(.v 1), (.v 15), (.tup [(.ife (.cmp .lt (.idx (.v 6) (.c (.int 2))) (.c (.int 0))) (.idx (.v 6) (.c (.int 2))) (.bin .add (.v 1) (.idx (.v 6) (.c (.int 2)))))])])])) [.ret (.c (.bool false))] []
def law_s20 : S := .ife (.bo false [(.not (.call 65 [false, false] [(.call 62 [false, false] [(.call 29 [] []), (.v 14)]), (.tup [(.v 2)])])), (.cmp .ne (.blt .len [(.idx (.v 14) (.c (.int 1)))]) (.blt .len [(.idx (.v 6) (.c (.int 1)))])), (.cmp .ne (.cmpn .lst (.gen [23] (.n 23) (.idx (.v 14) (.c (.int 1))) [(.cmp .ne (.idx (.v 23) (.c (.int 0))) (.c (.str ⟨#[109, 117, 120]⟩)))] (.yld (.v 23)))) (.lst []))]) [.ret (.c (.bool false))] []
def law_s21 : S := .set 16 false (.lst [(.c (.int 7)), (.tup [(.v 5), (.idx (.v 6) (.c (.int 1))), (.bin .sub (.c (.int 0)) (.c (.int 3)))]), (.tup [(.v 5), (.bin .add (.idx (.v 6) (.c (.int 1))) (.bin .mul (.tup [(.tup [(.idx (.v 5) (.c (.int 0))), (.bin .sub (.c (.int 0)) (.c (.int 1))), (.bin .sub (.c (.int 0)) (.c (.int 2)))])]) (.c (.int 2)))), (.idx (.v 6) (.c (.int 2)))]), (.ife (.cmp .gt (.blt .len [(.idx (.v 6) (.c (.int 1)))]) (.c (.int 1))) (.tup [(.rev (.v 5)), (.idx (.v 6) (.c (.int 1))), (.idx (.v 6) (.c (.int 2)))]) (.c (.int 8)))])
def law_s22 : S := .ife (.cmp .ne (.idx (.v 6) (.c (.int 1))) (.tup [])) [.set 18 false (.idx (.idx (.v 6) (.c (.int 1))) (.neg (.c (.int 1)))), .set 16 false (.bin .add (.v 16) (.lst [(.tup [(.v 5), (.bin .add (.cut false true (.idx (.v 6) (.c (.int 1))) (.c .none) (.neg (.c (.int 1)))) (.tup [(.tup [(.idx (.v 18) (.c (.int 0))), (.idx (.v 18) (.c (.int 1))), (.idx (.v 18) (.c (.int 1)))])])), (.idx (.v 6) (.c (.int 2)))]), (.tup [(.v 5), (.idx (.v 6) (.c (.int 1))), (.bin .sub (.c (.int 0)) (.c (.int 1)))]), (.tup [(.v 5), (.bin .add (.idx (.v 6) (.c (.int 1))) (.cut true false (.idx (.v 6) (.c (.int 1))) (.neg (.c (.int 1))) (.c .none))), (.idx (.v 6) (.c (.int 2)))])]))] []
def law_s23 : S := .ret (.cmp .eq (.cmpn .lst (.gen [20] (.n 20) (.v 16) [(.cmp .isnot (.call 39 [false, false] [(.v 1), (.v 20)]) (.c (.bool false)))] (.yld (.v 20)))) (.lst []))
theorem law_body : f_law.body = [law_s0, law_s1, law_s2, law_s3, law_s4, law_s5, law_s6, law_s7, law_s8, law_s9, law_s10, law_s11, law_s12, law_s13, law_s14, law_s15, law_s16, law_s17, law_s18, law_s19, law_s20, law_s21, law_s22, law_s23] := rfl
theorem un_tupled (n) (a) : T (n+1) 6 a = tupF a := rfl
end K11
end
section
set_option Elab.async false
set_option linter.all false
set_option maxRecDepth 100000
namespace K11
open PySem Fw Sy
abbrev tb (m t : Nat) : D := .tuple [N m, N t]
def bit (n r : Nat) : Nat := n / 2 ^ r % 2
def fromBits (bs : List Nat) : Nat := ((List.range bs.length).map fun k => bs.getD k 0 * 2 ^ k).sum
theorem bit_lt (n r : Nat) : bit n r < 2 := Nat.mod_lt _ (by decide)
theorem tupF_ok {d : D} (hs : sz d ≤ 1000000) (hd : dpt d ≤ 1999) : tupF [d] = some (tup d) := by
  show (if decide (sz d ≤ 1000000) && decide (dpt d ≤ 1999) then some (tup d) else none) = _
  rw [decide_eq_true hs, decide_eq_true hd]; rfl
theorem tup_tb {m t : Nat} : tupF [tb m t] = some (tb m t) := rfl
theorem tup_tbl {m t : Nat} : tupF [.list [N m, N t]] = some (tb m t) := rfl
theorem s_tup_tb (n m t : Nat) : T (n+1) 6 [.tuple [N m, N t]] = some (.tuple [N m, N t]) := rfl
theorem s_tup_tbl (n m t : Nat) : T (n+1) 6 [.list [N m, N t]] = some (.tuple [N m, N t]) := rfl
theorem s_need (n k : Nat) : T (n+1) 0 [.bool true, N k] = some .none := by
  rw [un_need]; simp -implicitDefEqProofs [f_need, Df.run, entry, entA, callV, cmpT, chnT, Cop.isIn, k_v, clause, bindTg, wipeT, i0, i1, i2, i3, i4, i5, i6, i7, i8, i9, i15, i30]
theorem s_is_intN (n i : Nat) : T (n+1) 1 [N i] = some (.bool true) := by
  rw [un_is_int]; simp -implicitDefEqProofs [f_is_int, Df.run, entry, entA, callV, cmpT, chnT, Cop.isIn, k_v, clause, bindTg, wipeT, i0, i1, i2, i3, i4, i5, i6, i7, i8, i9, i15, i30]
theorem s_is_int (n : Nat) (i : Int) : T (n+1) 1 [.int i] = some (.bool true) := by
  rw [un_is_int]; simp -implicitDefEqProofs [f_is_int, Df.run, entry, entA, callV, cmpT, chnT, Cop.isIn, k_v, clause, bindTg, wipeT, i0, i1, i2, i3, i4, i5, i6, i7, i8, i9, i15, i30]
theorem s_is_between (n i a b : Nat) : T (n+2) 2 [N i, N a, N b] = some (.bool (decide (a ≤ i) && decide (i ≤ b))) := by
  rw [un_is_between]; simp -implicitDefEqProofs [f_is_between, Df.run, entry, entA, callV, cmpT, chnT, Cop.isIn, k_v, clause, bindTg, wipeT, i0, i1, i2, i3, i4, i5, i6, i7, i8, i9, i15, i30, s_is_intN]
  by_cases h : a ≤ i <;> simp [h]
theorem s_is_row (n : Nat) (xs : List D) (k : Nat) : T (n+1) 4 [.tuple xs, N k] = some (.bool (decide (xs.length = k))) := by
  rw [un_is_row]; simp -implicitDefEqProofs [f_is_row, Df.run, entry, entA, callV, cmpT, chnT, Cop.isIn, k_v, clause, bindTg, wipeT, i0, i1, i2, i3, i4, i5, i6, i7, i8, i9, i15, i30]
theorem p2_le {m : Nat} (h : m ≤ 3) : 2 ^ m ≤ 8 := Nat.pow_le_pow_right (by decide) h
theorem s_whole (n m : Nat) (h : m ≤ 3) : T (n+1) 11 [N m] = some (N (2 ^ 2 ^ m - 1)) := by
  have h1 : 2 ^ m ≤ 1000000 := Nat.le_trans (p2_le h) (by decide)
  have h2 : 1 ≤ 2 ^ 2 ^ m := Nat.one_le_two_pow
  rw [un_whole]; simp -implicitDefEqProofs [f_whole, Df.run, entry, entA, callV, cmpT, chnT, Cop.isIn, k_v, clause, bindTg, wipeT, i0, i1, i2, i3, i4, i5, i6, i7, i8, i9, i15, i30, n_shl1 (b := m) (by omega), n_shl1 h1, n_sub h2]
theorem s_table_fits (n m t : Nat) (h1 : 1 ≤ m) (h3 : m ≤ 3) (ht : t < 2 ^ 2 ^ m) : T (n+3) 12 [.tuple [N m, N t]] = some (.bool true) := by
  rw [un_table_fits]; simp -implicitDefEqProofs [f_table_fits, Df.run, entry, entA, callV, cmpT, chnT, Cop.isIn, k_v, clause, bindTg, wipeT, i0, i1, i2, i3, i4, i5, i6, i7, i8, i9, i15, i30, s_is_row, s_is_between, s_whole _ _ h3]
  simp [h1, h3]
  omega
theorem s_bit_of (n a b : Nat) : T (n+1) 13 [N a, N b] = some (N (bit a b)) := by
  rw [un_bit_of]; simp -implicitDefEqProofs [f_bit_of, Df.run, entry, entA, callV, cmpT, chnT, Cop.isIn, k_v, clause, bindTg, wipeT, i0, i1, i2, i3, i4, i5, i6, i7, i8, i9, i15, i30]
  rfl
theorem s_from_bits (n : Nat) (bs : List Nat) (h : bs.length ≤ 1000) (hb : ∀ b ∈ bs, b < 1000) : T (n+1) 14 [.list (bs.map N)] = some (N (fromBits bs)) := by
  rw [un_from_bits]; simp -implicitDefEqProofs [f_from_bits, Df.run, entry, entA, callV, cmpT, chnT, Cop.isIn, k_v, clause, bindTg, wipeT, i0, i1, i2, i3, i4, i5, i6, i7, i8, i9, i15, i30, len_N, n_range (n := bs.length) (by omega)]
  rw [genGo_N (g := fun k => N (bs.getD k 0 * 2 ^ k))]
  · simp only [Option.bind_some, ck_lst (ds := (List.range bs.length).map fun k => N (bs.getD k 0 * 2 ^ k)) (by simp; omega)]
    simp only [Function.comp, Option.bind_some, n_sum]
    rfl
  · intro k hk
    have hm : bs[k] ∈ bs := List.getElem_mem hk
    have := hb _ hm
    simp -implicitDefEqProofs [Df.run, entry, entA, callV, cmpT, chnT, Cop.isIn, k_v, clause, bindTg, wipeT, i0, i1, i2, i3, i4, i5, i6, i7, i8, i9, i15, i30, n_idxM, List.getElem?_eq_getElem hk, n_shl (a := bs[k]) (b := k) (by omega) (by omega)]
/-- a list of bits by rows -/
theorem s_bits (n m : Nat) (f : Nat → Nat) (h3 : m ≤ 3) (hf : ∀ r, f r < 2) : T (n+1) 14 [.list ((List.range (2 ^ m)).map fun r => N (f r))] = some (N (fromBits ((List.range (2 ^ m)).map f))) := by
  have := s_from_bits n ((List.range (2 ^ m)).map f) (by simp; have := p2_le h3; omega) (fun b hb => by
    obtain ⟨r, _, rfl⟩ := List.mem_map.mp hb
    have := hf r; omega)
  rw [List.map_map] at this
  exact this
def heldN (m t p v : Nat) : Nat := if v = 1 then fromBits ((List.range (2 ^ m)).map fun row => bit t (row ||| 2 ^ p)) else fromBits ((List.range (2 ^ m)).map fun row => bit t ((row ||| 2 ^ p) ^^^ 2 ^ p))
theorem s_held (n m t p v : Nat) (h1 : 1 ≤ m) (h3 : m ≤ 3) (ht : t < 2 ^ 2 ^ m) (hp : p < m) (hv : v < 2) : T (n+4) 24 [.tuple [N m, N t], N p, N v] = some (.tuple [N m, N (heldN m t p v)]) := by
  have e8 := p2_le h3
  have b1 : p ≤ m - 1 := by omega
  have b2 : v ≤ 1 := by omega
  rw [un_held]; simp -implicitDefEqProofs [f_held, Df.run, entry, entA, callV, cmpT, chnT, Cop.isIn, k_v, clause, bindTg, wipeT, i0, i1, i2, i3, i4, i5, i6, i7, i8, i9, i15, i30, s_tup_tb, s_table_fits _ _ _ h1 h3 ht, s_need, n_sub h1, s_is_between, b1, b2, n_shl1 (b := p) (by omega), n_shl1 (b := m) (by omega), n_range (n := 2 ^ m) (by omega)]
  by_cases hv1 : v = 1
  · subst hv1
    rw [lc_rng (g := fun k => N (bit t (k ||| 2 ^ p))) (by omega)]
    · simp -implicitDefEqProofs [s_bits _ _ _ h3 (fun r => bit_lt _ _), heldN]
    · intro k hk
      simp -implicitDefEqProofs [Df.run, entry, entA, callV, cmpT, chnT, Cop.isIn, k_v, clause, bindTg, wipeT, i0, i1, i2, i3, i4, i5, i6, i7, i8, i9, i15, i30, s_bit_of]
  · rw [if_neg (by simpa using hv1)]
    simp -implicitDefEqProofs [Df.run, entry, entA, callV, cmpT, chnT, Cop.isIn, k_v, clause, bindTg, wipeT, i0, i1, i2, i3, i4, i5, i6, i7, i8, i9, i15, i30, n_shl1 (b := m) (by omega), n_range (n := 2 ^ m) (by omega)]
    rw [lc_rng (g := fun k => N (bit t ((k ||| 2 ^ p) ^^^ 2 ^ p))) (by omega)]
    · simp -implicitDefEqProofs [s_bits _ _ _ h3 (fun r => bit_lt _ _), heldN, hv1]
    · intro k hk
      simp -implicitDefEqProofs [Df.run, entry, entA, callV, cmpT, chnT, Cop.isIn, k_v, clause, bindTg, wipeT, i0, i1, i2, i3, i4, i5, i6, i7, i8, i9, i15, i30, s_bit_of]
def changesN (m t p : Nat) : Nat := ((List.range (2 ^ m)).map fun row => bit t row ^^^ bit t (row ^^^ 2 ^ p)).sum
theorem s_changes (n m t p : Nat) (h3 : m ≤ 3) (hp : p < m) : T (n+2) 23 [.tuple [N m, N t], N p] = some (N (changesN m t p)) := by
  have e8 := p2_le h3
  rw [un_changes]; simp -implicitDefEqProofs [f_changes, Df.run, entry, entA, callV, cmpT, chnT, Cop.isIn, k_v, clause, bindTg, wipeT, i0, i1, i2, i3, i4, i5, i6, i7, i8, i9, i15, i30, n_shl1 (b := p) (by omega), n_shl1 (b := m) (by omega), n_range (n := 2 ^ m) (by omega)]
  rw [lc_rng (g := fun row => N (bit t row ^^^ bit t (row ^^^ 2 ^ p))) (by omega)]
  · simp -implicitDefEqProofs [n_sum, changesN]
  · intro k hk
    simp -implicitDefEqProofs [Df.run, entry, entA, callV, cmpT, chnT, Cop.isIn, k_v, clause, bindTg, wipeT, i0, i1, i2, i3, i4, i5, i6, i7, i8, i9, i15, i30, s_bit_of, n_shl1 (b := p) (by omega)]
def hangsN (m t : Nat) : List Nat := (List.range m).filter fun p => decide (0 < changesN m t p)
theorem s_hangs_on (n m t : Nat) (h1 : 1 ≤ m) (h3 : m ≤ 3) (ht : t < 2 ^ 2 ^ m) : T (n+4) 22 [.tuple [N m, N t]] = some (.tuple ((hangsN m t).map N)) := by
  rw [un_hangs_on]; simp -implicitDefEqProofs [f_hangs_on, Df.run, entry, entA, callV, cmpT, chnT, Cop.isIn, k_v, clause, bindTg, wipeT, i0, i1, i2, i3, i4, i5, i6, i7, i8, i9, i15, i30, s_tup_tb, s_table_fits _ _ _ h1 h3 ht, s_need, n_range (n := m) (by omega)]
  rw [lc_rngF (g := fun p => N p) (p := fun p => decide (0 < changesN m t p)) (by omega)]
  · simp [hangsN]
  · intro k hk
    simp -implicitDefEqProofs [Df.run, entry, entA, callV, cmpT, chnT, Cop.isIn, k_v, clause, bindTg, wipeT, i0, i1, i2, i3, i4, i5, i6, i7, i8, i9, i15, i30, s_changes _ m t k h3 hk]
    by_cases h : 0 < changesN m t k <;> simp [h]
/-! ### the law's own -/
theorem s_law_cell (n : Nat) (ns : List Int) (k : Nat) : T (n+1) 63 [.list (ns.map .int), N k] = some (.int (ns.getD k 0)) := by
  rw [un__law_cell]; simp -implicitDefEqProofs [f__law_cell, Df.run, entry, entA, callV, cmpT, chnT, Cop.isIn, k_v, clause, bindTg, wipeT, i0, i1, i2, i3, i4, i5, i6, i7, i8, i9, i15, i30, n_idxM]
  by_cases h : k < ns.length
  · simp [h, List.getElem?_eq_getElem h]
  · simp [h, List.getElem?_eq_none (Nat.le_of_not_lt h)]
    rfl
theorem s_law_bit (n a b : Nat) (hb : b < 30) : T (n+1) 68 [N a, N b] = some (N (bit a b)) := by
  have h1 : 0 < 2 ^ b := Nat.two_pow_pos b
  have h2 : 2 ^ b < 1073741824 := Nat.pow_lt_pow_right (by decide) hb
  rw [un__law_bit]; simp -implicitDefEqProofs [f__law_bit, Df.run, entry, entA, callV, cmpT, chnT, Cop.isIn, k_v, clause, bindTg, wipeT, i0, i1, i2, i3, i4, i5, i6, i7, i8, i9, i15, i30, n_shl1 (b := b) (by omega), n_fdiv h1 h2]
  rfl
theorem s_law_of_bits (n m : Nat) (bs : List Nat) (h : bs.length ≤ 1000) (hb : ∀ b ∈ bs, b < 1000) : T (n+1) 69 [N m, .list (bs.map N)] = some (.tuple [N m, N (fromBits bs)]) := by
  rw [un__law_of_bits]; simp -implicitDefEqProofs [f__law_of_bits, Df.run, entry, entA, callV, cmpT, chnT, Cop.isIn, k_v, clause, bindTg, wipeT, i0, i1, i2, i3, i4, i5, i6, i7, i8, i9, i15, i30, len_N, n_range (n := bs.length) (by omega)]
  rw [lc_rng (g := fun k => N (bs.getD k 0 * 2 ^ k)) (by omega)]
  · simp -implicitDefEqProofs [n_sum]
    rfl
  · intro k hk
    have hm : bs[k] ∈ bs := List.getElem_mem hk
    have := hb _ hm
    simp -implicitDefEqProofs [Df.run, entry, entA, callV, cmpT, chnT, Cop.isIn, k_v, clause, bindTg, wipeT, i0, i1, i2, i3, i4, i5, i6, i7, i8, i9, i15, i30, n_idxM, List.getElem?_eq_getElem hk, n_shl1 (b := k) (by omega), n_mul (a := bs[k]) (b := 2 ^ k) (by omega)]
theorem s_law_bits (n m : Nat) (f : Nat → Nat) (h3 : m ≤ 3) (hf : ∀ r, f r < 2) : T (n+1) 69 [N m, .list ((List.range (2 ^ m)).map fun r => N (f r))] = some (.tuple [N m, N (fromBits ((List.range (2 ^ m)).map f))]) := by
  have := s_law_of_bits n m ((List.range (2 ^ m)).map f) (by simp; have := p2_le h3; omega) (fun b hb => by
    obtain ⟨r, _, rfl⟩ := List.mem_map.mp hb
    have := hf r; omega)
  rw [List.map_map] at this
  exact this
theorem bit_le (row p : Nat) : bit row p * 2 ^ p ≤ row := by
  unfold bit
  calc row / 2 ^ p % 2 * 2 ^ p ≤ row / 2 ^ p * 2 ^ p := Nat.mul_le_mul_right _ (Nat.mod_le _ _)
    _ ≤ row := Nat.div_mul_le_self _ _
/-- the row with the value at the place -/
def setb (row p v : Nat) : Nat := row - bit row p * 2 ^ p + v * 2 ^ p
def lheldN (m t p v : Nat) : Nat := fromBits ((List.range (2 ^ m)).map fun row => bit t (setb row p v))
theorem s_law_held (n m t p v : Nat) (h3 : m ≤ 3) (hp : p < m) (hv : v < 2) : T (n+2) 71 [.tuple [N m, N t], N p, N v] = some (.tuple [N m, N (lheldN m t p v)]) := by
  have e8 := p2_le h3
  rw [un__law_held]; simp -implicitDefEqProofs [f__law_held, Df.run, entry, entA, callV, cmpT, chnT, Cop.isIn, k_v, clause, bindTg, wipeT, i0, i1, i2, i3, i4, i5, i6, i7, i8, i9, i15, i30, n_shl1 (b := m) (by omega), n_range (n := 2 ^ m) (by omega)]
  rw [lc_rng (g := fun row => N (bit t (setb row p v))) (by omega)]
  · simp -implicitDefEqProofs [s_law_bits _ _ _ h3 (fun r => bit_lt _ _)]
    rfl
  · intro k hk
    have hb := bit_lt k p
    have hs : small64 ((v : Int) - (bit k p : Nat)) = true := by unfold small64 big64; simp only [Bool.and_eq_true, decide_eq_true_eq]; omega
    have h4 : 2 ^ p ≤ 8 := p2_le (by omega)
    have e1 : PyData.int ((k : Int) + ((v : Int) - (bit k p : Nat)) * ((2 ^ p : Nat) : Int)) = N (setb k p v) := by
      unfold N setb
      congr 1
      have h5 := bit_le k p
      have : ((k - bit k p * 2 ^ p + v * 2 ^ p : Nat) : Int) = (k : Int) - ((bit k p * 2 ^ p : Nat) : Int) + ((v * 2 ^ p : Nat) : Int) := by omega
      rw [this, Int.natCast_mul, Int.natCast_mul, Int.sub_mul]
      omega
    have h6 : setb k p v < 30 := by
      unfold setb
      have : v * 2 ^ p ≤ 1 * 8 := Nat.mul_le_mul (by omega) h4
      omega
    have e2 : binD .mul (.int ((v : Int) - (bit k p : Nat))) (N (2 ^ p)) = some (.int (((v : Int) - (bit k p : Nat)) * ((2 ^ p : Nat) : Int))) := mul_int hs
    have e3 : binD .add (N k) (.int (((v : Int) - (bit k p : Nat)) * ((2 ^ p : Nat) : Int))) = some (N (setb k p v)) := by rw [← e1]; rfl
    have e4 : (binD .mul (.int ((v : Int) - (bit k p : Nat))) (N (2 ^ p))).bind (fun y => binD .add (N k) y) = some (N (setb k p v)) := by rw [e2]; exact e3
    simp -implicitDefEqProofs [Df.run, entry, entA, callV, cmpT, chnT, Cop.isIn, k_v, clause, bindTg, wipeT, i0, i1, i2, i3, i4, i5, i6, i7, i8, i9, i15, i30, s_law_bit _ k p (by omega), s_law_bit _ t (setb k p v) h6, n_shl1 (b := p) (by omega), n_subI, e4]
end K11
end
section
set_option Elab.async false
set_option linter.all false
set_option maxRecDepth 100000
namespace K11
open PySem Fw Sy
theorem fromBits_map {f : Nat → Nat} {n : Nat} : fromBits ((List.range n).map f) = ((List.range n).map fun k => f k * 2 ^ k).sum := by
  unfold fromBits
  rw [List.length_map, List.length_range]
  congr 1
  refine List.map_congr_left fun k hk => ?_
  rw [getD_map_range (List.mem_range.mp hk)]
theorem heldN_lt {m t p v : Nat} : heldN m t p v < 2 ^ 2 ^ m := by
  unfold heldN
  by_cases h : v = 1
  · rw [if_pos h, fromBits_map]; exact sum_bits_lt (fun r => bit_lt _ _) _
  · rw [if_neg h, fromBits_map]; exact sum_bits_lt (fun r => bit_lt _ _) _
theorem lheldN_lt {m t p v : Nat} : lheldN m t p v < 2 ^ 2 ^ m := by
  unfold lheldN
  rw [fromBits_map]; exact sum_bits_lt (fun r => bit_lt _ _) _
def heldTabs (m t : Nat) (ps : List Nat) : List Nat := ps.foldl (fun found p => sortN (found.flatMap fun one => [heldN m one p 0, heldN m one p 1])) [t]
theorem len_sortN (l : List Nat) : (sortN l).length ≤ l.length := by
  induction l with
  | nil => simp [sortN]
  | cons x r ih =>
    have : ∀ s : List Nat, (insN x s).length ≤ s.length + 1 := by
      intro s
      induction s with
      | nil => simp [insN]
      | cons y s ih2 =>
        unfold insN
        cases Nat.ble x y with
        | true => cases Nat.beq x y <;> simp
        | false => simp only [List.length_cons]; omega
    show (insN x (sortN r)).length ≤ _
    have := this (sortN r)
    simp only [List.length_cons]; omega
theorem len_flat2 {α β : Type} {f g : α → β} (l : List α) : (l.flatMap fun a => [f a, g a]).length = 2 * l.length := by
  induction l with
  | nil => rfl
  | cons a r ih => rw [List.flatMap_cons, List.length_append, ih]; simp; omega
abbrev od (o : List Nat) : D := .tuple (o.map N)
theorem s_held_tables (n m t k : Nat) (o : List Nat) (h1 : 1 ≤ m) (h3 : m ≤ 3) (ht : t < 2 ^ 2 ^ m) (ho : o.length = m) (hp : ∀ p ∈ o, p < m) : T (n+5) 31 [tbD m t, od o, N k] = some (.list ((heldTabs m t (o.take k)).map (tbD m))) := by
  rw [un_held_tables]; simp -implicitDefEqProofs [f_held_tables, Df.run, entry, entA, callV, cmpT, chnT, Cop.isIn, k_v, clause, bindTg, wipeT, i0, i1, i2, i3, i4, i5, i6, i7, i8, i9, i15, i30, cut_hi, ← List.map_take]
  have key := forS_foldI (G := G0) (F := T (n+4)) (tg := .n 4) (b := [.set 3 false (.cmpn .sset (.gen [5, 6] (.n 5) (.v 3) [] (.gen [6] (.n 6) (.tup [(.c (N 0)), (.c (N 1))]) [] (.yld (.call 24 [false, false, false] [(.v 5), (.v 4), (.v 6)])))))])
    (xs := o.take k) (e := N) (step := fun found p => sortN (found.flatMap fun one => [heldN m one p 0, heldN m one p 1]))
    (fun i found τ => found.length ≤ 2 ^ i ∧ found ≠ [] ∧ (∀ one ∈ found, one < 2 ^ 2 ^ m) ∧ ∃ s4 s5 s6, τ = [.fz (tbD m t), .fz (od o), .fz (N k), .fz (.list (found.map (tbD m))), s4, s5, s6])
    [t] [.fz (tbD m t), .fz (od o), .fz (N k), .fz (.list [tbD m t]), .un, .un, .un] (fun i p hi found τ hR => ?_) ?_
  · obtain ⟨τ', e1, _, _, _, s4, s5, s6, rfl⟩ := key
    rw [e1]
    simp [heldTabs]
  · obtain ⟨r1, r2, r3, s4, s5, s6, rfl⟩ := hR
    have hil : i < m := by
      have := (List.getElem?_eq_some_iff.mp hi).1
      rw [List.length_take] at this; omega
    have hpm : p < m := hp p (List.mem_of_mem_take (List.mem_of_getElem? hi))
    have h2i : 2 ^ i ≤ 4 := Nat.le_trans (Nat.pow_le_pow_right (by decide) (show i ≤ 2 by omega)) (by decide)
    have hfl : (found.flatMap fun one => [heldN m one p 0, heldN m one p 1]).length < 64 := by rw [len_flat2]; omega
    have hfn : (found.flatMap fun one => [heldN m one p 0, heldN m one p 1]) ≠ [] := by
      cases found with
      | nil => exact absurd rfl r2
      | cons a r => simp
    have hm2 : (found.flatMap fun one => [tbD m (heldN m one p 0), tbD m (heldN m one p 1)]) = (found.flatMap fun one => [heldN m one p 0, heldN m one p 1]).map (tbD m) := by
      rw [List.map_flatMap]; rfl
    refine ⟨[.fz (tbD m t), .fz (od o), .fz (N k), .fz (.list ((sortN (found.flatMap fun one => [heldN m one p 0, heldN m one p 1])).map (tbD m))), .fz (N p), s5, s6], ?_, ?_, ?_, ?_, _, _, _, rfl⟩
    · simp -implicitDefEqProofs [Df.run, entry, entA, callV, cmpT, chnT, Cop.isIn, k_v, clause, bindTg, wipeT, i0, i1, i2, i3, i4, i5, i6, i7, i8, i9, i15, i30]
      rw [genGo_flat (g := fun one => [tbD m (heldN m one p 0), tbD m (heldN m one p 1)])]
      · rw [hm2]
        simp -implicitDefEqProofs [sset_tb hfn hfl]
      · intro one hone
        have hone := r3 one hone
        simp -implicitDefEqProofs [Df.run, entry, entA, callV, cmpT, chnT, Cop.isIn, k_v, clause, bindTg, wipeT, i0, i1, i2, i3, i4, i5, i6, i7, i8, i9, i15, i30, genGo, s_held _ m one p _ h1 h3 hone hpm]
    · have := len_sortN (found.flatMap fun one => [heldN m one p 0, heldN m one p 1])
      rw [len_flat2] at this
      rw [Nat.pow_succ]; omega
    · intro z
      cases found with
      | nil => exact r2 rfl
      | cons a r =>
        have : heldN m a p 0 ∈ sortN ((a :: r).flatMap fun one => [heldN m one p 0, heldN m one p 1]) := mem_sortN.mpr (by simp)
        rw [z] at this; cases this
    · intro one hone
      obtain ⟨a, _, ha⟩ := List.mem_flatMap.mp (mem_sortN.mp hone)
      simp only [List.mem_cons, List.mem_nil_iff, or_false] at ha
      rcases ha with rfl | rfl <;> exact heldN_lt
  · exact ⟨by simp, by simp, by simpa using ht, _, _, _, rfl⟩
theorem shp_tb {m a : Nat} : shp (tbD m a) = true := by
  unfold shp SeqAt.shaped
  simp [PyData.canLay0, PyData.canLayAll0, PyData.depth, PyData.depthAll, N]
theorem eqv_tb {m a b : Nat} : PyData.eqv (tbD m a) (tbD m b) = decide (a = b) := by
  simp [PyData.eqv, PyData.eqvAll, N, beq_dec]
  omega
theorem ne_tb {m a b : Nat} : cmpD .ne (tbD m a) (tbD m b) = some (!decide (a = b)) := by
  show (if shp (tbD m a) && shp (tbD m b) then some (PyData.eqv (tbD m a) (tbD m b)) else none).map not = _
  rw [shp_tb, shp_tb, eqv_tb]; rfl
theorem add_list {xs ys : List D} (h : xs.length + ys.length ≤ 1000000) : binD .add (.list xs) (.list ys) = some (.list (xs ++ ys)) := if_pos (le_lim h)
theorem add_tuple {xs ys : List D} (h : xs.length + ys.length ≤ 1000000) : binD .add (.tuple xs) (.tuple ys) = some (.tuple (xs ++ ys)) := if_pos (le_lim h)
theorem s_law_unlike (n m : Nat) (as : List Nat) (h : as.length ≤ 1000) : T (n+1) 67 [.list (as.map (tbD m))] = some (.tuple ((sortN as).map (tbD m))) := by
  rw [un__law_unlike]; simp -implicitDefEqProofs [f__law_unlike, Df.run, entry, entA, callV, cmpT, chnT, Cop.isIn, k_v, clause, bindTg, wipeT, i0, i1, i2, i3, i4, i5, i6, i7, i8, i9, i15, i30, sorted_tb (m := m) (as := as) (by omega), n_range (n := as.length) (by omega)]
  rw [lc_rngF (g := fun k => tbD m ((as.mergeSort fun a b => decide (a ≤ b)).getD k 0)) (p := fun k => decide (k = 0) || !decide ((as.mergeSort fun a b => decide (a ≤ b)).getD k 0 = (as.mergeSort fun a b => decide (a ≤ b)).getD (k - 1) 0)) (by omega)]
  · rw [← adj_msort]
    simp [adj, Function.comp_def]
  · intro k hk
    have hk' : k < (as.mergeSort fun a b => decide (a ≤ b)).length := by simpa using hk
    simp -implicitDefEqProofs [Df.run, entry, entA, callV, cmpT, chnT, Cop.isIn, k_v, clause, bindTg, wipeT, i0, i1, i2, i3, i4, i5, i6, i7, i8, i9, i15, i30, n_idxM]
    generalize (as.mergeSort fun a b => decide (a ≤ b)) = l at hk' ⊢
    rcases k with _ | j
    · simp [List.getElem?_eq_getElem hk']
    · have hj : j < l.length := by omega
      simp -implicitDefEqProofs [n_sub1, n_idxM, List.getElem?_eq_getElem hk', List.getElem?_eq_getElem hj, ne_tb]
      by_cases e : l[j + 1] = l[j] <;> simp [e]
def lkinTabs (m t : Nat) (ps : List Nat) : List Nat := sortN (ps.foldl (fun rows p => rows.flatMap fun one => [lheldN m one p 0, lheldN m one p 1]) [t])
theorem foldl_flat {α β : Type} (f : α → List β) : ∀ (l : List α) (acc : List β), l.foldl (fun acc a => acc ++ f a) acc = acc ++ l.flatMap f
  | [], acc => by simp
  | a :: r, acc => by rw [List.foldl_cons, foldl_flat f r, List.flatMap_cons, List.append_assoc]
theorem s_law_kin (n m t k : Nat) (o : List Nat) (h3 : m ≤ 3) (ho : o.length = m) (hp : ∀ p ∈ o, p < m) : T (n+3) 73 [tbD m t, od o, N k] = some (.tuple ((lkinTabs m t (o.take k)).map (tbD m))) := by
  rw [un__law_kin]; simp -implicitDefEqProofs [f__law_kin, Df.run, entry, entA, callV, cmpT, chnT, Cop.isIn, k_v, clause, bindTg, wipeT, i0, i1, i2, i3, i4, i5, i6, i7, i8, i9, i15, i30, cut_hi, ← List.map_take]
  have key := forS_foldI (G := G0) (F := T (n+2)) (tg := .n 4) (b := [.set 5 false (.lst []), .for_ (.n 6) (.v 3) [.set 5 false (.bin .add (.v 5) (.lst [(.call 71 [false, false, false] [(.v 6), (.v 4), (.c (N 0))]), (.call 71 [false, false, false] [(.v 6), (.v 4), (.c (N 1))])]))], .set 3 false (.v 5)])
    (xs := o.take k) (e := N) (step := fun rows p => rows.flatMap fun one => [lheldN m one p 0, lheldN m one p 1])
    (fun i rows τ => rows.length = 2 ^ i ∧ ∃ s4 s5 s6, τ = [.fz (tbD m t), .fz (od o), .fz (N k), .fz (.list (rows.map (tbD m))), s4, s5, s6])
    [t] [.fz (tbD m t), .fz (od o), .fz (N k), .fz (.list [tbD m t]), .un, .un, .un] (fun i p hi rows τ hR => ?_) ?_
  · obtain ⟨τ', e1, hl, s4, s5, s6, rfl⟩ := key
    have hl2 : 2 ^ (o.take k).length ≤ 8 := p2_le (by rw [List.length_take]; omega)
    rw [e1]
    simp -implicitDefEqProofs [Df.run, entry, entA, callV, cmpT, chnT, Cop.isIn, k_v, clause, bindTg, wipeT, i0, i1, i2, i3, i4, i5, i6, i7, i8, i9, i15, i30, s_law_unlike _ m ((o.take k).foldl (fun rows p => rows.flatMap fun one => [lheldN m one p 0, lheldN m one p 1]) [t]) (by omega)]
    rfl
  · obtain ⟨r1, s4, s5, s6, rfl⟩ := hR
    have hil : i < m := by
      have := (List.getElem?_eq_some_iff.mp hi).1
      rw [List.length_take] at this; omega
    have hpm : p < m := hp p (List.mem_of_mem_take (List.mem_of_getElem? hi))
    have h2i : 2 ^ i ≤ 4 := Nat.le_trans (Nat.pow_le_pow_right (by decide) (show i ≤ 2 by omega)) (by decide)
    have inner := forS_foldI (G := G0) (F := T (n+2)) (tg := .n 6) (b := [.set 5 false (.bin .add (.v 5) (.lst [(.call 71 [false, false, false] [(.v 6), (.v 4), (.c (N 0))]), (.call 71 [false, false, false] [(.v 6), (.v 4), (.c (N 1))])]))])
      (xs := rows) (e := tbD m) (step := fun acc one => acc ++ [lheldN m one p 0, lheldN m one p 1])
      (fun i acc τ => acc.length = 2 * i ∧ ∃ s6, τ = [.fz (tbD m t), .fz (od o), .fz (N k), .fz (.list (rows.map (tbD m))), .fz (N p), .fz (.list (acc.map (tbD m))), s6])
      [] [.fz (tbD m t), .fz (od o), .fz (N k), .fz (.list (rows.map (tbD m))), .fz (N p), .fz (.list []), s6] (fun i one hi acc τ hR => ?_) ?_
    · obtain ⟨τ', e1, _, s6', rfl⟩ := inner
      refine ⟨_, ?_, ?_, .fz (N p), .fz (.list ((rows.foldl (fun acc one => acc ++ [lheldN m one p 0, lheldN m one p 1]) []).map (tbD m))), s6', rfl⟩
      · simp -implicitDefEqProofs [Df.run, entry, entA, callV, cmpT, chnT, Cop.isIn, k_v, clause, bindTg, wipeT, i0, i1, i2, i3, i4, i5, i6, i7, i8, i9, i15, i30]
        rw [e1]
        simp [foldl_flat]
        rw [List.map_flatMap]
        rfl
      · rw [len_flat2, r1, Nat.pow_succ]; omega
    · obtain ⟨q1, s6', rfl⟩ := hR
      have hl := (List.getElem?_eq_some_iff.mp hi).1
      refine ⟨_, ?_, ?_, .fz (tbD m one), rfl⟩
      · simp -implicitDefEqProofs [Df.run, entry, entA, callV, cmpT, chnT, Cop.isIn, k_v, clause, bindTg, wipeT, i0, i1, i2, i3, i4, i5, i6, i7, i8, i9, i15, i30, s_law_held _ m one p _ h3 hpm, add_list (xs := acc.map (tbD m)) (ys := [tbD m (lheldN m one p 0), tbD m (lheldN m one p 1)]) (by simp; omega)]
      · simp; omega
    · exact ⟨rfl, _, rfl⟩
  · exact ⟨by simp, _, _, _, rfl⟩
end K11
end
section
set_option Elab.async false
set_option linter.all false
set_option maxRecDepth 100000
namespace K11
open PySem Fw Sy
abbrev Node := Nat × Int × Int
def ndD (x : Node) : D := .tuple [N x.1, .int x.2.1, .int x.2.2]
def hereO (m p : Nat) (nums : Asc) (found : List Nat) : Option (List Tri) := found.foldlM (fun acc one => if one < 2 ^ 2 ^ m ∧ acc.length ≤ 1000 then (if (hangsN m one).contains p then (agetO (heldN m one p 0) nums).bind fun l => (agetO (heldN m one p 1) nums).bind fun h => some (acc ++ [(l, h, one)]) else some acc) else none) []
def putO (p : Nat) (s : Asc × List Node) (xs : List Tri) : Option (Asc × List Node) := xs.foldlM (fun s x => if s.1.length ≤ 1000 ∧ s.2.length ≤ 1000 then some (aput x.2.2 s.2.length s.1, s.2 ++ [(p, x.1, x.2.1)]) else none) s
def stepO (m t : Nat) (o : List Nat) (s : Asc × List Node) (k : Nat) : Option (Asc × List Node) := o[k]?.bind fun p => (hereO m p s.1 (heldTabs m t (o.take k))).bind fun here => if here.length ≤ 1000 then putO p s (isort le3 here) else none
def nums0 (m : Nat) : Asc := aput (2 ^ 2 ^ m - 1) (-2) (aput 0 (-1) [])
def madeO (m t : Nat) (o : List Nat) : Option (List Node × Int) := ((List.range m).reverse.foldlM (stepO m t o) (nums0 m, [])).bind fun s => if s.2.length ≤ 1000 then (agetO t s.1).map fun top => (s.2, top) else none
def diaD (o : List Nat) (d : List Node × Int) : D := .tuple [od o, .tuple (d.1.map ndD), .int d.2]
theorem s_diagram_made (n m t : Nat) (o : List Nat) (d : List Node × Int) (h1 : 1 ≤ m) (h3 : m ≤ 3) (ht : t < 2 ^ 2 ^ m) (ho : o.length = m) (hp : ∀ p ∈ o, p < m) (hd : madeO m t o = some d) : T (n+6) 32 [tbD m t, od o] = some (diaD o d) := by
  obtain ⟨s, hs, hd⟩ := Option.bind_eq_some_iff.mp hd
  split at hd
  case isFalse => cases hd
  rename_i hlen
  obtain ⟨top, htop, rfl⟩ := Option.map_eq_some_iff.mp hd
  have en : encA m (nums0 m) = kput (tbD m (2 ^ 2 ^ m - 1)) (.int (-2)) (kput (tbD m 0) (.int (-1)) []) := by
    unfold nums0
    rw [← kput_tb, ← kput_tb]; rfl
  rw [un_diagram_made]; simp -implicitDefEqProofs [f_diagram_made, Df.run, entry, entA, callV, cmpT, chnT, Cop.isIn, k_v, clause, bindTg, wipeT, i0, i1, i2, i3, i4, i5, i6, i7, i8, i9, i15, i30, s_whole _ _ h3, n_sub h1, n_range_down h1 (show m ≤ 1000000 by omega), -List.map_reverse]
  have key := forS_foldM (G := G0) (F := T (n+5)) (tg := .n 5) (b := [.set 6 false ((E.v 1).idx (E.v 5)), .set 7 true (E.lst []),
              .for_ (Tg.n 8) (E.call 31 [false, false, false] [E.v 0, E.v 1, E.v 5])
                [.ife (E.cmp Cop.isin (E.v 6) (E.call 22 [false] [E.v 8]))
                    [.app 7
                        (E.tup
                          [(E.v 3).idx (E.call 24 [false, false, false] [E.v 8, E.v 6, E.c (N 0)]),
                            (E.v 3).idx (E.call 24 [false, false, false] [E.v 8, E.v 6, E.c (N 1)]), E.v 8])]
                    []],
              .for_ (Tg.t [9, 10, 8]) (E.blt Blt.sorted [E.v 7])
                [.put 3 (E.v 8) (E.blt Blt.len [E.v 4]), .app 4 (E.tup [E.v 6, E.v 9, E.v 10])]])
    (xs := (List.range m).reverse) (e := N) (step := stepO m t o)
    (fun i s τ => ∃ x5 x6 x7 x8 x9 x10, τ = [.fz (tbD m t), .fz (od o), .fz (N m), .od true (encA m s.1), .ol (s.2.map ndD), x5, x6, x7, x8, x9, x10])
    (nums0 m, []) s [.fz (tbD m t), .fz (od o), .fz (N m), .od true (encA m (nums0 m)), .ol [], .un, .un, .un, .un, .un, .un] (fun i k hi s s' τ hR hst => ?_) ⟨_, _, _, _, _, _, rfl⟩ hs
  · obtain ⟨τ', e1, x5, x6, x7, x8, x9, x10, rfl⟩ := key
    rw [← en, e1]
    simp -implicitDefEqProofs [idx_dict, htop, diaD]
  · obtain ⟨x5, x6, x7, x8, x9, x10, rfl⟩ := hR
    obtain ⟨p, hpo, hst⟩ := Option.bind_eq_some_iff.mp hst
    obtain ⟨here, hh, hst⟩ := Option.bind_eq_some_iff.mp hst
    split at hst
    case isFalse => cases hst
    rename_i hhl
    have hpm : p < m := hp p (List.mem_of_getElem? hpo)
    have key2 := forS_foldM (G := G0) (F := T (n+5)) (tg := .n 8) (b := [.ife (E.cmp Cop.isin (E.v 6) (E.call 22 [false] [E.v 8]))
                    [.app 7
                        (E.tup
                          [(E.v 3).idx (E.call 24 [false, false, false] [E.v 8, E.v 6, E.c (N 0)]),
                            (E.v 3).idx (E.call 24 [false, false, false] [E.v 8, E.v 6, E.c (N 1)]), E.v 8])]
                    []])
      (xs := heldTabs m t (o.take k)) (e := tbD m) (step := fun (acc : List Tri) (one : Nat) => if one < 2 ^ 2 ^ m ∧ acc.length ≤ 1000 then (if (hangsN m one).contains p then (agetO (heldN m one p 0) s.1).bind fun l => (agetO (heldN m one p 1) s.1).bind fun h => some (acc ++ [(l, h, one)]) else some acc) else none)
      (fun i acc τ => acc.length ≤ i ∧ ∃ x8, τ = [.fz (tbD m t), .fz (od o), .fz (N m), .od true (encA m s.1), .ol (s.2.map ndD), .fz (N k), .fz (N p), .ol (acc.map (triD m)), x8, x9, x10])
      [] here [.fz (tbD m t), .fz (od o), .fz (N m), .od true (encA m s.1), .ol (s.2.map ndD), .fz (N k), .fz (N p), .ol [], x8, x9, x10] (fun i one hi acc acc' τ hR hst => ?_) ⟨Nat.le_refl _, _, rfl⟩ hh
    · obtain ⟨τ2, e2, _, x8', rfl⟩ := key2
      have key3 := forS_foldM (G := G0) (F := T (n+5)) (tg := .t [9, 10, 8]) (b := [.put 3 (E.v 8) (E.blt Blt.len [E.v 4]), .app 4 (E.tup [E.v 6, E.v 9, E.v 10])])
        (xs := isort le3 here) (e := triD m) (step := fun (s : Asc × List Node) (x : Tri) => if s.1.length ≤ 1000 ∧ s.2.length ≤ 1000 then some (aput x.2.2 s.2.length s.1, s.2 ++ [(p, x.1, x.2.1)]) else none)
        (fun i s τ => ∃ x8 x9 x10, τ = [.fz (tbD m t), .fz (od o), .fz (N m), .od true (encA m s.1), .ol (s.2.map ndD), .fz (N k), .fz (N p), .ol (here.map (triD m)), x8, x9, x10])
        s s' [.fz (tbD m t), .fz (od o), .fz (N m), .od true (encA m s.1), .ol (s.2.map ndD), .fz (N k), .fz (N p), .ol (here.map (triD m)), x8', x9, x10] (fun i x hi s s' τ hR hst => ?_) ⟨_, _, _, rfl⟩ hst
      · obtain ⟨τ3, e3, y8, y9, y10, rfl⟩ := key3
        refine ⟨_, ?_, .fz (N k), .fz (N p), .ol (here.map (triD m)), y8, y9, y10, rfl⟩
        simp -implicitDefEqProofs [Df.run, entry, entA, callV, cmpT, chnT, Cop.isIn, k_v, clause, bindTg, wipeT, i0, i1, i2, i3, i4, i5, i6, i7, i8, i9, i15, i30, n_idxMT, hpo, s_held_tables _ m t k o h1 h3 ht ho hp]
        rw [e2]
        simp -implicitDefEqProofs [sorted_tri (m := m) (xs := here) (by omega)]
        rw [e3]
        simp
      · obtain ⟨y8, y9, y10, rfl⟩ := hR
        split at hst
        case isFalse => cases hst
        rename_i hl
        cases hst
        have l1 : (encA m s.1).length < lim := lt_lim (by rw [len_encA]; omega)
        have l2 : (s.2.map ndD).length < lim := lt_lim (by simp; omega)
        have e1 : kput (tbD m x.2.2) (N s.2.length) (encA m s.1) = encA m (aput x.2.2 s.2.length s.1) := kput_tb s.1
        refine ⟨_, ?_, .fz (tbD m x.2.2), .fz (.int x.1), .fz (.int x.2.1), rfl⟩
        simp -implicitDefEqProofs [Df.run, entry, entA, callV, cmpT, chnT, Cop.isIn, k_v, clause, bindTg, wipeT, i0, i1, i2, i3, i4, i5, i6, i7, i8, i9, i15, i30, triD, l1]
        rw [e1]
        simp -implicitDefEqProofs at l2
        simp -implicitDefEqProofs [l2, ndD]
    · obtain ⟨q1, x8', rfl⟩ := hR
      split at hst
      case isFalse => cases hst
      rename_i hone
      obtain ⟨hone, hacc⟩ := hone
      by_cases hc : (hangsN m one).contains p = true
      · rw [if_pos hc] at hst
        obtain ⟨lo, hlo, hst⟩ := Option.bind_eq_some_iff.mp hst
        obtain ⟨hi', hhi, hst⟩ := Option.bind_eq_some_iff.mp hst
        cases hst
        have l2 : (acc.map (triD m)).length < lim := lt_lim (by simp; omega)
        refine ⟨_, ?_, ?_, .fz (tbD m one), rfl⟩
        · simp -implicitDefEqProofs [Df.run, entry, entA, callV, cmpT, chnT, Cop.isIn, k_v, clause, bindTg, wipeT, i0, i1, i2, i3, i4, i5, i6, i7, i8, i9, i15, i30, s_hangs_on _ m one h1 h3 hone, in_tup_N, s_held _ m one p _ h1 h3 hone hpm, idx_dict, hlo, hhi]
          simp -implicitDefEqProofs at l2
          simp -implicitDefEqProofs at hc
          simp -implicitDefEqProofs [l2, hc, triD]
        · simp; omega
      · rw [if_neg hc] at hst
        cases hst
        refine ⟨_, ?_, ?_, .fz (tbD m one), rfl⟩
        · simp -implicitDefEqProofs [Df.run, entry, entA, callV, cmpT, chnT, Cop.isIn, k_v, clause, bindTg, wipeT, i0, i1, i2, i3, i4, i5, i6, i7, i8, i9, i15, i30, s_hangs_on _ m one h1 h3 hone, in_tup_N]
          simp -implicitDefEqProofs at hc
          simp -implicitDefEqProofs [hc]
        · omega
/-! ### the law's diagram -/
def lhangs (m t p : Nat) : Bool := !decide (lheldN m t p 0 = lheldN m t p 1)
theorem s_law_hangs (n m t p : Nat) (h3 : m ≤ 3) (hp : p < m) : T (n+3) 72 [tbD m t, N p] = some (.bool (lhangs m t p)) := by
  rw [un__law_hangs]; simp -implicitDefEqProofs [f__law_hangs, Df.run, entry, entA, callV, cmpT, chnT, Cop.isIn, k_v, clause, bindTg, wipeT, i0, i1, i2, i3, i4, i5, i6, i7, i8, i9, i15, i30, s_law_held _ m t p _ h3 hp, ne_tb]
  simp [lhangs]
theorem s_law_constant (n m v : Nat) (h3 : m ≤ 3) (hv : v < 2) : T (n+2) 70 [N m, N v] = some (tbD m (fromBits ((List.range (2 ^ m)).map fun _ => v))) := by
  have e8 := p2_le h3
  rw [un__law_constant]; simp -implicitDefEqProofs [f__law_constant, Df.run, entry, entA, callV, cmpT, chnT, Cop.isIn, k_v, clause, bindTg, wipeT, i0, i1, i2, i3, i4, i5, i6, i7, i8, i9, i15, i30, n_shl1 (b := m) (by omega), mul_list (n := 2 ^ m) (x := N v) (by omega)]
  rw [s_law_bits n m (fun _ => v) h3 (fun _ => hv)]
  rfl
theorem const0 {m : Nat} (h3 : m ≤ 3) : fromBits ((List.range (2 ^ m)).map fun _ => 0) = 0 := by
  rcases m with _ | _ | _ | _ | m
  · rfl
  · rfl
  · rfl
  · rfl
  · omega
theorem const1 {m : Nat} (h3 : m ≤ 3) : fromBits ((List.range (2 ^ m)).map fun _ => 1) = 2 ^ 2 ^ m - 1 := by
  rcases m with _ | _ | _ | _ | m
  · rfl
  · rfl
  · rfl
  · rfl
  · omega
def lhereO (m p : Nat) (nums : Asc) (found : List Nat) : Option (List Tri) := found.mapM fun one => (agetO (lheldN m one p 0) nums).bind fun l => (agetO (lheldN m one p 1) nums).bind fun h => some (l, h, one)
def keepO (m p : Nat) (nums : Asc) (found : List Nat) : Option Asc := found.foldlM (fun nums one => if lhangs m one p then some nums else (agetO one nums).bind fun v => if nums.length ≤ 1000 then some (aput one v nums) else none) nums
def lstepO (m t : Nat) (o : List Nat) (s : Asc × List Node) (k : Nat) : Option (Asc × List Node) := o[k]?.bind fun p => if (lkinTabs m t (o.take k)).length ≤ 1000 then (lhereO m p s.1 ((lkinTabs m t (o.take k)).filter fun one => lhangs m one p)).bind fun here => (putO p s (isort le3 here)).bind fun s' => (keepO m p s'.1 (lkinTabs m t (o.take k))).bind fun nums => some (nums, s'.2) else none
def lmadeO (m t : Nat) (o : List Nat) : Option (List Node × Int) := ((List.range m).reverse.foldlM (lstepO m t o) (nums0 m, [])).bind fun s => if s.2.length ≤ 1000 then (agetO t s.1).map fun top => (s.2, top) else none
theorem s_law_diagram (n m t : Nat) (o : List Nat) (d : List Node × Int) (h1 : 1 ≤ m) (h3 : m ≤ 3) (ho : o.length = m) (hp : ∀ p ∈ o, p < m) (hd : lmadeO m t o = some d) : T (n+6) 74 [tbD m t, od o] = some (diaD o d) := by
  obtain ⟨s, hs, hd⟩ := Option.bind_eq_some_iff.mp hd
  split at hd
  case isFalse => cases hd
  rename_i hlen
  obtain ⟨top, htop, rfl⟩ := Option.map_eq_some_iff.mp hd
  have en : encA m (nums0 m) = kput (tbD m (2 ^ 2 ^ m - 1)) (.int (-2)) (kput (tbD m 0) (.int (-1)) []) := by
    unfold nums0
    rw [← kput_tb, ← kput_tb]; rfl
  have l0 : 0 < lim := by decide
  have l1 : (kput (tbD m 0) (.int (-1)) []).length < lim := by show 1 < lim; decide
  rw [un__law_diagram]; simp -implicitDefEqProofs [f__law_diagram, Df.run, entry, entA, callV, cmpT, chnT, Cop.isIn, k_v, clause, bindTg, wipeT, i0, i1, i2, i3, i4, i5, i6, i7, i8, i9, i15, i30, s_law_constant _ m _ h3, const0 h3, const1 h3, n_subI, l0, l1, n_sub h1, n_range_down h1 (show m ≤ 1000000 by omega), -List.map_reverse]
  have key := forS_foldM (G := G0) (F := T (n+5)) (tg := .n 5) (b := [S.set 6 false
                        (E.cmpn Ck.lst
                          (E.gen [8] (Tg.n 8) (E.call 73 [false, false, false] [E.v 0, E.v 1, E.v 5])
                            [E.call 72 [false, false] [E.v 8, (E.v 1).idx (E.v 5)]] (E.v 8).yld)),
                      S.set 7 false
                        (E.blt Blt.sorted
                          [E.cmpn Ck.lst
                              (E.gen [8] (Tg.n 8) (E.v 6) []
                                (E.tup
                                    [(E.v 3).idx
                                        (E.call 71 [false, false, false] [E.v 8, (E.v 1).idx (E.v 5), E.c (N 0)]),
                                      (E.v 3).idx
                                        (E.call 71 [false, false, false] [E.v 8, (E.v 1).idx (E.v 5), E.c (N 1)]),
                                      E.v 8]).yld)]),
                      S.for_ (Tg.t [9, 10, 8]) (E.v 7)
                        [S.put 3 (E.v 8) (E.blt Blt.len [E.v 4]), S.app 4 (E.tup [(E.v 1).idx (E.v 5), E.v 9, E.v 10])],
                      S.for_ (Tg.n 8) (E.call 73 [false, false, false] [E.v 0, E.v 1, E.v 5])
                        [S.ife (E.call 72 [false, false] [E.v 8, (E.v 1).idx (E.v 5)]).not
                            [S.put 3 (E.v 8) (E.mth Mth.get2 (E.v 3) [E.v 8, E.c PyData.none])] []]])
    (xs := (List.range m).reverse) (e := N) (step := lstepO m t o)
    (fun i s τ => ∃ x5 x6 x7 x8 x9 x10, τ = [.fz (tbD m t), .fz (od o), .fz (N m), .od true (encA m s.1), .ol (s.2.map ndD), x5, x6, x7, x8, x9, x10])
    (nums0 m, []) s [.fz (tbD m t), .fz (od o), .fz (N m), .od true (encA m (nums0 m)), .ol [], .un, .un, .un, .un, .un, .un] (fun i k hi s s' τ hR hst => ?_) ⟨_, _, _, _, _, _, rfl⟩ hs
  · obtain ⟨τ', e1, x5, x6, x7, x8, x9, x10, rfl⟩ := key
    rw [← en, e1]
    simp -implicitDefEqProofs [idx_dict, htop, diaD]
  · obtain ⟨x5, x6, x7, x8, x9, x10, rfl⟩ := hR
    obtain ⟨p, hpo, hst⟩ := Option.bind_eq_some_iff.mp hst
    split at hst
    case isFalse => cases hst
    rename_i hkl
    obtain ⟨here, hh, hst⟩ := Option.bind_eq_some_iff.mp hst
    obtain ⟨s1, hput, hst⟩ := Option.bind_eq_some_iff.mp hst
    obtain ⟨nums, hkeep, hst⟩ := Option.bind_eq_some_iff.mp hst
    cases hst
    have hpm : p < m := hp p (List.mem_of_getElem? hpo)
    have hfl : ((lkinTabs m t (o.take k)).filter fun one => lhangs m one p).length ≤ 1000 := Nat.le_trans (List.length_filter_le _ _) hkl
    have hhl : here.length ≤ 1000 := by rw [mapM_len hh]; exact hfl
    have key3 := forS_foldM (G := G0) (F := T (n+5)) (tg := .t [9, 10, 8]) (b := [S.put 3 (E.v 8) (E.blt Blt.len [E.v 4]), S.app 4 (E.tup [(E.v 1).idx (E.v 5), E.v 9, E.v 10])])
        (xs := isort le3 here) (e := triD m) (step := fun (s : Asc × List Node) (x : Tri) => if s.1.length ≤ 1000 ∧ s.2.length ≤ 1000 then some (aput x.2.2 s.2.length s.1, s.2 ++ [(p, x.1, x.2.1)]) else none)
        (fun i s τ => ∃ x8 x9 x10, τ = [.fz (tbD m t), .fz (od o), .fz (N m), .od true (encA m s.1), .ol (s.2.map ndD), .fz (N k), .fz (.list (((lkinTabs m t (o.take k)).filter fun one => lhangs m one p).map (tbD m))), .fz (.list ((isort le3 here).map (triD m))), x8, x9, x10])
        s s1 [.fz (tbD m t), .fz (od o), .fz (N m), .od true (encA m s.1), .ol (s.2.map ndD), .fz (N k), .fz (.list (((lkinTabs m t (o.take k)).filter fun one => lhangs m one p).map (tbD m))), .fz (.list ((isort le3 here).map (triD m))), x8, x9, x10] (fun i x hi s s' τ hR hst => ?_) ⟨_, _, _, rfl⟩ hput
    · obtain ⟨τ3, e3, y8, y9, y10, rfl⟩ := key3
      have key4 := forS_foldM (G := G0) (F := T (n+5)) (tg := .n 8) (b := [S.ife (E.call 72 [false, false] [E.v 8, (E.v 1).idx (E.v 5)]).not
                            [S.put 3 (E.v 8) (E.mth Mth.get2 (E.v 3) [E.v 8, E.c PyData.none])] []])
        (xs := lkinTabs m t (o.take k)) (e := tbD m) (step := fun (nums : Asc) (one : Nat) => if lhangs m one p then some nums else (agetO one nums).bind fun v => if nums.length ≤ 1000 then some (aput one v nums) else none)
        (fun i nums τ => ∃ x8, τ = [.fz (tbD m t), .fz (od o), .fz (N m), .od true (encA m nums), .ol (s1.2.map ndD), .fz (N k), .fz (.list (((lkinTabs m t (o.take k)).filter fun one => lhangs m one p).map (tbD m))), .fz (.list ((isort le3 here).map (triD m))), x8, y9, y10])
        s1.1 nums [.fz (tbD m t), .fz (od o), .fz (N m), .od true (encA m s1.1), .ol (s1.2.map ndD), .fz (N k), .fz (.list (((lkinTabs m t (o.take k)).filter fun one => lhangs m one p).map (tbD m))), .fz (.list ((isort le3 here).map (triD m))), y8, y9, y10] (fun i one hi nums nums' τ hR hst => ?_) ⟨_, rfl⟩ hkeep
      · obtain ⟨τ4, e4, z8, rfl⟩ := key4
        refine ⟨_, ?_, .fz (N k), .fz (.list (((lkinTabs m t (o.take k)).filter fun one => lhangs m one p).map (tbD m))), .fz (.list ((isort le3 here).map (triD m))), z8, y9, y10, rfl⟩
        simp -implicitDefEqProofs [Df.run, entry, entA, callV, cmpT, chnT, Cop.isIn, k_v, clause, bindTg, wipeT, i0, i1, i2, i3, i4, i5, i6, i7, i8, i9, i15, i30, s_law_kin _ m t k o h3 ho hp]
        rw [genGo_filter (g := tbD m) (p := fun one => lhangs m one p)]
        · simp -implicitDefEqProofs [Df.run, entry, entA, callV, cmpT, chnT, Cop.isIn, k_v, clause, bindTg, wipeT, i0, i1, i2, i3, i4, i5, i6, i7, i8, i9, i15, i30, ck_map (f := tbD m) (xs := (lkinTabs m t (o.take k)).filter fun one => lhangs m one p) (by omega)]
          rw [genGo_mapM (g := fun one => (agetO (lheldN m one p 0) s.1).bind fun l => (agetO (lheldN m one p 1) s.1).bind fun h => some (l, h, one)) (e' := triD m) (bs := here) _ hh]
          · simp -implicitDefEqProofs [ck_map (f := triD m) (xs := here) (by omega), sorted_tri (m := m) (xs := here) (by omega)]
            rw [e3]
            simp -implicitDefEqProofs [s_law_kin _ m t k o h3 ho hp]
            rw [e4]
            simp
          · intro one hone x hx
            obtain ⟨lo, hlo, hx⟩ := Option.bind_eq_some_iff.mp hx
            obtain ⟨hi', hhi, hx⟩ := Option.bind_eq_some_iff.mp hx
            cases hx
            simp -implicitDefEqProofs [Df.run, entry, entA, callV, cmpT, chnT, Cop.isIn, k_v, clause, bindTg, wipeT, i0, i1, i2, i3, i4, i5, i6, i7, i8, i9, i15, i30, n_idxMT, hpo, s_law_held _ m one p _ h3 hpm, idx_dict, hlo, hhi, triD]
        · intro one hone
          simp -implicitDefEqProofs [Df.run, entry, entA, callV, cmpT, chnT, Cop.isIn, k_v, clause, bindTg, wipeT, i0, i1, i2, i3, i4, i5, i6, i7, i8, i9, i15, i30, n_idxMT, hpo, s_law_hangs _ m one p h3 hpm]
          cases lhangs m one p <;> simp
      · obtain ⟨z8, rfl⟩ := hR
        refine ⟨_, ?_, .fz (tbD m one), rfl⟩
        cases hl : lhangs m one p with
        | true =>
          rw [hl, if_pos rfl] at hst
          cases hst
          simp -implicitDefEqProofs [Df.run, entry, entA, callV, cmpT, chnT, Cop.isIn, k_v, clause, bindTg, wipeT, i0, i1, i2, i3, i4, i5, i6, i7, i8, i9, i15, i30, n_idxMT, hpo, s_law_hangs _ m one p h3 hpm, hl]
        | false =>
          rw [hl, if_neg (by simp)] at hst
          obtain ⟨v, hv, hst⟩ := Option.bind_eq_some_iff.mp hst
          split at hst
          case isFalse => cases hst
          rename_i hnl
          cases hst
          have l1 : (encA m nums).length < lim := lt_lim (by rw [len_encA]; omega)
          simp -implicitDefEqProofs [Df.run, entry, entA, callV, cmpT, chnT, Cop.isIn, k_v, clause, bindTg, wipeT, i0, i1, i2, i3, i4, i5, i6, i7, i8, i9, i15, i30, n_idxMT, hpo, s_law_hangs _ m one p h3 hpm, hl, get2_dict, hv, l1, kput_tb]
    · obtain ⟨y8, y9, y10, rfl⟩ := hR
      split at hst
      case isFalse => cases hst
      rename_i hl
      cases hst
      have l1 : (encA m s.1).length < lim := lt_lim (by rw [len_encA]; omega)
      have l2 : (s.2.map ndD).length < lim := lt_lim (by simp; omega)
      have e1 : kput (tbD m x.2.2) (N s.2.length) (encA m s.1) = encA m (aput x.2.2 s.2.length s.1) := kput_tb s.1
      refine ⟨_, ?_, .fz (tbD m x.2.2), .fz (.int x.1), .fz (.int x.2.1), rfl⟩
      simp -implicitDefEqProofs [Df.run, entry, entA, callV, cmpT, chnT, Cop.isIn, k_v, clause, bindTg, wipeT, i0, i1, i2, i3, i4, i5, i6, i7, i8, i9, i15, i30, triD, l1]
      rw [e1]
      simp -implicitDefEqProofs at l2
      simp -implicitDefEqProofs [l2, ndD, n_idxMT, hpo]
end K11
end
section
set_option Elab.async false
set_option linter.all false
set_option maxRecDepth 100000
namespace K11
open PySem Fw Sy
theorem s_is_betweenI (n : Nat) (i a b : Int) : T (n+2) 2 [.int i, .int a, .int b] = some (.bool (decide (a ≤ i) && decide (i ≤ b))) := by
  rw [un_is_between]; simp -implicitDefEqProofs [f_is_between, Df.run, entry, entA, callV, chnT, Cop.isIn, k_v, s_is_int, le_int]
  by_cases h : a ≤ i <;> simp [h]
/-- from the top to a bit -/
def reachO (ns : List Node) (row : Nat) : Nat → Int → Option Nat
  | 0, _ => none
  | f + 1, at_ => if 0 ≤ at_ then (match ns[at_.toNat]? with
    | some (p, l, h) => reachO ns row f (if row / 2 ^ p % 2 = 1 then h else l)
    | none => none) else if at_ = -1 then some 0 else if at_ = -2 then some 1 else none
theorem reach_bit {ns : List Node} {row r : Nat} : ∀ {f : Nat} {a : Int}, reachO ns row f a = some r → r < 2
  | 0, _, h => by cases h
  | f + 1, a, h => by
    unfold reachO at h
    split at h
    · split at h
      · exact reach_bit h
      · cases h
    · split at h
      · cases h; decide
      · split at h
        · cases h; decide
        · cases h
theorem s_reach_loop (n row r : Nat) (o : List Nat) (d : List Node × Int) : ∀ (f : Nat) (a : Int), reachO d.1 row f a = some r → ∀ (F : Nat) (x4 x5 x6 : Slot), f ≤ F →
    ∃ a' y4 y5 y6, whlS G0 (T n) F (E.cmp Cop.ge (E.v 3) (E.c (N 0))) [.asg [4, 5, 6] ((E.v 2).idx (E.v 3)), .set 3 false (E.ife (E.cmp Cop.eq (E.bin Bop.band (E.bin Bop.shr (E.v 1) (E.v 4)) (E.c (N 1))) (E.c (N 1))) (E.v 6) (E.v 5))]
      [.fz (diaD o d), .fz (N row), .fz (.tuple (d.1.map ndD)), .fz (.int a), x4, x5, x6] = some (.nx [.fz (diaD o d), .fz (N row), .fz (.tuple (d.1.map ndD)), .fz (.int a'), y4, y5, y6]) ∧ -1 - a' = (r : Int)
  | 0, _, h, _, _, _, _, _ => by cases h
  | f + 1, a, h, 0, _, _, _, hF => by omega
  | f + 1, a, h, F + 1, x4, x5, x6, hF => by
    unfold reachO at h
    have un : whlS G0 (T n) (F + 1) (E.cmp Cop.ge (E.v 3) (E.c (N 0))) [.asg [4, 5, 6] ((E.v 2).idx (E.v 3)), .set 3 false (E.ife (E.cmp Cop.eq (E.bin Bop.band (E.bin Bop.shr (E.v 1) (E.v 4)) (E.c (N 1))) (E.c (N 1))) (E.v 6) (E.v 5))]
      [.fz (diaD o d), .fz (N row), .fz (.tuple (d.1.map ndD)), .fz (.int a), x4, x5, x6] = ((den G0 (T n) (E.cmp Cop.ge (E.v 3) (E.c (N 0)))).tst [.fz (diaD o d), .fz (N row), .fz (.tuple (d.1.map ndD)), .fz (.int a), x4, x5, x6]).bind fun b => if b then (match exL G0 (T n) [.asg [4, 5, 6] ((E.v 2).idx (E.v 3)), .set 3 false (E.ife (E.cmp Cop.eq (E.bin Bop.band (E.bin Bop.shr (E.v 1) (E.v 4)) (E.c (N 1))) (E.c (N 1))) (E.v 6) (E.v 5))] [.fz (diaD o d), .fz (N row), .fz (.tuple (d.1.map ndD)), .fz (.int a), x4, x5, x6] with
        | some (.nx τ') => whlS G0 (T n) F (E.cmp Cop.ge (E.v 3) (E.c (N 0))) [.asg [4, 5, 6] ((E.v 2).idx (E.v 3)), .set 3 false (E.ife (E.cmp Cop.eq (E.bin Bop.band (E.bin Bop.shr (E.v 1) (E.v 4)) (E.c (N 1))) (E.c (N 1))) (E.v 6) (E.v 5))] τ'
        | some (.ct τ') => whlS G0 (T n) F (E.cmp Cop.ge (E.v 3) (E.c (N 0))) [.asg [4, 5, 6] ((E.v 2).idx (E.v 3)), .set 3 false (E.ife (E.cmp Cop.eq (E.bin Bop.band (E.bin Bop.shr (E.v 1) (E.v 4)) (E.c (N 1))) (E.c (N 1))) (E.v 6) (E.v 5))] τ'
        | some (.bk τ') => some (.nx τ')
        | o => o) else some (.nx [.fz (diaD o d), .fz (N row), .fz (.tuple (d.1.map ndD)), .fz (.int a), x4, x5, x6]) := rfl
    rw [un]
    by_cases ha : 0 ≤ a
    · rw [if_pos ha] at h
      split at h
      case h_2 => cases h
      rename_i p l hh hg
      obtain ⟨a', y4, y5, y6, e1, e2⟩ := s_reach_loop n row r o d f _ h F (.fz (N p)) (.fz (.int l)) (.fz (.int hh)) (by omega)
      refine ⟨a', y4, y5, y6, ?_, e2⟩
      have hi : idxD (.tuple (d.1.map ndD)) (.int a) = some (ndD (p, l, hh)) := by rw [int_toN ha, n_idxMT, hg]; rfl
      simp -implicitDefEqProofs [Df.run, entry, entA, callV, cmpT, chnT, Cop.isIn, k_v, clause, bindTg, wipeT, i0, i1, i2, i3, i4, i5, i6, i7, i8, i9, i15, i30, ge_iN, ha, hi, ndD]
      by_cases hb : row / 2 ^ p % 2 = 1
      · rw [if_pos hb] at e1 ⊢
        simp -implicitDefEqProofs
        exact e1
      · rw [if_neg hb] at e1 ⊢
        simp -implicitDefEqProofs
        exact e1
    · rw [if_neg ha] at h
      refine ⟨a, x4, x5, x6, ?_, ?_⟩
      · simp -implicitDefEqProofs [Df.run, entry, entA, callV, cmpT, chnT, Cop.isIn, k_v, clause, bindTg, wipeT, i0, i1, i2, i3, i4, i5, i6, i7, i8, i9, i15, i30, ge_iN, ha]
      · split at h
        · cases h; omega
        · split at h
          · cases h; omega
          · cases h
theorem s_bit_reached (n row r : Nat) (o : List Nat) (d : List Node × Int) (h : reachO d.1 row 100 d.2 = some r) : T (n+1) 33 [diaD o d, N row] = some (N r) := by
  obtain ⟨a', y4, y5, y6, e1, e2⟩ := s_reach_loop n row r o d 100 d.2 h 1000000 .un .un .un (by decide)
  rw [un_bit_reached]
  simp -implicitDefEqProofs [f_bit_reached, Df.run, entry, entA, i0, i1, i2, diaD]
  simp only [diaD] at e1
  rw [e1]
  simp -implicitDefEqProofs [sub_int]
  unfold N
  rw [← e2]
/-! ### the table of a diagram -/
def tabO (m : Nat) (d : List Node × Int) : Option Nat := (List.range (2 ^ m)).foldlM (fun acc row => (reachO d.1 row 100 d.2).bind fun r => some (acc ||| r * 2 ^ row)) 0
theorem s_diagram_table (n m t : Nat) (o : List Nat) (d : List Node × Int) (h3 : m ≤ 3) (ho : o.length = m) (h : tabO m d = some t) : T (n+2) 34 [diaD o d] = some (tbD m t) := by
  have e8 := p2_le h3
  have key := forS_foldM (G := G0) (F := T (n+1)) (tg := .n 3) (b := [.set 2 false (E.bin Bop.bor (E.v 2) (E.bin Bop.shl (E.call 33 [false, false] [E.v 0, E.v 3]) (E.v 3)))])
    (xs := List.range (2 ^ m)) (e := N) (step := fun (acc row : Nat) => (reachO d.1 row 100 d.2).bind fun r => some (acc ||| r * 2 ^ row))
    (fun i acc τ => ∃ x3, τ = [.fz (diaD o d), .fz (N m), .fz (N acc), x3]) 0 t [.fz (diaD o d), .fz (N m), .fz (N 0), .un] (fun i row hi acc acc' τ hR hst => ?_) ⟨_, rfl⟩ h
  · obtain ⟨τ', e1, x3, rfl⟩ := key
    rw [un_diagram_table]
    simp -implicitDefEqProofs [f_diagram_table, Df.run, entry, entA, i0, i1, i2, diaD, ho, n_shl1 (b := m) (by omega), n_range (n := 2 ^ m) (by omega), n_rng]
    simp only [diaD] at e1
    rw [e1]
    simp -implicitDefEqProofs
  · obtain ⟨x3, rfl⟩ := hR
    obtain ⟨r, hr, hst⟩ := Option.bind_eq_some_iff.mp hst
    cases hst
    have hr2 := reach_bit hr
    have hrow : row < 2 ^ m := List.mem_range.mp (List.mem_of_getElem? hi)
    refine ⟨_, ?_, .fz (N row), rfl⟩
    simp -implicitDefEqProofs [Df.run, entry, entA, callV, cmpT, chnT, Cop.isIn, k_v, clause, bindTg, wipeT, i0, i1, i2, i3, i4, i5, i6, i7, i8, i9, i15, i30, s_bit_reached _ row r o d hr, n_shl (a := r) (b := row) (by omega) (by omega), show isDict (diaD o d) = false from rfl]
/-! ### orders -/
theorem dedup_nodup {α : Type} [BEq α] [LawfulBEq α] {l : List α} (h : l.Nodup) : dedupA l = l := by
  have gen : ∀ (l acc : List α), (acc ++ l).Nodup → l.foldl (fun acc d => if acc.contains d then acc else acc ++ [d]) acc = acc ++ l := by
    intro l
    induction l with
    | nil => intro acc _; simp
    | cons d r ih =>
      intro acc h
      have hd : acc.contains d = false := by
        have := (List.nodup_append.mp h).2.2
        simp only [List.contains_eq_mem, decide_eq_false_iff_not]
        intro hm
        exact this d hm d (by simp) rfl
      rw [List.foldl_cons, hd, if_neg (by simp), ih (acc ++ [d]) (by simpa using h)]
      simp
  have := gen l [] (by simpa using h)
  simpa [dedupA] using this
theorem intsOf_N (l : List Nat) : intsOf (l.map N) = some (l.map fun a : Nat => (a : Int)) := intsOf_map (fun a : Nat => (a : Int)) l
theorem lenset_N {l : List Nat} (h : l.Nodup) (hl : l.length < 4000) : bltD .lenset [.tuple (l.map N)] = some (N l.length) := by
  show (setI (l.map N)).map (fun ns => PyData.int ((dedupA ns).length : Nat)) = _
  unfold setI
  rw [if_pos (by simpa using hl), intsOf_N, Option.map_some]
  have : (l.map fun a : Nat => (a : Int)).Nodup := List.pairwise_map.mpr (h.imp fun hab e => hab (by omega))
  rw [dedup_nodup this, List.length_map]; rfl
theorem s_is_order (n m : Nat) (o : List Nat) (h1 : 1 ≤ m) (h3 : m ≤ 3) (ho : o.length = m) (hp : ∀ p ∈ o, p < m) (hn : o.Nodup) : T (n+3) 10 [od o, N m] = some (.bool true) := by
  rw [un_is_order]; simp -implicitDefEqProofs [f_is_order, Df.run, entry, entA, callV, cmpT, chnT, Cop.isIn, k_v, clause, bindTg, wipeT, i0, i1, i2, i3, i4, i5, i6, i7, i8, i9, i15, i30, s_is_row, ho, n_sub h1]
  rw [allGo_of (p := fun _ => true)]
  · simp -implicitDefEqProofs [lenset_N hn (by omega), ho]
  · intro p hpo
    have := hp p hpo
    simp -implicitDefEqProofs [Df.run, entry, entA, callV, cmpT, chnT, Cop.isIn, k_v, clause, bindTg, wipeT, i0, i1, i2, i3, i4, i5, i6, i7, i8, i9, i15, i30, n_sub h1, s_is_between, show p ≤ m - 1 by omega]
theorem s_order_fits (n m : Nat) (o : List Nat) (h1 : 1 ≤ m) (h3 : m ≤ 3) (ho : o.length = m) (hp : ∀ p ∈ o, p < m) (hn : o.Nodup) : T (n+4) 30 [od o] = some (.bool true) := by
  rw [un_order_fits]; simp -implicitDefEqProofs [f_order_fits, Df.run, entry, entA, callV, cmpT, chnT, Cop.isIn, k_v, clause, bindTg, wipeT, i0, i1, i2, i3, i4, i5, i6, i7, i8, i9, i15, i30, ho, h1, h3, s_is_order _ m o h1 h3 ho hp hn]
/-! ### what fits -/
def behO (o : List Nat) (ns : List Node) (p : Nat) (l : Int) : Option Bool := if l < 0 then some true else ns[l.toNat]?.map fun x => (o.drop (o.idxOf p + 1)).contains x.1
def nodeO (o : List Nat) (ns : List Node) (k : Nat) : Option Bool := ns[k]?.bind fun x =>
  if ¬ x.1 < o.length then some false else if ¬ (-2 ≤ x.2.1 ∧ x.2.1 ≤ (k : Int) - 1) then some false else if ¬ (-2 ≤ x.2.2 ∧ x.2.2 ≤ (k : Int) - 1) then some false else if x.2.1 = x.2.2 then some false
  else if x.1 ∈ o then (behO o ns x.1 x.2.1).bind fun a => if a then behO o ns x.1 x.2.2 else some false else none
theorem beh_cases {o : List Nat} {ns : List Node} {p : Nat} {l : Int} {b : Bool} (h : behO o ns p l = some b) : (l < 0 ∧ b = true) ∨ (¬ l < 0 ∧ ∃ y : Node, idxD (.tuple (ns.map ndD)) (.int l) = some (ndD y) ∧ (o.drop (o.idxOf p + 1)).contains y.1 = b) := by
  unfold behO at h
  by_cases hl : l < 0
  · rw [if_pos hl] at h
    cases h
    exact .inl ⟨hl, rfl⟩
  · rw [if_neg hl] at h
    obtain ⟨x, hx, rfl⟩ := Option.map_eq_some_iff.mp h
    exact .inr ⟨hl, x, by rw [int_toN (by omega), n_idxMT, hx]; rfl, rfl⟩
theorem s_node_fits (n k : Nat) (o : List Nat) (ns : List Node) (b : Bool) (ho1 : 1 ≤ o.length) (h : nodeO o ns k = some b) : T (n+3) 35 [od o, .tuple (ns.map ndD), N k] = some (.bool b) := by
  obtain ⟨x, hx, h⟩ := Option.bind_eq_some_iff.mp h
  have e2 : ∀ i : Int, T (n+2) 2 [.int i, .int (-2), .int ((k : Int) - 1)] = some (.bool (decide (-2 ≤ i) && decide (i ≤ (k : Int) - 1))) := fun i => s_is_betweenI n i _ _
  have e3 : T (n+2) 2 [N x.1, N 0, N (o.length - 1)] = some (.bool (decide (x.1 < o.length))) := by
    rw [s_is_between]
    congr 2
    simp
    omega
  rw [un_node_fits]; simp -implicitDefEqProofs [f_node_fits, Df.run, entry, entA, callV, cmpT, chnT, Cop.isIn, k_v, clause, bindTg, wipeT, i0, i1, i2, i3, i4, i5, i6, i7, i8, i9, i15, i30, n_idxMT, hx, ndD, s_is_row, n_sub ho1, e3]
  by_cases c1 : x.1 < o.length
  · rw [if_neg (by simpa using c1)] at h
    by_cases c2 : -2 ≤ x.2.1 ∧ x.2.1 ≤ (k : Int) - 1
    · rw [if_neg (by simpa using c2)] at h
      by_cases c3 : -2 ≤ x.2.2 ∧ x.2.2 ≤ (k : Int) - 1
      · rw [if_neg (by simpa using c3)] at h
        by_cases c4 : x.2.1 = x.2.2
        · rw [if_pos c4] at h
          cases h
          rw [← c4] at c3
          simp -implicitDefEqProofs [Df.run, entry, entA, callV, cmpT, chnT, Cop.isIn, k_v, clause, bindTg, wipeT, i0, i1, i2, i3, i4, i5, i6, i7, i8, i9, i15, i30, c1, n_subI, e2, n_idxMT, hx, ndD, ← c4, c2, c3, Sy.eq_int]
        · rw [if_neg c4] at h
          by_cases c5 : x.1 ∈ o
          · rw [if_pos c5] at h
            obtain ⟨a, ha, h⟩ := Option.bind_eq_some_iff.mp h
            have hcut : cutD (od o) (some ((o.idxOf x.1 : Nat) + 1 : Int)) none = some (od (o.drop (o.idxOf x.1 + 1))) := by
              have := cut_lo (xs := o.map N) (k := o.idxOf x.1 + 1)
              rw [← List.map_drop] at this
              exact this
            rcases beh_cases ha with ⟨q1, rfl⟩ | ⟨q1, y, q2, q3⟩
            · rw [if_pos rfl] at h
              rcases beh_cases h with ⟨r1, rfl⟩ | ⟨r1, z, r2, r3⟩
              · simp -implicitDefEqProofs [Df.run, entry, entA, callV, cmpT, chnT, Cop.isIn, k_v, clause, bindTg, wipeT, i0, i1, i2, i3, i4, i5, i6, i7, i8, i9, i15, i30, c1, n_subI, e2, n_idxMT, hx, ndD, c4, c2, c3, Sy.eq_int, index_tup c5, hcut, lt_iN, q1, r1]
              · simp -implicitDefEqProofs [Df.run, entry, entA, callV, cmpT, chnT, Cop.isIn, k_v, clause, bindTg, wipeT, i0, i1, i2, i3, i4, i5, i6, i7, i8, i9, i15, i30, c1, n_subI, e2, n_idxMT, hx, ndD, c4, c2, c3, Sy.eq_int, index_tup c5, hcut, lt_iN, q1, r1, r2, in_tup_N, r3, -List.contains_eq_mem, -Int.not_lt]
            · cases a with
              | true =>
                rw [if_pos rfl] at h
                rcases beh_cases h with ⟨r1, rfl⟩ | ⟨r1, z, r2, r3⟩
                · simp -implicitDefEqProofs [Df.run, entry, entA, callV, cmpT, chnT, Cop.isIn, k_v, clause, bindTg, wipeT, i0, i1, i2, i3, i4, i5, i6, i7, i8, i9, i15, i30, c1, n_subI, e2, n_idxMT, hx, ndD, c4, c2, c3, Sy.eq_int, index_tup c5, hcut, lt_iN, q1, q2, r1, in_tup_N, q3, -List.contains_eq_mem, -Int.not_lt]
                · simp -implicitDefEqProofs [Df.run, entry, entA, callV, cmpT, chnT, Cop.isIn, k_v, clause, bindTg, wipeT, i0, i1, i2, i3, i4, i5, i6, i7, i8, i9, i15, i30, c1, n_subI, e2, n_idxMT, hx, ndD, c4, c2, c3, Sy.eq_int, index_tup c5, hcut, lt_iN, q1, q2, r1, r2, in_tup_N, q3, r3, -List.contains_eq_mem, -Int.not_lt]
              | false =>
                rw [if_neg (by simp)] at h
                cases h
                simp -implicitDefEqProofs [Df.run, entry, entA, callV, cmpT, chnT, Cop.isIn, k_v, clause, bindTg, wipeT, i0, i1, i2, i3, i4, i5, i6, i7, i8, i9, i15, i30, c1, n_subI, e2, n_idxMT, hx, ndD, c4, c2, c3, Sy.eq_int, index_tup c5, hcut, lt_iN, q1, q2, in_tup_N, q3, -List.contains_eq_mem, -Int.not_lt]
          · rw [if_neg c5] at h; cases h
      · rw [if_pos (by simpa using c3)] at h
        cases h
        have c3' : (decide (-2 ≤ x.2.2) && decide (x.2.2 ≤ (k : Int) - 1)) = false := by simpa using c3
        simp -implicitDefEqProofs [Df.run, entry, entA, callV, cmpT, chnT, Cop.isIn, k_v, clause, bindTg, wipeT, i0, i1, i2, i3, i4, i5, i6, i7, i8, i9, i15, i30, c1, n_subI, e2, n_idxMT, hx, ndD, c2, c3', -Bool.and_eq_false_imp]
    · rw [if_pos (by simpa using c2)] at h
      cases h
      have c2' : (decide (-2 ≤ x.2.1) && decide (x.2.1 ≤ (k : Int) - 1)) = false := by simpa using c2
      simp -implicitDefEqProofs [Df.run, entry, entA, callV, cmpT, chnT, Cop.isIn, k_v, clause, bindTg, wipeT, i0, i1, i2, i3, i4, i5, i6, i7, i8, i9, i15, i30, c1, n_subI, e2, n_idxMT, hx, ndD, c2', -Bool.and_eq_false_imp]
  · rw [if_pos (by simpa using c1)] at h
    cases h
    simp [c1]
end K11
end
section
set_option Elab.async false
set_option linter.all false
set_option maxRecDepth 100000
namespace K11
open PySem Fw Sy
def fitsO (m : Nat) (o : List Nat) (d : List Node × Int) : Option Bool :=
  if (List.range d.1.length).all (fun k => (nodeO o d.1 k).isSome) && decide (d.1.length ≤ 1000) then (if (List.range d.1.length).all (fun k => nodeO o d.1 k == some true) then
    (if -2 ≤ d.2 ∧ d.2 ≤ (d.1.length : Int) - 1 then (tabO m d).bind fun t => if t < 2 ^ 2 ^ m then (madeO m t o).map fun d' => decide (d' = d) else none else some false) else some false) else none
theorem isID_dia {o : List Nat} {d : List Node × Int} : isID (diaD o d) = true := by
  show (isIDs (o.map N) && (isIDs (d.1.map ndD) && true)) = true
  rw [isIDs_map (fun _ _ => rfl), isIDs_map (fun _ _ => rfl)]; rfl
theorem depth_dia {o : List Nat} {d : List Node × Int} : (diaD o d).depth ≤ 64 := by
  have h1 : PyData.depthAll (o.map N) ≤ 0 := depthAll_map fun a _ => by simp
  have h2 : PyData.depthAll (d.1.map ndD) ≤ 1 := depthAll_map fun a _ => by simp [ndD, PyData.depth, PyData.depthAll]
  simp only [diaD, PyData.depth, PyData.depthAll]
  omega
theorem ndD_inj (a b : Node) (h : ndD a = ndD b) : a = b := by
  obtain ⟨a1, a2, a3⟩ := a
  obtain ⟨b1, b2, b3⟩ := b
  simp only [ndD, PyData.tuple.injEq, List.cons.injEq, N_inj, PyData.int.injEq, and_true] at h
  simp [h]
theorem diaD_inj {o o' : List Nat} {d d' : List Node × Int} (h : diaD o d = diaD o' d') : o = o' ∧ d = d' := by
  obtain ⟨ns, t⟩ := d
  obtain ⟨ns', t'⟩ := d'
  simp only [diaD, PyData.tuple.injEq, List.cons.injEq, PyData.int.injEq, and_true] at h
  obtain ⟨h1, h2, h3⟩ := h
  exact ⟨map_inj N_inj' h1, by rw [map_inj ndD_inj h2, h3]⟩
theorem s_diagram_fits (n m : Nat) (o : List Nat) (d : List Node × Int) (b : Bool) (h1 : 1 ≤ m) (h3 : m ≤ 3) (ho : o.length = m) (hp : ∀ p ∈ o, p < m) (hn : o.Nodup) (h : fitsO m o d = some b) : T (n+8) 36 [diaD o d] = some (.bool b) := by
  unfold fitsO at h
  split at h
  case isFalse => cases h
  rename_i hsome
  simp only [Bool.and_eq_true, List.all_eq_true, List.mem_range, decide_eq_true_eq] at hsome
  obtain ⟨hsome, hlen⟩ := hsome
  have key := forS_ret (G := G0) (F := T (n+7)) (tg := .n 1) (b := [S.ife (E.call 35 [false, false, false] [E.v 2, E.v 3, E.v 1]).not [S.ret (E.c (PyData.bool false))] []])
    (xs := List.range d.1.length) (e := N) (fun τ => ∃ x1, τ = [.fz (diaD o d), x1, .fz (od o), .fz (.tuple (d.1.map ndD)), .fz (.int d.2)]) (fun k => if nodeO o d.1 k = some false then some (PyData.bool false) else none)
    [.fz (diaD o d), .un, .fz (od o), .fz (.tuple (d.1.map ndD)), .fz (.int d.2)] (fun k hk τ hR => ?_) ⟨_, rfl⟩
  · rw [un_diagram_fits]
    simp -implicitDefEqProofs [f_diagram_fits, Df.run, entry, entA, callV, i0, i1, i2, i3, diaD, s_is_row, s_order_fits _ m o h1 h3 ho hp hn, bindTg, n_range (n := d.1.length) (by omega), n_rng]
    simp only [diaD] at key
    by_cases hall : ((List.range d.1.length).all fun k => nodeO o d.1 k == some true) = true
    · rw [if_pos hall] at h
      have hf : (List.range d.1.length).findSome? (fun k => if nodeO o d.1 k = some false then some (PyData.bool false) else none) = none := by
        rw [List.findSome?_eq_none_iff]
        intro k hk
        have := List.all_eq_true.mp hall k hk
        rw [beq_iff_eq] at this
        rw [this, if_neg (by simp)]
      rw [hf] at key
      obtain ⟨τ', e1, x1, rfl⟩ := key
      rw [e1]
      have eb : T (n+7) 2 [.int d.2, .int (-2), .int ((d.1.length : Int) - 1)] = some (.bool (decide (-2 ≤ d.2) && decide (d.2 ≤ (d.1.length : Int) - 1))) := s_is_betweenI (n+5) _ _ _
      by_cases hc : -2 ≤ d.2 ∧ d.2 ≤ (d.1.length : Int) - 1
      · rw [if_pos hc] at h
        obtain ⟨t, ht, h⟩ := Option.bind_eq_some_iff.mp h
        split at h
        case isFalse => cases h
        rename_i htl
        obtain ⟨d', hd', rfl⟩ := Option.map_eq_some_iff.mp h
        have e2 := s_diagram_table (n+5) m t o d h3 ho ht
        have e3 := s_diagram_made (n+1) m t o d' h1 h3 htl ho hp hd'
        have e4 : cmpD .eq (diaD o d') (diaD o d) = some (decide (d' = d)) := by
          rw [eq_id isID_dia isID_dia depth_dia depth_dia]
          congr 1
          refine decide_eq_decide.mpr ⟨fun e => (diaD_inj e).2, fun e => by rw [e]⟩
        simp only [diaD] at e2 e3 e4
        simp -implicitDefEqProofs [Df.run, entry, entA, callV, cmpT, chnT, Cop.isIn, k_v, clause, bindTg, wipeT, i0, i1, i2, i3, i4, i5, i6, i7, i8, i9, i15, i30, n_subI, eb, hc.1, hc.2, e2, e3, e4]
      · rw [if_neg hc] at h
        cases h
        have hc' : (decide (-2 ≤ d.2) && decide (d.2 ≤ (d.1.length : Int) - 1)) = false := by simpa using hc
        simp -implicitDefEqProofs [Df.run, entry, entA, callV, cmpT, chnT, Cop.isIn, k_v, clause, bindTg, wipeT, i0, i1, i2, i3, i4, i5, i6, i7, i8, i9, i15, i30, n_subI, eb, hc', -Bool.and_eq_false_imp]
    · rw [if_neg hall] at h
      cases h
      have hf : (List.range d.1.length).findSome? (fun k => if nodeO o d.1 k = some false then some (PyData.bool false) else none) = some (PyData.bool false) := by
        cases hfs : (List.range d.1.length).findSome? (fun k => if nodeO o d.1 k = some false then some (PyData.bool false) else none) with
        | none =>
          exfalso
          apply hall
          rw [List.findSome?_eq_none_iff] at hfs
          refine List.all_eq_true.mpr fun k hk => ?_
          have h1 := hfs k hk
          have h2 := hsome k (List.mem_range.mp hk)
          cases hk2 : nodeO o d.1 k with
          | none => rw [hk2] at h2; cases h2
          | some b =>
            cases b with
            | true => rfl
            | false => rw [hk2, if_pos rfl] at h1; cases h1
        | some v =>
          obtain ⟨k, _, hk⟩ := List.exists_of_findSome?_eq_some hfs
          split at hk
          · exact hk.symm
          · cases hk
      rw [hf] at key
      dsimp only at key
      rw [key]
      simp
  · obtain ⟨x1, rfl⟩ := hR
    have hk' := hsome k (List.mem_range.mp hk)
    obtain ⟨b', hb'⟩ := Option.isSome_iff_exists.mp hk'
    have e1 := s_node_fits (n+4) k o d.1 b' (by omega) hb'
    cases b' with
    | true =>
      rw [hb', if_neg (by simp)]
      refine ⟨_, ?_, .fz (N k), rfl⟩
      simp -implicitDefEqProofs [Df.run, entry, entA, callV, cmpT, chnT, Cop.isIn, k_v, clause, bindTg, wipeT, i0, i1, i2, i3, i4, i5, i6, i7, i8, i9, i15, i30, e1]
    | false =>
      rw [hb', if_pos rfl]
      simp -implicitDefEqProofs [Df.run, entry, entA, callV, cmpT, chnT, Cop.isIn, k_v, clause, bindTg, wipeT, i0, i1, i2, i3, i4, i5, i6, i7, i8, i9, i15, i30, e1]
theorem s_diagram_by (n m : Nat) (o : List Nat) (d : List Node × Int) (h1 : 1 ≤ m) (h3 : m ≤ 3) (ho : o.length = m) (hp : ∀ p ∈ o, p < m) (hn : o.Nodup) (h : fitsO m o d = some true) : T (n+9) 37 [diaD o d, od o] = some (.bool true) := by
  have e := s_diagram_fits n m o d true h1 h3 ho hp hn h
  have e2 : cmpD .eq (od o) (od o) = some true := by
    have h1 : isID (od o) = true := isIDs_map (fun _ _ => rfl)
    have h2 : (od o).depth ≤ 64 := by
      have h1 : PyData.depthAll (o.map N) ≤ 0 := depthAll_map fun a _ => by simp
      simp only [PyData.depth]; omega
    rw [eq_id h1 h1 h2 h2]; simp
  rw [un_diagram_by]
  simp only [diaD] at e
  simp -implicitDefEqProofs [f_diagram_by, Df.run, entry, entA, callV, cmpT, chnT, Cop.isIn, k_v, clause, bindTg, wipeT, i0, i1, i2, i3, i4, i5, i6, i7, i8, i9, i15, i30, diaD, e, e2]
end K11
end
section
set_option Elab.async false
set_option linter.all false
set_option maxRecDepth 100000
namespace K11
open PySem Fw Sy
theorem s_law_same (n : Nat) : ∀ (k : Nat) (d : D), isOk d = true → dpt d ≤ k → T (n+k+1) 65 [d, d] = some (.bool true)
  | 0, d, h, hk => by
    cases d with
    | int i =>
      rw [un__law_same]
      simp -implicitDefEqProofs [f__law_same, Df.run, entry, entA, callV, cmpT, chnT, Cop.isIn, k_v, clause, bindTg, wipeT, i0, i1, i2, i3, i4, i5, i6, i7, i8, i9, i15, i30, Sy.eq_int, eq_bool]
    | str x =>
      rw [un__law_same]
      simp -implicitDefEqProofs [f__law_same, Df.run, entry, entA, callV, cmpT, chnT, Cop.isIn, k_v, clause, bindTg, wipeT, i0, i1, i2, i3, i4, i5, i6, i7, i8, i9, i15, i30, eq_str, eq_bool]
    | none => rw [un__law_same]; rfl
    | bool b => rw [un__law_same]; cases b <;> rfl
    | tuple xs => exact absurd hk (by simp [dpt])
    | list xs => cases h
    | dict xs => cases h
  | k + 1, d, h, hk => by
    cases d with
    | int i =>
      rw [un__law_same]
      simp -implicitDefEqProofs [f__law_same, Df.run, entry, entA, callV, cmpT, chnT, Cop.isIn, k_v, clause, bindTg, wipeT, i0, i1, i2, i3, i4, i5, i6, i7, i8, i9, i15, i30, Sy.eq_int, eq_bool]
    | str x =>
      rw [un__law_same]
      simp -implicitDefEqProofs [f__law_same, Df.run, entry, entA, callV, cmpT, chnT, Cop.isIn, k_v, clause, bindTg, wipeT, i0, i1, i2, i3, i4, i5, i6, i7, i8, i9, i15, i30, eq_str, eq_bool]
    | none => rw [un__law_same]; rfl
    | bool b => rw [un__law_same]; cases b <;> rfl
    | tuple xs =>
      obtain ⟨hl, hx⟩ := Bool.and_eq_true_iff.mp (show (decide (xs.length ≤ 1000) && isOks xs) = true from h)
      have hl := of_decide_eq_true hl
      have hd : dpts xs ≤ k := by have : 1 + dpts xs ≤ k + 1 := hk; omega
      rw [un__law_same]
      simp -implicitDefEqProofs [f__law_same, Df.run, entry, entA, callV, cmpT, chnT, Cop.isIn, k_v, clause, bindTg, wipeT, i0, i1, i2, i3, i4, i5, i6, i7, i8, i9, i15, i30, n_range (n := xs.length) (by omega)]
      rw [genGo_none]
      · simp -implicitDefEqProofs [ck_lst (ds := []) (by simp), eq_nil]
      · intro j hj
        have hg : xs[j]? = some xs[j] := List.getElem?_eq_getElem hj
        have ih : T (n + (k + 1)) 65 [xs[j], xs[j]] = some (.bool true) := s_law_same n k xs[j] (isOks_get hx hg) (Nat.le_trans (dpts_get hg) hd)
        have hnd : isDict xs[j] = false := by
          have := isOks_get hx hg
          cases hh : xs[j] <;> first | rfl | (rw [hh] at this; cases this)
        simp -implicitDefEqProofs [Df.run, entry, entA, callV, cmpT, chnT, Cop.isIn, k_v, clause, bindTg, wipeT, i0, i1, i2, i3, i4, i5, i6, i7, i8, i9, i15, i30, n_idxT, hg, ih, hnd]
    | list xs => cases h
    | dict xs => cases h
theorem s_law_listed (n : Nat) : ∀ (k : Nat) (d : D), isOk d = true → dpt d ≤ k → T (n+k+1) 64 [d] = some (lstD d)
  | k, d, h, hk => by
    cases d with
    | int i => rw [un__law_listed]; rfl
    | str x => rw [un__law_listed]; rfl
    | none => rw [un__law_listed]; rfl
    | bool b => rw [un__law_listed]; rfl
    | tuple xs =>
      obtain ⟨hl, hx⟩ := Bool.and_eq_true_iff.mp (show (decide (xs.length ≤ 1000) && isOks xs) = true from h)
      have hl := of_decide_eq_true hl
      cases k with
      | zero => exact absurd hk (by simp [dpt])
      | succ k =>
        have hd : dpts xs ≤ k := by have : 1 + dpts xs ≤ k + 1 := hk; omega
        rw [un__law_listed]
        simp -implicitDefEqProofs [f__law_listed, Df.run, entry, entA, callV, cmpT, chnT, Cop.isIn, k_v, clause, bindTg, wipeT, i0, i1, i2, i3, i4, i5, i6, i7, i8, i9, i15, i30]
        have := genGo_map (f := clause [1] (Tg.n 1) [] [] (den G0 (T (n+(k+1))) (E.call 64 [false] [E.v 1]).yld).gen [.fz (.tuple xs), .un]) (e := id) (g := lstD) (xs := xs) (fun x hx' => by
          obtain ⟨j, hj, hjx⟩ := List.mem_iff_getElem.mp hx'
          have hg : xs[j]? = some x := by rw [List.getElem?_eq_getElem hj, hjx]
          have ih : T (n + (k + 1)) 64 [x] = some (lstD x) := s_law_listed n k x (isOks_get hx hg) (Nat.le_trans (dpts_get hg) hd)
          have hnd : isDict x = false := by
            have := isOks_get hx hg
            cases x <;> first | rfl | cases this
          simp -implicitDefEqProofs [Df.run, entry, entA, callV, cmpT, chnT, Cop.isIn, k_v, clause, bindTg, wipeT, i0, i1, i2, i3, i4, i5, i6, i7, i8, i9, i15, i30, ih, hnd])
        rw [List.map_id] at this
        rw [this]
        simp -implicitDefEqProofs [ck_map (f := lstD) (xs := xs) (by omega), lstD, lstDs_map]
    | list xs => cases h
    | dict xs => cases h
end K11
end
section
set_option Elab.async false
set_option linter.all false
set_option maxRecDepth 100000
namespace K11
open PySem Fw Sy
structure Om (m : Nat) (o : List Nat) : Prop where
  h1 : 1 ≤ m
  h3 : m ≤ 3
  ho : o.length = m
  hp : ∀ p ∈ o, p < m
  hn : o.Nodup
theorem ok_tb {m t : Nat} : isOk (tbD m t) = true := rfl
theorem ok_od {o : List Nat} (h : o.length ≤ 1000) : isOk (od o) = true := by
  show (decide ((o.map N).length ≤ 1000) && isOks (o.map N)) = true
  rw [decide_eq_true (by simpa using h), isOks_map (fun _ _ => rfl)]; rfl
theorem ok_dia {o : List Nat} {d : List Node × Int} (h : o.length ≤ 1000) (hd : d.1.length ≤ 1000) : isOk (diaD o d) = true := by
  have h1 := ok_od h
  have h2 : isOk (.tuple (d.1.map ndD)) = true := by
    show (decide ((d.1.map ndD).length ≤ 1000) && isOks (d.1.map ndD)) = true
    rw [decide_eq_true (by simpa using hd), isOks_map (fun _ _ => rfl)]; rfl
  show (decide (3 ≤ 1000) && (isOk (od o) && (isOk (.tuple (d.1.map ndD)) && (isOk (.int d.2) && true)))) = true
  rw [h1, h2]; rfl
theorem sz_od {o : List Nat} : sz (od o) ≤ 2 + o.length := by
  have := szs_map (f := N) (c := 1) (xs := o) fun a _ => by simp [N, sz]
  show 2 + szs (o.map N) ≤ _; omega
theorem dpt_od {o : List Nat} : dpt (od o) ≤ 1 := by
  have := dpts_map (f := N) (c := 0) (xs := o) fun a _ => by simp [N, dpt]
  show 1 + dpts (o.map N) ≤ _; omega
theorem sz_dia {o : List Nat} {d : List Node × Int} : sz (diaD o d) ≤ 7 + o.length + 5 * d.1.length := by
  have h1 := sz_od (o := o)
  have h2 := szs_map (f := ndD) (c := 5) (xs := d.1) fun a _ => by simp [ndD, N, sz, szs]
  show 2 + (sz (od o) + (2 + szs (d.1.map ndD) + (1 + 0))) ≤ _
  omega
theorem dpt_dia {o : List Nat} {d : List Node × Int} : dpt (diaD o d) ≤ 3 := by
  have h1 := dpt_od (o := o)
  have h2 := dpts_map (f := ndD) (c := 1) (xs := d.1) fun a _ => by simp [ndD, N, dpt, dpts]
  show 1 + max (dpt (od o)) (max (1 + dpts (d.1.map ndD)) (max 0 0)) ≤ _
  omega
theorem tup_od {o : List Nat} (h : o.length ≤ 1000) : tupF [od o] = some (od o) := tupF_id (ok_od h) (Nat.le_trans sz_od (by omega)) (Nat.le_trans dpt_od (by decide))
theorem tup_odl {o : List Nat} (h : o.length ≤ 1000) : tupF [lstD (od o)] = some (od o) := tupF_lst (ok_od h) (Nat.le_trans sz_od (by omega)) (Nat.le_trans dpt_od (by decide))
theorem tup_dia {o : List Nat} {d : List Node × Int} (h : o.length ≤ 1000) (hd : d.1.length ≤ 1000) : tupF [diaD o d] = some (diaD o d) := tupF_id (ok_dia h hd) (Nat.le_trans sz_dia (by omega)) (Nat.le_trans dpt_dia (by decide))
theorem tup_dial {o : List Nat} {d : List Node × Int} (h : o.length ≤ 1000) (hd : d.1.length ≤ 1000) : tupF [lstD (diaD o d)] = some (diaD o d) := tupF_lst (ok_dia h hd) (Nat.le_trans sz_dia (by omega)) (Nat.le_trans dpt_dia (by decide))
theorem made_len {m t : Nat} {o : List Nat} {d : List Node × Int} (h : madeO m t o = some d) : d.1.length ≤ 1000 := by
  obtain ⟨s, _, hd⟩ := Option.bind_eq_some_iff.mp h
  split at hd
  case isFalse => cases hd
  rename_i hl
  obtain ⟨top, _, rfl⟩ := Option.map_eq_some_iff.mp hd
  exact hl
theorem fits_len {m : Nat} {o : List Nat} {d : List Node × Int} {b : Bool} (h : fitsO m o d = some b) : d.1.length ≤ 1000 := by
  unfold fitsO at h
  split at h
  case isFalse => cases h
  rename_i hs
  exact of_decide_eq_true (Bool.and_eq_true_iff.mp hs).2
theorem s_diagram (n m t : Nat) (o : List Nat) (d : List Node × Int) (O : Om m o) (ht : t < 2 ^ 2 ^ m) (hd : madeO m t o = some d) (x y : D) (hx : tupF [x] = some (tbD m t)) (hy : tupF [y] = some (od o)) (dx : isDict x = false) (dy : isDict y = false) : T (n+7) 38 [x, y] = some (diaD o d) := by
  rw [un_diagram]; simp -implicitDefEqProofs [f_diagram, Df.run, entry, entA, callV, cmpT, chnT, Cop.isIn, k_v, clause, bindTg, wipeT, i0, i1, i2, i3, i4, i5, i6, i7, i8, i9, i15, i30, un_tupled, hx, hy, dx, dy, s_table_fits _ _ _ O.h1 O.h3 ht, s_is_order _ _ _ O.h1 O.h3 O.ho O.hp O.hn, s_need, s_diagram_made _ _ _ _ _ O.h1 O.h3 ht O.ho O.hp hd]
theorem s_size_made (n m t : Nat) (o : List Nat) (d : List Node × Int) (O : Om m o) (ht : t < 2 ^ 2 ^ m) (hd : madeO m t o = some d) : T (n+7) 42 [tbD m t, od o] = some (N d.1.length) := by
  have e := s_diagram_made n _ _ _ _ O.h1 O.h3 ht O.ho O.hp hd
  simp only [diaD] at e
  rw [un_size_made]; simp -implicitDefEqProofs [f_size_made, Df.run, entry, entA, callV, cmpT, chnT, Cop.isIn, k_v, clause, bindTg, wipeT, i0, i1, i2, i3, i4, i5, i6, i7, i8, i9, i15, i30, e]
theorem s_size (n m t : Nat) (o : List Nat) (d : List Node × Int) (O : Om m o) (ht : t < 2 ^ 2 ^ m) (hd : madeO m t o = some d) : T (n+8) 43 [tbD m t, od o] = some (N d.1.length) := by
  have hl : o.length ≤ 1000 := by rw [O.ho]; have := O.h3; omega
  rw [un_size]; simp -implicitDefEqProofs [f_size, Df.run, entry, entA, callV, cmpT, chnT, Cop.isIn, k_v, clause, bindTg, wipeT, i0, i1, i2, i3, i4, i5, i6, i7, i8, i9, i15, i30, un_tupled, tup_tb, tup_od hl, s_table_fits _ _ _ O.h1 O.h3 ht, s_is_order _ _ _ O.h1 O.h3 O.ho O.hp O.hn, s_need, s_size_made _ _ _ _ _ O ht hd]
theorem s_kin (n m t k : Nat) (o : List Nat) (O : Om m o) (ht : t < 2 ^ 2 ^ m) (hk : k ≤ m) : T (n+6) 46 [tbD m t, od o, N k] = some (.tuple ((heldTabs m t (o.take k)).map (tbD m))) := by
  have hl : o.length ≤ 1000 := by rw [O.ho]; have := O.h3; omega
  rw [un_kin]; simp -implicitDefEqProofs [f_kin, Df.run, entry, entA, callV, cmpT, chnT, Cop.isIn, k_v, clause, bindTg, wipeT, i0, i1, i2, i3, i4, i5, i6, i7, i8, i9, i15, i30, un_tupled, tup_tb, tup_od hl, s_table_fits _ _ _ O.h1 O.h3 ht, s_is_order _ _ _ O.h1 O.h3 O.ho O.hp O.hn, s_need, s_is_between, hk, s_held_tables _ _ _ _ _ O.h1 O.h3 ht O.ho O.hp]
theorem s_is_diagram (n m : Nat) (o : List Nat) (d : List Node × Int) (b : Bool) (O : Om m o) (h : fitsO m o d = some b) (x : D) (hx : tupF [x] = some (diaD o d)) (dx : isDict x = false) : T (n+9) 39 [N m, x] = some (.bool b) := by
  have e := s_diagram_fits n m o d b O.h1 O.h3 O.ho O.hp O.hn h
  have hh := O.h1
  have hh3 := O.h3
  have ho := O.ho
  simp only [diaD] at e hx
  rw [un_is_diagram]; simp -implicitDefEqProofs [f_is_diagram, Df.run, entry, entA, callV, cmpT, chnT, Cop.isIn, k_v, clause, bindTg, wipeT, i0, i1, i2, i3, i4, i5, i6, i7, i8, i9, i15, i30, un_tupled, hx, dx, s_is_between, hh, hh3, s_need, e, ho]
  cases b <;> simp
theorem s_diagram_fits_int (n : Nat) (i : Nat) : T (n+2) 36 [N i] = some (.bool false) := by
  have e : T (n+1) 4 [N i, N 3] = some (.bool false) := by rw [un_is_row]; simp -implicitDefEqProofs [f_is_row, Df.run, entry, entA, callV, cmpT, chnT, Cop.isIn, k_v, clause, bindTg, wipeT, i0, i1, i2, i3, i4, i5, i6, i7, i8, i9, i15, i30]
  rw [un_diagram_fits]; simp -implicitDefEqProofs [f_diagram_fits, Df.run, entry, entA, callV, cmpT, chnT, Cop.isIn, k_v, clause, bindTg, wipeT, i0, i1, i2, i3, i4, i5, i6, i7, i8, i9, i15, i30, e]
theorem s_is_diagram_int (n m i : Nat) (h1 : 1 ≤ m) (h3 : m ≤ 3) : T (n+3) 39 [N m, N i] = some (.bool false) := by
  have e : tupF [N i] = some (N i) := rfl
  rw [un_is_diagram]; simp -implicitDefEqProofs [f_is_diagram, Df.run, entry, entA, callV, cmpT, chnT, Cop.isIn, k_v, clause, bindTg, wipeT, i0, i1, i2, i3, i4, i5, i6, i7, i8, i9, i15, i30, un_tupled, e, s_is_between, h1, h3, s_need, s_diagram_fits_int]
theorem s_bit_by (n m row r : Nat) (o : List Nat) (d : List Node × Int) (O : Om m o) (h : fitsO m o d = some true) (hrow : row < 2 ^ m) (hr : reachO d.1 row 100 d.2 = some r) : T (n+9) 40 [diaD o d, N row] = some (N r) := by
  have hl : o.length ≤ 1000 := by rw [O.ho]; have := O.h3; omega
  have ht := tup_dia hl (fits_len h)
  have e := s_diagram_fits n m o d true O.h1 O.h3 O.ho O.hp O.hn h
  have e2 := s_bit_reached (n+7) row r o d hr
  have hh := O.h1
  have hh3 := O.h3
  have ho := O.ho
  have e1 : 1 ≤ 2 ^ m := Nat.one_le_two_pow
  simp only [diaD] at e e2 ht ⊢
  rw [un_bit_by]; simp -implicitDefEqProofs [f_bit_by, Df.run, entry, entA, callV, cmpT, chnT, Cop.isIn, k_v, clause, bindTg, wipeT, i0, i1, i2, i3, i4, i5, i6, i7, i8, i9, i15, i30, un_tupled, ht, e, s_need, ho, n_shl1 (b := m) (by omega), n_sub e1, s_is_between, show row ≤ 2 ^ m - 1 by omega, e2]
theorem s_table_by (n m t : Nat) (o : List Nat) (d : List Node × Int) (O : Om m o) (h : fitsO m o d = some true) (ht : tabO m d = some t) : T (n+9) 41 [diaD o d, N m] = some (tbD m t) := by
  have hl : o.length ≤ 1000 := by rw [O.ho]; have := O.h3; omega
  have htt := tup_dia hl (fits_len h)
  have e := s_diagram_fits n m o d true O.h1 O.h3 O.ho O.hp O.hn h
  have e2 := s_diagram_table (n+6) m t o d O.h3 O.ho ht
  have ho := O.ho
  simp only [diaD] at e e2 htt ⊢
  rw [un_table_by]; simp -implicitDefEqProofs [f_table_by, Df.run, entry, entA, callV, cmpT, chnT, Cop.isIn, k_v, clause, bindTg, wipeT, i0, i1, i2, i3, i4, i5, i6, i7, i8, i9, i15, i30, un_tupled, htt, e, s_need, ho, s_is_between, e2]
theorem s_need_two (n m t u : Nat) (h1 : 1 ≤ m) (h3 : m ≤ 3) (ht : t < 2 ^ 2 ^ m) (hu : u < 2 ^ 2 ^ m) : T (n+4) 19 [tbD m t, tbD m u] = some .none := by
  rw [un_need_two]; simp -implicitDefEqProofs [f_need_two, Df.run, entry, entA, callV, cmpT, chnT, Cop.isIn, k_v, clause, bindTg, wipeT, i0, i1, i2, i3, i4, i5, i6, i7, i8, i9, i15, i30, s_table_fits _ _ _ h1 h3 ht, s_table_fits _ _ _ h1 h3 hu, s_need]
theorem s_met (n m t u : Nat) (h1 : 1 ≤ m) (h3 : m ≤ 3) (ht : t < 2 ^ 2 ^ m) (hu : u < 2 ^ 2 ^ m) : T (n+5) 20 [tbD m t, tbD m u] = some (tbD m (t &&& u)) := by
  rw [un_met]; simp -implicitDefEqProofs [f_met, Df.run, entry, entA, callV, cmpT, chnT, Cop.isIn, k_v, clause, bindTg, wipeT, i0, i1, i2, i3, i4, i5, i6, i7, i8, i9, i15, i30, un_tupled, tup_tb, s_need_two _ _ _ _ h1 h3 ht hu, n_and]
theorem s_either (n m t u : Nat) (h1 : 1 ≤ m) (h3 : m ≤ 3) (ht : t < 2 ^ 2 ^ m) (hu : u < 2 ^ 2 ^ m) : T (n+5) 21 [tbD m t, tbD m u] = some (tbD m (t ||| u)) := by
  rw [un_either]; simp -implicitDefEqProofs [f_either, Df.run, entry, entA, callV, cmpT, chnT, Cop.isIn, k_v, clause, bindTg, wipeT, i0, i1, i2, i3, i4, i5, i6, i7, i8, i9, i15, i30, un_tupled, tup_tb, s_need_two _ _ _ _ h1 h3 ht hu]
theorem s_met_by (n m t u : Nat) (o : List Nat) (d e r : List Node × Int) (O : Om m o) (hd : fitsO m o d = some true) (he : fitsO m o e = some true) (htd : tabO m d = some t) (hte : tabO m e = some u) (ht : t < 2 ^ 2 ^ m) (hu : u < 2 ^ 2 ^ m) (hr : madeO m (t &&& u) o = some r) : T (n+10) 47 [diaD o d, diaD o e] = some (diaD o r) := by
  have hl : o.length ≤ 1000 := by rw [O.ho]; have := O.h3; omega
  have t1 := tup_dia hl (fits_len hd)
  have t2 := tup_dia hl (fits_len he)
  have f1 := s_diagram_fits (n+1) m o d true O.h1 O.h3 O.ho O.hp O.hn hd
  have f2 := s_diagram_by n m o e O.h1 O.h3 O.ho O.hp O.hn he
  have e1 := s_diagram_table (n+7) m t o d O.h3 O.ho htd
  have e2 := s_diagram_table (n+7) m u o e O.h3 O.ho hte
  have e3 := s_met (n+4) m t u O.h1 O.h3 ht hu
  have e4 := s_diagram_made (n+3) m (t &&& u) o r O.h1 O.h3 (Nat.and_lt_two_pow _ hu) O.ho O.hp hr
  simp only [diaD] at t1 t2 f1 f2 e1 e2 e4 ⊢
  rw [un_met_by]; simp -implicitDefEqProofs [f_met_by, Df.run, entry, entA, callV, cmpT, chnT, Cop.isIn, k_v, clause, bindTg, wipeT, i0, i1, i2, i3, i4, i5, i6, i7, i8, i9, i15, i30, un_tupled, t1, t2, f1, f2, s_need, e1, e2, e3, e4]
theorem s_either_by (n m t u : Nat) (o : List Nat) (d e r : List Node × Int) (O : Om m o) (hd : fitsO m o d = some true) (he : fitsO m o e = some true) (htd : tabO m d = some t) (hte : tabO m e = some u) (ht : t < 2 ^ 2 ^ m) (hu : u < 2 ^ 2 ^ m) (hr : madeO m (t ||| u) o = some r) : T (n+10) 48 [diaD o d, diaD o e] = some (diaD o r) := by
  have hl : o.length ≤ 1000 := by rw [O.ho]; have := O.h3; omega
  have t1 := tup_dia hl (fits_len hd)
  have t2 := tup_dia hl (fits_len he)
  have f1 := s_diagram_fits (n+1) m o d true O.h1 O.h3 O.ho O.hp O.hn hd
  have f2 := s_diagram_by n m o e O.h1 O.h3 O.ho O.hp O.hn he
  have e1 := s_diagram_table (n+7) m t o d O.h3 O.ho htd
  have e2 := s_diagram_table (n+7) m u o e O.h3 O.ho hte
  have e3 := s_either (n+4) m t u O.h1 O.h3 ht hu
  have e4 := s_diagram_made (n+3) m (t ||| u) o r O.h1 O.h3 (Nat.or_lt_two_pow ht hu) O.ho O.hp hr
  simp only [diaD] at t1 t2 f1 f2 e1 e2 e4 ⊢
  rw [un_either_by]; simp -implicitDefEqProofs [f_either_by, Df.run, entry, entA, callV, cmpT, chnT, Cop.isIn, k_v, clause, bindTg, wipeT, i0, i1, i2, i3, i4, i5, i6, i7, i8, i9, i15, i30, un_tupled, t1, t2, f1, f2, s_need, e1, e2, e3, e4]
end K11
end
section
set_option Elab.async false
set_option linter.all false
set_option maxRecDepth 100000
namespace K11
open PySem Fw Sy
def swapO (o : List Nat) (p : Nat) : List Nat := o.take p ++ [o.getD (p + 1) 0, o.getD p 0] ++ o.drop (p + 2)
theorem cut_hi' {o : List Nat} {k : Nat} : cutD (od o) none (some (k : Int)) = some (od (o.take k)) := by
  rw [od, cut_hi, ← List.map_take]
theorem cut_lo' {o : List Nat} {k : Nat} : cutD (od o) (some (k : Int)) none = some (od (o.drop k)) := by
  rw [od, cut_lo, ← List.map_drop]
theorem add_od {a b : List Nat} (h : a.length + b.length ≤ 1000000) : binD .add (od a) (od b) = some (od (a ++ b)) := by
  rw [od, od, add_tuple (by simpa using h), ← List.map_append]
theorem od2 {a b : Nat} : PyData.tuple [N a, N b] = od [a, b] := rfl
theorem s_swap_expr {o : List Nat} {p : Nat} (hp : p + 1 < o.length) (hl : o.length ≤ 1000) : (cutD (od o) none (some (p : Int))).bind (fun x => (binD .add x (od [o.getD (p + 1) 0, o.getD p 0]))) = some (od (o.take p ++ [o.getD (p + 1) 0, o.getD p 0])) := by
  rw [cut_hi', Option.bind_some, add_od (by simp; omega)]
theorem s_swapped (n m t p : Nat) (o : List Nat) (d r : List Node × Int) (O : Om m o) (hd : fitsO m o d = some true) (htd : tabO m d = some t) (ht : t < 2 ^ 2 ^ m) (hp : p + 1 < m) (O2 : Om m (swapO o p)) (hr : madeO m t (swapO o p) = some r) : T (n+10) 53 [diaD o d, N p, N m] = some (diaD (swapO o p) r) := by
  have hl : o.length ≤ 1000 := by rw [O.ho]; have := O.h3; omega
  have t1 := tup_dia hl (fits_len hd)
  have f1 := s_diagram_fits (n+1) m o d true O.h1 O.h3 O.ho O.hp O.hn hd
  have e1 := s_diagram_table (n+7) m t o d O.h3 O.ho htd
  have e4 := s_diagram_made (n+3) m t (swapO o p) r O.h1 O.h3 ht O2.ho O2.hp hr
  have ho := O.ho
  have hh := O.h1
  have g1 : o[p + 1]? = some (o.getD (p + 1) 0) := by rw [List.getD_eq_getElem?_getD, List.getElem?_eq_getElem (by omega)]; rfl
  have g2 : o[p]? = some (o.getD p 0) := by rw [List.getD_eq_getElem?_getD, List.getElem?_eq_getElem (by omega)]; rfl
  have c1 := cut_hi' (o := o) (k := p)
  have c2 := cut_lo' (o := o) (k := p + 2)
  have a1 : binD .add (od (o.take p)) (od [o.getD (p + 1) 0, o.getD p 0]) = some (od (o.take p ++ [o.getD (p + 1) 0, o.getD p 0])) := add_od (by simp; omega)
  have a2 : binD .add (od (o.take p ++ [o.getD (p + 1) 0, o.getD p 0])) (od (o.drop (p + 2))) = some (od (swapO o p)) := add_od (by simp; omega)
  rw [← od2] at a1
  generalize o.getD (p + 1) 0 = u at *
  generalize o.getD p 0 = v at *
  generalize hs : swapO o p = so at *
  rw [un_swapped]
  simp only [diaD] at t1 f1 e1 e4 ⊢
  simp -implicitDefEqProofs [f_swapped, Df.run, entry, entA, callV, cmpT, chnT, Cop.isIn, k_v, clause, bindTg, wipeT, i0, i1, i2, i3, i4, i5, i6, i7, i8, i9, i15, i30, un_tupled, t1, f1, s_need, ho, n_sub (a := m) (b := 2) (by omega), s_is_between, show p ≤ m - 2 by omega, n_idxMT, g1, g2]
  have c2' : cutD (od o) (some ((p : Int) + 2)) none = some (od (o.drop (p + 2))) := c2
  simp -implicitDefEqProofs [c1, c2', a1, a2, e1, e4]
theorem s_rows_of_one_at (n rows : Nat) (counts : List Nat) (a : Int) (b : Nat) (hr : rows < 1000) (h : (if a < 0 then (if a = -1 then some 0 else if a = -2 then some rows else none) else counts[a.toNat]?) = some b) : T (n+1) 51 [.list (counts.map N), .int a, N rows] = some (N b) := by
  rw [un_rows_of_one_at]
  by_cases ha : a < 0
  · rw [if_pos ha] at h
    by_cases h1 : a = -1
    · subst h1
      rw [if_pos rfl] at h
      cases h
      have e : binD .mul (N rows) (.int 0) = some (N 0) := by
        have := n_mul (a := rows) (b := 0) (by omega)
        exact this
      simp -implicitDefEqProofs [f_rows_of_one_at, Df.run, entry, entA, callV, cmpT, chnT, Cop.isIn, k_v, clause, bindTg, wipeT, i0, i1, i2, i3, i4, i5, i6, i7, i8, i9, i15, i30, lt_iN, sub_int, n_mul (a := rows) (b := 0) (by omega)]
    · rw [if_neg h1] at h
      by_cases h2 : a = -2
      · subst h2
        rw [if_pos rfl] at h
        cases h
        simp -implicitDefEqProofs [f_rows_of_one_at, Df.run, entry, entA, callV, cmpT, chnT, Cop.isIn, k_v, clause, bindTg, wipeT, i0, i1, i2, i3, i4, i5, i6, i7, i8, i9, i15, i30, lt_iN, sub_int, n_mul (a := rows) (b := 1) (by omega)]
      · rw [if_neg h2] at h; cases h
  · rw [if_neg ha] at h
    have hi : idxD (.list (counts.map N)) (.int a) = some (N b) := by rw [int_toN (by omega), n_idxM, h]; rfl
    simp -implicitDefEqProofs [f_rows_of_one_at, Df.run, entry, entA, callV, cmpT, chnT, Cop.isIn, k_v, clause, bindTg, wipeT, i0, i1, i2, i3, i4, i5, i6, i7, i8, i9, i15, i30, lt_iN, ha, hi]
def oneO (rows : Nat) (counts : List Nat) (a : Int) : Option Nat := if a < 0 then (if a = -1 then some 0 else if a = -2 then some rows else none) else counts[a.toNat]?
def waysO (m : Nat) (d : List Node × Int) : Option Nat := (d.1.foldlM (fun counts x => (oneO (2 ^ m) counts x.2.1).bind fun a => (oneO (2 ^ m) counts x.2.2).bind fun b => if counts.length ≤ 1000 then some (counts ++ [(a + b) / 2]) else none) []).bind fun counts => oneO (2 ^ m) counts d.2
theorem s_ways (n m w : Nat) (o : List Nat) (d : List Node × Int) (O : Om m o) (hd : fitsO m o d = some true) (hw : waysO m d = some w) : T (n+9) 52 [diaD o d, N m] = some (N w) := by
  have hl : o.length ≤ 1000 := by rw [O.ho]; have := O.h3; omega
  have t1 := tup_dia hl (fits_len hd)
  have f1 := s_diagram_fits n m o d true O.h1 O.h3 O.ho O.hp O.hn hd
  have ho := O.ho
  have e8 := p2_le O.h3
  have hm3 := O.h3
  obtain ⟨counts, hc, hw⟩ := Option.bind_eq_some_iff.mp hw
  have key := forS_foldM (G := G0) (F := T (n+8)) (tg := .t [4, 5, 6]) (b := [S.app 3 (E.bin Bop.fdiv (E.bin Bop.add (E.call 51 [false, false, false] [E.v 3, E.v 5, E.v 2]) (E.call 51 [false, false, false] [E.v 3, E.v 6, E.v 2])) (E.c (N 2)))])
    (xs := d.1) (e := ndD) (step := fun (counts : List Nat) (x : Node) => (oneO (2 ^ m) counts x.2.1).bind fun a => (oneO (2 ^ m) counts x.2.2).bind fun b => if counts.length ≤ 1000 then some (counts ++ [(a + b) / 2]) else none)
    (fun i counts τ => ∃ x4 x5 x6, τ = [.fz (diaD o d), .fz (N m), .fz (N (2 ^ m)), .ol (counts.map N), x4, x5, x6]) [] counts [.fz (diaD o d), .fz (N m), .fz (N (2 ^ m)), .ol [], .un, .un, .un] (fun i x hi counts counts' τ hR hst => ?_) ⟨_, _, _, rfl⟩ hc
  · obtain ⟨τ', e1, x4, x5, x6, rfl⟩ := key
    have e2 := s_rows_of_one_at (n+7) (2 ^ m) counts d.2 w (by omega) hw
    simp only [diaD] at t1 f1 e1 e2 ⊢
    rw [un_ways]
    simp -implicitDefEqProofs [f_ways, Df.run, entry, entA, callV, cmpT, chnT, Cop.isIn, k_v, clause, bindTg, wipeT, i0, i1, i2, i3, i4, i5, i6, i7, i8, i9, i15, i30, un_tupled, t1, f1, s_need, ho, s_is_between, n_shl1 (b := m) (by omega)]
    rw [e1]
    simp -implicitDefEqProofs [e2]
  · obtain ⟨x4, x5, x6, rfl⟩ := hR
    obtain ⟨a, ha, hst⟩ := Option.bind_eq_some_iff.mp hst
    obtain ⟨b, hb, hst⟩ := Option.bind_eq_some_iff.mp hst
    split at hst
    case isFalse => cases hst
    rename_i hcl
    cases hst
    have l1 : (counts.map N).length < lim := lt_lim (by simp; omega)
    simp at l1
    refine ⟨_, ?_, .fz (N x.1), .fz (.int x.2.1), .fz (.int x.2.2), rfl⟩
    simp -implicitDefEqProofs [Df.run, entry, entA, callV, cmpT, chnT, Cop.isIn, k_v, clause, bindTg, wipeT, i0, i1, i2, i3, i4, i5, i6, i7, i8, i9, i15, i30, ndD, s_rows_of_one_at _ _ _ _ _ (show 2 ^ m < 1000 by omega) ha, s_rows_of_one_at _ _ _ _ _ (show 2 ^ m < 1000 by omega) hb, n_fdiv (a := a + b) (b := 2) (by omega) (by omega), l1]
def ords (m : Nat) : List (List Nat) := match m with | 1 => [[0]] | 2 => [[0,1],[1,0]] | 3 => [[0,1,2],[0,2,1],[1,0,2],[1,2,0],[2,0,1],[2,1,0]] | _ => []
theorem s_orders1 (n : Nat) : T (n+3) 9 [N 1] = some (.list ((ords 1).map od)) := by kernel_rfl
theorem s_orders2 (n : Nat) : T (n+3) 9 [N 2] = some (.list ((ords 2).map od)) := by kernel_rfl
theorem s_orders3 (n : Nat) : T (n+3) 9 [N 3] = some (.list ((ords 3).map od)) := by kernel_rfl
theorem s_all1 (n : Nat) : T (n+3) 75 [N 1] = some (.list ((ords 1).map od)) := by kernel_rfl
theorem s_all2 (n : Nat) : T (n+3) 75 [N 2] = some (.list ((ords 2).map od)) := by kernel_rfl
theorem s_all3 (n : Nat) : T (n+3) 75 [N 3] = some (.list ((ords 3).map od)) := by kernel_rfl
end K11
end
section
set_option Elab.async false
set_option linter.all false
set_option maxRecDepth 100000
namespace K11
open PySem Fw Sy
/-! ### circuits of diagrams -/
def gateD : D := .tuple [.str ⟨#[109, 117, 120]⟩, .tuple [N 3, N 202], N 1]
def kitD : D := .tuple [.tuple [gateD], .bool true, .bool true]
theorem g2 : gl[2]? = some (("MUX" : Str), .tuple [N 3, N 202]) := rfl
theorem g3 : gl[3]? = some (("MOST_LINES" : Str), N 30) := rfl
theorem g4 : gl[4]? = some (("MOST_ENDS" : Str), N 4) := rfl
theorem kit1 : idxD kitD (N 1) = some (.bool true) := rfl
theorem kit2 : idxD kitD (N 2) = some (.bool true) := rfl
theorem s_chosen (n : Nat) : T (n+1) 29 [] = some kitD := by kernel_rfl
theorem s_set_fits (n : Nat) : T (n+6) 26 [kitD] = some (.bool true) := by kernel_rfl
theorem s_gate_named (n : Nat) : T (n+1) 27 [kitD, .str ⟨#[109, 117, 120]⟩] = some gateD := by kernel_rfl
theorem s_has_gate (n : Nat) : T (n+2) 28 [kitD, .str ⟨#[109, 117, 120]⟩, .tuple [N 3, N 202]] = some (.bool true) := by kernel_rfl
theorem s_name (n : Nat) : T (n+1) 5 [.str ⟨#[109, 117, 120]⟩] = some (.bool true) := by kernel_rfl
theorem tup_kit : tupF [kitD] = some kitD := rfl
def lpI (m : Nat) (a : Int) : Int := if a < 0 then a else (m : Int) + a
theorem s_line_place (n m : Nat) (a : Int) : T (n+1) 49 [N m, .int a] = some (.int (lpI m a)) := by
  rw [un_line_place]; simp -implicitDefEqProofs [f_line_place, Df.run, entry, entA, callV, cmpT, chnT, Cop.isIn, k_v, clause, bindTg, wipeT, i0, i1, i2, i3, i4, i5, i6, i7, i8, i9, i15, i30, lt_iN]
  by_cases h : a < 0
  · simp [h, lpI]
  · simp [h, lpI]
    rfl
def lineD (m : Nat) (x : Node) : D := .tuple [.str ⟨#[109, 117, 120]⟩, .tuple [.int (lpI m x.2.1), .int (lpI m x.2.2), N x.1]]
def cirD (m : Nat) (d : List Node × Int) : D := .tuple [N m, .tuple (d.1.map (lineD m)), .tuple [.int (lpI m d.2)]]
theorem cut1 {a b c : D} : cutD (.tuple [a, b, c]) (some ((1 : Nat) : Int)) none = some (.tuple [b, c]) := rfl
theorem s_circuit_by (n m t : Nat) (o : List Nat) (d : List Node × Int) (O : Om m o) (ht : t < 2 ^ 2 ^ m) (hd : madeO m t o = some d) : T (n+7) 50 [kitD, tbD m t, od o] = some (cirD m d) := by
  have hl : o.length ≤ 1000 := by rw [O.ho]; have := O.h3; omega
  have e4 := s_diagram_made n m t o d O.h1 O.h3 ht O.ho O.hp hd
  have hdl := made_len hd
  have key := forS_foldI (G := G0) (F := T (n+6)) (tg := .t [7, 8, 9]) (b := [S.app 4 (E.tup [E.c (PyData.str ⟨#[109, 117, 120]⟩), E.tup [E.call 49 [false, false] [E.v 3, E.v 8], E.call 49 [false, false] [E.v 3, E.v 9], E.v 7]])])
    (xs := d.1) (e := ndD) (step := fun (acc : List D) (x : Node) => acc ++ [lineD m x])
    (fun i acc τ => acc.length = i ∧ ∃ x7 x8 x9, τ = [.fz kitD, .fz (tbD m t), .fz (od o), .fz (N m), .ol acc, .fz (.tuple (d.1.map ndD)), .fz (.int d.2), x7, x8, x9]) [] [.fz kitD, .fz (tbD m t), .fz (od o), .fz (N m), .ol [], .fz (.tuple (d.1.map ndD)), .fz (.int d.2), .un, .un, .un] (fun i x hi acc τ hR => ?_) ⟨rfl, _, _, _, rfl⟩
  · obtain ⟨τ', e1, _, x7, x8, x9, rfl⟩ := key
    have e5 : d.1.foldl (fun (acc : List D) (x : Node) => acc ++ [lineD m x]) [] = d.1.map (lineD m) := by
      rw [foldl_flat]
      simp [List.flatMap_singleton']
      induction d.1 with
      | nil => rfl
      | cons a r ih => rw [List.flatMap_cons, ih]; rfl
    rw [e5] at e1
    simp only [diaD] at e4
    rw [un_circuit_by]
    simp -implicitDefEqProofs [f_circuit_by, Df.run, entry, entA, callV, cmpT, chnT, Cop.isIn, k_v, clause, bindTg, wipeT, i0, i1, i2, i3, i4, i5, i6, i7, i8, i9, i15, i30, un_tupled, tup_kit, tup_tb, tup_od hl, s_set_fits, s_table_fits _ _ _ O.h1 O.h3 ht, s_is_order _ _ _ O.h1 O.h3 O.ho O.hp O.hn, s_need, g2, show isDict kitD = false from rfl, s_has_gate, kit1, kit2, e4]
    rw [show (some (1 : Int)) = some ((1 : Nat) : Int) from rfl, cut1]
    simp -implicitDefEqProofs
    rw [e1]
    simp -implicitDefEqProofs [s_line_place, cirD]
  · obtain ⟨h0, x7, x8, x9, rfl⟩ := hR
    have hil := (List.getElem?_eq_some_iff.mp hi).1
    have l1 : acc.length < lim := lt_lim (by omega)
    refine ⟨_, ?_, by simp [h0], .fz (N x.1), .fz (.int x.2.1), .fz (.int x.2.2), rfl⟩
    simp -implicitDefEqProofs [Df.run, entry, entA, callV, cmpT, chnT, Cop.isIn, k_v, clause, bindTg, wipeT, i0, i1, i2, i3, i4, i5, i6, i7, i8, i9, i15, i30, ndD, s_line_place, l1, lineD]
end K11
end
section
set_option Elab.async false
set_option linter.all false
set_option maxRecDepth 100000
namespace K11
open PySem Fw Sy
def plOk (reach : Nat) (a : Int) : Bool := decide (a = -1) || (decide (a = -2) || (decide (0 ≤ a) && decide (a < (reach : Int))))
theorem le_Ni {k : Nat} {i : Int} : cmpD .le (N k) (.int i) = some (decide ((k : Int) ≤ i)) := rfl
theorem s_place_fits (n : Nat) (a : Int) (reach : Nat) (h : plOk reach a = true) : T (n+2) 54 [kitD, .int a, N reach] = some (.bool true) := by
  unfold plOk at h
  simp only [Bool.or_eq_true, Bool.and_eq_true, decide_eq_true_eq] at h
  rw [un_place_fits]; simp -implicitDefEqProofs [f_place_fits, Df.run, entry, entA, callV, cmpT, chnT, Cop.isIn, k_v, clause, bindTg, wipeT, i0, i1, i2, i3, i4, i5, i6, i7, i8, i9, i15, i30, s_is_int, Sy.eq_int, kit1, kit2, show cmpD .is kitD .none = some false from rfl, show isDict kitD = false from rfl, le_Ni, lt_iN]
  by_cases h1 : a = -1
  · simp [h1]
  · by_cases h2 : a = -2
    · subst h2
      simp -implicitDefEqProofs [Df.run, entry, entA, callV, cmpT, chnT, Cop.isIn, k_v, clause, bindTg, wipeT, i0, i1, i2, i3, i4, i5, i6, i7, i8, i9, i15, i30, Sy.eq_int, kit2, show cmpD .is kitD .none = some false from rfl]
    · have h3 : 0 ≤ a ∧ a < reach := by omega
      simp -implicitDefEqProofs [Df.run, entry, entA, callV, cmpT, chnT, Cop.isIn, k_v, clause, bindTg, wipeT, i0, i1, i2, i3, i4, i5, i6, i7, i8, i9, i15, i30, h1, h2, h3.1, h3.2, Sy.eq_int, le_Ni, lt_iN]
theorem blt_all3 {a b c : Bool} : bltD .all [.list [.bool a, .bool b, .bool c]] = some (.bool (a && (b && (c && true)))) := rfl
theorem blt_all1 {a : Bool} : bltD .all [.list [.bool a]] = some (.bool (a && true)) := rfl
theorem boolsOf_true : ∀ n : Nat, boolsOf (List.replicate n (.bool true)) = some (List.replicate n true)
  | 0 => rfl
  | n + 1 => by
    show (boolsOf (List.replicate n (.bool true))).map (true :: ·) = _
    rw [boolsOf_true n]; rfl
theorem blt_alls {n : Nat} : bltD .all [.list ((List.range n).map fun _ => .bool true)] = some (.bool true) := by
  rw [show (List.range n).map (fun _ => PyData.bool true) = List.replicate n (.bool true) from by simp [List.map_const']]
  show (boolsOf _).map (fun bs => PyData.bool (bs.all id)) = _
  rw [boolsOf_true]
  simp
theorem s_line_fits (n m reach : Nat) (x : Node) (h1 : plOk reach (lpI m x.2.1) = true) (h2 : plOk reach (lpI m x.2.2) = true) (h3 : plOk reach (x.1 : Nat) = true) : T (n+3) 55 [kitD, lineD m x, N reach] = some (.bool true) := by
  have e1 := s_place_fits n _ _ h1
  have e2 := s_place_fits n _ _ h2
  have e3 : T (n+2) 54 [kitD, N x.1, N reach] = some (.bool true) := s_place_fits n _ _ h3
  have gn := s_gate_named (n+1)
  have nm := s_name (n+1)
  rw [un_line_fits]
  simp -implicitDefEqProofs [f_line_fits, Df.run, entry, entA, callV, cmpT, chnT, Cop.isIn, k_v, clause, bindTg, wipeT, i0, i1, i2, i3, i4, i5, i6, i7, i8, i9, i15, i30, lineD, s_is_row, nm, genGo, e1, e2, e3, show isDict kitD = false from rfl, ck_lst (ds := [PyData.bool true, .bool true, .bool true]) (by simp), blt_all3, gn, show cmpD .is kitD .none = some false from rfl, show isDict gateD = false from rfl]
  rfl
def circOk (m : Nat) (d : List Node × Int) : Bool := decide (d.1.length ≤ 30) && ((List.range d.1.length).all (fun k => match d.1[k]? with
  | some x => plOk (m + k) (lpI m x.2.1) && (plOk (m + k) (lpI m x.2.2) && plOk (m + k) (x.1 : Nat))
  | none => false) && plOk (m + d.1.length) (lpI m d.2))
theorem s_lines_fit (n m : Nat) (d : List Node × Int) (h : circOk m d = true) : T (n+4) 56 [kitD, .tuple (d.1.map (lineD m)), N m] = some (.bool true) := by
  unfold circOk at h
  simp only [Bool.and_eq_true, decide_eq_true_eq, List.all_eq_true, List.mem_range] at h
  obtain ⟨hl, h, _⟩ := h
  rw [un_lines_fit]; simp -implicitDefEqProofs [f_lines_fit, Df.run, entry, entA, callV, cmpT, chnT, Cop.isIn, k_v, clause, bindTg, wipeT, i0, i1, i2, i3, i4, i5, i6, i7, i8, i9, i15, i30, n_range (n := d.1.length) (by omega)]
  rw [genGo_N (g := fun _ => .bool true)]
  · have : ckD .lst ((List.range d.1.length).map fun _ => PyData.bool true) = some (.list ((List.range d.1.length).map fun _ => PyData.bool true)) := ck_lst (by simp; omega)
    simp only [Option.bind_some, this, Function.comp, blt_alls]
    rfl
  · intro k hk
    have hg : d.1[k]? = some d.1[k] := List.getElem?_eq_getElem hk
    have hk2 := h k hk
    rw [hg] at hk2
    simp only [Bool.and_eq_true] at hk2
    simp -implicitDefEqProofs [Df.run, entry, entA, callV, cmpT, chnT, Cop.isIn, k_v, clause, bindTg, wipeT, i0, i1, i2, i3, i4, i5, i6, i7, i8, i9, i15, i30, n_idxMT, hg, s_line_fits _ _ _ _ hk2.1 hk2.2.1 hk2.2.2, show isDict kitD = false from rfl, show isDict (lineD m d.1[k]) = false from rfl]
theorem s_circuit_fits (n m : Nat) (d : List Node × Int) (h1 : 1 ≤ m) (h3 : m ≤ 3) (h : circOk m d = true) : T (n+5) 57 [kitD, cirD m d] = some (.bool true) := by
  have h' := h
  unfold circOk at h'
  simp only [Bool.and_eq_true, decide_eq_true_eq] at h'
  obtain ⟨hl, _, ht⟩ := h'
  have e1 := s_lines_fit n m d h
  have e2 := s_place_fits (n+2) _ _ ht
  rw [un_circuit_fits]
  simp -implicitDefEqProofs [f_circuit_fits, Df.run, entry, entA, callV, cmpT, chnT, Cop.isIn, k_v, clause, bindTg, wipeT, i0, i1, i2, i3, i4, i5, i6, i7, i8, i9, i15, i30, cirD, s_is_row, s_is_between, h1, h3, e1, g3, g4, genGo, e2, show isDict kitD = false from rfl, show ¬ 30 < d.1.length by omega, ck_lst (ds := [PyData.bool true]) (by simp), blt_all1]
theorem s_need_circuit (n m : Nat) (d : List Node × Int) (h1 : 1 ≤ m) (h3 : m ≤ 3) (h : circOk m d = true) : T (n+7) 58 [kitD, cirD m d] = some .none := by
  rw [un_need_circuit]; simp -implicitDefEqProofs [f_need_circuit, Df.run, entry, entA, callV, cmpT, chnT, Cop.isIn, k_v, clause, bindTg, wipeT, i0, i1, i2, i3, i4, i5, i6, i7, i8, i9, i15, i30, s_set_fits, s_circuit_fits _ _ _ h1 h3 h, s_need, show isDict kitD = false from rfl, show isDict (cirD m d) = false from rfl]
end K11
end
section
set_option Elab.async false
set_option linter.all false
set_option maxRecDepth 100000
namespace K11
open PySem Fw Sy
theorem s_of_two10 (n a b top : Nat) : T (n+1) 18 [N 10, N a, N b, N top] = some (N ((0 ||| (a &&& (top ^^^ b))) ||| (a &&& b))) := by
  rw [un_of_two]; simp -implicitDefEqProofs [f_of_two, Df.run, entry, entA, callV, cmpT, chnT, Cop.isIn, k_v, clause, bindTg, wipeT, i0, i1, i2, i3, i4, i5, i6, i7, i8, i9, i15, i30, n_and]
theorem s_of_two12 (n a b top : Nat) : T (n+1) 18 [N 12, N a, N b, N top] = some (N ((0 ||| (b &&& (top ^^^ a))) ||| (a &&& b))) := by
  rw [un_of_two]; simp -implicitDefEqProofs [f_of_two, Df.run, entry, entA, callV, cmpT, chnT, Cop.isIn, k_v, clause, bindTg, wipeT, i0, i1, i2, i3, i4, i5, i6, i7, i8, i9, i15, i30, n_and]
def muxN (top a b c : Nat) : Nat := (((0 ||| (a &&& (top ^^^ b))) ||| (a &&& b)) &&& (top ^^^ c)) ||| (((0 ||| (b &&& (top ^^^ a))) ||| (a &&& b)) &&& c)
theorem s_applied (n a b c top : Nat) : T (n+2) 17 [.tuple [N 3, N 202], .list [N a, N b, N c], N top] = some (N (muxN top a b c)) := by
  have i0' : idxD (.list [N a, N b, N c]) (N 0) = some (N a) := rfl
  have i1' : idxD (.list [N a, N b, N c]) (N 1) = some (N b) := rfl
  have i2' : idxD (.list [N a, N b, N c]) (N 2) = some (N c) := rfl
  have l15 : binD .band (N 202) (N 15) = some (N 10) := by rw [n_and]; rfl
  have l4 : binD .shr (N 202) (N 4) = some (N 12) := by rw [n_shr]
  have t1 := s_of_two10 n a b top
  have t2 := s_of_two12 n a b top
  rw [un_applied]
  simp -implicitDefEqProofs [f_applied, Df.run, entry, entA, callV, cmpT, chnT, Cop.isIn, k_v, clause, bindTg, wipeT, i0, i1, i2, i3, i4, i5, i6, i7, i8, i9, i15, i30, i0', i1', i2', l15, l4, t1, t2, n_and]
  simp [muxN]
def plN (told : List Nat) (top : Nat) (a : Int) : Option Nat := if a = -1 then some 0 else if a = -2 then some top else if 0 ≤ a then told[a.toNat]? else none
theorem s_place_number (n top b : Nat) (told : List Nat) (a : Int) (h : plN told top a = some b) : T (n+1) 59 [.list (told.map N), .int a, N top] = some (N b) := by
  unfold plN at h
  rw [un_place_number]
  by_cases h1 : a = -1
  · subst h1
    cases h
    simp -implicitDefEqProofs [f_place_number, Df.run, entry, entA, callV, cmpT, chnT, Cop.isIn, k_v, clause, bindTg, wipeT, i0, i1, i2, i3, i4, i5, i6, i7, i8, i9, i15, i30, Sy.eq_int]
  · rw [if_neg h1] at h
    by_cases h2 : a = -2
    · subst h2
      cases h
      simp -implicitDefEqProofs [f_place_number, Df.run, entry, entA, callV, cmpT, chnT, Cop.isIn, k_v, clause, bindTg, wipeT, i0, i1, i2, i3, i4, i5, i6, i7, i8, i9, i15, i30, Sy.eq_int]
    · rw [if_neg h2] at h
      by_cases h3 : 0 ≤ a
      · rw [if_pos h3] at h
        have hi : idxD (.list (told.map N)) (.int a) = some (N b) := by rw [int_toN h3, n_idxM, h]; rfl
        simp -implicitDefEqProofs [f_place_number, Df.run, entry, entA, callV, cmpT, chnT, Cop.isIn, k_v, clause, bindTg, wipeT, i0, i1, i2, i3, i4, i5, i6, i7, i8, i9, i15, i30, Sy.eq_int, h1, h2, hi]
      · rw [if_neg h3] at h; cases h
def inps (m : Nat) : List Nat := match m with | 1 => [2] | 2 => [10, 12] | 3 => [170, 204, 240] | _ => []
theorem s_inputs (n m : Nat) (h1 : 1 ≤ m) (h3 : m ≤ 3) : T (n+3) 15 [N m] = some (.tuple ((inps m).map N)) := by
  rcases m with _ | _ | _ | _ | m
  · omega
  · kernel_rfl
  · kernel_rfl
  · kernel_rfl
  · omega
def wiresO (m : Nat) (d : List Node × Int) : Option (List Nat) := d.1.foldlM (fun told x => (plN told (2 ^ 2 ^ m - 1) (lpI m x.2.1)).bind fun a => (plN told (2 ^ 2 ^ m - 1) (lpI m x.2.2)).bind fun b => (plN told (2 ^ 2 ^ m - 1) (x.1 : Nat)).bind fun c => if told.length ≤ 1000 then some (told ++ [muxN (2 ^ 2 ^ m - 1) a b c]) else none) (inps m)
theorem gate1 : idxD gateD (N 1) = some (.tuple [N 3, N 202]) := rfl
theorem s_wire_numbers (n m : Nat) (d : List Node × Int) (ws : List Nat) (h1 : 1 ≤ m) (h3 : m ≤ 3) (hw : wiresO m d = some ws) : T (n+4) 60 [kitD, cirD m d] = some (.list (ws.map N)) := by
  have key := forS_foldM (G := G0) (F := T (n+3)) (tg := .t [7, 8]) (b := [S.set 9 false (E.cmpn Ck.lst (E.gen [10] (Tg.n 10) (E.v 8) [] (E.call 59 [false, false, false] [E.v 3, E.v 10, E.v 2]).yld)), S.app 3 (E.call 17 [false, false, false] [(E.call 27 [false, false] [E.v 0, E.v 7]).idx (E.c (N 1)), E.v 9, E.v 2])])
    (xs := d.1) (e := lineD m) (step := fun (told : List Nat) (x : Node) => (plN told (2 ^ 2 ^ m - 1) (lpI m x.2.1)).bind fun a => (plN told (2 ^ 2 ^ m - 1) (lpI m x.2.2)).bind fun b => (plN told (2 ^ 2 ^ m - 1) (x.1 : Nat)).bind fun c => if told.length ≤ 1000 then some (told ++ [muxN (2 ^ 2 ^ m - 1) a b c]) else none)
    (fun i told τ => ∃ x7 x8 x9 x10, τ = [.fz kitD, .fz (cirD m d), .fz (N (2 ^ 2 ^ m - 1)), .ol (told.map N), .fz (N m), .fz (.tuple (d.1.map (lineD m))), .fz (.tuple [.int (lpI m d.2)]), x7, x8, x9, x10]) (inps m) ws
    [.fz kitD, .fz (cirD m d), .fz (N (2 ^ 2 ^ m - 1)), .ol ((inps m).map N), .fz (N m), .fz (.tuple (d.1.map (lineD m))), .fz (.tuple [.int (lpI m d.2)]), .un, .un, .un, .un] (fun i x hi told told' τ hR hst => ?_) ⟨_, _, _, _, rfl⟩ hw
  · obtain ⟨τ', e1, x7, x8, x9, x10, rfl⟩ := key
    simp only [cirD] at e1
    rw [un_wire_numbers]
    simp -implicitDefEqProofs [f_wire_numbers, Df.run, entry, entA, callV, cmpT, chnT, Cop.isIn, k_v, clause, bindTg, wipeT, i0, i1, i2, i3, i4, i5, i6, i7, i8, i9, i15, i30, cirD, s_whole _ _ h3, s_inputs _ _ h1 h3]
    rw [e1]
    simp -implicitDefEqProofs
  · obtain ⟨x7, x8, x9, x10, rfl⟩ := hR
    obtain ⟨a, ha, hst⟩ := Option.bind_eq_some_iff.mp hst
    obtain ⟨b, hb, hst⟩ := Option.bind_eq_some_iff.mp hst
    obtain ⟨c, hc, hst⟩ := Option.bind_eq_some_iff.mp hst
    split at hst
    case isFalse => cases hst
    rename_i htl
    cases hst
    have l1 : (told.map N).length < lim := lt_lim (by simp; omega)
    simp at l1
    have e1 := s_place_number (n+2) _ _ _ _ ha
    have e2 := s_place_number (n+2) _ _ _ _ hb
    have e3 : T (n+3) 59 [.list (told.map N), N x.1, N (2 ^ 2 ^ m - 1)] = some (N c) := s_place_number (n+2) _ _ _ _ hc
    have gn := s_gate_named (n+2)
    refine ⟨_, ?_, .fz (.str ⟨#[109, 117, 120]⟩), .fz (.tuple [.int (lpI m x.2.1), .int (lpI m x.2.2), N x.1]), .fz (.list [N a, N b, N c]), x10, rfl⟩
    simp -implicitDefEqProofs [Df.run, entry, entA, callV, cmpT, chnT, Cop.isIn, k_v, clause, bindTg, wipeT, i0, i1, i2, i3, i4, i5, i6, i7, i8, i9, i15, i30, lineD, genGo, e1, e2, e3, ck_lst (ds := [N a, N b, N c]) (by simp), gn, gate1, s_applied, l1, show isDict kitD = false from rfl]
theorem s_end_numbers (n m b : Nat) (d : List Node × Int) (ws : List Nat) (h1 : 1 ≤ m) (h3 : m ≤ 3) (hw : wiresO m d = some ws) (hb : plN ws (2 ^ 2 ^ m - 1) (lpI m d.2) = some b) : T (n+5) 61 [kitD, cirD m d] = some (.tuple [N b]) := by
  have e1 := s_wire_numbers n m d ws h1 h3 hw
  have e2 := s_place_number (n+3) _ _ _ _ hb
  simp only [cirD] at e1 ⊢
  rw [un_end_numbers]
  simp -implicitDefEqProofs [f_end_numbers, Df.run, entry, entA, callV, cmpT, chnT, Cop.isIn, k_v, clause, bindTg, wipeT, i0, i1, i2, i3, i4, i5, i6, i7, i8, i9, i15, i30, e1, s_whole _ _ h3, genGo, e2, ck_lst (ds := [N b]) (by simp), show isDict kitD = false from rfl]
theorem ok_line {m : Nat} {x : Node} : isOk (lineD m x) = true := rfl
theorem ok_cir {m : Nat} {d : List Node × Int} (h : d.1.length ≤ 1000) : isOk (cirD m d) = true := by
  have h2 : isOk (.tuple (d.1.map (lineD m))) = true := by
    show (decide ((d.1.map (lineD m)).length ≤ 1000) && isOks (d.1.map (lineD m))) = true
    rw [decide_eq_true (by simpa using h), isOks_map (fun _ _ => rfl)]; rfl
  show (decide (3 ≤ 1000) && (isOk (N m) && (isOk (.tuple (d.1.map (lineD m))) && (isOk (.tuple [.int (lpI m d.2)]) && true)))) = true
  rw [h2]; rfl
theorem sz_cir {m : Nat} {d : List Node × Int} : sz (cirD m d) ≤ 8 + 8 * d.1.length := by
  have h2 := szs_map (f := lineD m) (c := 8) (xs := d.1) fun a _ => by simp [lineD, N, sz, szs]
  show 2 + (1 + ((2 + szs (d.1.map (lineD m))) + ((2 + (1 + 0)) + 0))) ≤ _
  omega
theorem dpt_cir {m : Nat} {d : List Node × Int} : dpt (cirD m d) ≤ 4 := by
  have h2 := dpts_map (f := lineD m) (c := 2) (xs := d.1) fun a _ => by simp [lineD, N, dpt, dpts]
  show 1 + max 0 (max (1 + dpts (d.1.map (lineD m))) (max (1 + max 0 0) 0)) ≤ _
  omega
theorem tup_cir {m : Nat} {d : List Node × Int} (h : d.1.length ≤ 1000) : tupF [cirD m d] = some (cirD m d) := tupF_id (ok_cir h) (Nat.le_trans sz_cir (by omega)) (Nat.le_trans dpt_cir (by decide))
theorem s_tells (n m b : Nat) (d : List Node × Int) (ws : List Nat) (h1 : 1 ≤ m) (h3 : m ≤ 3) (hc : circOk m d = true) (hw : wiresO m d = some ws) (hb : plN ws (2 ^ 2 ^ m - 1) (lpI m d.2) = some b) : T (n+8) 62 [kitD, cirD m d] = some (.tuple [tbD m b]) := by
  have hl : d.1.length ≤ 1000 := by
    unfold circOk at hc
    simp only [Bool.and_eq_true, decide_eq_true_eq] at hc
    omega
  have t1 := tup_cir (m := m) hl
  have e1 := s_need_circuit n m d h1 h3 hc
  have e2 := s_end_numbers (n+2) m b d ws h1 h3 hw hb
  simp only [cirD] at t1 e1 e2 ⊢
  rw [un_tells]
  simp -implicitDefEqProofs [f_tells, Df.run, entry, entA, callV, cmpT, chnT, Cop.isIn, k_v, clause, bindTg, wipeT, i0, i1, i2, i3, i4, i5, i6, i7, i8, i9, i15, i30, un_tupled, tup_kit, t1, e1, e2, genGo, ck_lst (ds := [PyData.tuple [N m, N b]]) (by simp), show isDict kitD = false from rfl]
end K11
end
section
set_option Elab.async false
set_option linter.all false
set_option maxRecDepth 100000
namespace K11
open PySem Fw Sy
open PySem.W (alike alikeAll dataLt dataLt_pair dataLt_int dataLt_tuple dataLt_ints rowLt)
theorem om_ords {m : Nat} {o : List Nat} (h : o ∈ ords m) : Om m o := by
  rcases m with _ | _ | _ | _ | m
  · cases h
  · simp only [ords, List.mem_cons, List.mem_nil_iff, or_false] at h
    subst h; exact ⟨by decide, by decide, by decide, by decide, by decide⟩
  · simp only [ords, List.mem_cons, List.mem_nil_iff, or_false] at h
    rcases h with rfl | rfl <;> exact ⟨by decide, by decide, by decide, by decide, by decide⟩
  · simp only [ords, List.mem_cons, List.mem_nil_iff, or_false] at h
    rcases h with rfl | rfl | rfl | rfl | rfl | rfl <;> exact ⟨by decide, by decide, by decide, by decide, by decide⟩
  · cases h
theorem s_orders (n m : Nat) (h1 : 1 ≤ m) (h3 : m ≤ 3) : T (n+3) 9 [N m] = some (.list ((ords m).map od)) := by
  rcases m with _ | _ | _ | _ | m
  · omega
  · exact s_orders1 n
  · exact s_orders2 n
  · exact s_orders3 n
  · omega
theorem s_all (n m : Nat) (h1 : 1 ≤ m) (h3 : m ≤ 3) : T (n+3) 75 [N m] = some (.list ((ords m).map od)) := by
  rcases m with _ | _ | _ | _ | m
  · omega
  · exact s_all1 n
  · exact s_all2 n
  · exact s_all3 n
  · omega
theorem len_ords (m : Nat) : (ords m).length ≤ 6 := by
  rcases m with _ | _ | _ | _ | m <;> simp [ords]
def szT (m t : Nat) (o : List Nat) : Nat := match madeO m t o with | some d => d.1.length | none => 0
theorem s_sizes (n m t : Nat) (h1 : 1 ≤ m) (h3 : m ≤ 3) (ht : t < 2 ^ 2 ^ m) (hm : ∀ o ∈ ords m, (madeO m t o).isSome = true) : T (n+8) 45 [tbD m t] = some (.tuple ((ords m).map fun o => N (szT m t o))) := by
  rw [un_sizes]; simp -implicitDefEqProofs [f_sizes, Df.run, entry, entA, callV, cmpT, chnT, Cop.isIn, k_v, clause, bindTg, wipeT, i0, i1, i2, i3, i4, i5, i6, i7, i8, i9, i15, i30, un_tupled, tup_tb, s_table_fits _ _ _ h1 h3 ht, s_need, s_orders _ _ h1 h3]
  rw [genGo_map (g := fun o => N (szT m t o))]
  · have := len_ords m
    have e : ckD .tup ((ords m).map fun o => N (szT m t o)) = some (.tuple ((ords m).map fun o => N (szT m t o))) := ck_tup (by simp; omega)
    simp only [Option.bind_some, Function.comp, e]
    rfl
  · intro o ho
    obtain ⟨d, hd⟩ := Option.isSome_iff_exists.mp (hm o ho)
    simp -implicitDefEqProofs [Df.run, entry, entA, callV, cmpT, chnT, Cop.isIn, k_v, clause, bindTg, wipeT, i0, i1, i2, i3, i4, i5, i6, i7, i8, i9, i15, i30, s_size_made _ _ _ _ _ (om_ords ho) ht hd, szT, hd]
def ltL (a b : List Nat) : Bool := decide ((a.map fun x : Nat => (x : Int)) < b.map fun x : Nat => (x : Int))
def ltB (f : List Nat → Nat) (a b : List Nat) : Bool := if f a = f b then (if a = b then false else ltL a b) else decide (f a < f b)
def bestD (f : List Nat → Nat) (o : List Nat) : D := .tuple [N (f o), od o]
theorem alike_od : ∀ a b : List Nat, alike (od a) (od b) = true := by
  have key : ∀ a b : List Nat, alikeAll (a.map N) (b.map N) = true := by
    intro a
    induction a with
    | nil => intro b; cases b <;> simp [alikeAll]
    | cons x r ih =>
      intro b
      cases b with
      | nil => simp [alikeAll]
      | cons y s =>
        have := ih s
        simp only [List.map_cons, alikeAll, this, Bool.and_true]
        simp [N, alike]
  intro a b
  simp only [od, alike]
  exact key a b
theorem eqv_od {a b : List Nat} : PyData.eqv (od a) (od b) = decide (a = b) := by
  have h1 : isID (od a) = true := isIDs_map (fun _ _ => rfl)
  have h2 : isID (od b) = true := isIDs_map (fun _ _ => rfl)
  by_cases h : a = b
  · subst h
    rw [decide_eq_true rfl]; exact (eqv_id _ _ h1 h1).mpr rfl
  · rw [decide_eq_false h]
    cases hv : PyData.eqv (od a) (od b) with
    | false => rfl
    | true =>
      exfalso
      have := (eqv_id _ _ h1 h2).mp hv
      simp only [od, PyData.tuple.injEq] at this
      exact h (map_inj N_inj' this)
theorem lt_od {a b : List Nat} : dataLt (od a) (od b) = ltL a b := by
  have e : ∀ l : List Nat, l.map N = (l.map fun x : Nat => (x : Int)).map PyData.int := fun l => by rw [List.map_map]; rfl
  show dataLt (.tuple (a.map N)) (.tuple (b.map N)) = _
  rw [e, e, dataLt_tuple]
  exact dataLt_ints _ _
theorem lt_best {f : List Nat → Nat} {a b : List Nat} : dataLt (bestD f a) (bestD f b) = ltB f a b := by
  unfold bestD ltB
  rw [dataLt_pair (by simp [N, alike]) (alike_od a b), eqv_N, eqv_od, lt_od]
  have : dataLt (N (f a)) (N (f b)) = decide (f a < f b) := by
    show dataLt (.int _) (.int _) = _
    rw [dataLt_int]
    simp
  rw [this]
  by_cases h1 : f a = f b <;> by_cases h2 : a = b <;> simp [h1, h2]
def bestO (f : List Nat → Nat) : List (List Nat) → Option (List Nat)
  | [] => none
  | x :: r => some (r.foldl (fun a y => if ltB f y a then y else a) x)
theorem foldl_best {f : List Nat → Nat} : ∀ (r : List (List Nat)) (x : List Nat), (r.map (bestD f)).foldl (fun a y => if dataLt y a then y else a) (bestD f x) = bestD f (r.foldl (fun a y => if ltB f y a then y else a) x)
  | [], x => rfl
  | y :: r, x => by
    rw [List.map_cons, List.foldl_cons, List.foldl_cons, lt_best]
    cases ltB f y x with
    | true => rw [if_pos rfl, if_pos rfl]; exact foldl_best r y
    | false => rw [if_neg (by simp), if_neg (by simp)]; exact foldl_best r x
theorem min_best {f : List Nat → Nat} {l : List (List Nat)} {b : List Nat} (h : bestO f l = some b) : bltD .min [.list (l.map (bestD f))] = some (bestD f b) := by
  cases l with
  | nil => cases h
  | cons x r =>
    cases h
    show (if minOk (bestD f x :: r.map (bestD f)) then some ((r.map (bestD f)).foldl (fun a y => if dataLt y a then y else a) (bestD f x)) else none) = _
    have hall : ∀ d ∈ bestD f x :: r.map (bestD f), ∃ o, d = bestD f o := fun d hd => by
      rcases List.mem_cons.mp hd with rfl | hd
      · exact ⟨x, rfl⟩
      · obtain ⟨o, _, rfl⟩ := List.mem_map.mp hd; exact ⟨o, rfl⟩
    have ok : minOk (bestD f x :: r.map (bestD f)) = true := by
      unfold minOk
      simp only [Bool.and_eq_true, List.all_eq_true, decide_eq_true_eq]
      refine ⟨⟨fun d hd e he => ?_, fun d hd => ?_⟩, ?_⟩
      · obtain ⟨o, rfl⟩ := hall d hd
        obtain ⟨o', rfl⟩ := hall e he
        have := alike_od o o'
        simp only [od, alike] at this
        simp only [bestD, alike, alikeAll, this, Bool.and_true]
        simp [N, alike]
      · obtain ⟨o, rfl⟩ := hall d hd; rfl
      · have := depthAll_map (f := bestD f) (k := 2) (xs := x :: r) fun o _ => by
          have h1 : PyData.depthAll (o.map N) ≤ 0 := depthAll_map fun a _ => by simp
          simp only [bestD, PyData.depth, PyData.depthAll]
          simp only [N, PyData.depth]
          omega
        exact Nat.le_trans this (by decide)
    rw [if_pos ok, foldl_best]
theorem s_best_order (n m t : Nat) (b : List Nat) (h1 : 1 ≤ m) (h3 : m ≤ 3) (ht : t < 2 ^ 2 ^ m) (hm : ∀ o ∈ ords m, (madeO m t o).isSome = true) (hb : bestO (szT m t) (ords m) = some b) : T (n+8) 44 [tbD m t] = some (od b) := by
  have hl := len_ords m
  have e := min_best hb
  rw [un_best_order]; simp -implicitDefEqProofs [f_best_order, Df.run, entry, entA, callV, cmpT, chnT, Cop.isIn, k_v, clause, bindTg, wipeT, i0, i1, i2, i3, i4, i5, i6, i7, i8, i9, i15, i30, un_tupled, tup_tb, s_table_fits _ _ _ h1 h3 ht, s_need, s_orders _ _ h1 h3]
  rw [genGo_map (g := bestD (szT m t))]
  · simp -implicitDefEqProofs [ck_map (f := bestD (szT m t)) (xs := ords m) (by omega), e]
    simp -implicitDefEqProofs [bestD]
  · intro o ho
    obtain ⟨d, hd⟩ := Option.isSome_iff_exists.mp (hm o ho)
    simp -implicitDefEqProofs [Df.run, entry, entA, callV, cmpT, chnT, Cop.isIn, k_v, clause, bindTg, wipeT, i0, i1, i2, i3, i4, i5, i6, i7, i8, i9, i15, i30, s_size_made _ _ _ _ _ (om_ords ho) ht hd, szT, hd, bestD]
def minL : List Nat → Nat
  | [] => 0
  | x :: r => r.foldl (fun a y => if y < a then y else a) x
theorem foldl_minN : ∀ (r : List Nat) (x : Nat), (r.map N).foldl (fun a y => if dataLt y a then y else a) (N x) = N (r.foldl (fun a y => if y < a then y else a) x)
  | [], x => rfl
  | y :: r, x => by
    have : dataLt (N y) (N x) = decide (y < x) := by
      show dataLt (.int _) (.int _) = _
      rw [dataLt_int]
      simp
    rw [List.map_cons, List.foldl_cons, List.foldl_cons, this]
    by_cases h : y < x
    · rw [decide_eq_true h, if_pos rfl, if_pos h]; exact foldl_minN r y
    · rw [decide_eq_false h, if_neg (by simp), if_neg h]; exact foldl_minN r x
theorem min_N {l : List Nat} (h : l ≠ []) : bltD .min [.list (l.map N)] = some (N (minL l)) := by
  cases l with
  | nil => exact absurd rfl h
  | cons x r =>
    show (if minOk (N x :: r.map N) then some ((r.map N).foldl (fun a y => if dataLt y a then y else a) (N x)) else none) = _
    have hall : ∀ d ∈ N x :: r.map N, ∃ o, d = N o := fun d hd => by
      rcases List.mem_cons.mp hd with rfl | hd
      · exact ⟨x, rfl⟩
      · obtain ⟨o, _, rfl⟩ := List.mem_map.mp hd; exact ⟨o, rfl⟩
    have ok : minOk (N x :: r.map N) = true := by
      unfold minOk
      simp only [Bool.and_eq_true, List.all_eq_true, decide_eq_true_eq]
      refine ⟨⟨fun d hd e he => ?_, fun d hd => ?_⟩, ?_⟩
      · obtain ⟨o, rfl⟩ := hall d hd
        obtain ⟨o', rfl⟩ := hall e he
        simp [N, alike]
      · obtain ⟨o, rfl⟩ := hall d hd; rfl
      · have := depthAll_N (x :: r)
        show PyData.depthAll ((x :: r).map N) ≤ 63
        omega
    rw [if_pos ok, foldl_minN]; rfl
theorem minL_mem {l : List Nat} (h : l ≠ []) : minL l ∈ l := by
  have gen : ∀ (r : List Nat) (x : Nat), r.foldl (fun a y => if y < a then y else a) x = x ∨ r.foldl (fun a y => if y < a then y else a) x ∈ r := by
    intro r
    induction r with
    | nil => intro x; exact .inl rfl
    | cons y r ih =>
      intro x
      rw [List.foldl_cons]
      by_cases h : y < x
      · rw [if_pos h]
        rcases ih y with z | z
        · exact .inr (by rw [z]; exact List.mem_cons_self)
        · exact .inr (List.mem_cons_of_mem _ z)
      · rw [if_neg h]
        rcases ih x with z | z
        · exact .inl z
        · exact .inr (List.mem_cons_of_mem _ z)
  cases l with
  | nil => exact absurd rfl h
  | cons x r =>
    rcases gen r x with z | z
    · show r.foldl _ x ∈ _; rw [z]; exact List.mem_cons_self
    · exact List.mem_cons_of_mem _ z
end K11
end
section
set_option Elab.async false
set_option linter.all false
set_option maxRecDepth 100000
namespace K11
open PySem Fw Sy
theorem dptN {a : Nat} : dpt (N a) ≤ 10 := Nat.zero_le _
theorem dptT {m a : Nat} : dpt (tbD m a) ≤ 10 := show 1 ≤ 10 by decide
theorem same_ok (n : Nat) {d : D} (h : isOk d = true) (hk : dpt d ≤ 10) : T (n+16) 65 [d, d] = some (.bool true) := s_law_same (n+5) 10 d h hk
theorem listed_ok (n : Nat) {d : D} (h : isOk d = true) (hk : dpt d ≤ 10) : T (n+16) 64 [d] = some (lstD d) := s_law_listed (n+5) 10 d h hk
structure Fx (m t u : Nat) (o : List Nat) (d e : List Node × Int) : Prop where
  oin : o ∈ ords m
  ht : t < 2 ^ 2 ^ m
  hu : u < 2 ^ 2 ^ m
  hd : madeO m t o = some d
  hld : lmadeO m t o = some d
  hf : fitsO m o d = some true
  htab : tabO m d = some t
  rows : ∀ row, row < 2 ^ m → reachO d.1 row 100 d.2 = some (bit t row)
  every : ∀ o' ∈ ords m, ∃ d', madeO m t o' = some d' ∧ lmadeO m t o' = some d'
  best : bestO (szT m t) (ords m) = (ords m)[((ords m).map (szT m t)).idxOf (minL ((ords m).map (szT m t)))]?
  ways : waysO m d = some ((List.range (2 ^ m)).map (bit t)).sum
  kin : ∀ k, k ≤ m → heldTabs m t (o.take k) = lkinTabs m t (o.take k)
  cnt : d.1.length = ((List.range m).map fun k => ((lkinTabs m t (o.take k)).filter fun one => lhangs m one (o.getD k 0)).length).sum
  hle : lmadeO m u o = some e
  hfe : fitsO m o e = some true
  htabe : tabO m e = some u
  meets : ∃ r, madeO m (t &&& u) o = some r ∧ lmadeO m (t &&& u) o = some r
  joins : ∃ r, madeO m (t ||| u) o = some r ∧ lmadeO m (t ||| u) o = some r
  bits1 : (((List.range (2 ^ m)).filter fun row => decide (bit t row + bit u row = 2)).map fun row => 2 ^ row).sum = t &&& u
  bits2 : (((List.range (2 ^ m)).filter fun row => decide (0 < bit t row + bit u row)).map fun row => 2 ^ row).sum = t ||| u
  swap : ∀ p, p + 1 < m → swapO o p ∈ ords m ∧ ∃ r, madeO m t (swapO o p) = some r ∧ lmadeO m t (swapO o p) = some r
  circ : circOk m d = true
  tells : ∃ ws, wiresO m d = some ws ∧ plN ws (2 ^ 2 ^ m - 1) (lpI m d.2) = some t
  wr1 : fitsO m o (d.1, -3) = some false
  wr2 : fitsO m o (d.1 ++ [(o.getD 0 0, -1, -2), (o.getD 0 0, -1, -2)], d.2) = some false
  wr3 : 1 < d.1.length → fitsO m o.reverse d = some false
  wr4 : ∀ x, d.1.getLast? = some x → fitsO m o (d.1.dropLast ++ [(x.1, x.2.1, x.2.1)], d.2) = some false ∧ fitsO m o (d.1, -1) = some false ∧ fitsO m o (d.1 ++ [x], d.2) = some false
section
variable {n m t u : Nat} {o : List Nat} {d e : List Node × Int} {ns : List Int} {x1 x2 x3 x4 x5 x6 x7 x8 x9 x10 x11 x12 x13 x14 x15 x16 x17 x18 x19 x20 x21 x22 x23 : Slot}
theorem Fx.O (f : Fx m t u o d e) : Om m o := om_ords f.oin
theorem st0 (hm : m = 1 + ((ns.getD 0 0) % 3).toNat) : exS G0 (T (n+16)) law_s0 [.fz (.list (ns.map .int)), x1, x2, x3, x4, x5, x6, x7, x8, x9, x10, x11, x12, x13, x14, x15, x16, x17, x18, x19, x20, x21, x22, x23] = some (.nx [.fz (.list (ns.map .int)), .fz (N m), x2, x3, x4, x5, x6, x7, x8, x9, x10, x11, x12, x13, x14, x15, x16, x17, x18, x19, x20, x21, x22, x23]) := by
  have e1 : binD .mod (.int (ns.getD 0 0)) (N 3) = some (N (m - 1)) := by
    rw [int_modN (by decide), hm]
    congr 2
    omega
  have e2 : 1 + (m - 1) = m := by omega
  simp -implicitDefEqProofs [law_s0, Df.run, entry, entA, callV, cmpT, chnT, Cop.isIn, k_v, clause, bindTg, wipeT, i0, i1, i2, i3, i4, i5, i6, i7, i8, i9, i15, i30, s_law_cell, -List.getD_eq_getElem?_getD, e1, e2]
theorem st1 (h3 : m ≤ 3) (h : t = ((ns.getD 1 0) % ((2 ^ 2 ^ m : Nat) : Int)).toNat) : exS G0 (T (n+16)) law_s1 [.fz (.list (ns.map .int)), .fz (N m), x2, x3, x4, x5, x6, x7, x8, x9, x10, x11, x12, x13, x14, x15, x16, x17, x18, x19, x20, x21, x22, x23] = some (.nx [.fz (.list (ns.map .int)), .fz (N m), .fz (tbD m t), x3, x4, x5, x6, x7, x8, x9, x10, x11, x12, x13, x14, x15, x16, x17, x18, x19, x20, x21, x22, x23]) := by
  have e8 := p2_le h3
  have e1 : binD .mod (.int (ns.getD 1 0)) (N (2 ^ 2 ^ m)) = some (N t) := by rw [int_modN (Nat.two_pow_pos _), h]
  simp -implicitDefEqProofs [law_s1, Df.run, entry, entA, callV, cmpT, chnT, Cop.isIn, k_v, clause, bindTg, wipeT, i0, i1, i2, i3, i4, i5, i6, i7, i8, i9, i15, i30, s_law_cell, n_shl1 (b := m) (by omega), n_shl1 (b := 2 ^ m) (by omega), -List.getD_eq_getElem?_getD, e1]
theorem st2 (h3 : m ≤ 3) (h : u = ((ns.getD 2 0) % ((2 ^ 2 ^ m : Nat) : Int)).toNat) : exS G0 (T (n+16)) law_s2 [.fz (.list (ns.map .int)), .fz (N m), .fz (tbD m t), x3, x4, x5, x6, x7, x8, x9, x10, x11, x12, x13, x14, x15, x16, x17, x18, x19, x20, x21, x22, x23] = some (.nx [.fz (.list (ns.map .int)), .fz (N m), .fz (tbD m t), .fz (tbD m u), x4, x5, x6, x7, x8, x9, x10, x11, x12, x13, x14, x15, x16, x17, x18, x19, x20, x21, x22, x23]) := by
  have e8 := p2_le h3
  have e1 : binD .mod (.int (ns.getD 2 0)) (N (2 ^ 2 ^ m)) = some (N u) := by rw [int_modN (Nat.two_pow_pos _), h]
  simp -implicitDefEqProofs [law_s2, Df.run, entry, entA, callV, cmpT, chnT, Cop.isIn, k_v, clause, bindTg, wipeT, i0, i1, i2, i3, i4, i5, i6, i7, i8, i9, i15, i30, s_law_cell, n_shl1 (b := m) (by omega), n_shl1 (b := 2 ^ m) (by omega), -List.getD_eq_getElem?_getD, e1]
theorem st3 (h1 : 1 ≤ m) (h3 : m ≤ 3) : exS G0 (T (n+16)) law_s3 [.fz (.list (ns.map .int)), .fz (N m), .fz (tbD m t), .fz (tbD m u), x4, x5, x6, x7, x8, x9, x10, x11, x12, x13, x14, x15, x16, x17, x18, x19, x20, x21, x22, x23] = some (.nx [.fz (.list (ns.map .int)), .fz (N m), .fz (tbD m t), .fz (tbD m u), .fz (.list ((ords m).map od)), x5, x6, x7, x8, x9, x10, x11, x12, x13, x14, x15, x16, x17, x18, x19, x20, x21, x22, x23]) := by
  simp -implicitDefEqProofs [law_s3, Df.run, entry, entA, callV, cmpT, chnT, Cop.isIn, k_v, clause, bindTg, wipeT, i0, i1, i2, i3, i4, i5, i6, i7, i8, i9, i15, i30, s_all _ _ h1 h3]
theorem st4 (h : (ords m)[((ns.getD 3 0) % ((ords m).length : Int)).toNat]? = some o) : exS G0 (T (n+16)) law_s4 [.fz (.list (ns.map .int)), .fz (N m), .fz (tbD m t), .fz (tbD m u), .fz (.list ((ords m).map od)), x5, x6, x7, x8, x9, x10, x11, x12, x13, x14, x15, x16, x17, x18, x19, x20, x21, x22, x23] = some (.nx [.fz (.list (ns.map .int)), .fz (N m), .fz (tbD m t), .fz (tbD m u), .fz (.list ((ords m).map od)), .fz (od o), x6, x7, x8, x9, x10, x11, x12, x13, x14, x15, x16, x17, x18, x19, x20, x21, x22, x23]) := by
  have hl : 0 < (ords m).length := by
    have := (List.getElem?_eq_some_iff.mp h).1
    omega
  have e1 := int_modN (i := ns.getD 3 0) hl
  simp -implicitDefEqProofs [law_s4, Df.run, entry, entA, callV, cmpT, chnT, Cop.isIn, k_v, clause, bindTg, wipeT, i0, i1, i2, i3, i4, i5, i6, i7, i8, i9, i15, i30, s_law_cell, -List.getD_eq_getElem?_getD, e1, n_idxM, h]
theorem st5 (f : Fx m t u o d e) : exS G0 (T (n+16)) law_s5 [.fz (.list (ns.map .int)), .fz (N m), .fz (tbD m t), .fz (tbD m u), .fz (.list ((ords m).map od)), .fz (od o), x6, x7, x8, x9, x10, x11, x12, x13, x14, x15, x16, x17, x18, x19, x20, x21, x22, x23] = some (.nx [.fz (.list (ns.map .int)), .fz (N m), .fz (tbD m t), .fz (tbD m u), .fz (.list ((ords m).map od)), .fz (od o), .fz (diaD o d), x7, x8, x9, x10, x11, x12, x13, x14, x15, x16, x17, x18, x19, x20, x21, x22, x23]) := by
  simp -implicitDefEqProofs [law_s5, Df.run, entry, entA, callV, cmpT, chnT, Cop.isIn, k_v, clause, bindTg, wipeT, i0, i1, i2, i3, i4, i5, i6, i7, i8, i9, i15, i30, s_law_diagram _ _ _ _ _ f.O.h1 f.O.h3 f.O.ho f.O.hp f.hld]
theorem len_o (f : Fx m t u o d e) : o.length ≤ 1000 := by rw [f.O.ho]; have := f.O.h3; omega
theorem st6 (f : Fx m t u o d e) : exS G0 (T (n+16)) law_s6 [.fz (.list (ns.map .int)), .fz (N m), .fz (tbD m t), .fz (tbD m u), .fz (.list ((ords m).map od)), .fz (od o), .fz (diaD o d), x7, x8, x9, x10, x11, x12, x13, x14, x15, x16, x17, x18, x19, x20, x21, x22, x23] = some (.nx [.fz (.list (ns.map .int)), .fz (N m), .fz (tbD m t), .fz (tbD m u), .fz (.list ((ords m).map od)), .fz (od o), .fz (diaD o d), .fz (diaD o d), x8, x9, x10, x11, x12, x13, x14, x15, x16, x17, x18, x19, x20, x21, x22, x23]) := by
  have hl := len_o f
  simp -implicitDefEqProofs [law_s6, Df.run, entry, entA, callV, cmpT, chnT, Cop.isIn, k_v, clause, bindTg, wipeT, i0, i1, i2, i3, i4, i5, i6, i7, i8, i9, i15, i30, listed_ok n (d := .tuple [N m, N t]) rfl dptT, listed_ok n (d := od o) (ok_od hl) (Nat.le_trans dpt_od (by decide)), s_diagram (n+9) m t o d f.O f.ht f.hd (lstD (tbD m t)) (lstD (od o)) tup_tbl (tup_odl hl) rfl rfl, show isDict (lstD (tbD m t)) = false from rfl, show isDict (lstD (od o)) = false from rfl]
theorem st7 (f : Fx m t u o d e) : exS G0 (T (n+16)) law_s7 [.fz (.list (ns.map .int)), .fz (N m), .fz (tbD m t), .fz (tbD m u), .fz (.list ((ords m).map od)), .fz (od o), .fz (diaD o d), .fz (diaD o d), x8, x9, x10, x11, x12, x13, x14, x15, x16, x17, x18, x19, x20, x21, x22, x23] = some (.nx [.fz (.list (ns.map .int)), .fz (N m), .fz (tbD m t), .fz (tbD m u), .fz (.list ((ords m).map od)), .fz (od o), .fz (diaD o d), .fz (diaD o d), x8, x9, x10, x11, x12, x13, x14, x15, x16, x17, x18, x19, x20, x21, x22, x23]) := by
  have hl := len_o f
  have hdl := made_len f.hd
  have a1 := same_ok n (d := diaD o d) (ok_dia hl hdl) (Nat.le_trans dpt_dia (by decide))
  have a2 := listed_ok n (d := diaD o d) (ok_dia hl hdl) (Nat.le_trans dpt_dia (by decide))
  have a3 := s_is_diagram (n+7) m o d true f.O f.hf (lstD (diaD o d)) (tup_dial hl hdl) rfl
  have a4 := s_table_by (n+7) m t o d f.O f.hf f.htab
  have a5 := same_ok n (d := tbD m t) rfl dptT
  have a6 := s_size (n+8) m t o d f.O f.ht f.hd
  have a7 := same_ok n (d := N d.1.length) rfl dptN
  have a8 : isDict (lstD (diaD o d)) = false := rfl
  simp only [diaD] at a1 a2 a3 a4 a8 ⊢
  simp -implicitDefEqProofs [law_s7, Df.run, entry, entA, callV, cmpT, chnT, Cop.isIn, k_v, clause, bindTg, wipeT, i0, i1, i2, i3, i4, i5, i6, i7, i8, i9, i15, i30, a1, a2, a3, a4, a5, a6, a7, a8]
theorem st8 (f : Fx m t u o d e) : ∃ y8, exS G0 (T (n+16)) law_s8 [.fz (.list (ns.map .int)), .fz (N m), .fz (tbD m t), .fz (tbD m u), .fz (.list ((ords m).map od)), .fz (od o), .fz (diaD o d), .fz (diaD o d), x8, x9, x10, x11, x12, x13, x14, x15, x16, x17, x18, x19, x20, x21, x22, x23] = some (.nx [.fz (.list (ns.map .int)), .fz (N m), .fz (tbD m t), .fz (tbD m u), .fz (.list ((ords m).map od)), .fz (od o), .fz (diaD o d), .fz (diaD o d), y8, x9, x10, x11, x12, x13, x14, x15, x16, x17, x18, x19, x20, x21, x22, x23]) := by
  have e8 := p2_le f.O.h3
  have hm3 := f.O.h3
  have key := forS_foldI (G := G0) (F := T (n+16)) (tg := .n 8) (b := [S.ife (E.call 65 [false, false] [E.call 40 [false, false] [E.v 6, E.v 8], E.call 68 [false, false] [(E.v 2).idx (E.c (N 1)), E.v 8]]).not [S.ret (E.c (PyData.bool false))] []])
    (xs := List.range (2 ^ m)) (e := N) (step := fun (s : Unit) (_ : Nat) => s) (fun i s τ => ∃ y8, τ = [.fz (.list (ns.map .int)), .fz (N m), .fz (tbD m t), .fz (tbD m u), .fz (.list ((ords m).map od)), .fz (od o), .fz (diaD o d), .fz (diaD o d), y8, x9, x10, x11, x12, x13, x14, x15, x16, x17, x18, x19, x20, x21, x22, x23]) () [.fz (.list (ns.map .int)), .fz (N m), .fz (tbD m t), .fz (tbD m u), .fz (.list ((ords m).map od)), .fz (od o), .fz (diaD o d), .fz (diaD o d), x8, x9, x10, x11, x12, x13, x14, x15, x16, x17, x18, x19, x20, x21, x22, x23] (fun i row hi s τ hR => ?_) ⟨_, rfl⟩
  · obtain ⟨τ', e1, y8, rfl⟩ := key
    refine ⟨y8, ?_⟩
    simp -implicitDefEqProofs [law_s8, Df.run, entry, entA, callV, cmpT, chnT, Cop.isIn, k_v, clause, bindTg, wipeT, i0, i1, i2, i3, i4, i5, i6, i7, i8, i9, i15, i30, n_shl1 (b := m) (by omega), n_range (n := 2 ^ m) (by omega), n_rng]
    exact e1
  · obtain ⟨y8, rfl⟩ := hR
    have hrow : row < 2 ^ m := List.mem_range.mp (List.mem_of_getElem? hi)
    have b1 := s_bit_by (n+7) m row _ o d f.O f.hf hrow (f.rows row hrow)
    refine ⟨_, ?_, .fz (N row), rfl⟩
    simp -implicitDefEqProofs [Df.run, entry, entA, callV, cmpT, chnT, Cop.isIn, k_v, clause, bindTg, wipeT, i0, i1, i2, i3, i4, i5, i6, i7, i8, i9, i15, i30, b1, s_law_bit _ t row (by omega), same_ok n (d := N (bit t row)) rfl dptN, show isDict (diaD o d) = false from rfl]
theorem szT_of {m t : Nat} {o : List Nat} {d : List Node × Int} (h : madeO m t o = some d) : szT m t o = d.1.length := by unfold szT; rw [h]
theorem st9 (f : Fx m t u o d e) : exS G0 (T (n+16)) law_s9 [.fz (.list (ns.map .int)), .fz (N m), .fz (tbD m t), .fz (tbD m u), .fz (.list ((ords m).map od)), .fz (od o), .fz (diaD o d), .fz (diaD o d), x8, x9, x10, x11, x12, x13, x14, x15, x16, x17, x18, x19, x20, x21, x22, x23] = some (.nx [.fz (.list (ns.map .int)), .fz (N m), .fz (tbD m t), .fz (tbD m u), .fz (.list ((ords m).map od)), .fz (od o), .fz (diaD o d), .fz (diaD o d), x8, .fz (.list (((ords m).map (szT m t)).map N)), x10, x11, x12, x13, x14, x15, x16, x17, x18, x19, x20, x21, x22, x23]) := by
  have hl := len_ords m
  simp -implicitDefEqProofs [law_s9, Df.run, entry, entA, callV, cmpT, chnT, Cop.isIn, k_v, clause, bindTg, wipeT, i0, i1, i2, i3, i4, i5, i6, i7, i8, i9, i15, i30]
  rw [genGo_map (g := fun o => N (szT m t o))]
  · simp -implicitDefEqProofs [ck_map (f := fun o => N (szT m t o)) (xs := ords m) (by omega)]
  · intro o' ho'
    obtain ⟨d', h1, h2⟩ := f.every o' ho'
    have O' := om_ords ho'
    have e1 := s_law_diagram (n+10) m t o' d' O'.h1 O'.h3 O'.ho O'.hp h2
    simp only [diaD] at e1
    simp -implicitDefEqProofs [Df.run, entry, entA, callV, cmpT, chnT, Cop.isIn, k_v, clause, bindTg, wipeT, i0, i1, i2, i3, i4, i5, i6, i7, i8, i9, i15, i30, e1, szT_of h1]
theorem st10 (f : Fx m t u o d e) : exS G0 (T (n+16)) law_s10 [.fz (.list (ns.map .int)), .fz (N m), .fz (tbD m t), .fz (tbD m u), .fz (.list ((ords m).map od)), .fz (od o), .fz (diaD o d), .fz (diaD o d), x8, .fz (.list (((ords m).map (szT m t)).map N)), x10, x11, x12, x13, x14, x15, x16, x17, x18, x19, x20, x21, x22, x23] = some (.nx [.fz (.list (ns.map .int)), .fz (N m), .fz (tbD m t), .fz (tbD m u), .fz (.list ((ords m).map od)), .fz (od o), .fz (diaD o d), .fz (diaD o d), x8, .fz (.list (((ords m).map (szT m t)).map N)), x10, x11, x12, x13, x14, x15, x16, x17, x18, x19, x20, x21, x22, x23]) := by
  have hl := len_ords m
  have e8 := p2_le f.O.h3
  have hm3 := f.O.h3
  have hne : ords m ≠ [] := fun z => by have := f.oin; rw [z] at this; cases this
  have hne2 : (ords m).map (szT m t) ≠ [] := fun z => hne (by simpa using z)
  have b1 := s_sizes (n+8) m t f.O.h1 f.O.h3 f.ht fun o' h' => (f.every o' h').elim fun d' z => by rw [z.1]; rfl
  have hmm : minL ((ords m).map (szT m t)) ∈ (ords m).map (szT m t) := minL_mem hne2
  have hlt : ((ords m).map (szT m t)).idxOf (minL ((ords m).map (szT m t))) < (ords m).length := by
    have := List.idxOf_lt_length_of_mem hmm
    simpa using this
  obtain ⟨b, hb⟩ : ∃ b, (ords m)[((ords m).map (szT m t)).idxOf (minL ((ords m).map (szT m t)))]? = some b := ⟨_, List.getElem?_eq_getElem hlt⟩
  have b2 := s_best_order (n+8) m t b f.O.h1 f.O.h3 f.ht (fun o' h' => (f.every o' h').elim fun d' z => by rw [z.1]; rfl) (by rw [f.best, hb])
  have hbl : b.length ≤ 1000 := by
    have O' := om_ords (List.mem_of_getElem? hb)
    rw [O'.ho]; have := O'.h3; omega
  have b3 := s_ways (n+7) m _ o d f.O f.hf f.ways
  have a1 : T (n+16) 65 [.tuple ((ords m).map fun o => N (szT m t o)), .tuple ((ords m).map fun o => N (szT m t o))] = some (.bool true) := same_ok n (by
    show (decide (((ords m).map fun o => N (szT m t o)).length ≤ 1000) && isOks ((ords m).map fun o => N (szT m t o))) = true
    rw [decide_eq_true (by simp; omega), isOks_map (fun _ _ => rfl)]; rfl) (by
    have := dpts_map (f := fun o => N (szT m t o)) (c := 0) (xs := ords m) fun a _ => by simp [N, dpt]
    show 1 + dpts ((ords m).map fun o => N (szT m t o)) ≤ 10
    omega)
  have a2 := same_ok n (d := od b) (ok_od hbl) (Nat.le_trans dpt_od (by decide))
  have a3 := same_ok n (d := N ((List.range (2 ^ m)).map (bit t)).sum) rfl dptN
  have em : ((ords m).map (szT m t)).map N = (ords m).map fun o => N (szT m t o) := by rw [List.map_map]; rfl
  have mn := min_N hne2
  have ix := index_list hmm
  rw [em] at mn ix
  simp -implicitDefEqProofs [law_s10, Df.run, entry, entA, callV, cmpT, chnT, Cop.isIn, k_v, clause, bindTg, wipeT, i0, i1, i2, i3, i4, i5, i6, i7, i8, i9, i15, i30, b1, em, a1, b2, mn, ix, n_idxM, hb, a2, show isDict (diaD o d) = false from rfl, b3, n_shl1 (b := m) (by omega), n_range (n := 2 ^ m) (by omega)]
  rw [genGo_N (g := fun row => N (bit t row))]
  · simp -implicitDefEqProofs [ck_map (f := fun row => N (bit t row)) (xs := List.range (2 ^ m)) (by simp; omega), n_sum, a3]
  · intro row hrow
    simp -implicitDefEqProofs [Df.run, entry, entA, callV, cmpT, chnT, Cop.isIn, k_v, clause, bindTg, wipeT, i0, i1, i2, i3, i4, i5, i6, i7, i8, i9, i15, i30, s_law_bit _ t row (by omega)]
theorem len_lfold {m : Nat} : ∀ (ps : List Nat) (l : List Nat), (ps.foldl (fun rows p => rows.flatMap fun one => [lheldN m one p 0, lheldN m one p 1]) l).length = l.length * 2 ^ ps.length
  | [], l => by simp
  | p :: ps, l => by
    rw [List.foldl_cons, len_lfold ps, len_flat2, List.length_cons, Nat.pow_succ]
    rw [Nat.mul_comm 2, Nat.mul_assoc, Nat.mul_comm 2]
theorem len_lkin {m t k : Nat} {o : List Nat} (h : o.length ≤ 3) : (lkinTabs m t (o.take k)).length ≤ 8 := by
  have h1 := len_sortN ((o.take k).foldl (fun rows p => rows.flatMap fun one => [lheldN m one p 0, lheldN m one p 1]) [t])
  rw [len_lfold] at h1
  have h2 : 2 ^ (o.take k).length ≤ 8 := p2_le (by rw [List.length_take]; omega)
  simp only [List.length_cons, List.length_nil] at h1
  unfold lkinTabs
  omega
theorem ok_tabs {m : Nat} {l : List Nat} (h : l.length ≤ 1000) : isOk (.tuple (l.map (tbD m))) = true := by
  show (decide ((l.map (tbD m)).length ≤ 1000) && isOks (l.map (tbD m))) = true
  rw [decide_eq_true (by simpa using h), isOks_map (fun _ _ => rfl)]; rfl
theorem dpt_tabs {m : Nat} {l : List Nat} : dpt (.tuple (l.map (tbD m))) ≤ 10 := by
  have := dpts_map (f := tbD m) (c := 1) (xs := l) fun a _ => Nat.le_refl _
  show 1 + dpts (l.map (tbD m)) ≤ 10
  omega
theorem st11 (f : Fx m t u o d e) : ∃ y10, exS G0 (T (n+16)) law_s11 [.fz (.list (ns.map .int)), .fz (N m), .fz (tbD m t), .fz (tbD m u), .fz (.list ((ords m).map od)), .fz (od o), .fz (diaD o d), x7, x8, x9, x10, x11, x12, x13, x14, x15, x16, x17, x18, x19, x20, x21, x22, x23] = some (.nx [.fz (.list (ns.map .int)), .fz (N m), .fz (tbD m t), .fz (tbD m u), .fz (.list ((ords m).map od)), .fz (od o), .fz (diaD o d), x7, x8, x9, y10, x11, x12, x13, x14, x15, x16, x17, x18, x19, x20, x21, x22, x23]) := by
  have hm3 := f.O.h3
  have ho3 : o.length ≤ 3 := by rw [f.O.ho]; exact hm3
  have key := forS_foldI (G := G0) (F := T (n+16)) (tg := .n 10) (b := [S.ife (E.call 65 [false, false] [E.call 46 [false, false, false] [E.v 2, E.v 5, E.v 10], E.call 73 [false, false, false] [E.v 2, E.v 5, E.v 10]]).not [S.ret (E.c (PyData.bool false))] []])
    (xs := List.range (m + 1)) (e := N) (step := fun (s : Unit) (_ : Nat) => s) (fun i s τ => ∃ y10, τ = [.fz (.list (ns.map .int)), .fz (N m), .fz (tbD m t), .fz (tbD m u), .fz (.list ((ords m).map od)), .fz (od o), .fz (diaD o d), x7, x8, x9, y10, x11, x12, x13, x14, x15, x16, x17, x18, x19, x20, x21, x22, x23]) () [.fz (.list (ns.map .int)), .fz (N m), .fz (tbD m t), .fz (tbD m u), .fz (.list ((ords m).map od)), .fz (od o), .fz (diaD o d), x7, x8, x9, x10, x11, x12, x13, x14, x15, x16, x17, x18, x19, x20, x21, x22, x23] (fun i k hi s τ hR => ?_) ⟨_, rfl⟩
  · obtain ⟨τ', e1, y10, rfl⟩ := key
    refine ⟨y10, ?_⟩
    simp -implicitDefEqProofs [law_s11, Df.run, entry, entA, callV, cmpT, chnT, Cop.isIn, k_v, clause, bindTg, wipeT, i0, i1, i2, i3, i4, i5, i6, i7, i8, i9, i15, i30, n_range (n := m + 1) (by omega), n_rng]
    exact e1
  · obtain ⟨y10, rfl⟩ := hR
    have hk : k < m + 1 := List.mem_range.mp (List.mem_of_getElem? hi)
    have b1 := s_kin (n+10) m t k o f.O f.ht (by omega)
    rw [f.kin k (by omega)] at b1
    have hl := len_lkin (m := m) (t := t) (k := k) ho3
    refine ⟨_, ?_, .fz (N k), rfl⟩
    simp -implicitDefEqProofs [Df.run, entry, entA, callV, cmpT, chnT, Cop.isIn, k_v, clause, bindTg, wipeT, i0, i1, i2, i3, i4, i5, i6, i7, i8, i9, i15, i30, b1, s_law_kin _ m t k o f.O.h3 f.O.ho f.O.hp, same_ok n (ok_tabs (m := m) (l := lkinTabs m t (o.take k)) (by omega)) dpt_tabs]
theorem st12 (f : Fx m t u o d e) : exS G0 (T (n+16)) law_s12 [.fz (.list (ns.map .int)), .fz (N m), .fz (tbD m t), .fz (tbD m u), .fz (.list ((ords m).map od)), .fz (od o), .fz (diaD o d), x7, x8, x9, x10, x11, x12, x13, x14, x15, x16, x17, x18, x19, x20, x21, x22, x23] = some (.nx [.fz (.list (ns.map .int)), .fz (N m), .fz (tbD m t), .fz (tbD m u), .fz (.list ((ords m).map od)), .fz (od o), .fz (diaD o d), x7, x8, x9, x10, x11, x12, x13, x14, x15, x16, x17, x18, x19, x20, x21, x22, x23]) := by
  have hm3 := f.O.h3
  have ho3 : o.length ≤ 3 := by rw [f.O.ho]; exact hm3
  have hc := f.cnt
  simp -implicitDefEqProofs [law_s12, Df.run, entry, entA, callV, cmpT, chnT, Cop.isIn, k_v, clause, bindTg, wipeT, i0, i1, i2, i3, i4, i5, i6, i7, i8, i9, i15, i30, diaD, n_range (n := m) (by omega)]
  rw [genGo_N (g := fun k => N ((lkinTabs m t (o.take k)).filter fun one => lhangs m one (o.getD k 0)).length)]
  · simp -implicitDefEqProofs [ck_map (f := fun k => N ((lkinTabs m t (o.take k)).filter fun one => lhangs m one (o.getD k 0)).length) (xs := List.range m) (by simp; omega), n_sum, -List.getD_eq_getElem?_getD, ← hc]
  · intro k hk
    have hg : o[k]? = some (o.getD k 0) := by rw [List.getD_eq_getElem?_getD, List.getElem?_eq_getElem (by rw [f.O.ho]; exact hk)]; rfl
    have hp := f.O.hp _ (List.mem_of_getElem? hg)
    have hl := len_lkin (m := m) (t := t) (k := k) ho3
    generalize o.getD k 0 = p at *
    simp -implicitDefEqProofs [Df.run, entry, entA, callV, cmpT, chnT, Cop.isIn, k_v, clause, bindTg, wipeT, i0, i1, i2, i3, i4, i5, i6, i7, i8, i9, i15, i30, s_law_kin _ m t k o f.O.h3 f.O.ho f.O.hp]
    rw [genGo_filter (g := tbD m) (p := fun one => lhangs m one p)]
    · simp -implicitDefEqProofs [ck_map (f := tbD m) (xs := (lkinTabs m t (o.take k)).filter fun one => lhangs m one p) (Nat.le_trans (List.length_filter_le _ _) (by omega))]
    · intro one hone
      simp -implicitDefEqProofs [Df.run, entry, entA, callV, cmpT, chnT, Cop.isIn, k_v, clause, bindTg, wipeT, i0, i1, i2, i3, i4, i5, i6, i7, i8, i9, i15, i30, n_idxMT, hg, s_law_hangs _ m one p f.O.h3 hp]
      cases lhangs m one p <;> simp
theorem st13 (f : Fx m t u o d e) : exS G0 (T (n+16)) law_s13 [.fz (.list (ns.map .int)), .fz (N m), .fz (tbD m t), .fz (tbD m u), .fz (.list ((ords m).map od)), .fz (od o), .fz (diaD o d), x7, x8, x9, x10, x11, x12, x13, x14, x15, x16, x17, x18, x19, x20, x21, x22, x23] = some (.nx [.fz (.list (ns.map .int)), .fz (N m), .fz (tbD m t), .fz (tbD m u), .fz (.list ((ords m).map od)), .fz (od o), .fz (diaD o d), x7, x8, x9, x10, .fz (tbD m (t &&& u)), x12, x13, x14, x15, x16, x17, x18, x19, x20, x21, x22, x23]) := by
  have hm3 := f.O.h3
  have e8 := p2_le f.O.h3
  have hb := f.bits1
  simp -implicitDefEqProofs [law_s13, Df.run, entry, entA, callV, cmpT, chnT, Cop.isIn, k_v, clause, bindTg, wipeT, i0, i1, i2, i3, i4, i5, i6, i7, i8, i9, i15, i30, n_shl1 (b := m) (by omega), n_range (n := 2 ^ m) (by omega)]
  rw [genGo_NF (g := fun row => N (2 ^ row)) (p := fun row => decide (bit t row + bit u row = 2))]
  · have := ck_map (f := fun row => N (2 ^ row)) (xs := (List.range (2 ^ m)).filter fun row => decide (bit t row + bit u row = 2)) (Nat.le_trans (List.length_filter_le _ _) (by simp; omega))
    simp only [Option.bind_some, Function.comp, this, n_sum, hb]
    simp
  · intro row hrow
    simp -implicitDefEqProofs [Df.run, entry, entA, callV, cmpT, chnT, Cop.isIn, k_v, clause, bindTg, wipeT, i0, i1, i2, i3, i4, i5, i6, i7, i8, i9, i15, i30, s_law_bit _ t row (by omega), s_law_bit _ u row (by omega), n_shl1 (b := row) (by omega)]
    split <;> simp_all
theorem st14 (f : Fx m t u o d e) : exS G0 (T (n+16)) law_s14 [.fz (.list (ns.map .int)), .fz (N m), .fz (tbD m t), .fz (tbD m u), .fz (.list ((ords m).map od)), .fz (od o), .fz (diaD o d), x7, x8, x9, x10, .fz (tbD m (t &&& u)), x12, x13, x14, x15, x16, x17, x18, x19, x20, x21, x22, x23] = some (.nx [.fz (.list (ns.map .int)), .fz (N m), .fz (tbD m t), .fz (tbD m u), .fz (.list ((ords m).map od)), .fz (od o), .fz (diaD o d), x7, x8, x9, x10, .fz (tbD m (t &&& u)), .fz (tbD m (t ||| u)), x13, x14, x15, x16, x17, x18, x19, x20, x21, x22, x23]) := by
  have hm3 := f.O.h3
  have e8 := p2_le f.O.h3
  have hb := f.bits2
  simp -implicitDefEqProofs [law_s14, Df.run, entry, entA, callV, cmpT, chnT, Cop.isIn, k_v, clause, bindTg, wipeT, i0, i1, i2, i3, i4, i5, i6, i7, i8, i9, i15, i30, n_shl1 (b := m) (by omega), n_range (n := 2 ^ m) (by omega)]
  rw [genGo_NF (g := fun row => N (2 ^ row)) (p := fun row => decide (0 < bit t row + bit u row))]
  · have := ck_map (f := fun row => N (2 ^ row)) (xs := (List.range (2 ^ m)).filter fun row => decide (0 < bit t row + bit u row)) (Nat.le_trans (List.length_filter_le _ _) (by simp; omega))
    simp only [Option.bind_some, Function.comp, this, n_sum, hb]
    simp
  · intro row hrow
    simp -implicitDefEqProofs [Df.run, entry, entA, callV, cmpT, chnT, Cop.isIn, k_v, clause, bindTg, wipeT, i0, i1, i2, i3, i4, i5, i6, i7, i8, i9, i15, i30, s_law_bit _ t row (by omega), s_law_bit _ u row (by omega), n_shl1 (b := row) (by omega)]
    split <;> simp_all
theorem st15 (f : Fx m t u o d e) : exS G0 (T (n+16)) law_s15 [.fz (.list (ns.map .int)), .fz (N m), .fz (tbD m t), .fz (tbD m u), .fz (.list ((ords m).map od)), .fz (od o), .fz (diaD o d), x7, x8, x9, x10, .fz (tbD m (t &&& u)), .fz (tbD m (t ||| u)), x13, x14, x15, x16, x17, x18, x19, x20, x21, x22, x23] = some (.nx [.fz (.list (ns.map .int)), .fz (N m), .fz (tbD m t), .fz (tbD m u), .fz (.list ((ords m).map od)), .fz (od o), .fz (diaD o d), x7, x8, x9, x10, .fz (tbD m (t &&& u)), .fz (tbD m (t ||| u)), x13, x14, x15, x16, x17, x18, x19, x20, x21, x22, x23]) := by
  obtain ⟨r, hr, hlr⟩ := f.meets
  obtain ⟨q, hq, hlq⟩ := f.joins
  have hl := len_o f
  have b1 := s_law_diagram (n+10) m u o e f.O.h1 f.O.h3 f.O.ho f.O.hp f.hle
  have b2 := s_law_diagram (n+10) m (t &&& u) o r f.O.h1 f.O.h3 f.O.ho f.O.hp hlr
  have b3 := s_law_diagram (n+10) m (t ||| u) o q f.O.h1 f.O.h3 f.O.ho f.O.hp hlq
  have c1 := s_met_by (n+6) m t u o d e r f.O f.hf f.hfe f.htab f.htabe f.ht f.hu hr
  have c2 := s_either_by (n+6) m t u o d e q f.O f.hf f.hfe f.htab f.htabe f.ht f.hu hq
  have a1 := same_ok n (d := diaD o r) (ok_dia hl (made_len hr)) (Nat.le_trans dpt_dia (by decide))
  have a2 := same_ok n (d := diaD o q) (ok_dia hl (made_len hq)) (Nat.le_trans dpt_dia (by decide))
  simp -implicitDefEqProofs [law_s15, Df.run, entry, entA, callV, cmpT, chnT, Cop.isIn, k_v, clause, bindTg, wipeT, i0, i1, i2, i3, i4, i5, i6, i7, i8, i9, i15, i30, b1, b2, b3, c1, c2, a1, a2, show ∀ x, isDict (diaD o x) = false from fun _ => rfl]
theorem st16 (f : Fx m t u o d e) : ∃ y13 y17, exS G0 (T (n+16)) law_s16 [.fz (.list (ns.map .int)), .fz (N m), .fz (tbD m t), .fz (tbD m u), .fz (.list ((ords m).map od)), .fz (od o), .fz (diaD o d), x7, x8, x9, x10, .fz (tbD m (t &&& u)), .fz (tbD m (t ||| u)), x13, x14, x15, x16, x17, x18, x19, x20, x21, x22, x23] = some (.nx [.fz (.list (ns.map .int)), .fz (N m), .fz (tbD m t), .fz (tbD m u), .fz (.list ((ords m).map od)), .fz (od o), .fz (diaD o d), x7, x8, x9, x10, .fz (tbD m (t &&& u)), .fz (tbD m (t ||| u)), y13, x14, x15, x16, y17, x18, x19, x20, x21, x22, x23]) := by
  have hm1 := f.O.h1
  have hm3 := f.O.h3
  have hl := len_o f
  have ho := f.O.ho
  have key := forS_foldI (G := G0) (F := T (n+16)) (tg := .n 13) (b := [S.set 17 false (E.bin Bop.add (E.bin Bop.add (E.cut false true (E.v 5) (E.c PyData.none) (E.v 13)) (E.tup [(E.v 5).idx (E.bin Bop.add (E.v 13) (E.c (N 1))), (E.v 5).idx (E.v 13)])) (E.cut true false (E.v 5) (E.bin Bop.add (E.v 13) (E.c (N 2))) (E.c PyData.none))), S.ife (E.call 65 [false, false] [E.call 53 [false, false, false] [E.v 6, E.v 13, E.v 1], E.call 74 [false, false] [E.v 2, E.v 17]]).not [S.ret (E.c (PyData.bool false))] []])
    (xs := List.range (m - 1)) (e := N) (step := fun (s : Unit) (_ : Nat) => s) (fun i s τ => ∃ y13 y17, τ = [.fz (.list (ns.map .int)), .fz (N m), .fz (tbD m t), .fz (tbD m u), .fz (.list ((ords m).map od)), .fz (od o), .fz (diaD o d), x7, x8, x9, x10, .fz (tbD m (t &&& u)), .fz (tbD m (t ||| u)), y13, x14, x15, x16, y17, x18, x19, x20, x21, x22, x23]) () [.fz (.list (ns.map .int)), .fz (N m), .fz (tbD m t), .fz (tbD m u), .fz (.list ((ords m).map od)), .fz (od o), .fz (diaD o d), x7, x8, x9, x10, .fz (tbD m (t &&& u)), .fz (tbD m (t ||| u)), x13, x14, x15, x16, x17, x18, x19, x20, x21, x22, x23] (fun i p hi s τ hR => ?_) ⟨_, _, rfl⟩
  · obtain ⟨τ', e1, y13, y17, rfl⟩ := key
    refine ⟨y13, y17, ?_⟩
    simp -implicitDefEqProofs [law_s16, Df.run, entry, entA, callV, cmpT, chnT, Cop.isIn, k_v, clause, bindTg, wipeT, i0, i1, i2, i3, i4, i5, i6, i7, i8, i9, i15, i30, n_sub hm1, n_range (n := m - 1) (by omega), n_rng]
    exact e1
  · obtain ⟨y13, y17, rfl⟩ := hR
    have hp : p < m - 1 := List.mem_range.mp (List.mem_of_getElem? hi)
    obtain ⟨hs, r, hr, hlr⟩ := f.swap p (by omega)
    have O2 := om_ords hs
    have b1 := s_swapped (n+6) m t p o d r f.O f.hf f.htab f.ht (by omega) O2 hr
    have b2 := s_law_diagram (n+10) m t (swapO o p) r f.O.h1 f.O.h3 O2.ho O2.hp hlr
    have hl2 : (swapO o p).length ≤ 1000 := by rw [O2.ho]; omega
    have a1 := same_ok n (d := diaD (swapO o p) r) (ok_dia hl2 (made_len hr)) (Nat.le_trans dpt_dia (by decide))
    have g1 : o[p + 1]? = some (o.getD (p + 1) 0) := by rw [List.getD_eq_getElem?_getD, List.getElem?_eq_getElem (by omega)]; rfl
    have g2 : o[p]? = some (o.getD p 0) := by rw [List.getD_eq_getElem?_getD, List.getElem?_eq_getElem (by omega)]; rfl
    have c1 := cut_hi' (o := o) (k := p)
    have c2 : cutD (od o) (some ((p : Int) + 2)) none = some (od (o.drop (p + 2))) := cut_lo' (o := o) (k := p + 2)
    have d1 : binD .add (od (o.take p)) (od [o.getD (p + 1) 0, o.getD p 0]) = some (od (o.take p ++ [o.getD (p + 1) 0, o.getD p 0])) := add_od (by simp; omega)
    have d2 : binD .add (od (o.take p ++ [o.getD (p + 1) 0, o.getD p 0])) (od (o.drop (p + 2))) = some (od (swapO o p)) := add_od (by simp; omega)
    rw [← od2] at d1
    refine ⟨_, ?_, .fz (N p), .fz (od (swapO o p)), rfl⟩
    generalize o.getD (p + 1) 0 = v1 at *
    generalize o.getD p 0 = v2 at *
    generalize swapO o p = so at *
    simp -implicitDefEqProofs [Df.run, entry, entA, callV, cmpT, chnT, Cop.isIn, k_v, clause, bindTg, wipeT, i0, i1, i2, i3, i4, i5, i6, i7, i8, i9, i15, i30, n_idxMT, g1, g2, c1, c2, d1, d2, b1, b2, a1, show ∀ x y, isDict (diaD x y) = false from fun _ _ => rfl]
theorem st17 (f : Fx m t u o d e) : exS G0 (T (n+16)) law_s17 [.fz (.list (ns.map .int)), .fz (N m), .fz (tbD m t), .fz (tbD m u), .fz (.list ((ords m).map od)), .fz (od o), .fz (diaD o d), x7, x8, x9, x10, .fz (tbD m (t &&& u)), .fz (tbD m (t ||| u)), x13, x14, x15, x16, x17, x18, x19, x20, x21, x22, x23] = some (.nx [.fz (.list (ns.map .int)), .fz (N m), .fz (tbD m t), .fz (tbD m u), .fz (.list ((ords m).map od)), .fz (od o), .fz (diaD o d), x7, x8, x9, x10, .fz (tbD m (t &&& u)), .fz (tbD m (t ||| u)), x13, .fz (cirD m d), x15, x16, x17, x18, x19, x20, x21, x22, x23]) := by
  have b1 := s_circuit_by (n+9) m t o d f.O f.ht f.hd
  simp -implicitDefEqProofs [law_s17, Df.run, entry, entA, callV, cmpT, chnT, Cop.isIn, k_v, clause, bindTg, wipeT, i0, i1, i2, i3, i4, i5, i6, i7, i8, i9, i15, i30, s_chosen, b1, show isDict kitD = false from rfl]
theorem add_Ni {a : Nat} {i : Int} : binD .add (N a) (.int i) = some (.int ((a : Int) + i)) := rfl
theorem st18 (f : Fx m t u o d e) : exS G0 (T (n+16)) law_s18 [.fz (.list (ns.map .int)), .fz (N m), .fz (tbD m t), .fz (tbD m u), .fz (.list ((ords m).map od)), .fz (od o), .fz (diaD o d), x7, x8, x9, x10, .fz (tbD m (t &&& u)), .fz (tbD m (t ||| u)), x13, .fz (cirD m d), x15, x16, x17, x18, x19, x20, x21, x22, x23] = some (.nx [.fz (.list (ns.map .int)), .fz (N m), .fz (tbD m t), .fz (tbD m u), .fz (.list ((ords m).map od)), .fz (od o), .fz (diaD o d), x7, x8, x9, x10, .fz (tbD m (t &&& u)), .fz (tbD m (t ||| u)), x13, .fz (cirD m d), .fz (.tuple (d.1.map (lineD m))), x16, x17, x18, x19, x20, x21, x22, x23]) := by
  have hdl := made_len f.hd
  simp -implicitDefEqProofs [law_s18, Df.run, entry, entA, callV, cmpT, chnT, Cop.isIn, k_v, clause, bindTg, wipeT, i0, i1, i2, i3, i4, i5, i6, i7, i8, i9, i15, i30, diaD]
  rw [genGo_map (g := lineD m)]
  · simp -implicitDefEqProofs [ck_map (f := lineD m) (xs := d.1) (by omega)]
  · intro x hx
    simp -implicitDefEqProofs [Df.run, entry, entA, callV, cmpT, chnT, Cop.isIn, k_v, clause, bindTg, wipeT, i0, i1, i2, i3, i4, i5, i6, i7, i8, i9, i15, i30, ndD, lt_iN, add_Ni]
    by_cases h1 : x.2.1 < 0
    · by_cases h2 : x.2.2 < 0
      · simp [h1, h2, lineD, lpI]
      · simp [h1, h2, lineD, lpI]
    · by_cases h2 : x.2.2 < 0
      · simp [h1, h2, lineD, lpI]
      · simp [h1, h2, lineD, lpI]
theorem st19 (f : Fx m t u o d e) : exS G0 (T (n+16)) law_s19 [.fz (.list (ns.map .int)), .fz (N m), .fz (tbD m t), .fz (tbD m u), .fz (.list ((ords m).map od)), .fz (od o), .fz (diaD o d), x7, x8, x9, x10, .fz (tbD m (t &&& u)), .fz (tbD m (t ||| u)), x13, .fz (cirD m d), .fz (.tuple (d.1.map (lineD m))), x16, x17, x18, x19, x20, x21, x22, x23] = some (.nx [.fz (.list (ns.map .int)), .fz (N m), .fz (tbD m t), .fz (tbD m u), .fz (.list ((ords m).map od)), .fz (od o), .fz (diaD o d), x7, x8, x9, x10, .fz (tbD m (t &&& u)), .fz (tbD m (t ||| u)), x13, .fz (cirD m d), .fz (.tuple (d.1.map (lineD m))), x16, x17, x18, x19, x20, x21, x22, x23]) := by
  have hdl := made_len f.hd
  have a1 := same_ok n (d := cirD m d) (ok_cir hdl) (Nat.le_trans dpt_cir (by decide))
  by_cases h : d.2 < 0
  · have e1 : lpI m d.2 = d.2 := if_pos h
    simp only [cirD, e1] at a1 ⊢
    simp -implicitDefEqProofs [law_s19, Df.run, entry, entA, callV, cmpT, chnT, Cop.isIn, k_v, clause, bindTg, wipeT, i0, i1, i2, i3, i4, i5, i6, i7, i8, i9, i15, i30, diaD, lt_iN, add_Ni, h, a1]
  · have e1 : lpI m d.2 = (m : Int) + d.2 := if_neg h
    simp only [cirD, e1] at a1 ⊢
    simp -implicitDefEqProofs [law_s19, Df.run, entry, entA, callV, cmpT, chnT, Cop.isIn, k_v, clause, bindTg, wipeT, i0, i1, i2, i3, i4, i5, i6, i7, i8, i9, i15, i30, diaD, lt_iN, add_Ni, h, a1]
theorem ne_nil : cmpD .ne (.list []) (.list []) = some false := rfl
theorem ne_str {x y : Str} : cmpD .ne (.str x) (.str y) = some (!decide (x = y)) := rfl
theorem genGo_nil {f : D → Option (List D)} : ∀ {xs : List D}, (∀ x ∈ xs, f x = some []) → genGo f xs = some []
  | [], _ => rfl
  | x :: r, h => by
    show (f x).bind (fun y => (genGo f r).map (y ++ ·)) = _
    rw [h x List.mem_cons_self, genGo_nil fun y hy => h y (List.mem_cons_of_mem _ hy)]; rfl
theorem st20 (f : Fx m t u o d e) : exS G0 (T (n+16)) law_s20 [.fz (.list (ns.map .int)), .fz (N m), .fz (tbD m t), .fz (tbD m u), .fz (.list ((ords m).map od)), .fz (od o), .fz (diaD o d), x7, x8, x9, x10, .fz (tbD m (t &&& u)), .fz (tbD m (t ||| u)), x13, .fz (cirD m d), .fz (.tuple (d.1.map (lineD m))), x16, x17, x18, x19, x20, x21, x22, x23] = some (.nx [.fz (.list (ns.map .int)), .fz (N m), .fz (tbD m t), .fz (tbD m u), .fz (.list ((ords m).map od)), .fz (od o), .fz (diaD o d), x7, x8, x9, x10, .fz (tbD m (t &&& u)), .fz (tbD m (t ||| u)), x13, .fz (cirD m d), .fz (.tuple (d.1.map (lineD m))), x16, x17, x18, x19, x20, x21, x22, x23]) := by
  obtain ⟨ws, hw, hb⟩ := f.tells
  have b1 := s_tells (n+8) m t d ws f.O.h1 f.O.h3 f.circ hw hb
  have a1 : T (n+16) 65 [.tuple [.tuple [N m, N t]], .tuple [.tuple [N m, N t]]] = some (.bool true) := same_ok n rfl (show 2 ≤ 10 by decide)
  simp only [cirD] at b1 ⊢
  simp -implicitDefEqProofs [law_s20, Df.run, entry, entA, callV, cmpT, chnT, Cop.isIn, k_v, clause, bindTg, wipeT, i0, i1, i2, i3, i4, i5, i6, i7, i8, i9, i15, i30, s_chosen, b1, a1, diaD, show isDict kitD = false from rfl]
  rw [genGo_nil]
  · simp -implicitDefEqProofs [ck_lst (ds := []) (by simp), ne_nil]
  · intro x hx
    obtain ⟨y, _, rfl⟩ := List.mem_map.mp hx
    simp -implicitDefEqProofs [Df.run, entry, entA, callV, cmpT, chnT, Cop.isIn, k_v, clause, bindTg, wipeT, i0, i1, i2, i3, i4, i5, i6, i7, i8, i9, i15, i30, lineD, ne_str]
def W0 (o : List Nat) (d : List Node × Int) : List D := [N 7, diaD o (d.1, -3), diaD o (d.1 ++ [(o.getD 0 0, -1, -2), (o.getD 0 0, -1, -2)], d.2), if 1 < d.1.length then diaD o.reverse d else N 8]
def W1 (o : List Nat) (d : List Node × Int) : List D := match d.1.getLast? with
  | some x => W0 o d ++ [diaD o (d.1.dropLast ++ [(x.1, x.2.1, x.2.1)], d.2), diaD o (d.1, -1), diaD o (d.1 ++ [x], d.2)]
  | none => W0 o d
theorem mul_t2 {x : D} : binD .mul (.tuple [x]) (N 2) = some (.tuple [x, x]) := by
  show (if ([x] : List D) ≠ [] ∧ 2 ≤ ((2 : Nat) : Int) ∧ ((2 : Nat) : Int) ≤ 1000 ∧ ([x] : List D).length ≤ 1000 then some (PyData.tuple (repL [x] ((2 : Nat) : Int).toNat)) else none) = _
  rw [if_pos ⟨by simp, by decide, by decide, by simp⟩]; rfl
theorem ne_nodes {l : List Node} : cmpD .ne (.tuple (l.map ndD)) (.tuple []) = some (!l.isEmpty) := by
  have h1 : isID (.tuple (l.map ndD)) = true := isIDs_map (fun _ _ => rfl)
  have h2 : (PyData.tuple (l.map ndD)).depth ≤ 64 := by
    have h2 : PyData.depthAll (l.map ndD) ≤ 1 := depthAll_map fun a _ => by simp [ndD, PyData.depth, PyData.depthAll]
    simp only [PyData.depth]; omega
  rw [ne_id h1 rfl h2 (by decide)]
  cases l <;> simp
theorem idx_last {l : List Node} {x : Node} : idxD (.tuple ((l ++ [x]).map ndD)) (.int (-1)) = some (ndD x) := by
  show atD ((l ++ [x]).map ndD) (-1) = _
  unfold atD ixOf
  simp only [List.length_map, List.length_append, List.length_cons, List.length_nil]
  rw [if_neg (by omega), if_pos (by omega)]
  have : (-1 + ((l.length + (0 + 1) : Nat) : Int)).toNat = l.length := by omega
  rw [Option.bind_some, this]
  simp
theorem cut_init {l : List Node} {x : Node} : cutD (.tuple ((l ++ [x]).map ndD)) none (some (-1)) = some (.tuple (l.map ndD)) := by
  show some (PyData.tuple (cutL ((l ++ [x]).map ndD) none (some (-1)))) = _
  congr 2
  unfold cutL sixD
  simp only [List.length_map, List.length_append, List.length_cons, List.length_nil, List.drop_zero, Nat.sub_zero]
  rw [if_pos (by omega)]
  have : (-1 + ((l.length + (0 + 1) : Nat) : Int)).toNat = l.length := by omega
  rw [this]
  simp
theorem cut_tail {l : List Node} {x : Node} : cutD (.tuple ((l ++ [x]).map ndD)) (some (-1)) none = some (.tuple [ndD x]) := by
  show some (PyData.tuple (cutL ((l ++ [x]).map ndD) (some (-1)) none)) = _
  congr 2
  unfold cutL sixD
  simp only [List.length_map, List.length_append, List.length_cons, List.length_nil]
  rw [if_pos (by omega)]
  have : (-1 + ((l.length + (0 + 1) : Nat) : Int)).toNat = l.length := by omega
  rw [this]
  simp
theorem st21 (f : Fx m t u o d e) : exS G0 (T (n+16)) law_s21 [.fz (.list (ns.map .int)), .fz (N m), .fz (tbD m t), .fz (tbD m u), .fz (.list ((ords m).map od)), .fz (od o), .fz (diaD o d), x7, x8, x9, x10, .fz (tbD m (t &&& u)), .fz (tbD m (t ||| u)), x13, .fz (cirD m d), .fz (.tuple (d.1.map (lineD m))), x16, x17, x18, x19, x20, x21, x22, x23] = some (.nx [.fz (.list (ns.map .int)), .fz (N m), .fz (tbD m t), .fz (tbD m u), .fz (.list ((ords m).map od)), .fz (od o), .fz (diaD o d), x7, x8, x9, x10, .fz (tbD m (t &&& u)), .fz (tbD m (t ||| u)), x13, .fz (cirD m d), .fz (.tuple (d.1.map (lineD m))), .fz (.list (W0 o d)), x17, x18, x19, x20, x21, x22, x23]) := by
  have hdl := made_len f.hd
  have hm1 := f.O.h1
  have g0 : o[0]? = some (o.getD 0 0) := by rw [List.getD_eq_getElem?_getD, List.getElem?_eq_getElem (by rw [f.O.ho]; omega)]; rfl
  have a1 : binD .add (.tuple (d.1.map ndD)) (.tuple [.tuple [N (o.getD 0 0), .int (-1), .int (-2)], .tuple [N (o.getD 0 0), .int (-1), .int (-2)]]) = some (.tuple ((d.1 ++ [(o.getD 0 0, -1, -2), (o.getD 0 0, -1, -2)]).map ndD)) := by
    rw [add_tuple (by simp; omega), List.map_append]; rfl
  have a2 : revD (od o) = some (od o.reverse) := by
    show some (PyData.tuple (o.map N).reverse) = _
    rw [← List.map_reverse]
  unfold W0
  generalize o.getD 0 0 = v at *
  generalize d.1 ++ [(v, -1, -2), (v, -1, -2)] = dd at *
  by_cases hl : 1 < d.1.length
  · simp -implicitDefEqProofs [law_s21, Df.run, entry, entA, callV, cmpT, chnT, Cop.isIn, k_v, clause, bindTg, wipeT, i0, i1, i2, i3, i4, i5, i6, i7, i8, i9, i15, i30, diaD, n_subI, n_idxMT, g0, mul_t2, a1, a2, hl]
  · simp -implicitDefEqProofs [law_s21, Df.run, entry, entA, callV, cmpT, chnT, Cop.isIn, k_v, clause, bindTg, wipeT, i0, i1, i2, i3, i4, i5, i6, i7, i8, i9, i15, i30, diaD, n_subI, n_idxMT, g0, mul_t2, a1, a2, hl]
theorem st22 (f : Fx m t u o d e) : ∃ y18, exS G0 (T (n+16)) law_s22 [.fz (.list (ns.map .int)), .fz (N m), .fz (tbD m t), .fz (tbD m u), .fz (.list ((ords m).map od)), .fz (od o), .fz (diaD o d), x7, x8, x9, x10, .fz (tbD m (t &&& u)), .fz (tbD m (t ||| u)), x13, .fz (cirD m d), .fz (.tuple (d.1.map (lineD m))), .fz (.list (W0 o d)), x17, x18, x19, x20, x21, x22, x23] = some (.nx [.fz (.list (ns.map .int)), .fz (N m), .fz (tbD m t), .fz (tbD m u), .fz (.list ((ords m).map od)), .fz (od o), .fz (diaD o d), x7, x8, x9, x10, .fz (tbD m (t &&& u)), .fz (tbD m (t ||| u)), x13, .fz (cirD m d), .fz (.tuple (d.1.map (lineD m))), .fz (.list (W1 o d)), x17, y18, x19, x20, x21, x22, x23]) := by
  have hdl := made_len f.hd
  have hw0 : (W0 o d).length = 4 := rfl
  rcases List.eq_nil_or_concat d.1 with h | ⟨l, x, h⟩
  · have e1 : W1 o d = W0 o d := by unfold W1; rw [h]; rfl
    rw [e1]
    have nn := ne_nodes (l := d.1)
    rw [h] at nn
    generalize W0 o d = w0 at *
    refine ⟨x18, ?_⟩
    simp -implicitDefEqProofs [law_s22, Df.run, entry, entA, callV, cmpT, chnT, Cop.isIn, k_v, clause, bindTg, wipeT, i0, i1, i2, i3, i4, i5, i6, i7, i8, i9, i15, i30, diaD, h]
    simp at nn
    simp [nn]
  · have h : d.1 = l ++ [x] := by rw [h]; simp
    have e1 : W1 o d = W0 o d ++ [diaD o (l ++ [(x.1, x.2.1, x.2.1)], d.2), diaD o (d.1, -1), diaD o (d.1 ++ [x], d.2)] := by
      unfold W1
      rw [h]
      simp only [List.getLast?_append, List.getLast?_singleton, Option.some_or, List.dropLast_concat]
    rw [e1]
    have hll : l.length + 1 ≤ 1000 := by rw [h] at hdl; simpa using hdl
    have a1 : binD .add (.tuple (l.map ndD)) (.tuple [.tuple [N x.1, .int x.2.1, .int x.2.1]]) = some (.tuple ((l ++ [(x.1, x.2.1, x.2.1)]).map ndD)) := by
      rw [add_tuple (by simp; omega), List.map_append]; rfl
    have a2 : binD .add (.tuple ((l ++ [x]).map ndD)) (.tuple [ndD x]) = some (.tuple ((d.1 ++ [x]).map ndD)) := by
      rw [add_tuple (by simp; omega), h, List.map_append (l₁ := l ++ [x])]; rfl
    have nn := ne_nodes (l := l ++ [x])
    have il := idx_last (l := l) (x := x)
    have ci := cut_init (l := l) (x := x)
    have ct := cut_tail (l := l) (x := x)
    have a3 : binD .add (.list (W0 o d)) (.list [diaD o (l ++ [(x.1, x.2.1, x.2.1)], d.2), diaD o (d.1, -1), diaD o (d.1 ++ [x], d.2)]) = some (.list (W0 o d ++ [diaD o (l ++ [(x.1, x.2.1, x.2.1)], d.2), diaD o (d.1, -1), diaD o (d.1 ++ [x], d.2)])) := add_list (by rw [hw0]; simp)
    simp only [diaD] at a3
    generalize W0 o d = w0 at *
    refine ⟨.fz (ndD x), ?_⟩
    rw [← h] at nn il ci ct a2
    generalize hxs : d.1 ++ [x] = dx at *
    generalize l ++ [(x.1, x.2.1, x.2.1)] = dy at *
    have hne : d.1.isEmpty = false := by rw [h]; simp
    rw [hne] at nn
    simp only [ndD] at il ct a2
    simp -implicitDefEqProofs [law_s22, Df.run, entry, entA, callV, cmpT, chnT, Cop.isIn, k_v, clause, bindTg, wipeT, i0, i1, i2, i3, i4, i5, i6, i7, i8, i9, i15, i30, diaD, nn, il, ci, ct, a1, a2, a3, n_subI, ndD]
theorem om_rev (O : Om m o) : Om m o.reverse := ⟨O.h1, O.h3, by rw [List.length_reverse]; exact O.ho, fun p hp => O.hp p (List.mem_reverse.mp hp), (List.reverse_perm o).nodup_iff.mpr O.hn⟩
theorem wrong_ok (f : Fx m t u o d e) : ∀ x ∈ W1 o d, T (n+16) 39 [N m, x] = some (.bool false) ∧ isDict x = false := by
  have hl := len_o f
  have dia : ∀ d', fitsO m o d' = some false → T (n+16) 39 [N m, diaD o d'] = some (.bool false) ∧ isDict (diaD o d') = false := fun d' h => ⟨s_is_diagram (n+7) m o d' false f.O h _ (tup_dia hl (fits_len h)) rfl, rfl⟩
  have h0 : ∀ x ∈ W0 o d, T (n+16) 39 [N m, x] = some (.bool false) ∧ isDict x = false := fun x hx => by
    simp only [W0, List.mem_cons, List.mem_nil_iff, or_false] at hx
    rcases hx with rfl | rfl | rfl | rfl
    · exact ⟨s_is_diagram_int (n+13) m 7 f.O.h1 f.O.h3, rfl⟩
    · exact dia _ f.wr1
    · exact dia _ f.wr2
    · by_cases h : 1 < d.1.length
      · rw [if_pos h]
        have hf := f.wr3 h
        have hlr : o.reverse.length ≤ 1000 := by rw [List.length_reverse]; exact hl
        exact ⟨s_is_diagram (n+7) m o.reverse d false (om_rev f.O) hf _ (tup_dia hlr (fits_len hf)) rfl, rfl⟩
      · rw [if_neg h]
        exact ⟨s_is_diagram_int (n+13) m 8 f.O.h1 f.O.h3, rfl⟩
  intro x hx
  unfold W1 at hx
  split at hx
  · rename_i y hy
    obtain ⟨q1, q2, q3⟩ := f.wr4 y hy
    rcases List.mem_append.mp hx with hx | hx
    · exact h0 x hx
    · simp only [List.mem_cons, List.mem_nil_iff, or_false] at hx
      rcases hx with rfl | rfl | rfl
      · exact dia _ q1
      · exact dia _ q2
      · exact dia _ q3
  · exact h0 x hx
theorem st23 (f : Fx m t u o d e) : exS G0 (T (n+16)) law_s23 [.fz (.list (ns.map .int)), .fz (N m), .fz (tbD m t), .fz (tbD m u), .fz (.list ((ords m).map od)), .fz (od o), .fz (diaD o d), x7, x8, x9, x10, .fz (tbD m (t &&& u)), .fz (tbD m (t ||| u)), x13, .fz (cirD m d), .fz (.tuple (d.1.map (lineD m))), .fz (.list (W1 o d)), x17, x18, x19, x20, x21, x22, x23] = some (.rt (.bool true)) := by
  have hw := wrong_ok (n := n) f
  generalize W1 o d = ws at *
  simp -implicitDefEqProofs [law_s23, Df.run, entry, entA, callV, cmpT, chnT, Cop.isIn, k_v, clause, bindTg, wipeT, i0, i1, i2, i3, i4, i5, i6, i7, i8, i9, i15, i30]
  rw [genGo_nil]
  · simp -implicitDefEqProofs [ck_lst (ds := []) (by simp), eq_nil]
  · intro x hx
    obtain ⟨h1, h2⟩ := hw x hx
    simp -implicitDefEqProofs [Df.run, entry, entA, callV, cmpT, chnT, Cop.isIn, k_v, clause, bindTg, wipeT, i0, i1, i2, i3, i4, i5, i6, i7, i8, i9, i15, i30, h1, h2]
end
end K11
end
section
set_option Elab.async false
set_option linter.all false
set_option maxRecDepth 100000
namespace K11
open PySem Fw Sy
/-! ### the same, faster for the kernel -/
def dblF (x w : Nat) : Nat := Nat.lor x (Nat.shiftLeft x w)
def bigF (m t p v : Nat) : Bool := match m with
  | 1 => !(Nat.blt t 4 && (Nat.blt p 1 && Nat.blt v 2))
  | 2 => !(Nat.blt t 16 && (Nat.blt p 2 && Nat.blt v 2))
  | 3 => !(Nat.blt t 256 && (Nat.blt p 3 && Nat.blt v 2))
  | _ => true
def heldF (t p v : Nat) : Nat := match p, v with
  | 0, 0 => dblF (Nat.land t 85) 1
  | 0, _ => dblF (Nat.land (Nat.shiftRight t 1) 85) 1
  | 1, 0 => dblF (Nat.land t 51) 2
  | 1, _ => dblF (Nat.land (Nat.shiftRight t 2) 51) 2
  | _, 0 => dblF (Nat.land t 15) 4
  | _, _ => dblF (Nat.land (Nat.shiftRight t 4) 15) 4
def heldG (m t p v : Nat) : Nat := match bigF m t p v with | true => heldN m t p v | false => heldF t p v
def lheldG (m t p v : Nat) : Nat := match bigF m t p v with | true => lheldN m t p v | false => heldF t p v
def hangG (m t p : Nat) : Bool := match bigF m t p 0 with | true => (hangsN m t).contains p | false => !Nat.beq (heldF t p 0) (heldF t p 1)
def lhangG (m t p : Nat) : Bool := match bigF m t p 0 with | true => lhangs m t p | false => !Nat.beq (heldF t p 0) (heldF t p 1)
def chkHeld (m : Nat) : Bool := (List.range (2 ^ 2 ^ m)).all fun t => (List.range m).all fun p => Nat.beq (heldN m t p 0) (heldF t p 0) && (Nat.beq (heldN m t p 1) (heldF t p 1) && (Nat.beq (lheldN m t p 0) (heldF t p 0) && (Nat.beq (lheldN m t p 1) (heldF t p 1) && ((hangsN m t).contains p == !Nat.beq (heldF t p 0) (heldF t p 1)))))
theorem held1 : chkHeld 1 = true := by decide +kernel
theorem held2 : chkHeld 2 = true := by decide +kernel
theorem held3 : chkHeld 3 = true := by decide +kernel
theorem bigF_false {m t p v : Nat} (h : bigF m t p v = false) : t < 2 ^ 2 ^ m ∧ p < m ∧ v < 2 ∧ chkHeld m = true := by
  rcases m with _ | _ | _ | _ | m
  · cases h
  · simp [bigF, Nat.blt] at h; exact ⟨by omega, by omega, by omega, held1⟩
  · simp [bigF, Nat.blt] at h; exact ⟨by omega, by omega, by omega, held2⟩
  · simp [bigF, Nat.blt] at h; exact ⟨by omega, by omega, by omega, held3⟩
  · cases h
theorem held_all {m t p v : Nat} (h : bigF m t p v = false) : heldN m t p v = heldF t p v ∧ lheldN m t p v = heldF t p v ∧ (hangsN m t).contains p = (!Nat.beq (heldF t p 0) (heldF t p 1)) ∧ lhangs m t p = (!Nat.beq (heldF t p 0) (heldF t p 1)) := by
  obtain ⟨ht, hp, hv, hc⟩ := bigF_false h
  have h1 := List.all_eq_true.mp (List.all_eq_true.mp hc t (List.mem_range.mpr ht)) p (List.mem_range.mpr hp)
  simp only [Bool.and_eq_true, beq_iff_eq] at h1
  obtain ⟨a, b, c, d, e⟩ := h1
  replace a := Nat.eq_of_beq_eq_true a
  replace b := Nat.eq_of_beq_eq_true b
  replace c := Nat.eq_of_beq_eq_true c
  replace d := Nat.eq_of_beq_eq_true d
  have e2 : lhangs m t p = (!Nat.beq (heldF t p 0) (heldF t p 1)) := by
    unfold lhangs
    rw [c, d]
    congr 1
    rw [Bool.eq_iff_iff, decide_eq_true_iff]
    exact ⟨fun z => by rw [z]; exact Nat.beq_refl _, Nat.eq_of_beq_eq_true⟩
  have : v = 0 ∨ v = 1 := by omega
  rcases this with rfl | rfl
  · exact ⟨a, c, e, e2⟩
  · exact ⟨b, d, e, e2⟩
theorem heldG_eq : heldN = heldG := by
  funext m t p v
  unfold heldG
  cases h : bigF m t p v with
  | true => rfl
  | false => exact (held_all h).1
theorem lheldG_eq : lheldN = lheldG := by
  funext m t p v
  unfold lheldG
  cases h : bigF m t p v with
  | true => rfl
  | false => exact (held_all h).2.1
theorem hangG_eq : (fun m t p => (hangsN m t).contains p) = hangG := by
  funext m t p
  unfold hangG
  cases h : bigF m t p 0 with
  | true => rfl
  | false => exact (held_all h).2.2.1
theorem lhangG_eq : lhangs = lhangG := by
  funext m t p
  unfold lhangG
  cases h : bigF m t p 0 with
  | true => rfl
  | false => exact (held_all h).2.2.2
def hereW (hl : Nat → Nat → Nat → Nat → Nat) (hg : Nat → Nat → Nat → Bool) (m p : Nat) (nums : Asc) (found : List Nat) : Option (List Tri) := found.foldlM (fun acc one => if one < 2 ^ 2 ^ m ∧ acc.length ≤ 1000 then (if hg m one p then (agetO (hl m one p 0) nums).bind fun l => (agetO (hl m one p 1) nums).bind fun h => some (acc ++ [(l, h, one)]) else some acc) else none) []
def tabsW (hl : Nat → Nat → Nat → Nat → Nat) (m t : Nat) (ps : List Nat) : List Nat := ps.foldl (fun found p => sortN (found.flatMap fun one => [hl m one p 0, hl m one p 1])) [t]
def stepW (hl : Nat → Nat → Nat → Nat → Nat) (hg : Nat → Nat → Nat → Bool) (m t : Nat) (o : List Nat) (s : Asc × List Node) (k : Nat) : Option (Asc × List Node) := o[k]?.bind fun p => (hereW hl hg m p s.1 (tabsW hl m t (o.take k))).bind fun here => if here.length ≤ 1000 then putO p s (isort le3 here) else none
def madeW (hl : Nat → Nat → Nat → Nat → Nat) (hg : Nat → Nat → Nat → Bool) (m t : Nat) (o : List Nat) : Option (List Node × Int) := ((List.range m).reverse.foldlM (stepW hl hg m t o) (nums0 m, [])).bind fun s => if s.2.length ≤ 1000 then (agetO t s.1).map fun top => (s.2, top) else none
theorem madeW_eq : madeO = madeW heldN (fun m t p => (hangsN m t).contains p) := rfl
theorem madeG_eq (m t : Nat) (o : List Nat) : madeO m t o = madeW heldG hangG m t o := by rw [madeW_eq, hangG_eq, heldG_eq]
theorem tabsW_eq : heldTabs = tabsW heldN := rfl
theorem tabsG_eq (m t : Nat) (o : List Nat) : heldTabs m t o = tabsW heldG m t o := by rw [tabsW_eq, heldG_eq]
def lkinW (hl : Nat → Nat → Nat → Nat → Nat) (m t : Nat) (ps : List Nat) : List Nat := sortN (ps.foldl (fun rows p => rows.flatMap fun one => [hl m one p 0, hl m one p 1]) [t])
def lhereW (hl : Nat → Nat → Nat → Nat → Nat) (m p : Nat) (nums : Asc) (found : List Nat) : Option (List Tri) := found.mapM fun one => (agetO (hl m one p 0) nums).bind fun l => (agetO (hl m one p 1) nums).bind fun h => some (l, h, one)
def keepW (hg : Nat → Nat → Nat → Bool) (m p : Nat) (nums : Asc) (found : List Nat) : Option Asc := found.foldlM (fun nums one => if hg m one p then some nums else (agetO one nums).bind fun v => if nums.length ≤ 1000 then some (aput one v nums) else none) nums
def lstepW (hl : Nat → Nat → Nat → Nat → Nat) (hg : Nat → Nat → Nat → Bool) (m t : Nat) (o : List Nat) (s : Asc × List Node) (k : Nat) : Option (Asc × List Node) := o[k]?.bind fun p => if (lkinW hl m t (o.take k)).length ≤ 1000 then (lhereW hl m p s.1 ((lkinW hl m t (o.take k)).filter fun one => hg m one p)).bind fun here => (putO p s (isort le3 here)).bind fun s' => (keepW hg m p s'.1 (lkinW hl m t (o.take k))).bind fun nums => some (nums, s'.2) else none
def lmadeW (hl : Nat → Nat → Nat → Nat → Nat) (hg : Nat → Nat → Nat → Bool) (m t : Nat) (o : List Nat) : Option (List Node × Int) := ((List.range m).reverse.foldlM (lstepW hl hg m t o) (nums0 m, [])).bind fun s => if s.2.length ≤ 1000 then (agetO t s.1).map fun top => (s.2, top) else none
theorem lmadeG_eq (m t : Nat) (o : List Nat) : lmadeO m t o = lmadeW lheldG lhangG m t o := by
  have : lmadeO = lmadeW lheldN lhangs := rfl
  rw [this, lhangG_eq, lheldG_eq]
theorem lkinG_eq (m t : Nat) (o : List Nat) : lkinTabs m t o = lkinW lheldG m t o := by
  have : lkinTabs = lkinW lheldN := rfl
  rw [this, lheldG_eq]
theorem lhangG_eq' (m t p : Nat) : lhangs m t p = lhangG m t p := by rw [lhangG_eq]
/-! ### what is asked of one table and one order -/
def nodesOk (o : List Nat) (ns : List Node) : Bool := (List.range ns.length).all fun k => nodeO o ns k == some true
def nodesBad (o : List Nat) (ns : List Node) : Bool := (List.range ns.length).all (fun k => (nodeO o ns k).isSome) && (List.range ns.length).any (fun k => nodeO o ns k == some false)
def one (m t : Nat) (o : List Nat) : Bool := match madeW heldG hangG m t o with
  | none => false
  | some d => decide (lmadeW lheldG lhangG m t o = some d) && (nodesOk o d.1 && (decide (d.1.length ≤ 30) && (decide (-2 ≤ d.2 ∧ d.2 ≤ (d.1.length : Int) - 1) && (tabO m d == some t && ((List.range (2 ^ m)).all (fun row => reachO d.1 row 100 d.2 == some (bit t row)) && (waysO m d == some ((List.range (2 ^ m)).map (bit t)).sum
    && ((List.range (m + 1)).all (fun k => decide (tabsW heldG m t (o.take k) = lkinW lheldG m t (o.take k))) && (d.1.length == ((List.range m).map fun k => ((lkinW lheldG m t (o.take k)).filter fun one => lhangG m one (o.getD k 0)).length).sum
    && (circOk m d && ((match wiresO m d with | some ws => plN ws (2 ^ 2 ^ m - 1) (lpI m d.2) == some t | none => false)
    && ((nodesOk o (d.1 ++ [(o.getD 0 0, -1, -2), (o.getD 0 0, -1, -2)]) && tabO m (d.1 ++ [(o.getD 0 0, -1, -2), (o.getD 0 0, -1, -2)], d.2) == some t) && ((!decide (1 < d.1.length) || nodesBad o.reverse d.1)
    && (match d.1.getLast? with
      | some x => nodesBad o (d.1.dropLast ++ [(x.1, x.2.1, x.2.1)]) && (nodesOk o (d.1 ++ [x]) && (tabO m (d.1 ++ [x], d.2) == some t && decide (d.1 ≠ [])))
      | none => true)))))))))))))
def ones (m a n : Nat) : Bool := (List.range n).all fun t => (ords m).all fun o => one m (a + t) o
end K11
end
section
set_option Elab.async false
set_option linter.all false
set_option maxRecDepth 100000
namespace K11
open PySem Fw Sy
theorem ones1 : ones 1 0 4 = true := by decide +kernel
theorem ones2 : ones 2 0 16 = true := by decide +kernel
theorem ones3_0 : ones 3 0 16 = true := by decide +kernel
theorem ones3_1 : ones 3 16 16 = true := by decide +kernel
theorem ones3_2 : ones 3 32 16 = true := by decide +kernel
theorem ones3_3 : ones 3 48 16 = true := by decide +kernel
theorem ones3_4 : ones 3 64 16 = true := by decide +kernel
theorem ones3_5 : ones 3 80 16 = true := by decide +kernel
theorem ones3_6 : ones 3 96 16 = true := by decide +kernel
theorem ones3_7 : ones 3 112 16 = true := by decide +kernel
theorem ones3_8 : ones 3 128 16 = true := by decide +kernel
theorem ones3_9 : ones 3 144 16 = true := by decide +kernel
theorem ones3_10 : ones 3 160 16 = true := by decide +kernel
theorem ones3_11 : ones 3 176 16 = true := by decide +kernel
theorem ones3_12 : ones 3 192 16 = true := by decide +kernel
theorem ones3_13 : ones 3 208 16 = true := by decide +kernel
theorem ones3_14 : ones 3 224 16 = true := by decide +kernel
theorem ones3_15 : ones 3 240 16 = true := by decide +kernel
end K11
end
section
set_option Elab.async false
set_option linter.all false
set_option maxRecDepth 100000
namespace K11
open PySem Fw Sy
theorem bit_test (n r : Nat) : bit n r = (n.testBit r).toNat := by
  unfold bit
  rw [Nat.testBit_eq_decide_div_mod_eq]
  have := Nat.mod_lt (n / 2 ^ r) (show 0 < 2 by decide)
  by_cases h : n / 2 ^ r % 2 = 1
  · simp [h]
  · have : n / 2 ^ r % 2 = 0 := by omega
    simp [this]
theorem sum_bits (w : Nat) (p : Nat → Bool) : ∀ n, (∀ r, r < n → p r = w.testBit r) → (((List.range n).filter p).map fun r => 2 ^ r).sum = w % 2 ^ n
  | 0, _ => by simp [Nat.mod_one]
  | n + 1, h => by
    rw [List.range_succ, List.filter_append, List.map_append, List.sum_append, sum_bits w p n (fun r hr => h r (by omega)), Nat.pow_succ, Nat.mod_mul]
    congr 1
    have := Nat.mod_lt (w / 2 ^ n) (show 0 < 2 by decide)
    rw [List.filter_cons, h n (by omega), Nat.testBit_eq_decide_div_mod_eq]
    by_cases h : w / 2 ^ n % 2 = 1
    · simp [h]
    · have : w / 2 ^ n % 2 = 0 := by omega
      simp [this]
theorem bits_and {m t u : Nat} (ht : t < 2 ^ 2 ^ m) : (((List.range (2 ^ m)).filter fun row => decide (bit t row + bit u row = 2)).map fun row => 2 ^ row).sum = t &&& u := by
  rw [sum_bits (t &&& u), Nat.mod_eq_of_lt (Nat.lt_of_le_of_lt Nat.and_le_left ht)]
  intro r _
  rw [Nat.testBit_and, bit_test, bit_test]
  cases t.testBit r <;> cases u.testBit r <;> rfl
theorem bits_or {m t u : Nat} (ht : t < 2 ^ 2 ^ m) (hu : u < 2 ^ 2 ^ m) : (((List.range (2 ^ m)).filter fun row => decide (0 < bit t row + bit u row)).map fun row => 2 ^ row).sum = t ||| u := by
  rw [sum_bits (t ||| u), Nat.mod_eq_of_lt (Nat.or_lt_two_pow ht hu)]
  intro r _
  rw [Nat.testBit_or, bit_test, bit_test]
  cases t.testBit r <;> cases u.testBit r <;> rfl
/-! ### the smallest: with any sizes -/
theorem minF_le : ∀ (r : List Nat) (x : Nat), r.foldl (fun a y => if y < a then y else a) x ≤ x
  | [], x => Nat.le_refl _
  | y :: r, x => by
    rw [List.foldl_cons]
    by_cases h : y < x
    · rw [if_pos h]; exact Nat.le_trans (minF_le r y) (Nat.le_of_lt h)
    · rw [if_neg h]; exact minF_le r x
theorem best_fold (f : List Nat → Nat) : ∀ (r : List (List Nat)) (x : List Nat), (x :: r).Pairwise (fun a y => ltL y a = false) → some (r.foldl (fun a y => if ltB f y a then y else a) x) = (x :: r)[((x :: r).map f).idxOf ((r.map f).foldl (fun a y => if y < a then y else a) (f x))]?
  | [], x, _ => by simp
  | y :: r, x, h => by
    have hxy : ltL y x = false := (List.pairwise_cons.mp h).1 y (by simp)
    have hl : ltB f y x = decide (f y < f x) := by
      unfold ltB
      by_cases e : f y = f x
      · rw [if_pos e, hxy]; simp [e]
      · rw [if_neg e]
    rw [List.foldl_cons, hl, List.map_cons, List.foldl_cons]
    by_cases c : f y < f x
    · rw [decide_eq_true c, if_pos rfl, if_pos c, best_fold f r y (List.pairwise_cons.mp h).2]
      have hm := minF_le (r.map f) (f y)
      generalize (r.map f).foldl (fun a y => if y < a then y else a) (f y) = μ at hm ⊢
      rw [List.map_cons (a := x), List.idxOf_cons, List.map_cons]
      have : (f x == μ) = false := by simp; omega
      rw [this, cond_false, List.getElem?_cons_succ]
    · rw [decide_eq_false c, if_neg (by decide), if_neg c, best_fold f r x (by
        have h1 := List.pairwise_cons.mp h
        exact List.pairwise_cons.mpr ⟨fun a ha => h1.1 a (by simp [ha]), (List.pairwise_cons.mp h1.2).2⟩)]
      have hm := minF_le (r.map f) (f x)
      generalize (r.map f).foldl (fun a y => if y < a then y else a) (f x) = μ at hm ⊢
      simp only [List.map_cons, List.idxOf_cons]
      by_cases e : f x = μ
      · have : (f x == μ) = true := by simp [e]
        simp only [this, cond_true]; rfl
      · have h1 : (f x == μ) = false := by simp [e]
        have h2 : (f y == μ) = false := by simp; omega
        simp only [h1, h2, cond_false, List.getElem?_cons_succ]
theorem best_ok (m : Nat) (f : List Nat → Nat) : bestO f (ords m) = (ords m)[((ords m).map f).idxOf (minL ((ords m).map f))]? := by
  have h : (ords m).Pairwise (fun a y => ltL y a = false) := by
    rcases m with _ | _ | _ | _ | m
    · exact List.Pairwise.nil
    · decide +kernel
    · decide +kernel
    · decide +kernel
    · exact List.Pairwise.nil
  generalize ords m = l at h
  cases l with
  | nil => rfl
  | cons x r => exact best_fold f r x h
theorem ones_get {m a n t : Nat} {o : List Nat} (h : ones m a n = true) (h1 : a ≤ t) (h2 : t < a + n) (ho : o ∈ ords m) : one m t o = true := by
  have := List.all_eq_true.mp (List.all_eq_true.mp h (t - a) (List.mem_range.mpr (by omega))) o ho
  rwa [show a + (t - a) = t by omega] at this
theorem all_one {m t : Nat} {o : List Nat} (ht : t < 2 ^ 2 ^ m) (ho : o ∈ ords m) : one m t o = true := by
  have h1 := om_ords ho
  have a1 := h1.h1
  have a3 := h1.h3
  clear h1
  obtain rfl | rfl | rfl : m = 1 ∨ m = 2 ∨ m = 3 := by omega
  · exact ones_get ones1 (Nat.zero_le _) ht ho
  · exact ones_get ones2 (Nat.zero_le _) ht ho
  · have ht' : t < 256 := ht
    have hk : t / 16 < 16 := by omega
    generalize hk' : t / 16 = k at hk
    by_cases c0 : k = 0
    · exact ones_get ones3_0 (by omega) (by omega) ho
    by_cases c1 : k = 1
    · exact ones_get ones3_1 (by omega) (by omega) ho
    by_cases c2 : k = 2
    · exact ones_get ones3_2 (by omega) (by omega) ho
    by_cases c3 : k = 3
    · exact ones_get ones3_3 (by omega) (by omega) ho
    by_cases c4 : k = 4
    · exact ones_get ones3_4 (by omega) (by omega) ho
    by_cases c5 : k = 5
    · exact ones_get ones3_5 (by omega) (by omega) ho
    by_cases c6 : k = 6
    · exact ones_get ones3_6 (by omega) (by omega) ho
    by_cases c7 : k = 7
    · exact ones_get ones3_7 (by omega) (by omega) ho
    by_cases c8 : k = 8
    · exact ones_get ones3_8 (by omega) (by omega) ho
    by_cases c9 : k = 9
    · exact ones_get ones3_9 (by omega) (by omega) ho
    by_cases c10 : k = 10
    · exact ones_get ones3_10 (by omega) (by omega) ho
    by_cases c11 : k = 11
    · exact ones_get ones3_11 (by omega) (by omega) ho
    by_cases c12 : k = 12
    · exact ones_get ones3_12 (by omega) (by omega) ho
    by_cases c13 : k = 13
    · exact ones_get ones3_13 (by omega) (by omega) ho
    by_cases c14 : k = 14
    · exact ones_get ones3_14 (by omega) (by omega) ho
    · exact ones_get ones3_15 (by omega) (by omega) ho
theorem fits_tab {m t : Nat} {o : List Nat} {d d' : List Node × Int} (h1 : nodesOk o d.1 = true) (h2 : d.1.length ≤ 1000) (h3 : -2 ≤ d.2 ∧ d.2 ≤ (d.1.length : Int) - 1) (h4 : tabO m d = some t) (h5 : t < 2 ^ 2 ^ m) (h6 : madeO m t o = some d') : fitsO m o d = some (decide (d' = d)) := by
  unfold fitsO
  have e1 : (List.range d.1.length).all (fun k => (nodeO o d.1 k).isSome) = true := List.all_eq_true.mpr fun k hk => by
    have := List.all_eq_true.mp h1 k hk
    rw [beq_iff_eq] at this
    rw [this]; rfl
  have e2 : (List.range d.1.length).all (fun k => nodeO o d.1 k == some true) = true := h1
  rw [e1, decide_eq_true h2, e2, Bool.and_self, if_pos rfl, if_pos rfl, if_pos h3, h4, Option.bind_some, if_pos h5, h6]
  rfl
theorem fits_bad {m : Nat} {o : List Nat} {d : List Node × Int} (h1 : nodesBad o d.1 = true) (h2 : d.1.length ≤ 1000) : fitsO m o d = some false := by
  unfold nodesBad at h1
  rw [Bool.and_eq_true] at h1
  unfold fitsO
  have e2 : (List.range d.1.length).all (fun k => nodeO o d.1 k == some true) = false := by
    rw [Bool.eq_false_iff]
    intro h
    obtain ⟨k, hk, e⟩ := List.any_eq_true.mp h1.2
    have := List.all_eq_true.mp h k hk
    rw [beq_iff_eq] at this e
    rw [this] at e; cases e
  rw [h1.1, decide_eq_true h2, e2]
  rfl
theorem fits_root {m : Nat} {o : List Nat} {d : List Node × Int} (h1 : nodesOk o d.1 = true) (h2 : d.1.length ≤ 1000) (h3 : ¬ (-2 ≤ d.2 ∧ d.2 ≤ (d.1.length : Int) - 1)) : fitsO m o d = some false := by
  unfold fitsO
  have e1 : (List.range d.1.length).all (fun k => (nodeO o d.1 k).isSome) = true := List.all_eq_true.mpr fun k hk => by
    have := List.all_eq_true.mp h1 k hk
    rw [beq_iff_eq] at this
    rw [this]; rfl
  have e2 : (List.range d.1.length).all (fun k => nodeO o d.1 k == some true) = true := h1
  rw [e1, decide_eq_true h2, e2, Bool.and_self, if_pos rfl, if_pos rfl, if_neg h3]
theorem tab_m1 {m : Nat} {ns : List Node} : tabO m (ns, -1) = some 0 := by
  unfold tabO
  have e : ∀ row, reachO ns row 100 (-1) = some 0 := fun row => by
    show reachO ns row (99 + 1) (-1) = some 0
    unfold reachO
    rw [if_neg (by decide), if_pos rfl]
  have : ∀ l : List Nat, l.foldlM (fun acc row => (reachO ns row 100 (-1)).bind fun r => some (acc ||| r * 2 ^ row)) 0 = some 0 := by
    intro l
    induction l with
    | nil => rfl
    | cons a r ih => rw [List.foldlM_cons, e]; simpa using ih
  exact this _
def zeros : Bool := [1, 2, 3].all fun m => (ords m).all fun o => madeW heldG hangG m 0 o == some ([], -1) && (List.range (m - 1)).all fun p => (ords m).contains (swapO o p)
theorem zeros_ok : zeros = true := by decide +kernel
theorem zero_ok {m : Nat} {o : List Nat} (ho : o ∈ ords m) : madeO m 0 o = some ([], -1) ∧ ∀ p, p + 1 < m → swapO o p ∈ ords m := by
  have h1 := om_ords ho
  have a1 := h1.h1
  have a3 := h1.h3
  have h2 := List.all_eq_true.mp (List.all_eq_true.mp zeros_ok m (by simp; omega)) o ho
  rw [Bool.and_eq_true, beq_iff_eq] at h2
  rw [madeG_eq]
  refine ⟨h2.1, fun p hp => ?_⟩
  have := List.all_eq_true.mp h2.2 p (List.mem_range.mpr (by omega))
  exact List.contains_iff_mem.mp this
structure On (m t : Nat) (o : List Nat) (d : List Node × Int) : Prop where
  hd : madeO m t o = some d
  hld : lmadeO m t o = some d
  hn : nodesOk o d.1 = true
  hl : d.1.length ≤ 30
  hb : -2 ≤ d.2 ∧ d.2 ≤ (d.1.length : Int) - 1
  htab : tabO m d = some t
  rows : ∀ row, row < 2 ^ m → reachO d.1 row 100 d.2 = some (bit t row)
  ways : waysO m d = some ((List.range (2 ^ m)).map (bit t)).sum
  kin : ∀ k, k ≤ m → heldTabs m t (o.take k) = lkinTabs m t (o.take k)
  cnt : d.1.length = ((List.range m).map fun k => ((lkinTabs m t (o.take k)).filter fun one => lhangs m one (o.getD k 0)).length).sum
  circ : circOk m d = true
  tells : ∃ ws, wiresO m d = some ws ∧ plN ws (2 ^ 2 ^ m - 1) (lpI m d.2) = some t
  w2 : nodesOk o (d.1 ++ [(o.getD 0 0, -1, -2), (o.getD 0 0, -1, -2)]) = true ∧ tabO m (d.1 ++ [(o.getD 0 0, -1, -2), (o.getD 0 0, -1, -2)], d.2) = some t
  w3 : 1 < d.1.length → nodesBad o.reverse d.1 = true
  w4 : ∀ x, d.1.getLast? = some x → nodesBad o (d.1.dropLast ++ [(x.1, x.2.1, x.2.1)]) = true ∧ nodesOk o (d.1 ++ [x]) = true ∧ tabO m (d.1 ++ [x], d.2) = some t ∧ d.1 ≠ []
theorem one_ok {m t : Nat} {o : List Nat} (h : one m t o = true) : ∃ d, On m t o d := by
  unfold one at h
  rw [← madeG_eq, ← lmadeG_eq] at h
  simp only [← lkinG_eq, ← tabsG_eq, ← lhangG_eq'] at h
  cases hd : madeO m t o with
  | none => rw [hd] at h; cases h
  | some d =>
    rw [hd] at h
    refine ⟨d, ?_⟩
    simp only [Bool.and_eq_true, beq_iff_eq, decide_eq_true_eq, List.all_eq_true, List.mem_range] at h
    obtain ⟨a1, a2, a3, a4, a5, a6, a7, a8, a9, a10, a11, a12, a13, a14⟩ := h
    refine ⟨hd, a1, a2, a3, a4, a5, a6, a7, fun k hk => a8 k (by omega), a9, a10, ?_, a12, fun hx => ?_, fun x hx => ?_⟩
    · cases hw : wiresO m d with
      | none => rw [hw] at a11; cases a11
      | some ws =>
        rw [hw] at a11
        exact ⟨ws, rfl, by simpa using a11⟩
    · rw [Bool.or_eq_true] at a13
      rcases a13 with z | z
      · rw [decide_eq_true hx] at z; cases z
      · exact z
    · rw [hx] at a14
      simp only [Bool.and_eq_true, beq_iff_eq, decide_eq_true_eq] at a14
      exact a14
theorem on {m t : Nat} {o : List Nat} (ht : t < 2 ^ 2 ^ m) (ho : o ∈ ords m) : ∃ d, On m t o d := one_ok (all_one ht ho)
theorem fx {m t u : Nat} {o : List Nat} (ho : o ∈ ords m) (ht : t < 2 ^ 2 ^ m) (hu : u < 2 ^ 2 ^ m) : ∃ d e, Fx m t u o d e := by
  obtain ⟨d, D⟩ := on ht ho
  obtain ⟨e, E⟩ := on hu ho
  have hl := D.hl
  obtain ⟨r1, R1⟩ := on (Nat.lt_of_le_of_lt Nat.and_le_left ht : t &&& u < 2 ^ 2 ^ m) ho
  obtain ⟨r2, R2⟩ := on (Nat.or_lt_two_pow ht hu : t ||| u < 2 ^ 2 ^ m) ho
  refine ⟨d, e, ho, ht, hu, D.hd, D.hld, ?_, D.htab, D.rows, fun o' ho' => ?_, best_ok m _, D.ways, D.kin, D.cnt, E.hld, ?_, E.htab, ⟨r1, R1.hd, R1.hld⟩, ⟨r2, R2.hd, R2.hld⟩, bits_and ht, bits_or ht hu, fun p hp => ?_, D.circ, D.tells, ?_, ?_, fun h => ?_, fun x hx => ?_⟩
  · rw [fits_tab D.hn (by omega) D.hb D.htab ht D.hd, decide_eq_true rfl]
  · obtain ⟨d', D'⟩ := on ht ho'
    exact ⟨d', D'.hd, D'.hld⟩
  · rw [fits_tab E.hn (by have := E.hl; omega) E.hb E.htab hu E.hd, decide_eq_true rfl]
  · have h1 := (zero_ok ho).2 p hp
    obtain ⟨d', D'⟩ := on ht h1
    exact ⟨h1, d', D'.hd, D'.hld⟩
  · exact fits_root (d := (d.1, -3)) D.hn (by show d.1.length ≤ 1000; omega) (by show ¬ (-2 ≤ (-3 : Int) ∧ _); omega)
  · have hb := D.hb
    rw [fits_tab D.w2.1 (by simp; omega) (by simp; omega) D.w2.2 ht D.hd, decide_eq_false]
    intro z
    have := congrArg (fun d => d.1.length) z
    simp at this
  · exact fits_bad (D.w3 h) (by omega)
  · obtain ⟨w1, w2, w3, w4⟩ := D.w4 x hx
    have hb := D.hb
    refine ⟨fits_bad w1 (by simp; omega), ?_, ?_⟩
    · rw [fits_tab (d := (d.1, -1)) (t := 0) D.hn (by show d.1.length ≤ 1000; omega) (by show -2 ≤ (-1 : Int) ∧ (-1 : Int) ≤ (d.1.length : Int) - 1; omega) tab_m1 (Nat.two_pow_pos _) (zero_ok ho).1, decide_eq_false]
      intro z
      exact w4 (congrArg Prod.fst z).symm
    · rw [fits_tab w2 (by simp; omega) (by simp; omega) w3 ht D.hd, decide_eq_false]
      intro z
      have := congrArg (fun d => d.1.length) z
      simp at this
end K11
end
section
set_option Elab.async false
set_option linter.all false
set_option maxRecDepth 100000
namespace K11
open PySem Fw Sy
theorem nx_step {G : Nat → Option D} {F : FT} {s : S} {r : List S} {τ τ' : Tau} {v : D} (h : exS G F s τ = some (.nx τ')) (h2 : (exL G F r τ').bind outV = some v) : (exL G F (s :: r) τ).bind outV = some v := by
  show (seqO (exS G F s τ) fun τ' => exL G F r τ').bind outV = some v
  rw [h]; exact h2
theorem nx_ex {A : Type} {G : Nat → Option D} {F : FT} {s : S} {r : List S} {τ : Tau} {g : A → Tau} {v : D} (h : ∃ y, exS G F s τ = some (.nx (g y))) (h2 : ∀ y, (exL G F r (g y)).bind outV = some v) : (exL G F (s :: r) τ).bind outV = some v :=
  h.elim fun y e => nx_step e (h2 y)
theorem nx_ex2 {A B : Type} {G : Nat → Option D} {F : FT} {s : S} {r : List S} {τ : Tau} {g : A → B → Tau} {v : D} (h : ∃ y z, exS G F s τ = some (.nx (g y z))) (h2 : ∀ y z, (exL G F r (g y z)).bind outV = some v) : (exL G F (s :: r) τ).bind outV = some v :=
  h.elim fun y e => e.elim fun z e => nx_step e (h2 y z)
theorem rt_step {G : Nat → Option D} {F : FT} {s : S} {r : List S} {τ : Tau} {v : D} (h : exS G F s τ = some (.rt v)) : (exL G F (s :: r) τ).bind outV = some v := by
  show (seqO (exS G F s τ) fun τ' => exL G F r τ').bind outV = some v
  rw [h]; rfl
theorem mod_lt' (x : Int) {k : Nat} (h : 0 < k) : (x % (k : Int)).toNat < k := by
  have h1 := Int.emod_nonneg x (show (k : Int) ≠ 0 by omega)
  have h2 := Int.emod_lt_of_pos x (show (0 : Int) < k by omega)
  omega
theorem law_ok (n : Nat) (ns : List Int) : T (n+17) 76 [.list (ns.map .int)] = some (.bool true) := by
  obtain ⟨m, hm⟩ : ∃ m, m = 1 + ((ns.getD 0 0) % 3).toNat := ⟨_, rfl⟩
  have h0 := mod_lt' (ns.getD 0 0) (show 0 < 3 by decide)
  have h1 : 1 ≤ m := by omega
  have h3 : m ≤ 3 := by
    have : ((3 : Nat) : Int) = 3 := rfl
    rw [this] at h0
    omega
  obtain ⟨t, ht⟩ : ∃ t, t = ((ns.getD 1 0) % ((2 ^ 2 ^ m : Nat) : Int)).toNat := ⟨_, rfl⟩
  obtain ⟨u, hu⟩ : ∃ u, u = ((ns.getD 2 0) % ((2 ^ 2 ^ m : Nat) : Int)).toNat := ⟨_, rfl⟩
  have ht2 : t < 2 ^ 2 ^ m := by rw [ht]; exact mod_lt' _ (Nat.two_pow_pos _)
  have hu2 : u < 2 ^ 2 ^ m := by rw [hu]; exact mod_lt' _ (Nat.two_pow_pos _)
  have hol : 0 < (ords m).length := by
    clear hm h0 ht hu ht2 hu2
    obtain rfl | rfl | rfl : m = 1 ∨ m = 2 ∨ m = 3 := by omega
    · decide
    · decide
    · decide
  obtain ⟨o, ho⟩ : ∃ o, (ords m)[((ns.getD 3 0) % ((ords m).length : Int)).toNat]? = some o := ⟨_, List.getElem?_eq_getElem (mod_lt' _ hol)⟩
  obtain ⟨d, e, f⟩ := fx (List.mem_of_getElem? ho) ht2 hu2
  rw [un_law]
  have hent : f_law.run G0 (T (n+16)) [.list (ns.map .int)] = (exL G0 (T (n+16)) f_law.body [.fz (.list (ns.map .int)), .un, .un, .un, .un, .un, .un, .un, .un, .un, .un, .un, .un, .un, .un, .un, .un, .un, .un, .un, .un, .un, .un, .un]).bind outV := rfl
  rw [hent, law_body]
  refine nx_step (st0 hm) ?_
  refine nx_step (st1 h3 ht) ?_
  refine nx_step (st2 h3 hu) ?_
  refine nx_step (st3 h1 h3) ?_
  refine nx_step (st4 ho) ?_
  refine nx_step (st5 f) ?_
  refine nx_step (st6 f) ?_
  refine nx_step (st7 f) ?_
  refine nx_ex (st8 f) fun y8 => ?_
  refine nx_step (st9 f) ?_
  refine nx_step (st10 f) ?_
  refine nx_ex (st11 f) fun y10 => ?_
  refine nx_step (st12 f) ?_
  refine nx_step (st13 f) ?_
  refine nx_step (st14 f) ?_
  refine nx_step (st15 f) ?_
  refine nx_ex2 (st16 f) fun y13 y17 => ?_
  refine nx_step (st17 f) ?_
  refine nx_step (st18 f) ?_
  refine nx_step (st19 f) ?_
  refine nx_step (st20 f) ?_
  refine nx_step (st21 f) ?_
  refine nx_ex (st22 f) fun y18 => ?_
  exact rt_step (st23 f)
end K11
end
section
set_option Elab.async false
set_option linter.all false
set_option maxRecDepth 100000
set_option maxHeartbeats 4000000
/-! values of the small language in the heap -/
namespace Fw
open PySem PySem.Spec L2

/-! ### what a heap keeps -/
def Kp (o : HO) (x : Option HO) : Prop := match o with
  | .tbl ps => ∃ qs, x = some (.tbl qs) ∧ (TriplesOk ps.toList → TriplesOk qs.toList)
  | o => x = some o
theorem Kp.of {o : HO} (h : ∀ ps, o ≠ .tbl ps) {x : Option HO} (k : Kp o x) : x = some o := by
  cases o <;> first | exact k | exact absurd rfl (h _)
theorem Kp.refl (o : HO) : Kp o (some o) := by
  cases o <;> first | rfl | exact ⟨_, rfl, fun h => h⟩
theorem Kp.trans {o : HO} {H' : Hp} {a b : Addr} {x y : Option HO} (h : Kp o x) (k : ∀ o', x = some o' → Kp o' y) : Kp o y := by
  cases o with
  | tbl ps =>
    obtain ⟨qs, e, t⟩ := h
    obtain ⟨rs, e2, t2⟩ := k _ e
    exact ⟨rs, e2, fun z => t2 (t z)⟩
  | _ => exact k _ h
/-- G, H: what stands for ever, the heap; later G', H' -/
structure Ext (G H G' H' : Hp) : Prop where
  same : ∀ a o, H a = some o → Kp o (H' a)
  sub : ∀ a o, G a = some o → G' a = some o
  inn : ∀ a o, G' a = some o → H' a = some o
  new : ∀ a o, H a = some o → G a = none → G' a = none
theorem Ext.refl {G H : Hp} (h : ∀ a o, G a = some o → H a = some o) : Ext G H G H :=
  ⟨fun a o e => by rw [e]; exact Kp.refl o, fun _ _ e => e, h, fun _ _ _ e => e⟩
theorem Ext.trans {G H G1 H1 G2 H2 : Hp} (a : Ext G H G1 H1) (b : Ext G1 H1 G2 H2) : Ext G H G2 H2 where
  same := fun x o e => by
    have h1 := a.same x o e
    cases o with
    | tbl ps =>
      obtain ⟨qs, e1, t⟩ := h1
      obtain ⟨rs, e2, t2⟩ := b.same x _ e1
      exact ⟨rs, e2, fun z => t2 (t z)⟩
    | _ => exact b.same x _ h1
  sub := fun x o e => b.sub x o (a.sub x o e)
  inn := b.inn
  new := fun x o e n => by
    have h1 := a.same x o e
    have n1 := a.new x o e n
    cases o with
    | tbl ps =>
      obtain ⟨qs, e1, t⟩ := h1
      exact b.new x _ e1 n1
    | _ => exact b.new x _ h1 n1
/-- a new object that may change later -/
theorem Ext.lay {G H : Hp} {p : Addr} {o : HO} (h : ∀ a o, G a = some o → H a = some o) (n : H p = none) : Ext G H G (upd H p o) where
  same := fun a u e => by rw [upd_ne (ne_of_none e n), e]; exact Kp.refl u
  sub := fun _ _ e => e
  inn := fun a u e => by
    have e' := h a u e
    rw [upd_ne (ne_of_none e' n)]; exact e'
  new := fun _ _ _ e => e
/-- a new object that stands for ever -/
theorem Ext.lay2 {G H : Hp} {p : Addr} {o : HO} (h : ∀ a o, G a = some o → H a = some o) (n : H p = none) : Ext G H (upd G p o) (upd H p o) where
  same := fun a u e => by rw [upd_ne (ne_of_none e n), e]; exact Kp.refl u
  sub := fun a u e => by
    have e' := h a u e
    rw [upd_ne (ne_of_none e' n)]; exact e
  inn := fun a u e => by
    by_cases q : a = p
    · subst q; rw [upd_same] at e ⊢; exact e
    · rw [upd_ne q] at e ⊢; exact h a u e
  new := fun a u e z => by rw [upd_ne (ne_of_none e n)]; exact z
/-- an object of the heap that may change is now to stand for ever -/
theorem Ext.keep {G0 H0 G H : Hp} {p : Addr} {o : HO} (x : Ext G0 H0 G H) (e : H p = some o) (n : H0 p = none) (g : G p = none) : Ext G0 H0 (upd G p o) H where
  same := x.same
  sub := fun a u h => by
    have h1 := x.sub a u h
    rw [upd_ne (ne_of_none h1 g)]; exact h1
  inn := fun a u h => by
    by_cases q : a = p
    · subst q; rw [upd_same] at h; rw [e]; exact h
    · rw [upd_ne q] at h; exact x.inn a u h
  new := fun a u h z => by
    have : a ≠ p := ne_of_none h n
    rw [upd_ne this]; exact x.new a u h z
structure Fz where
  K : PySem.W.Frag
  P : Program
  w : World
abbrev kw (X : Cx) : Fz := ⟨X.K, X.prog, X.w⟩
/-- a tuple that stands, its object with no dict -/
def Tu (G : Hp) (a : Addr) (vs : List V) : Prop := ∃ ob, G a = some (.frz ob (.tup vs)) ∧ ob.dict = none
theorem Tu.mono {G G' : Hp} (h : ∀ a o, G a = some o → G' a = some o) {a : Addr} {vs : List V} (t : Tu G a vs) : Tu G' a vs := let ⟨ob, e, d⟩ := t; ⟨ob, h _ _ e, d⟩
theorem Tu.rd {G : Hp} {a : Addr} {vs : List V} (t : Tu G a vs) : Rd G a (.tup vs) := let ⟨ob, e, _⟩ := t; .inr ⟨ob, e⟩
theorem Tu.sq {K : PySem.W.Frag} {G : Hp} {a : Addr} {vs : List V} (t : Tu G a vs) : SqT K G a vs := .inl t.rd
theorem Tu.fun {G : Hp} {a : Addr} {vs ws : List V} (t : Tu G a vs) (u : Tu G a ws) : vs = ws := by
  obtain ⟨ob, e, _⟩ := t
  obtain ⟨ob', e', _⟩ := u
  rw [e] at e'
  cases e'
  rfl
/-! ### data -/
section
variable {K : Fz} {G H G' H' : Hp} {O : Addr → Prop}
theorem rd_mono (h : ∀ a o, G a = some o → G' a = some o) {a : Addr} {u : HO} (r : Rd G a u) : Rd G' a u := by
  rcases r with r | ⟨o, r⟩
  · exact .inl (h _ _ r)
  · exact .inr ⟨o, h _ _ r⟩
theorem sql_mono (h : ∀ a o, G a = some o → G' a = some o) {a : Addr} {xs : List V} (r : SqL K.K G a xs) : SqL K.K G' a xs := r.imp (rd_mono h) id
theorem sqt_mono (h : ∀ a o, G a = some o → G' a = some o) {a : Addr} {xs : List V} (r : SqT K.K G a xs) : SqT K.K G' a xs := r.imp (rd_mono h) id
mutual
/-- a value is data of what stands -/
inductive RD (K : Fz) (G : Hp) : V → D → Prop
  | non : RD K G .non .none
  | bl (b : Bool) : RD K G (.bl b) (.bool b)
  | int (i : Int) : RD K G (.int i) (.int i)
  | str (x : Str) : RD K G (.str x) (.str x)
  | lst {a : Addr} {vs : List V} {ds : List D} : Rd G a (.lst vs) → RDs K G vs ds → RD K G (.ref a) (.list ds)
  | tup {a : Addr} {vs : List V} {ds : List D} : Tu G a vs → RDs K G vs ds → RD K G (.ref a) (.tuple ds)
inductive RDs (K : Fz) (G : Hp) : List V → List D → Prop
  | nil : RDs K G [] []
  | cons {v : V} {vs : List V} {d : D} {ds : List D} : RD K G v d → RDs K G vs ds → RDs K G (v :: vs) (d :: ds)
end
mutual
theorem RD.l2 : ∀ {v : V} {d : D}, RD K G v d → L2.Dp K.K G v d
  | _, _, .non => .non
  | _, _, .bl b => .bl b
  | _, _, .int i => .int i
  | _, _, .str x => .str x
  | _, _, .lst s a => .lst (.inl s) (RDs.l2 a)
  | _, _, .tup s a => .tup s.sq (RDs.l2 a)
theorem RDs.l2 : ∀ {vs : List V} {ds : List D}, RDs K G vs ds → L2.DpAll K.K G vs ds
  | _, _, .nil => .nil
  | _, _, .cons a r => .cons (RD.l2 a) (RDs.l2 r)
end
mutual
theorem RD.mono (h : ∀ a o, G a = some o → G' a = some o) : ∀ {v : V} {d : D}, RD K G v d → RD K G' v d
  | _, _, .non => .non
  | _, _, .bl b => .bl b
  | _, _, .int i => .int i
  | _, _, .str x => .str x
  | _, _, .lst s a => .lst (rd_mono h s) (RDs.mono h a)
  | _, _, .tup s a => .tup (s.mono h) (RDs.mono h a)
theorem RDs.mono (h : ∀ a o, G a = some o → G' a = some o) : ∀ {vs : List V} {ds : List D}, RDs K G vs ds → RDs K G' vs ds
  | _, _, .nil => .nil
  | _, _, .cons a r => .cons (RD.mono h a) (RDs.mono h r)
end
theorem RDs.length : ∀ {vs : List V} {ds : List D}, RDs K G vs ds → vs.length = ds.length
  | _, _, .nil => rfl
  | _, _, .cons _ r => by rw [List.length_cons, List.length_cons, RDs.length r]
theorem RDs.get : ∀ {vs : List V} {ds : List D} {i : Nat} {d : D}, RDs K G vs ds → ds[i]? = some d → ∃ v, vs[i]? = some v ∧ RD K G v d
  | _, _, _, _, .nil, e => by simp at e
  | _, _, 0, _, .cons a _, e => by simp at e; subst e; exact ⟨_, rfl, a⟩
  | _, _, i + 1, d, .cons _ r, e => by
    obtain ⟨v, h1, h2⟩ := RDs.get (i := i) (d := d) r (by simpa using e)
    exact ⟨v, by simpa using h1, h2⟩
theorem RDs.getV : ∀ {vs : List V} {ds : List D} {i : Nat} {v : V}, RDs K G vs ds → vs[i]? = some v → ∃ d, ds[i]? = some d ∧ RD K G v d
  | _, _, _, _, .nil, e => by simp at e
  | _, _, 0, _, .cons a _, e => by simp at e; subst e; exact ⟨_, rfl, a⟩
  | _, _, i + 1, d, .cons _ r, e => by
    obtain ⟨v, h1, h2⟩ := RDs.getV (i := i) (v := d) r (by simpa using e)
    exact ⟨v, by simpa using h1, h2⟩
theorem RDs.append : ∀ {vs ws : List V} {ds es : List D}, RDs K G vs ds → RDs K G ws es → RDs K G (vs ++ ws) (ds ++ es)
  | _, _, _, _, .nil, h => h
  | _, _, _, _, .cons a r, h => .cons a (RDs.append r h)
theorem RDs.one {v : V} {d : D} (h : RD K G v d) : RDs K G [v] [d] := .cons h .nil
theorem RDs.take : ∀ {vs : List V} {ds : List D} (n : Nat), RDs K G vs ds → RDs K G (vs.take n) (ds.take n)
  | _, _, 0, _ => .nil
  | _, _, _ + 1, .nil => .nil
  | _, _, n + 1, .cons a r => .cons a (RDs.take n r)
theorem RDs.drop : ∀ {vs : List V} {ds : List D} (n : Nat), RDs K G vs ds → RDs K G (vs.drop n) (ds.drop n)
  | _, _, 0, h => h
  | _, _, _ + 1, .nil => .nil
  | _, _, n + 1, .cons _ r => RDs.drop n r
theorem RDs.set : ∀ {vs : List V} {ds : List D} (i : Nat) {v : V} {d : D}, RDs K G vs ds → RD K G v d → RDs K G (vs.set i v) (ds.set i d)
  | _, _, _, _, _, .nil, _ => .nil
  | _, _, 0, _, _, .cons _ r, h => .cons h r
  | _, _, i + 1, _, _, .cons a r, h => .cons a (RDs.set i r h)
theorem RDs.reverse : ∀ {vs : List V} {ds : List D}, RDs K G vs ds → RDs K G vs.reverse ds.reverse
  | _, _, .nil => .nil
  | _, _, .cons a r => by rw [List.reverse_cons, List.reverse_cons]; exact RDs.append (RDs.reverse r) (RDs.one a)
theorem RDs.ints : ∀ (ns : List Int), RDs K G (ns.map V.int) (ns.map PyData.int)
  | [] => .nil
  | _ :: r => .cons (.int _) (RDs.ints r)
theorem RDs.intsOf : ∀ {vs : List V} {ds : List D} {ns : List Int}, RDs K G vs ds → intsOf ds = some ns → vs = ns.map V.int ∧ ds = ns.map PyData.int
  | _, _, ns, .nil, e => by
    simp only [Fw.intsOf, Option.some.injEq] at e
    subst e; exact ⟨rfl, rfl⟩
  | _, _, ns, .cons a r, e => by
    cases a with
    | int i =>
      simp only [Fw.intsOf, Option.map_eq_some_iff] at e
      obtain ⟨ms, e1, e2⟩ := e
      subst e2
      obtain ⟨h1, h2⟩ := RDs.intsOf r e1
      exact ⟨by rw [h1]; rfl, by rw [h2]; rfl⟩
    | _ => simp [Fw.intsOf] at e
/-- what a dict's keys are -/
def keyD : Key → D
  | .inl i => .int i
  | .inr x => .str x
def tkeyD (k : List Key) : D := .tuple (k.map keyD)
/-- a dict of which the keys are tuples -/
abbrev TkE := List Key × Addr × Value
def DTok (P : Program) (w : World) (a : Addr) (xs : List TkE) (h : Heap) : Prop := (a == sysModules) = false ∧ xs.length ≤ sizeLine ∧
  ∃ o es ep, h.get? a = some o ∧ o.ExactDict ∧ o.data = .dict es ep ∧ es.toList = xs.map (entryOfKey (tupleKind (mixKind P w))) ∧ (xs.map (·.1)).Nodup
def DTO (K : Fz) (a : Addr) (xs : List TkE) : HO := .ext (DTok K.P K.w a xs)
/-- .. of what data -/
def KvT (K : Fz) (G : Hp) : List TkE → List (D × D) → Prop := Paired fun p q => tkeyD p.1 = q.1 ∧ Tu G p.2.1 (p.1.map kV) ∧ ∃ v, RelV v p.2.2 ∧ RD K G v q.2
theorem KvT.mono {K : Fz} {G G' : Hp} (h : ∀ a o, G a = some o → G' a = some o) {xs : List TkE} {es : List (D × D)} (x : KvT K G xs es) : KvT K G' xs es :=
  L2.Paired.mapP x fun _ _ ⟨a, b, v, r, d⟩ => ⟨a, b.mono h, v, r, RD.mono h d⟩
/-- an object that one name alone holds -/
inductive OwnOk (K : Fz) (G : Hp) : Slot → Addr → HO → Prop
  | ol {a : Addr} {vs : List V} {xs : List D} : RDs K G vs xs → OwnOk K G (.ol xs) a (.lst vs)
  | odK {a : Addr} {kvs : List (Key × V)} {es : List (D × D)} : Paired (fun (p : Key × V) (q : D × D) => keyD p.1 = q.1 ∧ RD K G p.2 q.2) kvs es → OwnOk K G (.od false es) a (.dK kvs)
  | odT {a : Addr} {xs : List TkE} {es : List (D × D)} : KvT K G xs es → OwnOk K G (.od true es) a (DTO K a xs)
  | os {a : Addr} {S : Int → Bool} {n : Nat} {xs : List Int} : (∀ i, S i = xs.contains i) → n = xs.length → xs.Nodup → OwnOk K G (.os xs) a (SetO K.w a S n)
theorem OwnOk.mono (h : ∀ a o, G a = some o → G' a = some o) {s : Slot} {b : Addr} {o : HO} (x : OwnOk K G s b o) : OwnOk K G' s b o := by
  cases x with
  | ol a => exact .ol (RDs.mono h a)
  | odK p => exact .odK (L2.Paired.mapP p fun _ _ z => ⟨z.1, RD.mono h z.2⟩)
  | odT p => exact .odT (p.mono h)
  | os a b c => exact .os a b c
theorem OwnOk.ntbl {s : Slot} {b : Addr} {o : HO} (x : OwnOk K G s b o) : ∀ ps, o ≠ .tbl ps := by
  cases x <;> (intro ps e; cases e)
theorem OwnOk.own {s : Slot} {b : Addr} {o : HO} (x : OwnOk K G s b o) : s.own = true := by cases x <;> rfl
mutual
theorem l2_mono (h : ∀ a o, G a = some o → G' a = some o) : ∀ {v : V} {d : D}, L2.Dp K.K G v d → L2.Dp K.K G' v d
  | _, _, .non => .non
  | _, _, .bl b => .bl b
  | _, _, .int i => .int i
  | _, _, .str x => .str x
  | _, _, .lst s a => .lst (sql_mono h s) (l2s_mono h a)
  | _, _, .tup s a => .tup (sqt_mono h s) (l2s_mono h a)
theorem l2s_mono (h : ∀ a o, G a = some o → G' a = some o) : ∀ {vs : List V} {ds : List D}, L2.DpAll K.K G vs ds → L2.DpAll K.K G' vs ds
  | _, _, .nil => .nil
  | _, _, .cons a r => .cons (l2_mono h a) (l2s_mono h r)
end
/-- the names' values -/
structure StR (K : Fz) (G H : Hp) (σ : St) (τ : Tau) : Prop where
  inn : ∀ a o, G a = some o → H a = some o
  len : σ.length = τ.length
  fz : ∀ (i : Nat) (d : D), τ[i]? = some (Slot.fz d) → ∃ v, σ[i]? = some (some v) ∧ RD K G v d
  fk : ∀ (i : Nat) (d : D), τ[i]? = some (Slot.fk d) → ∃ v, σ[i]? = some (some v) ∧ L2.Dp K.K G v d
  ow : ∀ (i : Nat) (s : Slot), τ[i]? = some s → s.own = true → ∃ a o, σ[i]? = some (some (.ref a)) ∧ H a = some o ∧ G a = none ∧ OwnOk K G s a o
  sep : ∀ (i j : Nat) (s t : Slot) (a : Addr), τ[i]? = some s → s.own = true → τ[j]? = some t → t.own = true → σ[i]? = some (some (.ref a)) → σ[j]? = some (some (.ref a)) → i = j
theorem StR.ext {σ : St} {τ : Tau} (s : StR K G H σ τ) (x : Ext G H G' H') : StR K G' H' σ τ where
  inn := x.inn
  len := s.len
  fz := fun i d e => let ⟨v, h1, h2⟩ := s.fz i d e; ⟨v, h1, RD.mono x.sub h2⟩
  fk := fun i d e => let ⟨v, h1, h2⟩ := s.fk i d e; ⟨v, h1, l2_mono x.sub h2⟩
  ow := fun i t e ho => by
    obtain ⟨a, o, h1, h2, h3, h4⟩ := s.ow i t e ho
    exact ⟨a, o, h1, (x.same a o h2).of h4.ntbl, x.new a o h2 h3, h4.mono x.sub⟩
  sep := s.sep
/-- tables of the code objects of those defs that hold generator expressions -/
def TabOk (cs : List (Addr × Addr)) (G H : Hp) : Prop := ∀ p ∈ cs, GxR.TabG H p.2 ∧ G p.2 = none
theorem TabOk.ext {cs : List (Addr × Addr)} (t : TabOk cs G H) (x : Ext G H G' H') : TabOk cs G' H' := fun p hp => by
  obtain ⟨⟨ps, e, h⟩, g⟩ := t p hp
  obtain ⟨qs, e2, h2⟩ := x.same _ _ e
  exact ⟨⟨qs, e2, h2 h⟩, x.new _ _ e g⟩
/-- .. though an object more stands for ever -/
theorem TabOk.keep {cs : List (Addr × Addr)} {a : Addr} {o : HO} (t : TabOk cs G H) (h : H a = some o) (n : ∀ ps, o ≠ .tbl ps) : TabOk cs (upd G a o) H := fun p hp => by
  obtain ⟨⟨ps, e, h1⟩, g⟩ := t p hp
  refine ⟨⟨ps, e, h1⟩, ?_⟩
  rw [upd_ne]
  · exact g
  · intro z
    rw [z, h] at e
    exact n ps (Option.some.inj e)
/-- what a name alone holds -/
def Ow (σ : St) (τ : Tau) (a : Addr) : Prop := ∃ (i : Nat) (s : Slot), τ[i]? = some s ∧ s.own = true ∧ σ[i]? = some (some (.ref a))
/-- a value that may be one that a name holds -/
inductive DB (K : Fz) (G H : Hp) (O : Addr → Prop) : V → D → Prop
  | std {v : V} {d : D} : RD K G v d → DB K G H O v d
  | own {a : Addr} {o : HO} {s : Slot} {d : D} : H a = some o → OwnOk K G s a o → s.val = some d → O a → DB K G H O (.ref a) d
theorem DB.ext {v : V} {d : D} (b : DB K G H O v d) (x : Ext G H G' H') : DB K G' H' O v d := by
  cases b with
  | std h => exact .std (RD.mono x.sub h)
  | own h1 h2 h3 h4 => exact .own ((x.same _ _ h1).of h2.ntbl) (h2.mono x.sub) h3 h4
/-- a list, a tuple to be read -/
theorem DB.list {v : V} {ds : List D} (i : ∀ a o, G a = some o → H a = some o) (b : DB K G H O v (.list ds)) : ∃ a vs, v = .ref a ∧ Rd H a (.lst vs) ∧ RDs K G vs ds := by
  cases b with
  | std h => cases h with | lst s a => exact ⟨_, _, rfl, rd_mono i s, a⟩
  | own h1 h2 h3 h4 =>
    cases h2 with
    | ol a =>
      simp only [Slot.val, Option.some.injEq, PyData.list.injEq] at h3
      subst h3
      exact ⟨_, _, rfl, .inl h1, a⟩
    | odK _ => simp [Slot.val, dictV] at h3
    | odT _ => simp [Slot.val, dictV] at h3
    | os _ _ _ => simp [Slot.val, dictV] at h3
theorem DB.tuple {v : V} {ds : List D} (i : ∀ a o, G a = some o → H a = some o) (b : DB K G H O v (.tuple ds)) : ∃ a vs, v = .ref a ∧ Tu H a vs ∧ RDs K G vs ds ∧ RD K G v (.tuple ds) := by
  cases b with
  | std h => cases h with | tup s a => exact ⟨_, _, rfl, s.mono i, a, .tup s a⟩
  | own h1 h2 h3 h4 => cases h2 <;> simp [Slot.val, dictV] at h3
theorem DB.int {v : V} {n : Int} (b : DB K G H O v (.int n)) : v = .int n := by
  cases b with
  | std h => cases h; rfl
  | own h1 h2 h3 h4 => cases h2 <;> simp [Slot.val, dictV] at h3
theorem DB.bool {v : V} {n : Bool} (b : DB K G H O v (.bool n)) : v = .bl n := by
  cases b with
  | std h => cases h; rfl
  | own h1 h2 h3 h4 => cases h2 <;> simp [Slot.val, dictV] at h3
theorem DB.str {v : V} {n : Str} (b : DB K G H O v (.str n)) : v = .str n := by
  cases b with
  | std h => cases h; rfl
  | own h1 h2 h3 h4 => cases h2 <;> simp [Slot.val, dictV] at h3
theorem DB.none {v : V} (b : DB K G H O v .none) : v = .non := by
  cases b with
  | std h => cases h; rfl
  | own h1 h2 h3 h4 => cases h2 <;> simp [Slot.val, dictV] at h3
/-- a dict to be read: only one that a name holds -/
theorem DB.dict {v : V} {es : List (D × D)} (b : DB K G H O v (.dict es)) : ∃ a, v = .ref a ∧ ((∃ kvs es', es = (.none, .bool false) :: es' ∧ H a = some (.dK kvs) ∧ Paired (fun (p : Key × V) (q : D × D) => keyD p.1 = q.1 ∧ RD K G p.2 q.2) kvs es') ∨
    ∃ xs es', es = (.none, .bool true) :: es' ∧ H a = some (DTO K a xs) ∧ KvT K G xs es') := by
  cases b with
  | std h => cases h
  | own h1 h2 h3 h4 =>
    cases h2 with
    | ol a => simp [Slot.val, dictV] at h3
    | odK p =>
      simp only [Slot.val, dictV, Option.some.injEq, PyData.dict.injEq] at h3
      subst h3
      exact ⟨_, rfl, .inl ⟨_, _, rfl, h1, p⟩⟩
    | odT p =>
      simp only [Slot.val, dictV, Option.some.injEq, PyData.dict.injEq] at h3
      subst h3
      exact ⟨_, rfl, .inr ⟨_, _, rfl, h1, p⟩⟩
    | os _ _ _ => simp [Slot.val, dictV] at h3
/-- as data of the heap -/
theorem DB.dp {v : V} {d : D} (i : ∀ a o, G a = some o → H a = some o) (b : DB K G H O v d) (nd : ∀ es, d ≠ .dict es) : RD K H v d := by
  cases b with
  | std h => exact RD.mono i h
  | own h1 h2 h3 h4 =>
    cases h2 with
    | ol a =>
      simp only [Slot.val, Option.some.injEq] at h3
      subst h3
      exact .lst (.inl h1) (RDs.mono i a)
    | odK p => simp [Slot.val, dictV] at h3; exact absurd h3.symm (nd _)
    | odT p => simp [Slot.val, dictV] at h3; exact absurd h3.symm (nd _)
    | os _ _ _ => simp [Slot.val, dictV] at h3
/-- the value of a name -/
theorem StR.bor {σ : St} {τ : Tau} (s : StR K G H σ τ) {i : Nat} {t : Slot} {d : D} (e : τ[i]? = some t) (h : t.val = some d) : ∃ v, σ[i]? = some (some v) ∧ DB K G H (Ow σ τ) v d := by
  cases t with
  | un => simp [Slot.val, dictV] at h
  | fk x => simp [Slot.val, dictV] at h
  | fz x =>
    simp only [Slot.val, Option.some.injEq] at h
    subst h
    obtain ⟨v, h1, h2⟩ := s.fz i _ e
    exact ⟨v, h1, .std h2⟩
  | ol xs =>
    obtain ⟨a, o, h1, h2, h3, h4⟩ := s.ow i _ e rfl
    exact ⟨_, h1, .own h2 h4 h ⟨i, _, e, rfl, h1⟩⟩
  | od k xs =>
    obtain ⟨a, o, h1, h2, h3, h4⟩ := s.ow i _ e rfl
    exact ⟨_, h1, .own h2 h4 h ⟨i, _, e, rfl, h1⟩⟩
  | os xs => simp [Slot.val, dictV] at h
/-- a value to be looked at -/
inductive DK (K : Fz) (G H : Hp) (O : Addr → Prop) : V → D → Prop
  | b {v : V} {d : D} : DB K G H O v d → DK K G H O v d
  | g {v : V} {d : D} : L2.Dp K.K G v d → DK K G H O v d
theorem DK.ext {v : V} {d : D} (b : DK K G H O v d) (x : Ext G H G' H') : DK K G' H' O v d := by
  cases b with
  | b h => exact .b (h.ext x)
  | g h => exact .g (l2_mono x.sub h)
theorem DK.dp {v : V} {d : D} (i : ∀ a o, G a = some o → H a = some o) (b : DK K G H O v d) (nd : ∀ es, d ≠ .dict es) : L2.Dp K.K H v d := by
  cases b with
  | b h => exact RD.l2 (h.dp i nd)
  | g h => exact l2_mono i h
theorem DK.int {v : V} {n : Int} (b : DK K G H O v (.int n)) : v = .int n := by
  cases b with
  | b h => exact h.int
  | g h => cases h; rfl
theorem DK.bool {v : V} {n : Bool} (b : DK K G H O v (.bool n)) : v = .bl n := by
  cases b with
  | b h => exact h.bool
  | g h => cases h; rfl
theorem DK.str {v : V} {n : Str} (b : DK K G H O v (.str n)) : v = .str n := by
  cases b with
  | b h => exact h.str
  | g h => cases h; rfl
theorem DK.none {v : V} (b : DK K G H O v .none) : v = .non := by
  cases b with
  | b h => exact h.none
  | g h => cases h; rfl
theorem DK.ne_none {v : V} {d : D} (b : DK K G H O v d) (h : d ≠ .none) : v ≠ .non := by
  cases b with
  | b h2 =>
    cases h2 with
    | std r => cases r <;> first | exact absurd rfl h | (intro z; cases z)
    | own _ _ _ _ => intro z; cases z
  | g r => cases r <;> first | exact absurd rfl h | (intro z; cases z)
theorem DK.dict {v : V} {es : List (D × D)} (b : DK K G H O v (.dict es)) : DB K G H O v (.dict es) := by
  cases b with
  | b h => exact h
  | g h => cases h
/-- what holds no list stands for ever wherever the tuples do -/
def onlyT (H : Hp) (G : Hp) : Hp := fun a => match G a with
  | some o => some o
  | Option.none => (match H a with
    | some (.tup xs) => some (.tup xs)
    | _ => Option.none)
end
end Fw
end
section
set_option Elab.async false
set_option linter.all false
set_option maxRecDepth 100000
set_option maxHeartbeats 4000000
namespace Fw
open PySem PySem.Spec L2
theorem lim_eq : (sizeLine : Nat) = lim := by rw [sizeLine_eq]; rfl
/-! ### readings -/
section
variable (K : Fz) (cs : List (Addr × Addr))
def tP (d : Tau → Option D) : TE := fun σ H Q => ∃ G τ r, StR K G H σ τ ∧ TabOk cs G H ∧ d τ = some r ∧ ∀ v G' H', Ext G H G' H' → RD K G' v r → Q v H'
def tB (d : Tau → Option D) : TE := fun σ H Q => ∃ G τ r, StR K G H σ τ ∧ TabOk cs G H ∧ d τ = some r ∧ ∀ v G' H', Ext G H G' H' → DB K G' H' (Ow σ τ) v r → Q v H'
/-- a list just made, that nothing else holds; or a value that stands -/
inductive FrR (K : Fz) (H G' H' : Hp) : V → D → Prop
  | new {a : Addr} {vs : List V} {xs : List D} : H a = none → H' a = some (.lst vs) → G' a = none → RDs K G' vs xs → FrR K H G' H' (.ref a) (.list xs)
  | std {v : V} {d : D} : RD K G' v d → (∀ xs, d ≠ .list xs) → FrR K H G' H' v d
def tF (d : Tau → Option D) : TE := fun σ H Q => ∃ G τ r, StR K G H σ τ ∧ TabOk cs G H ∧ d τ = some r ∧ ∀ v G' H', Ext G H G' H' → FrR K H G' H' v r → Q v H'
def tK (d : Tau → Option D) : TE := fun σ H Q => ∃ G τ r, StR K G H σ τ ∧ TabOk cs G H ∧ d τ = some r ∧ ∀ v G' H', Ext G H G' H' → DK K G' H' (Ow σ τ) v r → Q v H'
def tT (d : Tau → Option Bool) : TT := fun σ H Q => ∃ G τ r, StR K G H σ τ ∧ TabOk cs G H ∧ d τ = some r ∧ ∀ G' H', Ext G H G' H' → Q r H'
def DBs (K : Fz) (G H : Hp) (O : Addr → Prop) : List V → List D → Prop := Paired (DB K G H O)
def tA (d : Tau → Option (List D)) : TA := fun σ H Q => ∃ G τ r, StR K G H σ τ ∧ TabOk cs G H ∧ d τ = some r ∧ ∀ vs G' H', Ext G H G' H' → RDs K G' vs r → Q vs H'
def tAB (d : Tau → Option (List D)) : TA := fun σ H Q => ∃ G τ r, StR K G H σ τ ∧ TabOk cs G H ∧ d τ = some r ∧ ∀ vs G' H', Ext G H G' H' → DBs K G' H' (Ow σ τ) vs r → Q vs H'
end
theorem pe_imp {X : Cx} {e : Expr} {t t' : TE} (h : PE X e t) (k : ∀ σ H Q, t' σ H Q → t σ H Q) : PE X e t' := ⟨fun pins s σ H Q I q => h.run pins s σ H Q I (k σ H Q q)⟩
theorem pt_imp {X : Cx} {e : Expr} {t t' : TT} (h : PT X e t) (k : ∀ σ H Q, t' σ H Q → t σ H Q) : PT X e t' := ⟨fun pins s σ H Q I q => h.run pins s σ H Q I (k σ H Q q)⟩
theorem pa_imp {X : Cx} {e : List Expr} {t t' : TA} (h : PA X e t) (k : ∀ σ H Q, t' σ H Q → t σ H Q) : PA X e t' := ⟨fun pos pins s σ H Q I q => h.run pos pins s σ H Q I (k σ H Q q)⟩
theorem pss_imp {X : Cx} {e : List Stmt} {t t' : TS} (h : PSs X e t) (k : ∀ D σ H, t' D σ H → t D σ H) : PSs X e t' := ⟨fun pins s σ H D I q => h.run pins s σ H D I (k D σ H q)⟩
theorem ps_imp {X : Cx} {e : Stmt} {t t' : TS} (h : PS X e t) (k : ∀ D σ H, t' D σ H → t D σ H) : PS X e t' := ⟨fun pins s σ H D I q => h.run pins s σ H D I (k D σ H q)⟩
/-- a value to be looked at that stands -/
def tL (K : Fz) (cs : List (Addr × Addr)) (d : Tau → Option D) : TE := fun σ H Q => ∃ G τ r, StR K G H σ τ ∧ TabOk cs G H ∧ d τ = some r ∧ ∀ v G' H', Ext G H G' H' → L2.Dp K.K G' v r → Q v H'
/-- not starred -/
def Plain (e : Expr) : Prop := ∀ (es : List Expr) (env : Env), starEach (e :: es) env = (false, eval e env) :: starEach es env
/-- what is shown of an expression -/
structure SD (X : Cx) (cs : List (Addr × Addr)) (e : Expr) (d : Dn) : Prop where
  val : PE X e (tP (kw X) cs d.val)
  bor : PE X e (tB (kw X) cs d.bor)
  bok : PE X e (tK (kw X) cs d.bok)
  tst : PT X e (tT (kw X) cs d.tst)
  plain : Plain e
  own : ∀ τ x, d.owns τ = false → d.bor τ = some x → d.val τ = some x
  lok : PE X e (tL (kw X) cs d.lok)
section
variable {X : Cx} {cs : List (Addr × Addr)} {e : Expr} {K : Fz} {G H : Hp} {O : Addr → Prop}
theorem p_of_b {d : Tau → Option D} (h : PE X e (tP (kw X) cs d)) : PE X e (tB (kw X) cs d) := pe_imp h fun σ H Q ⟨G, τ, r, st, tb, e, q⟩ => ⟨G, τ, r, st, tb, e, fun v G' H' x dp => q v G' H' x (.std dp)⟩
theorem p_of_f {d : Tau → Option D} (h : PE X e (tF (kw X) cs d)) : PE X e (tP (kw X) cs d) := pe_imp h fun σ H Q ⟨G, τ, r, st, tb, e, q⟩ => ⟨G, τ, r, st, tb, e, fun v G' H' x f => by
  cases f with
  | std dp _ => exact q v G' H' x dp
  | new h1 h2 h3 h4 =>
    have x2 := x.keep h2 h1 h3
    refine q _ _ _ x2 (.lst (.inl upd_same) (RDs.mono (fun a o e => ?_) h4))
    rw [upd_ne (ne_of_none e h3)]; exact e⟩
/-- truth -/
theorem tru_of {v : V} {d : D} {b : Bool} (i : ∀ a o, G a = some o → H a = some o) (h : DB K G H O v d) (t : truth d = some b) : TruV K.K v H b := by
  cases d with
  | none => rw [h.none]; exact (Option.some.inj t).symm
  | bool x => rw [h.bool]; exact (Option.some.inj t).symm
  | int x => rw [h.int]; exact (Option.some.inj t).symm
  | str x =>
    rw [h.str]
    have t' : (if x.length ≤ lim then some (x.length != 0) else Option.none) = some b := t
    by_cases hl : x.length ≤ lim
    · rw [if_pos hl] at t'
      refine ⟨by rw [lim_eq]; exact hl, (Option.some.inj t').symm.trans ?_⟩
      cases x.length <;> rfl
    · rw [if_neg hl] at t'; cases t'
  | list xs =>
    obtain ⟨a, vs, rfl, s, da⟩ := h.list i
    have := RDs.length da
    refine .inl ⟨vs, .inl s, ?_⟩
    rw [← Option.some.inj t]
    cases xs <;> cases vs <;> simp_all
  | tuple xs =>
    obtain ⟨a, vs, rfl, s, da, _⟩ := h.tuple i
    have := RDs.length da
    refine .inr (.inl ⟨vs, s.sq, ?_⟩)
    rw [← Option.some.inj t]
    cases xs <;> cases vs <;> simp_all
  | dict es => cases t
end
end Fw
end
section
set_option Elab.async false
set_option linter.all false
set_option maxRecDepth 100000
set_option maxHeartbeats 4000000
namespace Fw
open PySem PySem.Spec L2
abbrev Inn (G H : Hp) : Prop := ∀ a o, G a = some o → H a = some o
/-! ### operations by values -/
/-- r tells what f tells, a value that stands -/
def OpS (K : Fz) (r : R2) (f : D → D → Option D) : Prop := ∀ {G H : Hp} {O : Addr → Prop} {x y z : D} {v u : V} {Q : VK}, Inn G H → f x y = some z → DB K G H O v x → DB K G H O u y → (∀ w G' H', Ext G H G' H' → RD K G' w z → Q w H') → r v u H Q
def OpF (K : Fz) (r : R2) (f : D → D → Option D) : Prop := ∀ {G H : Hp} {O : Addr → Prop} {x y z : D} {v u : V} {Q : VK}, Inn G H → f x y = some z → DB K G H O v x → DB K G H O u y → (∀ w G' H', Ext G H G' H' → FrR K H G' H' w z → Q w H') → r v u H Q
def OpB (K : Fz) (r : R2) (f : D → D → Option Bool) : Prop := ∀ {G H : Hp} {O : Addr → Prop} {x y : D} {z : Bool} {v u : V} {Q : VK}, Inn G H → f x y = some z → DK K G H O v x → DK K G H O u y → Q (.bl z) H → r v u H Q
theorem FrR.toStd {K : Fz} {G H : Hp} {z : D} {Q : VK} (h : ∀ w G' H', Ext G H G' H' → RD K G' w z → Q w H') : ∀ w G' H', Ext G H G' H' → FrR K H G' H' w z → Q w H' := fun w G' H' x f => by
  cases f with
  | std dp _ => exact h w G' H' x dp
  | new h1 h2 h3 h4 =>
    refine h _ _ _ (x.keep h2 h1 h3) (.lst (.inl upd_same) (RDs.mono (fun a o e => ?_) h4))
    rw [upd_ne (ne_of_none e h3)]; exact e
theorem FrR.back {K : Fz} {G H G2 H2 G' H' : Hp} {v : V} {d : D} (f : FrR K H2 G' H' v d) (x : Ext G H G2 H2) : FrR K H G' H' v d := by
  cases f with
  | std a b => exact .std a b
  | new h1 h2 h3 h4 =>
    refine .new ?_ h2 h3 h4
    rename_i a vs xs
    cases e : H a with
    | none => rfl
    | some o =>
      have k := x.same a o e
      rw [h1] at k
      cases o <;> first | (cases k; done) | (obtain ⟨_, k, _⟩ := k; cases k)
theorem OpF.s {K : Fz} {r : R2} {f : D → D → Option D} (h : OpF K r f) : OpS K r f := fun i e a b q => h i e a b (FrR.toStd q)
/-! ### new tuples, their objects with no dict -/
def LayT (H : Hp) (xs : List V) (Q : VK) : Prop := ∀ (p : Addr) (ob : Obj), H p = none → ob.dict = none → Q (.ref p) (upd H p (.frz ob (.tup xs)))
abbrev tupObj (us : Array Value) : Obj := { cls := .type "tuple", data := .seq us }
section
variable {X : Cx} {es : List Expr} {t : TA} {pos : Pos}
theorem laidT {pins : List (Addr × Obj)} {σ : St} {H : Hp} {h : Heap} {tk : Nat} {s : Shared} {xs : List V} {us : List Value} {Q : VK} (I : Inv X pins σ H { s with heap := h, toks := tk }) (r : Vals xs us) (z : xs.length ≤ sizeLine) (q : LayT H xs Q) :
    EP X pins σ Q (.ref h.objs.size) { s with heap := h.push (tupObj us.toArray), toks := tk } := by
  have hf : H h.objs.size = none := I.hok.fresh (Nat.le_refl _)
  exact ⟨.ref h.objs.size, _, I.laid (t' := tk) (o := .frz (tupObj us.toArray) (.tup xs)) (fun b ob q => Heap.get?_push_of_some _ q) (Nat.le_refl _) ⟨Heap.get?_push_size _ rfl, z, us, r, PyProof.Rows.IsTup.new _ _⟩, rfl, q _ _ hf rfl⟩
def tTupZ (t : TA) : TE := fun σ H Q => t σ H fun xs H1 => xs.length ≤ sizeLine ∧ LayT H1 xs Q
theorem pe_tupZ {x1 : Nat} (h : PA X es t) : PE X (.Tuple es x1 pos) (tTupZ t) := by
  refine ⟨fun pins s σ H Q I hq => ?_⟩
  refine wpAny_Tuple_spliced (thn (h.run pos pins s σ H _ I hq) fun us s1 ⟨xs, H1, I1, r, z, q⟩ => ⟨by rw [← r.length]; exact z, ?_⟩)
  exact laidT (s := s1) (h := s1.heap) (tk := s1.toks) I1 r z q
def rTupZ (K : PySem.W.Frag) : List V → Hp → VK → Prop := fun xs H Q => ∃ p ys, xs = [.ref p] ∧ ((SqL K H p ys ∧ LayT H ys Q) ∨ (SqT K H p ys ∧ Q (.ref p) H))
theorem cr_tupleZ : CallR X (.type "tuple") (rTupZ X.K) := by
  intro pins s σ H xs us Q I r h
  obtain ⟨p, ys, rfl, h⟩ := h
  obtain ⟨u, rfl, rx⟩ := vals1 r
  cases rx
  rcases h with ⟨hq, q⟩ | ⟨hq, q⟩
  · obtain ⟨its, r', pl, hz⟩ := I.list hq
    have hlen := r'.length
    refine call_tuple_list pl.isList (fun h' kp => ?_) (by simp only [List.size_toArray] <;> omega)
    exact laidT (s := s) (h := h') (tk := s.toks) (I.kept (t' := s.toks) kp) r' hz q
  · obtain ⟨its, r', pl, hz⟩ := I.tuple hq
    exact call_tuple_same pl ⟨.ref p, H, I, rfl, q⟩
def rSlZ (K : PySem.W.Frag) : V → Option Int → Option Int → Hp → VK → Prop := fun x lo hi H Q => ∃ a xs, x = .ref a ∧ SqT K H a xs ∧
  (HT.sIx xs.length 0 lo = 0 ∧ HT.sIx xs.length xs.length hi = xs.length → Q (.ref a) H) ∧ (¬ (HT.sIx xs.length 0 lo = 0 ∧ HT.sIx xs.length xs.length hi = xs.length) → LayT H (cutV xs lo hi) Q)
theorem sl_tupZ : SlR X (rSlZ X.K) := by
  intro pins s σ H x v vl vu lo hi sl Q I rx hs pl pu h
  obtain ⟨a, xs, rfl, hx, q1, q2⟩ := h
  cases rx
  obtain ⟨its, r, ht, hz⟩ := I.tuple hx
  have hlen : its.toArray.size = xs.length := by rw [List.size_toArray]; exact r.length.symm
  refine ⟨"tuple", _, PyProof.Rows.slot_tuple_getitem.lookup, ht.typeIs, ?_⟩
  by_cases hw : HT.sIx xs.length 0 lo = 0 ∧ HT.sIx xs.length xs.length hi = xs.length
  · exact getItem_tuple_whole ht hs pl pu (by rw [hlen]; exact hw) ⟨.ref a, H, I, rfl, q1 hw⟩
  · refine HT.getItem_tuple_cut ht hs pl pu (by rw [hlen]; exact hw) ?_ (by rw [hlen]; exact hz)
    rw [hlen]
    exact laidT (s := s) (h := s.heap) (tk := s.toks) I ((r.drop (HT.sIx xs.length 0 lo)).take (HT.sIx xs.length xs.length hi - HT.sIx xs.length 0 lo)) (Nat.le_trans (cutV_length xs lo hi) hz) (q2 hw)
def rCatZ (K : PySem.W.Frag) : R2 := fun x y H Q => ∃ a b xs ys, x = .ref a ∧ y = .ref b ∧ SqT K H a xs ∧ SqT K H b ys ∧ xs.length + ys.length ≤ sizeLine ∧
  (xs = [] → Q (.ref b) H) ∧ (xs ≠ [] → ys = [] → Q (.ref a) H) ∧ (xs ≠ [] → ys ≠ [] → LayT H (xs ++ ys) Q)
theorem op_catZ : OpR X (binaryOp .Add) (rCatZ X.K) := by
  intro pins s σ H x y v u Q I rx ry h
  obtain ⟨a, b, xs, ys, rfl, rfl, ha, hb, hz, q0, q1, q2⟩ := h
  cases rx
  cases ry
  obtain ⟨its, r1, p1, _⟩ := I.tuple ha
  obtain ⟨its2, r2, p2, _⟩ := I.tuple hb
  by_cases hx : xs = []
  · subst hx
    cases r1
    exact cat_tup0 p1 p2 ⟨.ref b, H, I, rfl, q0 rfl⟩
  · refine HT.cat_tup p1 p2 (fun z => hx (r1.nil_iff.mp z)) (fun z => ⟨.ref a, H, I, rfl, q1 hx (r2.nil_iff.mp z)⟩) (fun z => ?_) (by rw [← r1.length, ← r2.length]; exact hz)
    exact laidT (s := s) (h := s.heap) (tk := s.toks) I (r1.append r2) (by rw [List.length_append]; exact hz) (q2 hx fun w => z (r2.nil_iff.mpr w))
open PyProof.Rows in
def rRepZ (K : PySem.W.Frag) : R2 := fun x y H Q => ∃ l k xs, x = .ref l ∧ y = .int k ∧ SqT K H l xs ∧ xs ≠ [] ∧ 2 ≤ k ∧ k ≤ 1000 ∧ xs.length ≤ 1000 ∧ LayT H (List.replicate k.toNat xs).flatten Q
open PyProof.Rows in
theorem op_repZ : OpR X (binaryOp .Mult) (rRepZ X.K) := by
  intro pins s σ H x y v u Q I rx ry h
  obtain ⟨l, k, xs, rfl, rfl, hT, hne, h1, h2, hz, q⟩ := h
  cases rx
  obtain ⟨t, rfl⟩ := ry
  obtain ⟨its, r, ⟨⟨cls, dd, data, sl⟩, ho, hc, n, hd⟩, hs⟩ := I.tuple hT
  simp only at hc hd
  subst hc hd
  have hle : its.length = xs.length := r.length.symm
  have hn : its ≠ [] := fun e => hne (by
    rw [e] at hle
    exact List.eq_nil_of_length_eq_zero hle.symm)
  have hi : its.toArray.isEmpty = false := by
    cases its with
    | nil => exact absurd rfl hn
    | cons a b => rfl
  have hsz0 : its.toArray.size = xs.length := by rw [List.size_toArray, hle]
  have hm : ((its.toArray.size : Nat) : Int) * k ≤ 1000000 := by
    rw [hsz0]
    have a1 : ((xs.length : Nat) : Int) * k ≤ 1000 * k := Int.mul_le_mul_of_nonneg_right (by omega) (by omega)
    omega
  have flen : (List.replicate k.toNat its).flatten.length ≤ sizeLine := by
    rw [PyProof.Rows.lm_len_rep_flat, hle, sizeLine_eq]
    have a1 : k.toNat * xs.length ≤ 1000 * 1000 := Nat.mul_le_mul (by omega) hz
    omega
  have c0 : (decide (k < -(2 ^ 63)) || decide (k ≥ 2 ^ 63)) = false := by
    rw [decide_eq_false (by omega), decide_eq_false (by omega)] <;> rfl
  have c1 : (its.toArray.isEmpty || k == 1) = false := by
    rw [hi, Bool.false_or]
    exact beq_eq_false_iff_ne.mpr (by omega)
  have c2 : (decide (k ≤ 0) || its.toArray.isEmpty) = false := by
    rw [hi, Bool.or_false]
    exact decide_eq_false (by omega)
  have c4 : Builtin.Tuple.tupleTooMany (((its.toArray.size : Nat) : Int) * k) = false := by
    unfold Builtin.Tuple.tupleTooMany
    rw [sizeLine_eq]
    exact decide_eq_false (by omega)
  refine wpAny_binaryOp_repeat_ref (T := "tuple") (U := "int") (by decide) ⟨_, ho, rfl⟩ (fun s' => typeIs_int s' k t) noFill_tuple_mul F.fills_int_mul F.slot_int_rmul repeat_tuple F.slot_int_index.lookup
    (call_meets F.slot_int_rmul (typeIs_int s k t) F.entry_int_rmul (F.args_int_rmul_2 _ _) (int_rmul_tuple k t l its.toArray n dd sl)
      ⟨ho, rfl, ⟨_, ho, rfl⟩, call_meets F.slot_tuple_mul ⟨_, ho, rfl⟩ F.entry_tuple_mul (F.args_tuple_mul_2 _ _) (tuple_mulW l its.toArray n dd sl k t c0 c1 c2 (by omega) c4 (by rw [size_rep, List.size_toArray]; exact flen)) ⟨ho, ?_⟩⟩)
  rw [size_rep]
  exact laidT (s := s) (h := s.heap) (tk := s.toks) I (r.rep k.toNat) (by rw [PyProof.Rows.lm_len_rep_flat, sizeLine_eq]; have a1 : k.toNat * xs.length ≤ 1000 * 1000 := Nat.mul_le_mul (by omega) hz; omega) q
end
/-- a new list -/
theorem lay_list {K : Fz} {G H : Hp} {vs : List V} {ds : List D} {Q : VK} (i : Inn G H) (a : RDs K G vs ds) (q : ∀ w G' H', Ext G H G' H' → FrR K H G' H' w (.list ds) → Q w H') : ∀ p, H p = none → Q (.ref p) (upd H p (.lst vs)) := fun p n => by
  refine q _ G _ (Ext.lay i n) (.new n upd_same ?_ a)
  cases g : G p with
  | none => rfl
  | some o => rw [i p o g] at n; cases n
/-- a new tuple -/
theorem lay_tup {K : Fz} {G H : Hp} {vs : List V} {ds : List D} {Q : VK} (i : Inn G H) (a : RDs K G vs ds) (q : ∀ w G' H', Ext G H G' H' → RD K G' w (.tuple ds) → Q w H') : LayT H vs Q := fun p ob n d => by
  have x := Ext.lay2 (o := .frz ob (.tup vs)) i n
  exact q _ _ _ x (.tup ⟨ob, upd_same, d⟩ (RDs.mono x.sub a))
theorem lay_tupF {K : Fz} {G H : Hp} {vs : List V} {ds : List D} {Q : VK} (i : Inn G H) (a : RDs K G vs ds) (q : ∀ w G' H', Ext G H G' H' → FrR K H G' H' w (.tuple ds) → Q w H') : LayT H vs Q := lay_tup i a fun w G' H' x d => q w G' H' x (.std d fun _ e => by cases e)
section
variable {X : Cx}
/-- list + list, whoever holds them -/
def rCatL : R2 := fun x y H Q => ∃ l b xs zs, x = .ref l ∧ y = .ref b ∧ Rd H l (.lst xs) ∧ Rd H b (.lst zs) ∧ xs.length + zs.length ≤ sizeLine ∧ ∀ p, H p = none → Q (.ref p) (upd H p (.lst (xs ++ zs)))
theorem op_catL : OpR X (binaryOp .Add) rCatL := by
  intro pins s σ H x y v u Q I rx ry h
  obtain ⟨l, b, xs, zs, rfl, rfl, hH, hB, hz, q⟩ := h
  cases rx
  cases ry
  obtain ⟨z, its, n, r, e⟩ := Rd.ok hH I.hok
  obtain ⟨z2, its2, n2, r2, e2⟩ := Rd.ok hB I.hok
  have q1 := r.length
  have q2 := r2.length
  refine PySem.P.add_list e e2 ?_ (by rw [List.size_toArray, List.size_toArray]; omega)
  have ea : its.toArray ++ its2.toArray = (its ++ its2).toArray := by simp
  rw [ea]
  exact ⟨.ref _, _, I.lnew (t' := s.toks) (r.append r2) (by rw [List.length_append]; omega), rfl, q _ I.fresh⟩
/-- a list times an int -/
def rRepR : R2 := fun x y H Q => ∃ l k xs, x = .ref l ∧ y = .int k ∧ Rd H l (.lst xs) ∧ -(2 ^ 63) ≤ k ∧ k < 2 ^ 63 ∧ xs.length * k.toNat ≤ sizeLine ∧
  ∀ p, H p = none → Q (.ref p) (upd H p (.lst (List.replicate k.toNat xs).flatten))
theorem op_repR : OpR X (binaryOp .Mult) rRepR := by
  intro pins s σ H x y v u Q I rx ry h
  obtain ⟨l, k, xs, rfl, rfl, hH, h1, h2, hz, q⟩ := h
  cases rx
  obtain ⟨t, rfl⟩ := ry
  obtain ⟨z, its, n, r, e⟩ := Rd.ok hH I.hok
  have hl := r.length
  have hlen : its.toArray.size * k.toNat ≤ sizeLine := by rw [List.size_toArray, ← hl]; exact hz
  have hcap : ¬ its.toArray.size * k.toNat > (2 ^ 63 - 1) / 8 := by
    have : (sizeLine : Nat) ≤ (2 ^ 63 - 1) / 8 := by decide
    omega
  have hfit : ¬ (!Builtin.List.listFitsIndex k) = true := by
    rw [fitsIndex_both h1 h2]
    exact Bool.false_ne_true
  have hlong : ¬ Builtin.List.listTooLong (its.toArray.size * k.toNat) = true := by
    rw [notLongL hlen]
    exact Bool.false_ne_true
  have hnew : List.foldl (fun x1 x2 => x1 ++ x2) #[] (List.replicate (if its.toArray.isEmpty = true then 0 else k.toNat) its.toArray) = (List.replicate k.toNat its).flatten.toArray := by
    have f0 : ∀ m : Nat, List.foldl (fun x1 x2 => x1 ++ x2) #[] (List.replicate m its.toArray) = (List.replicate m its).flatten.toArray := fun m => by
      have := foldl_rep its m []
      rw [List.nil_append] at this
      exact this
    rw [f0]
    cases its with
    | nil => simp
    | cons a r' => rw [if_neg (by simp)]
  refine wpAny_binaryOp_repeat_ref (T := "list") (U := "int") (by decide) ⟨_, e, rfl⟩ (fun s' => typeIs_int s' k t) noFill_list_mul F.fills_int_mul F.slot_int_rmul repeat_list F.slot_int_index.lookup
    (call_meets F.slot_int_rmul (typeIs_int s k t) F.entry_int_rmul (F.args_int_rmul_2 _ _) (int___rmul___int_list k t l its.toArray n)
      ⟨e, rfl, ⟨_, e, rfl⟩, call_meets F.slot_list_mul ⟨_, e, rfl⟩ F.entry_list_mul (F.args_list_mul_2 _ _) (AutoListH.list___mul___list_int_3 l its.toArray n k t hfit hcap hlong) ⟨e, ?_⟩⟩)
  rw [hnew]
  exact ⟨.ref _, _, I.lnew (t' := s.toks) (r.rep k.toNat) (by rw [PyProof.Rows.lm_len_rep_flat, Nat.mul_comm]; exact hz), rfl, q _ I.fresh⟩
theorem powOk_of {i j : Int} (h : powOk i j = true) : CPow i j := by
  unfold powOk at h
  simp only [Bool.and_eq_true, decide_eq_true_eq] at h
  exact ⟨h.1, h.2.1, h.2.2⟩

/-! ### + - * // % ** << >> & | ^ -/
def rPlus (K : Fz) : R2 := fun x y H Q => rI0 (fun i j => .int (i + j)) x y H Q ∨ (∃ i j, x = .str i ∧ y = .str j ∧ i.length + j.length ≤ sizeLine ∧ Q (.str (i ++ j)) H) ∨ rCatL x y H Q ∨ rCatZ K.K x y H Q
theorem op_plus : OpR X (binaryOp .Add) (rPlus (kw X)) := op_add.or (op_add_str.or (op_catL.or op_catZ))
def rTimes (K : Fz) : R2 := fun x y H Q => rI CMul (fun i j => .int (i * j)) x y H Q ∨ rRepR x y H Q ∨ rRepZ K.K x y H Q
theorem op_times : OpR X (binaryOp .Mult) (rTimes (kw X)) := op_mul.or (op_repR.or op_repZ)
theorem repL_flat {α : Type} (xs : List α) : ∀ n, repL xs n = (List.replicate n xs).flatten
  | 0 => rfl
  | n + 1 => by rw [List.replicate_succ, List.flatten_cons, ← repL_flat xs n]; rfl
theorem RDs.rep {K : Fz} {G : Hp} {vs : List V} {ds : List D} (h : RDs K G vs ds) : ∀ n, RDs K G (List.replicate n vs).flatten (repL ds n)
  | 0 => .nil
  | n + 1 => by rw [List.replicate_succ, List.flatten_cons]; exact RDs.append h (RDs.rep h n)
theorem FrR.int {K : Fz} {H G' H' : Hp} {i : Int} : FrR K H G' H' (.int i) (.int i) := .std (.int i) fun _ e => by cases e
theorem FrR.str {K : Fz} {H G' H' : Hp} {i : Str} : FrR K H G' H' (.str i) (.str i) := .std (.str i) fun _ e => by cases e
theorem small_of {i : Int} (h : small64 i = true) : -(2 ^ 64) < i ∧ i < 2 ^ 64 := by
  unfold small64 big64 at h
  simp only [Bool.and_eq_true, decide_eq_true_eq] at h
  exact ⟨by omega, by omega⟩
theorem f_plus {K : Fz} : OpF K (rPlus K) (binD .add) := by
  intro G H O x y z v u Q i e a b q
  cases x <;> cases y <;> try (cases e; done)
  case int m n =>
    rw [a.int, b.int]
    have : z = .int (m + n) := (Option.some.inj e).symm
    subst this
    exact .inl ⟨m, n, rfl, rfl, q _ G H (Ext.refl i) .int⟩
  case str m n =>
    have e' : (if m.length + n.length ≤ lim then some (PyData.str (m ++ n)) else none) = some z := e
    by_cases hl : m.length + n.length ≤ lim
    · rw [if_pos hl] at e'
      cases e'
      rw [a.str, b.str]
      exact .inr (.inl ⟨m, n, rfl, rfl, by rw [lim_eq]; exact hl, q _ G H (Ext.refl i) .str⟩)
    · rw [if_neg hl] at e'; cases e'
  case list xs ys =>
    have e' : (if xs.length + ys.length ≤ lim then some (PyData.list (xs ++ ys)) else none) = some z := e
    by_cases hl : xs.length + ys.length ≤ lim
    · rw [if_pos hl] at e'
      cases e'
      obtain ⟨p, vs, rfl, h1, h2⟩ := a.list i
      obtain ⟨p', vs', rfl, h1', h2'⟩ := b.list i
      refine .inr (.inr (.inl ⟨p, p', vs, vs', rfl, rfl, h1, h1', ?_, lay_list i (RDs.append h2 h2') q⟩))
      rw [RDs.length h2, RDs.length h2', lim_eq]; exact hl
    · rw [if_neg hl] at e'; cases e'
  case tuple xs ys =>
    have e' : (if xs.length + ys.length ≤ lim then some (PyData.tuple (xs ++ ys)) else none) = some z := e
    by_cases hl : xs.length + ys.length ≤ lim
    · rw [if_pos hl] at e'
      cases e'
      obtain ⟨p, vs, rfl, h1, h2, h3⟩ := a.tuple i
      obtain ⟨p', vs', rfl, h1', h2', h3'⟩ := b.tuple i
      refine .inr (.inr (.inr ⟨p, p', vs, vs', rfl, rfl, h1.sq, h1'.sq, ?_, fun n1 => ?_, fun _ n2 => ?_, fun _ _ => lay_tupF i (RDs.append h2 h2') q⟩))
      · rw [RDs.length h2, RDs.length h2', lim_eq]; exact hl
      · have : xs = [] := by cases h2 <;> simp_all
        subst this
        exact q _ G H (Ext.refl i) (.std h3' fun _ e => by cases e)
      · have : ys = [] := by cases h2' <;> simp_all
        subst this
        rw [List.append_nil] at q
        exact q _ G H (Ext.refl i) (.std h3 fun _ e => by cases e)
    · rw [if_neg hl] at e'; cases e'
theorem f_times {K : Fz} : OpF K (rTimes K) (binD .mul) := by
  intro G H O x y z v u Q i e a b q
  cases x <;> cases y <;> try (cases e; done)
  case int m n =>
    rw [a.int, b.int]
    have e' : ((if small64 m || small64 n then some (m * n) else none).map PyData.int) = some z := e
    by_cases hs : (small64 m || small64 n) = true
    · rw [if_pos hs] at e'
      cases e'
      refine .inl ⟨m, n, rfl, rfl, ?_, q _ G H (Ext.refl i) .int⟩
      rcases Bool.or_eq_true_iff.mp hs with h | h
      · exact .inl (small_of h)
      · exact .inr (small_of h)
    · rw [if_neg hs] at e'; cases e'
  case list.int xs k =>
    have e' : (if 0 ≤ k ∧ k < 9223372036854775808 ∧ xs.length * k.toNat ≤ lim then some (PyData.list (repL xs k.toNat)) else none) = some z := e
    by_cases hl : 0 ≤ k ∧ k < 9223372036854775808 ∧ xs.length * k.toNat ≤ lim
    · rw [if_pos hl] at e'
      cases e'
      obtain ⟨p, vs, rfl, h1, h2⟩ := a.list i
      rw [b.int]
      refine .inr (.inl ⟨p, k, vs, rfl, rfl, h1, by omega, by omega, ?_, lay_list i (RDs.rep h2 k.toNat) q⟩)
      rw [RDs.length h2, lim_eq]; exact hl.2.2
    · rw [if_neg hl] at e'; cases e'
  case tuple.int xs k =>
    have e' : (if xs ≠ [] ∧ 2 ≤ k ∧ k ≤ 1000 ∧ xs.length ≤ 1000 then some (PyData.tuple (repL xs k.toNat)) else none) = some z := e
    by_cases hl : xs ≠ [] ∧ 2 ≤ k ∧ k ≤ 1000 ∧ xs.length ≤ 1000
    · rw [if_pos hl] at e'
      cases e'
      obtain ⟨p, vs, rfl, h1, h2, h3⟩ := a.tuple i
      rw [b.int]
      refine .inr (.inr ⟨p, k, vs, rfl, rfl, h1.sq, fun hn => hl.1 ?_, hl.2.1, hl.2.2.1, by rw [RDs.length h2]; exact hl.2.2.2, lay_tupF i (RDs.rep h2 k.toNat) q⟩)
      cases h2 <;> simp_all
    · rw [if_neg hl] at e'; cases e'
/-- the other operators: of ints alone -/
theorem f_ints {K : Fz} {o : Bop} {C : Int → Int → Prop} {g : Int → Int → Int} (ho : ∀ x y z, binD o x y = some z → ∃ i j, x = .int i ∧ y = .int j ∧ C i j ∧ z = .int (g i j)) : OpS K (rI C fun i j => .int (g i j)) (binD o) := by
  intro G H O x y z v u Q i e a b q
  obtain ⟨m, n, rfl, rfl, hc, rfl⟩ := ho x y z e
  rw [a.int, b.int]
  exact ⟨m, n, rfl, rfl, hc, q _ G H (Ext.refl i) (.int _)⟩
def rOp (K : Fz) : Bop → R2
  | .add => rPlus K
  | .sub => rI (fun _ _ => True) fun i j => .int (i - j)
  | .mul => rTimes K
  | .fdiv => rI CDivN fun i j => .int (i.fdiv j)
  | .mod => rI (fun _ j => j ≠ 0) fun i j => .int (i.fmod j)
  | .pow => rI CPow fun i j => .int (i ^ j.toNat)
  | .shl => rI CPow fun i j => .int (i * 2 ^ j.toNat)
  | .shr => rI (fun _ j => 0 ≤ j) fun i j => .int (i / 2 ^ j.toNat)
  | .band => rI (fun _ _ => True) fun i j => .int (Builtin.bitAnd i j)
  | .bor => rI (fun _ _ => True) fun i j => .int (Builtin.bitOr i j)
  | .bxor => rI (fun _ _ => True) fun i j => .int (Builtin.bitXor i j)
def opOf : Bop → Operator
  | .add => .Add | .sub => .Sub | .mul => .Mult | .fdiv => .FloorDiv | .mod => .Mod | .pow => .Pow | .shl => .LShift | .shr => .RShift | .band => .BitAnd | .bor => .BitOr | .bxor => .BitXor
theorem rI_of0 {f : Value → Value → Sem Value} {g : Int → Int → V} (h : OpR X f (rI0 g)) : OpR X f (rI (fun _ _ => True) g) := fun pins s σ H x y v u Q I rx ry ⟨i, j, e1, e2, _, q⟩ => h pins s σ H x y v u Q I rx ry ⟨i, j, e1, e2, q⟩
theorem op_all (o : Bop) : OpR X (binaryOp (opOf o)) (rOp (kw X) o) := by
  cases o
  · exact op_plus
  · exact rI_of0 op_sub
  · exact op_times
  · exact op_fdivN
  · exact op_modN
  · exact op_pow
  · exact op_shl
  · exact op_shr
  · exact rI_of0 op_and
  · exact rI_of0 op_or
  · exact rI_of0 op_xor
theorem binD_int (o : Bop) (i j : Int) : binD o (.int i) (.int j) = (binI o i j).map .int := by cases o <;> rfl
theorem binI_of {o : Bop} (h : o ≠ .add) (h2 : o ≠ .mul) {x y z : D} (e : binD o x y = some z) : ∃ i j k, x = .int i ∧ y = .int j ∧ binI o i j = some k ∧ z = .int k := by
  cases x <;> cases y <;> cases o <;> first
    | exact absurd rfl h
    | exact absurd rfl h2
    | (rename_i i j
       rw [binD_int] at e
       obtain ⟨k, e1, e2⟩ := Option.map_eq_some_iff.mp e
       exact ⟨i, j, k, rfl, rfl, e1, e2.symm⟩)
    | (cases e; done)
theorem s_all {K : Fz} (o : Bop) : OpS K (rOp K o) (binD o) := by
  cases o
  · exact f_plus.s
  · refine f_ints (g := fun i j => i - j) fun x y z e => ?_
    obtain ⟨i, j, k, e1, e2, e3, e4⟩ := binI_of (by decide) (by decide) e
    exact ⟨i, j, e1, e2, trivial, by rw [e4]; exact congrArg _ (Option.some.inj e3).symm⟩
  · exact f_times.s
  · refine f_ints (g := fun i j => i.fdiv j) fun x y z e => ?_
    obtain ⟨i, j, k, e1, e2, e3, e4⟩ := binI_of (by decide) (by decide) e
    have e5 : (if j ≠ 0 ∧ j.natAbs < 1073741824 then some (i.fdiv j) else none) = some k := e3
    by_cases hc : j ≠ 0 ∧ j.natAbs < 1073741824
    · rw [if_pos hc] at e5
      exact ⟨i, j, e1, e2, hc, by rw [e4]; exact congrArg _ (Option.some.inj e5).symm⟩
    · rw [if_neg hc] at e5; cases e5
  · refine f_ints (g := fun i j => i.fmod j) fun x y z e => ?_
    obtain ⟨i, j, k, e1, e2, e3, e4⟩ := binI_of (by decide) (by decide) e
    have e5 : (if j ≠ 0 then some (i.fmod j) else none) = some k := e3
    by_cases hc : j ≠ 0
    · rw [if_pos hc] at e5
      exact ⟨i, j, e1, e2, hc, by rw [e4]; exact congrArg _ (Option.some.inj e5).symm⟩
    · rw [if_neg hc] at e5; cases e5
  · refine f_ints (g := fun i j => i ^ j.toNat) fun x y z e => ?_
    obtain ⟨i, j, k, e1, e2, e3, e4⟩ := binI_of (by decide) (by decide) e
    have e5 : (if powOk i j then some (i ^ j.toNat) else none) = some k := e3
    by_cases hc : powOk i j = true
    · rw [if_pos hc] at e5
      exact ⟨i, j, e1, e2, powOk_of hc, by rw [e4]; exact congrArg _ (Option.some.inj e5).symm⟩
    · rw [if_neg hc] at e5; cases e5
  · refine f_ints (g := fun i j => i * 2 ^ j.toNat) fun x y z e => ?_
    obtain ⟨i, j, k, e1, e2, e3, e4⟩ := binI_of (by decide) (by decide) e
    have e5 : (if powOk i j then some (i * 2 ^ j.toNat) else none) = some k := e3
    by_cases hc : powOk i j = true
    · rw [if_pos hc] at e5
      exact ⟨i, j, e1, e2, powOk_of hc, by rw [e4]; exact congrArg _ (Option.some.inj e5).symm⟩
    · rw [if_neg hc] at e5; cases e5
  · refine f_ints (g := fun i j => i / 2 ^ j.toNat) fun x y z e => ?_
    obtain ⟨i, j, k, e1, e2, e3, e4⟩ := binI_of (by decide) (by decide) e
    have e5 : (if 0 ≤ j then some (i / 2 ^ j.toNat) else none) = some k := e3
    by_cases hc : 0 ≤ j
    · rw [if_pos hc] at e5
      exact ⟨i, j, e1, e2, hc, by rw [e4]; exact congrArg _ (Option.some.inj e5).symm⟩
    · rw [if_neg hc] at e5; cases e5
  · refine f_ints (g := fun i j => Builtin.bitAnd i j) fun x y z e => ?_
    obtain ⟨i, j, k, e1, e2, e3, e4⟩ := binI_of (by decide) (by decide) e
    exact ⟨i, j, e1, e2, trivial, by rw [e4]; exact congrArg _ (Option.some.inj e3).symm⟩
  · refine f_ints (g := fun i j => Builtin.bitOr i j) fun x y z e => ?_
    obtain ⟨i, j, k, e1, e2, e3, e4⟩ := binI_of (by decide) (by decide) e
    exact ⟨i, j, e1, e2, trivial, by rw [e4]; exact congrArg _ (Option.some.inj e3).symm⟩
  · refine f_ints (g := fun i j => Builtin.bitXor i j) fun x y z e => ?_
    obtain ⟨i, j, k, e1, e2, e3, e4⟩ := binI_of (by decide) (by decide) e
    exact ⟨i, j, e1, e2, trivial, by rw [e4]; exact congrArg _ (Option.some.inj e3).symm⟩
end
end Fw
end
section
set_option Elab.async false
set_option linter.all false
set_option maxRecDepth 100000
set_option maxHeartbeats 4000000
namespace Fw
open PySem PySem.Spec L2
theorem shp_nd {es : List (D × D)} : shp (.dict es) = false := rfl
section
variable {X : Cx} {K : Fz} {G H : Hp} {O : Addr → Prop}
theorem DK.shp {v : V} {d : D} (i : Inn G H) (b : DK K G H O v d) (h : shp d = true) : L2.Dp K.K H v d := b.dp i fun es e => by rw [e, shp_nd] at h; cases h
/-! ### == != -/
def rEqA (K : Fz) : R2 := fun x y H Q => (∃ a b, x = .str a ∧ y = .str b ∧ Q (.bl (decide (a = b))) H) ∨ rEqD K.K x y H Q
def rNeA (K : Fz) : R2 := fun x y H Q => (∃ a b, x = .str a ∧ y = .str b ∧ Q (.bl (!decide (a = b))) H) ∨ rNeD K.K x y H Q
theorem dstr {a b : Str} : decide (V.str a = V.str b) = decide (a = b) := by
  by_cases e : a = b
  · rw [e]; simp
  · rw [decide_eq_false e, decide_eq_false fun q => e (V.str.inj q)]
theorem op_eqA (hu : X.A.units + 64 < cLine) : OpR X (compareOp .Eq) (rEqA (kw X)) := (OpR.or (r := fun x y H Q => ∃ a b, x = .str a ∧ y = .str b ∧ Q (.bl (decide (a = b))) H) (fun pins s σ H x y v u Q I rx ry ⟨a, b, e1, e2, q⟩ => op_eq pins s σ H x y v u Q I rx ry ⟨by rw [e1, e2]; rfl, by rw [e1, e2, dstr]; exact q⟩) (op_eqD hu))
theorem op_neA (hu : X.A.units + 64 < cLine) : OpR X (compareOp .NotEq) (rNeA (kw X)) := (OpR.or (r := fun x y H Q => ∃ a b, x = .str a ∧ y = .str b ∧ Q (.bl (!decide (a = b))) H) (fun pins s σ H x y v u Q I rx ry ⟨a, b, e1, e2, q⟩ => op_ne pins s σ H x y v u Q I rx ry ⟨by rw [e1, e2]; rfl, by rw [e1, e2, dstr]; exact q⟩) (op_neD hu))
theorem eqD_of {x y : D} {z : Bool} (e : eqD x y = some z) : (∃ a b, x = .str a ∧ y = .str b ∧ z = decide (a = b)) ∨ (shp x = true ∧ shp y = true ∧ z = PyData.eqv x y) := by
  have gen : (if shp x && shp y then some (PyData.eqv x y) else none) = some z → (shp x = true ∧ shp y = true ∧ z = PyData.eqv x y) := fun e => by
    by_cases h : (shp x && shp y) = true
    · rw [if_pos h] at e
      exact ⟨(Bool.and_eq_true_iff.mp h).1, (Bool.and_eq_true_iff.mp h).2, (Option.some.inj e).symm⟩
    · rw [if_neg h] at e; cases e
  cases x <;> cases y <;> first
    | exact .inr (gen e)
    | exact .inl ⟨_, _, rfl, rfl, (Option.some.inj e).symm⟩
theorem b_eq : OpB K (rEqA K) (cmpD .eq) := by
  intro G H O x y z v u Q i e a b q
  rcases eqD_of e with ⟨m, n, rfl, rfl, rfl⟩ | ⟨h1, h2, rfl⟩
  · exact .inl ⟨m, n, a.str, b.str, q⟩
  · exact .inr ⟨x, y, a.shp i h1, b.shp i h2, h1, h2, q⟩
theorem b_ne : OpB K (rNeA K) (cmpD .ne) := by
  intro G H O x y z v u Q i e a b q
  obtain ⟨k, e1, rfl⟩ := Option.map_eq_some_iff.mp (show (eqD x y).map not = some z from e)
  rcases eqD_of e1 with ⟨m, n, rfl, rfl, rfl⟩ | ⟨h1, h2, rfl⟩
  · exact .inl ⟨m, n, a.str, b.str, q⟩
  · exact .inr ⟨x, y, a.shp i h1, b.shp i h2, h1, h2, q⟩
/-! ### < <= > >= -/
def rLtD (K : Fz) : R2 := fun x y H Q => ∃ d e, Dp K.K H x d ∧ Dp K.K H y e ∧ PySem.W.alike d e = true ∧ d ≠ .none ∧ SeqAt.shaped d = true ∧ SeqAt.shaped e = true ∧ Q (.bl (PySem.W.dataLt d e)) H
theorem op_ltD (hu : X.A.units + 64 < cLine) : OpR X (compareOp .Lt) (rLtD (kw X)) := by
  intro pins s σ H x y v u Q I rx ry h
  obtain ⟨d, e, hd, he, ha, hn, sd, se, q⟩ := h
  obtain ⟨as, r1⟩ := Dp.reads I d x v hd rx
  obtain ⟨bs, r2⟩ := Dp.reads I e y u he ry
  have z : wpAny (model X.prog X.w) X.A (compareOp .Lt v u) (EP X pins σ Q) X.xe s := PySem.W.rcLt_alike d e X.A s v u as bs r1 r2 ha hn (SeqAt.room_of_shaped sd hu) X.prog X.w X.xe (EP X pins σ Q) ⟨.bl _, H, I, rfl, q⟩
  exact z
def rLtA (K : Fz) : R2 := fun x y H Q => rI0 (fun i j => .bl (decide (i < j))) x y H Q ∨ (∃ i j, x = .str i ∧ y = .str j ∧ Q (.bl (decide (i.cps.toList < j.cps.toList))) H) ∨ rLtD K x y H Q
theorem op_ltA (hu : X.A.units + 64 < cLine) : OpR X (compareOp .Lt) (rLtA (kw X)) := op_lt.or (op_lt_str.or (op_ltD hu))
theorem b_lt : OpB K (rLtA K) (cmpD .lt) := by
  intro G H O x y z v u Q i e a b q
  have gen : (if PySem.W.alike x y && (shp x && shp y) && isTup x then some (PySem.W.dataLt x y) else none) = some z → rLtA K v u H Q := fun e => by
    by_cases h : (PySem.W.alike x y && (shp x && shp y) && isTup x) = true
    · rw [if_pos h] at e
      cases e
      simp only [Bool.and_eq_true] at h
      obtain ⟨⟨h1, h2, h3⟩, h4⟩ := h
      exact .inr (.inr ⟨x, y, a.shp i h2, b.shp i h3, h1, (by rintro rfl; cases h4), h2, h3, q⟩)
    · rw [if_neg h] at e; cases e
  cases x <;> cases y <;> first
    | exact gen e
    | (rename_i m n
       have ez : z = decide (m < n) := (Option.some.inj e).symm
       rw [ez] at q
       exact .inl ⟨m, n, a.int, b.int, q⟩)
    | (rename_i m n
       have ez : z = decide (m.cps.toList < n.cps.toList) := (Option.some.inj e).symm
       rw [ez] at q
       exact .inr (.inl ⟨m, n, a.str, b.str, q⟩))
def rLeA : R2 := fun x y H Q => rI0 (fun i j => .bl (decide (i ≤ j))) x y H Q ∨ (∃ i j, x = .str i ∧ y = .str j ∧ Q (.bl (!decide (j.cps.toList < i.cps.toList))) H)
theorem op_leA : OpR X (compareOp .LtE) rLeA := op_le.or op_le_str
theorem b_le : OpB K rLeA (cmpD .le) := by
  intro G H O x y z v u Q i e a b q
  cases x <;> cases y <;> try (cases e; done)
  case int m n =>
    have ez : z = decide (m ≤ n) := (Option.some.inj e).symm
    rw [ez] at q
    exact .inl ⟨m, n, a.int, b.int, q⟩
  case str m n =>
    have ez : z = !decide (n.cps.toList < m.cps.toList) := (Option.some.inj e).symm
    rw [ez] at q
    exact .inr ⟨m, n, a.str, b.str, q⟩
theorem b_gt : OpB K (rI0 fun i j => .bl (decide (j < i))) (cmpD .gt) := by
  intro G H O x y z v u Q i e a b q
  cases x <;> cases y <;> try (cases e; done)
  case int m n =>
    have ez : z = decide (n < m) := (Option.some.inj e).symm
    rw [ez] at q
    exact ⟨m, n, a.int, b.int, q⟩
theorem b_ge : OpB K (rI0 fun i j => .bl (decide (j ≤ i))) (cmpD .ge) := by
  intro G H O x y z v u Q i e a b q
  cases x <;> cases y <;> try (cases e; done)
  case int m n =>
    have ez : z = decide (n ≤ m) := (Option.some.inj e).symm
    rw [ez] at q
    exact ⟨m, n, a.int, b.int, q⟩
/-! ### in, not in -/
def rInT (K : Fz) : R2 := fun x y H Q => ∃ d ds, Dp K.K H x d ∧ Dp K.K H y (.tuple ds) ∧ SeqAt.shaped d = true ∧ SeqAt.shaped (.tuple ds) = true ∧ Q (.bl (ds.any fun z => PyData.eqv z d)) H
def rNotInT (K : Fz) : R2 := fun x y H Q => ∃ d ds, Dp K.K H x d ∧ Dp K.K H y (.tuple ds) ∧ SeqAt.shaped d = true ∧ SeqAt.shaped (.tuple ds) = true ∧ Q (.bl (!ds.any fun z => PyData.eqv z d)) H
theorem op_inT (hu : X.A.units + 65 < cLine) : OpR X (compareOp .In) (rInT (kw X)) := by
  intro pins s σ H x y v u Q I rx ry h
  obtain ⟨d, ds, hd, he, sd, se, q⟩ := h
  obtain ⟨as, r1⟩ := Dp.reads I d x v hd rx
  obtain ⟨bs, r2⟩ := Dp.reads I (.tuple ds) y u he ry
  exact SeqAt.in_tuple_reads r2 r1 (SeqAt.canLay_of_shaped se) (SeqAt.canLay_of_shaped sd) (PyProof.Rows.room_in_shaped sd hu) ⟨.bl _, H, I, rfl, q⟩
theorem op_notInT (hu : X.A.units + 65 < cLine) : OpR X (compareOp .NotIn) (rNotInT (kw X)) := by
  intro pins s σ H x y v u Q I rx ry h
  obtain ⟨d, ds, hd, he, sd, se, q⟩ := h
  obtain ⟨as, r1⟩ := Dp.reads I d x v hd rx
  obtain ⟨bs, r2⟩ := Dp.reads I (.tuple ds) y u he ry
  exact SeqAt.notIn_tuple_reads r2 r1 (SeqAt.canLay_of_shaped se) (SeqAt.canLay_of_shaped sd) (PyProof.Rows.room_in_shaped sd hu) ⟨.bl _, H, I, rfl, q⟩
/-! ### dicts -/
theorem key_eqv : ∀ a b : Key, PyData.eqv (keyD a) (keyD b) = decide (a = b)
  | .inl i, .inl j => by
    have e : PyData.eqv (keyD (.inl i)) (keyD (.inl j)) = (i == j) := by simp [keyD, PyData.eqv]
    rw [e, key_ll]
  | .inl i, .inr y => by
    have e : PyData.eqv (keyD (.inl i)) (keyD (.inr y)) = false := by simp [keyD, PyData.eqv]
    rw [e, key_lr]
  | .inr x, .inl j => by
    have e : PyData.eqv (keyD (.inr x)) (keyD (.inl j)) = false := by simp [keyD, PyData.eqv]
    rw [e, key_rl]
  | .inr x, .inr y => by
    have e : PyData.eqv (keyD (.inr x)) (keyD (.inr y)) = (x == y) := by simp [keyD, PyData.eqv]
    rw [e, key_rr]
    by_cases h : x = y
    · subst h; simp
    · rw [decide_eq_false h]; exact beq_eq_false_iff_ne.mpr h
theorem keys_eqv : ∀ a b : List Key, PyData.eqvAll (a.map keyD) (b.map keyD) = decide (a = b)
  | [], [] => by simp [PyData.eqvAll]
  | [], _ :: _ => by simp [PyData.eqvAll]
  | _ :: _, [] => by simp [PyData.eqvAll]
  | x :: xs, y :: ys => by
    rw [List.map_cons, List.map_cons]
    have e : PyData.eqvAll (keyD x :: xs.map keyD) (keyD y :: ys.map keyD) = (PyData.eqv (keyD x) (keyD y) && PyData.eqvAll (xs.map keyD) (ys.map keyD)) := by simp [PyData.eqvAll]
    rw [e, key_eqv, keys_eqv xs ys]
    by_cases h : x = y <;> by_cases h2 : xs = ys <;> simp [h, h2]
theorem tkey_eqv (a b : List Key) : PyData.eqv (tkeyD a) (tkeyD b) = decide (a = b) := by
  have e : PyData.eqv (tkeyD a) (tkeyD b) = PyData.eqvAll (a.map keyD) (b.map keyD) := by simp [tkeyD, PyData.eqv]
  rw [e, keys_eqv]
/-- the same thing found -/
def SameO (K : Fz) (G : Hp) : Option V → Option D → Prop
  | some v, some d => RD K G v d
  | Option.none, Option.none => True
  | _, _ => False
section
variable {κ : Type} [DecidableEq κ] {f : κ → D} {kvs : List (κ × V)} {es : List (D × D)}
abbrev KvR (K : Fz) (G : Hp) (f : κ → D) : List (κ × V) → List (D × D) → Prop := Paired fun (p : κ × V) (q : D × D) => f p.1 = q.1 ∧ RD K G p.2 q.2
theorem kget_of (hf : ∀ a b, PyData.eqv (f a) (f b) = decide (a = b)) (k : κ) : ∀ {kvs es}, KvR K G f kvs es → SameO K G (valV kvs k) (kget (f k) es)
  | _, _, .nil => trivial
  | p :: r, q :: t, .cons h n => by
    obtain ⟨h1, h2⟩ := h
    have ih := kget_of hf k n
    unfold kget
    rw [← h1, hf]
    by_cases e : p.1 = k
    · rw [decide_eq_true e, valV_pos e]; exact h2
    · rw [decide_eq_false e, valV_neg e]; exact ih
theorem any_of (hf : ∀ a b, PyData.eqv (f a) (f b) = decide (a = b)) (k : κ) : ∀ {kvs es}, KvR K G f kvs es → (kvs.any fun kv => decide (kv.1 = k)) = es.any fun kv => PyData.eqv kv.1 (f k)
  | _, _, .nil => rfl
  | p :: r, q :: t, .cons h n => by
    rw [List.any_cons, List.any_cons, any_of hf k n, ← h.1, hf]
theorem map_of (hf : ∀ a b, PyData.eqv (f a) (f b) = decide (a = b)) (k : κ) {v : V} {d : D} (hv : RD K G v d) : ∀ {kvs es}, KvR K G f kvs es → KvR K G f (kvs.map fun kv => if kv.1 = k then (kv.1, v) else kv) (es.map fun kv => if PyData.eqv kv.1 (f k) then (kv.1, d) else kv)
  | _, _, .nil => .nil
  | p :: r, q :: t, .cons h n => by
    refine .cons ?_ (map_of hf k hv n)
    show f (if p.1 = k then (p.1, v) else p).1 = (if PyData.eqv q.1 (f k) = true then (q.1, d) else q).1 ∧ RD K G (if p.1 = k then (p.1, v) else p).2 (if PyData.eqv q.1 (f k) = true then (q.1, d) else q).2
    rw [← h.1, hf]
    by_cases e : p.1 = k
    · rw [decide_eq_true e, if_pos e, if_pos rfl]; exact ⟨rfl, hv⟩
    · rw [decide_eq_false e, if_neg e, if_neg (by simp)]; exact h
theorem KvR.append : ∀ {kvs es kvs' es'}, KvR K G f kvs es → KvR K G f kvs' es' → KvR K G f (kvs ++ kvs') (es ++ es')
  | _, _, _, _, .nil, h => h
  | _, _, _, _, .cons a r, h => .cons a (KvR.append r h)
theorem kput_of (hf : ∀ a b, PyData.eqv (f a) (f b) = decide (a = b)) (k : κ) {v : V} {d : D} (hv : RD K G v d) {kvs es} (h : KvR K G f kvs es) : KvR K G f (putK kvs k v) (kput (f k) d es) := by
  unfold putK kput
  rw [any_of hf k h]
  by_cases e : (es.any fun kv => PyData.eqv kv.1 (f k)) = true
  · rw [if_pos e, if_pos e]; exact map_of hf k hv h
  · rw [if_neg e, if_neg e]; exact KvR.append h (.cons ⟨rfl, hv⟩ .nil)
end
theorem keyA_of {d : D} (h : keyA d = true) : ∃ k, d = keyD k := by
  cases d <;> first | cases h; done | exact ⟨.inl _, rfl⟩ | exact ⟨.inr _, rfl⟩
theorem keysA_of : ∀ {ds : List D}, ds.all keyA = true → ∃ ks : List Key, ds = ks.map keyD
  | [], _ => ⟨[], rfl⟩
  | d :: r, h => by
    rw [List.all_cons, Bool.and_eq_true] at h
    obtain ⟨k, rfl⟩ := keyA_of h.1
    obtain ⟨ks, rfl⟩ := keysA_of h.2
    exact ⟨k :: ks, rfl⟩
theorem keyF_of {d : D} (h : keyOk false d = true) : ∃ k, d = keyD k := keyA_of h
theorem keyT_of {d : D} (h : keyOk true d = true) : ∃ ks, d = tkeyD ks := by
  cases d <;> first
    | (cases h; done)
    | (rename_i xs
       obtain ⟨ks, rfl⟩ := keysA_of (show xs.all keyA = true from h)
       exact ⟨ks, rfl⟩)
theorem DB.key {v : V} {k : Key} (b : DB K G H O v (keyD k)) : v = kV k := by
  cases k with
  | inl i => exact b.int
  | inr x => exact b.str
theorem RD.key {v : V} {k : Key} (b : RD K G v (keyD k)) : v = kV k := DB.key (H := G) (O := fun _ => True) (.std b)
theorem RDs.keys : ∀ {vs : List V} {ks : List Key}, RDs K G vs (ks.map keyD) → vs = ks.map kV
  | _, [], h => by cases h; rfl
  | _, k :: ks, h => by
    cases h with
    | cons a r => rw [RD.key a, RDs.keys r]; rfl
theorem DB.tkey (i : Inn G H) {v : V} {k : List Key} (b : DB K G H O v (tkeyD k)) : ∃ a, v = .ref a ∧ Tu H a (k.map kV) := by
  obtain ⟨a, vs, rfl, h1, h2, _⟩ := b.tuple i
  rw [RDs.keys h2] at h1
  exact ⟨a, rfl, h1⟩
theorem RD.tkey {v : V} {k : List Key} (b : RD K G v (tkeyD k)) : ∃ a, v = .ref a ∧ Tu G a (k.map kV) := DB.tkey (H := G) (O := fun _ => True) (fun _ _ e => e) (.std b)
/-! a dict of which the keys are tuples -/
theorem kgetT (k : List Key) : ∀ {xs : List TkE} {es : List (D × D)}, KvT K G xs es → match atKey xs k, kget (tkeyD k) es with
    | some p, some d => ∃ v, RelV v p.2 ∧ RD K G v d
    | Option.none, Option.none => True
    | _, _ => False
  | _, _, .nil => trivial
  | x :: xs, e :: es, .cons h n => by
    obtain ⟨h1, _, h3⟩ := h
    have ih := kgetT k n
    unfold kget
    rw [← h1, tkey_eqv]
    by_cases q : x.1 = k
    · have b : atKey (x :: xs) k = some x.2 := by simp [atKey, List.find?_cons, q]
      rw [b, decide_eq_true q]
      exact h3
    · have b : atKey (x :: xs) k = atKey xs k := by simp [atKey, List.find?_cons, q]
      rw [b, decide_eq_false q]
      exact ih
theorem anyT (k : List Key) : ∀ {xs : List TkE} {es : List (D × D)}, KvT K G xs es → (atKey xs k).isSome = es.any fun kv => PyData.eqv kv.1 (tkeyD k)
  | _, _, .nil => rfl
  | x :: xs, e :: es, .cons h n => by
    obtain ⟨h1, _, h3⟩ := h
    rw [List.any_cons, ← anyT k n, ← h1, tkey_eqv]
    by_cases q : x.1 = k
    · have b : atKey (x :: xs) k = some x.2 := by simp [atKey, List.find?_cons, q]
      rw [b, decide_eq_true q] <;> rfl
    · have b : atKey (x :: xs) k = atKey xs k := by simp [atKey, List.find?_cons, q]
      rw [b, decide_eq_false q] <;> rfl
theorem mapT (k : List Key) {v : V} {u : Value} {d : D} (rv : RelV v u) (hv : RD K G v d) : ∀ {xs : List TkE} {es : List (D × D)}, KvT K G xs es → KvT K G (xs.map (putAt k u)) (es.map fun kv => if PyData.eqv kv.1 (tkeyD k) then (kv.1, d) else kv)
  | _, _, .nil => .nil
  | x :: xs, e :: es, .cons h n => by
    refine .cons ?_ (mapT k rv hv n)
    obtain ⟨h1, h2, h3⟩ := h
    dsimp only
    rw [← h1, tkey_eqv]
    unfold putAt
    by_cases q : x.1 = k
    · rw [if_pos q, decide_eq_true q]; exact ⟨rfl, h2, v, rv, hv⟩
    · rw [if_neg q, decide_eq_false q]; exact ⟨h1, h2, h3⟩
theorem KvT.append : ∀ {xs ys : List TkE} {es fs : List (D × D)}, KvT K G xs es → KvT K G ys fs → KvT K G (xs ++ ys) (es ++ fs)
  | _, _, _, _, .nil, h => h
  | _, _, _, _, .cons a r, h => .cons a (KvT.append r h)
theorem kputT {k : List Key} {b : Addr} {v : V} {u : Value} {d : D} (rv : RelV v u) (hv : RD K G v d) (hb : Tu G b (k.map kV)) {xs : List TkE} {es : List (D × D)} (h : KvT K G xs es) : KvT K G (storedH xs k b u) (kput (tkeyD k) d es) := by
  unfold storedH kput
  rw [anyT k h]
  by_cases e : (es.any fun kv => PyData.eqv kv.1 (tkeyD k)) = true
  · rw [if_pos e, if_pos e]; exact mapT k rv hv h
  · rw [if_neg e, if_neg e]; exact KvT.append h (.cons ⟨rfl, hb, v, rv, hv⟩ .nil)
theorem key_ofZ {P : Program} {w : World} {H : Hp} {h : Heap} {a : Addr} {ks : List Key} (ok : HOk P w H h) (e : Tu H a (ks.map kV)) : (tupleKind (mixKind P w)).is h ks a := by
  obtain ⟨_, its, r, o, h1, h2, n, h3⟩ := (show ObjOk P w H h a (.tup (ks.map kV)) from e.rd.ok ok)
  exact ⟨o, its.toArray, n, h1, h2, h3, by simpa using items_are r⟩
theorem dtz_keys {P : Program} {w : World} {h : Heap} {fz : Fz} (ok : HOk P w H h) (i : Inn G H) : ∀ {xs : List TkE} {es : List (D × D)}, KvT fz G xs es → ∀ x ∈ xs, (tupleKind (mixKind P w)).is h x.1 x.2.1
  | _, _, .nil, x, hx => nomatch hx
  | y :: ys, e :: es, .cons a r, x, hx => by
    rcases List.mem_cons.mp hx with e | hx
    · subst e; exact key_ofZ ok (a.2.1.mono i)
    · exact dtz_keys ok i r x hx
theorem dtz_of {pins : List (Addr × Obj)} {σ : St} {s : Shared} {a : Addr} {xs : List TkE} {es : List (D × D)} (I : Inv X pins σ H s) (i : Inn G H) (e : H a = some (DTO (kw X) a xs)) (kv : KvT (kw X) G xs es) :
    (a == sysModules) = false ∧ xs.length ≤ sizeLine ∧ s.heap.DictOfH (tupleKind (mixKind X.prog X.w)) a xs := by
  obtain ⟨⟨z, y, o, es', ep, h1, h2, h3, h4, h5⟩, _⟩ := I.hok a _ e
  exact ⟨z, y, o, es', ep, h1, h2, h3, h4, dtz_keys I.hok i kv, h5⟩
theorem dtz_new {P : Program} {w : World} {k : PySem.W.Frag} {H : Hp} {h : Heap} {a : Addr} {xs : List TkE} (z : (a == sysModules) = false) (l : xs.length ≤ sizeLine) (d : h.DictOfH (tupleKind (mixKind P w)) a xs) : ObjOk P w H h a (DTO ⟨k, P, w⟩ a xs) := by
  obtain ⟨o, es, ep, h1, h2, h3, h4, _, h5⟩ := d
  exact ⟨⟨z, l, o, es, ep, h1, h2, h3, h4, h5⟩, ⟨o, h1⟩, fun g1 g2 ⟨z, l, o, es, ep, h1, r⟩ k => ⟨z, l, o, es, ep, k _ h1, r⟩⟩
/-- what a dict holds at a key -/
inductive DGz (K : Fz) (G H : Hp) (a : Addr) (u : V) (o : Option D) : Prop
  | k {kvs : List (Key × V)} {k : Key} : H a = some (.dK kvs) → u = kV k → SameO K G (valV kvs k) o → DGz K G H a u o
  | t {xs : List TkE} {es : List (D × D)} {k : List Key} {b : Addr} : H a = some (DTO K a xs) → KvT K G xs es → u = .ref b → Tu H b (k.map kV) → kget (tkeyD k) es = o → DGz K G H a u o
theorem dget_of (i : Inn G H) {v u : V} {k : D} {es : List (D × D)} {o : Option D} (b : DB K G H O v (.dict es)) (bk : DB K G H O u k) (e : dget k es = some o) : ∃ a, v = .ref a ∧ DGz K G H a u o := by
  obtain ⟨a, rfl, ⟨kvs, es', rfl, h1, h2⟩ | ⟨kvs, es', rfl, h1, h2⟩⟩ := b.dict
  · have e' : (if keyOk false k then some (kget k es') else Option.none) = some o := e
    by_cases hk : keyOk false k = true
    · rw [if_pos hk] at e'
      cases e'
      obtain ⟨c, rfl⟩ := keyF_of hk
      exact ⟨a, rfl, .k h1 bk.key (kget_of key_eqv c h2)⟩
    · rw [if_neg hk] at e'; cases e'
  · have e' : (if keyOk true k then some (kget k es') else Option.none) = some o := e
    by_cases hk : keyOk true k = true
    · rw [if_pos hk] at e'
      cases e'
      obtain ⟨c, rfl⟩ := keyT_of hk
      obtain ⟨b', rfl, hb⟩ := bk.tkey i
      exact ⟨a, rfl, .t h1 h2 rfl hb rfl⟩
    · rw [if_neg hk] at e'; cases e'
theorem sameO_some {r : Option V} {d : D} (h : SameO K G r (some d)) : ∃ v, r = some v ∧ RD K G v d := by
  cases r with
  | none => cases h
  | some v => exact ⟨v, rfl, h⟩
section
variable {pins : List (Addr × Obj)} {σ : St} {s : Shared} {a : Addr} {u : V} {y : Value} {A : Around} {E : Value → Shared → Prop}
theorem z_getItem {d : D} {Q : Value → Shared → Prop} (hu : A.units + 1 < cLine) (I : Inv X pins σ H s) (i : Inn G H) (g : DGz (kw X) G H a u (some d)) (ry : RelV u y) (h : ∀ v w' s', Inv X pins σ H s' → RD (kw X) G v d → RelV v w' → Q w' s') :
    wpAny (model X.prog X.w) A (getItem (.ref a) y) Q E s := by
  cases g with
  | k e eu so =>
    obtain ⟨v, e2, rd⟩ := sameO_some so
    exact d_getItem hu I (.inl ⟨_, _, .inl e, eu, e2.symm⟩) ry fun w' s' I' rw' => h v w' s' I' rd rw'
  | @t xs es kk b e kv eu eb l =>
    subst eu
    cases (show y = Value.ref _ from ry)
    obtain ⟨z, hd, dd⟩ := dtz_of I i e kv
    have q := kgetT kk kv
    rw [l] at q
    split at q
    · rename_i p d' hp hd'
      cases hd'
      obtain ⟨v, rv, rd⟩ := q
      exact wpAny_getItem_heap (tupleKind_room_in1 hu) (key_ofZ I.hok eb) dd hp (h v _ _ (I.tok _) rd rv)
    · rename_i hd'; cases hd'
    · cases q
theorem isSomeT {k : List Key} {xs : List TkE} {es : List (D × D)} {o : Option D} (kv : KvT K G xs es) (l : kget (tkeyD k) es = o) : (atKey xs k).isSome = o.isSome := by
  have q := kgetT k kv
  rw [l] at q
  split at q
  · rename_i _ _ h1; rw [h1] <;> rfl
  · rename_i h1; rw [h1] <;> rfl
  · cases q
theorem SameO.isS {r : Option V} {o : Option D} (h : SameO K G r o) : r.isSome = o.isSome := by
  cases r <;> cases o <;> first | rfl | cases h
theorem z_in {o : Option D} {Q : Value → Shared → Prop} (hu : A.units + 1 < cLine) (I : Inv X pins σ H s) (i : Inn G H) (g : DGz (kw X) G H a u o) (ry : RelV u y) (h : ∀ s', Inv X pins σ H s' → Q (.bool o.isSome) s') :
    wpAny (model X.prog X.w) A (compareOp .In y (.ref a)) Q E s := by
  cases g with
  | k e eu so =>
    refine d_in hu I (.inl ⟨_, _, .inl e, eu, rfl⟩) ry fun s' I' => ?_
    rw [so.isS]; exact h s' I'
  | @t xs es kk b e kv eu eb l =>
    subst eu
    cases (show y = Value.ref _ from ry)
    obtain ⟨z, hd, dd⟩ := dtz_of I i e kv
    refine wpAny_in_heap (tupleKind_room_in1 hu) (key_ofZ I.hok eb) z dd ?_
    rw [isSomeT kv l]
    exact h _ (I.tok _)
theorem z_notIn {o : Option D} {Q : Value → Shared → Prop} (hu : A.units + 1 < cLine) (I : Inv X pins σ H s) (i : Inn G H) (g : DGz (kw X) G H a u o) (ry : RelV u y) (h : ∀ s', Inv X pins σ H s' → Q (.bool (!o.isSome)) s') :
    wpAny (model X.prog X.w) A (compareOp .NotIn y (.ref a)) Q E s := by
  cases g with
  | k e eu so =>
    refine d_notIn hu I (.inl ⟨_, _, .inl e, eu, rfl⟩) ry fun s' I' => ?_
    rw [so.isS]; exact h s' I'
  | @t xs es kk b e kv eu eb l =>
    subst eu
    cases (show y = Value.ref _ from ry)
    obtain ⟨z, hd, dd⟩ := dtz_of I i e kv
    refine PyProof.Rows.wpAny_notIn_heap (tupleKind_room_in1 hu) (key_ofZ I.hok eb) z dd ?_
    rw [isSomeT kv l]
    exact h _ (I.tok _)
theorem sameO_or {r : Option V} {o : Option D} (h : SameO K G r o) : (∃ v d, r = some v ∧ o = some d ∧ RD K G v d) ∨ (r = none ∧ o = none) := by
  cases r <;> cases o <;> first | exact .inr ⟨rfl, rfl⟩ | exact .inl ⟨_, _, rfl, rfl, h⟩ | cases h
theorem z_get1 {o : Option D} {Q : Value → Shared → Prop} (hu : A.units + 1 < cLine) (I : Inv X pins σ H s) (i : Inn G H) (g : DGz (kw X) G H a u o) (ry : RelV u y) (h : ∀ v w' s', Inv X pins σ H s' → RD (kw X) G v (o.getD .none) → RelV v w' → Q w' s') :
    wpAny (model X.prog X.w) A (call (.builtin "dict.get") [.ref a, y]) Q E s := by
  cases g with
  | k e eu so =>
    refine d_get1 hu I (.inl ⟨_, _, .inl e, eu, rfl⟩) ry fun w' s' I' rw' => ?_
    rcases sameO_or so with ⟨v, d, e1, rfl, rd⟩ | ⟨e1, rfl⟩
    · rw [e1] at rw'; exact h v w' s' I' rd rw'
    · rw [e1] at rw'; exact h .non w' s' I' .non rw'
  | @t xs es kk b e kv eu eb l =>
    subst eu
    cases (show y = Value.ref _ from ry)
    obtain ⟨z, hd, dd⟩ := dtz_of I i e kv
    refine call_meetsIn PySem.F.slot_dict_get dd.typeIs PySem.F.entry_dict_get (PySem.F.args_dict_get_2 _ _) (meetsH_dict_get (tupleKind (mixKind X.prog X.w)) a _ z) ⟨tupleKind_room_in1 hu, _, _, key_ofZ I.hok eb, dd, ?_⟩
    have q := kgetT kk kv
    rw [l] at q
    split at q
    · rename_i p d' hp
      obtain ⟨v, rv, rd⟩ := q
      refine h v _ _ (I.tok _) rd ?_
      rw [hp]; exact rv
    · rename_i hp
      refine h .non _ _ (I.tok _) .non ?_
      rw [hp]; rfl
    · cases q
theorem z_get2 {o : Option D} {x : V} {r : Value} {d0 : D} {Q : Value → Shared → Prop} (hu : A.units + 1 < cLine) (I : Inv X pins σ H s) (i : Inn G H) (g : DGz (kw X) G H a u o) (ry : RelV u y) (rx : RelV x r) (h : ∀ v w' s', Inv X pins σ H s' → ((∃ d, o = some d ∧ RD (kw X) G v d) ∨ (o = none ∧ v = x)) → RelV v w' → Q w' s') :
    wpAny (model X.prog X.w) A (call (.builtin "dict.get") [.ref a, y, r]) Q E s := by
  cases g with
  | k e eu so =>
    refine d_get2 hu I (.inl ⟨_, _, .inl e, eu, rfl⟩) ry rx fun w' s' I' rw' => ?_
    rcases sameO_or so with ⟨v, d, e1, rfl, rd⟩ | ⟨e1, rfl⟩
    · rw [e1] at rw'; exact h v w' s' I' (.inl ⟨d, rfl, rd⟩) rw'
    · rw [e1] at rw'; exact h x w' s' I' (.inr ⟨rfl, rfl⟩) rw'
  | @t xs es kk b e kv eu eb l =>
    subst eu
    cases (show y = Value.ref _ from ry)
    obtain ⟨z, hd, dd⟩ := dtz_of I i e kv
    refine call_meetsIn PySem.F.slot_dict_get dd.typeIs PySem.F.entry_dict_get (PySem.F.args_dict_get_3 _ _ _) (meetsH_dict_get_default (tupleKind (mixKind X.prog X.w)) a _ z r) ⟨tupleKind_room_in1 hu, _, _, key_ofZ I.hok eb, dd, ?_⟩
    have q := kgetT kk kv
    rw [l] at q
    split at q
    · rename_i p d' hp
      obtain ⟨v, rv, rd⟩ := q
      refine h v _ _ (I.tok _) (.inl ⟨_, rfl, rd⟩) ?_
      rw [hp]; exact rv
    · rename_i hp
      refine h x _ _ (I.tok _) (.inr ⟨rfl, rfl⟩) ?_
      rw [hp]; exact rx
    · cases q
end
def rInX (K : Fz) (n : Bool) : R2 := fun x y H Q => ∃ G a o, Inn G H ∧ y = .ref a ∧ DGz K G H a x o ∧ Q (.bl (if n then !o.isSome else o.isSome)) H
theorem op_inX (hu : X.A.units + 65 < cLine) : OpR X (compareOp .In) (rInX (kw X) false) := by
  intro pins s σ H x y v u Q I rx ry h
  obtain ⟨G, a, o, i, rfl, g, q⟩ := h
  cases ry
  exact z_in (by omega) I i g rx fun s3 I3 => ⟨.bl o.isSome, H, I3, rfl, q⟩
theorem op_notInX (hu : X.A.units + 65 < cLine) : OpR X (compareOp .NotIn) (rInX (kw X) true) := by
  intro pins s σ H x y v u Q I rx ry h
  obtain ⟨G, a, o, i, rfl, g, q⟩ := h
  cases ry
  exact z_notIn (by omega) I i g rx fun s3 I3 => ⟨.bl (!o.isSome), H, I3, rfl, q⟩
def rInA (K : Fz) : R2 := fun x y H Q => rInD K.K x y H Q ∨ rInT K x y H Q ∨ rInX K false x y H Q
def rNotInA (K : Fz) : R2 := fun x y H Q => rNotInD K.K x y H Q ∨ rNotInT K x y H Q ∨ rInX K true x y H Q
theorem op_inA (hu : X.A.units + 65 < cLine) : OpR X (compareOp .In) (rInA (kw X)) := (op_inD hu).or ((op_inT hu).or (op_inX hu))
theorem op_notInA (hu : X.A.units + 65 < cLine) : OpR X (compareOp .NotIn) (rNotInA (kw X)) := (op_notInD hu).or ((op_notInT hu).or (op_notInX hu))
def OpI (K : Fz) (r : R2) (f : D → D → Option Bool) : Prop := ∀ {G H : Hp} {O : Addr → Prop} {x y : D} {z : Bool} {v u : V} {Q : VK}, Inn G H → f x y = some z → DB K G H O v x → DK K G H O u y → Q (.bl z) H → r v u H Q
theorem inD_of {G H : Hp} {x y : D} {z : Bool} {v u : V} (i : Inn G H) (e : inD x y = some z) (a : DB K G H O v x) (b : DK K G H O u y) :
    (∃ ds, y = .list ds ∧ Dp K.K H v x ∧ Dp K.K H u (.list ds) ∧ shp x = true ∧ shp (.list ds) = true ∧ z = ds.any fun z => PyData.eqv z x) ∨
    (∃ ds, y = .tuple ds ∧ Dp K.K H v x ∧ Dp K.K H u (.tuple ds) ∧ shp x = true ∧ shp (.tuple ds) = true ∧ z = ds.any fun z => PyData.eqv z x) ∨ ∃ c o, u = .ref c ∧ DGz K G H c v o ∧ z = o.isSome := by
  cases y <;> try (cases e; done)
  case list ds =>
    have e' : (if shp x && shp (.list ds) then some (ds.any fun z => PyData.eqv z x) else Option.none) = some z := e
    by_cases h : (shp x && shp (.list ds)) = true
    · rw [if_pos h] at e'
      cases e'
      obtain ⟨h1, h2⟩ := Bool.and_eq_true_iff.mp h
      exact .inl ⟨ds, rfl, DK.shp i (.b a) h1, b.shp i h2, h1, h2, rfl⟩
    · rw [if_neg h] at e'; cases e'
  case tuple ds =>
    have e' : (if shp x && shp (.tuple ds) then some (ds.any fun z => PyData.eqv z x) else Option.none) = some z := e
    by_cases h : (shp x && shp (.tuple ds)) = true
    · rw [if_pos h] at e'
      cases e'
      obtain ⟨h1, h2⟩ := Bool.and_eq_true_iff.mp h
      exact .inr (.inl ⟨ds, rfl, DK.shp i (.b a) h1, b.shp i h2, h1, h2, rfl⟩)
    · rw [if_neg h] at e'; cases e'
  case dict es =>
    obtain ⟨o, e1, rfl⟩ := Option.map_eq_some_iff.mp (show (dget x es).map Option.isSome = some z from e)
    obtain ⟨c, rfl, g⟩ := dget_of i b.dict a e1
    exact .inr (.inr ⟨c, o, rfl, g, rfl⟩)
theorem b_in : OpI K (rInA K) (cmpD .isin) := by
  intro G H O x y z v u Q i e a b q
  rcases inD_of i (show inD x y = some z from e) a b with ⟨ds, rfl, h1, h2, h3, h4, rfl⟩ | ⟨ds, rfl, h1, h2, h3, h4, rfl⟩ | ⟨c, o, rfl, g, rfl⟩
  · exact .inl ⟨x, ds, h1, h2, h3, h4, q⟩
  · exact .inr (.inl ⟨x, ds, h1, h2, h3, h4, q⟩)
  · exact .inr (.inr ⟨_, c, o, i, rfl, g, q⟩)
theorem b_notin : OpI K (rNotInA K) (cmpD .notin) := by
  intro G H O x y z v u Q i e a b q
  obtain ⟨k, e1, rfl⟩ := Option.map_eq_some_iff.mp (show (inD x y).map not = some z from e)
  rcases inD_of i e1 a b with ⟨ds, rfl, h1, h2, h3, h4, rfl⟩ | ⟨ds, rfl, h1, h2, h3, h4, rfl⟩ | ⟨c, o, rfl, g, rfl⟩
  · exact .inl ⟨x, ds, h1, h2, h3, h4, q⟩
  · exact .inr (.inl ⟨x, ds, h1, h2, h3, h4, q⟩)
  · exact .inr (.inr ⟨_, c, o, i, rfl, g, q⟩)
/-! ### is, is not -/
def rIsA (n : Bool) : R2 := fun x y H Q => (y = .non ∧ Q (.bl (if n then !decide (x = .non) else decide (x = .non))) H) ∨ (∃ a b, x = .bl a ∧ y = .bl b ∧ Q (.bl (if n then !decide (a = b) else decide (a = b))) H)
theorem op_isA : OpR X (compareOp .Is) (rIsA false) := op_isN.or op_is_bl
theorem op_isnotA : OpR X (compareOp .IsNot) (rIsA true) := op_notN.or op_isnot_bl
theorem isD_of {x y : D} {z : Bool} {v u : V} (e : isD x y = some z) (a : DK K G H O v x) (b : DK K G H O u y) : (u = .non ∧ z = decide (v = .non)) ∨ ∃ c d, v = .bl c ∧ u = .bl d ∧ z = decide (c = d) := by
  cases y <;> try (cases x <;> cases e; done)
  case none =>
    refine .inl ⟨b.none, ?_⟩
    by_cases h : x = .none
    · subst h
      rw [a.none, decide_eq_true rfl]
      exact (Option.some.inj e).symm
    · rw [decide_eq_false (a.ne_none h)]
      cases x <;> first | exact absurd rfl h | exact (Option.some.inj e).symm
  case bool d =>
    cases x <;> try (cases e; done)
    case bool c =>
      refine .inr ⟨c, d, a.bool, b.bool, ?_⟩
      rw [← Option.some.inj e]
      cases c <;> cases d <;> rfl
theorem b_is : OpB K (rIsA false) (cmpD .is) := by
  intro G H O x y z v u Q i e a b q
  rcases isD_of (show isD x y = some z from e) a b with ⟨h1, rfl⟩ | ⟨c, d, h1, h2, rfl⟩
  · exact .inl ⟨h1, q⟩
  · exact .inr ⟨c, d, h1, h2, q⟩
theorem b_isnot : OpB K (rIsA true) (cmpD .isnot) := by
  intro G H O x y z v u Q i e a b q
  obtain ⟨k, e1, rfl⟩ := Option.map_eq_some_iff.mp (show (isD x y).map not = some z from e)
  rcases isD_of e1 a b with ⟨h1, rfl⟩ | ⟨c, d, h1, h2, rfl⟩
  · exact .inl ⟨h1, q⟩
  · exact .inr ⟨c, d, h1, h2, q⟩
/-! ### all comparisons -/
def cOf : Cop → CmpOp
  | .eq => .Eq | .ne => .NotEq | .lt => .Lt | .le => .LtE | .gt => .Gt | .ge => .GtE | .isin => .In | .notin => .NotIn | .is => .Is | .isnot => .IsNot
def rCmp (K : Fz) : Cop → R2
  | .eq => rEqA K | .ne => rNeA K | .lt => rLtA K | .le => rLeA | .gt => rI0 fun i j => .bl (decide (j < i)) | .ge => rI0 fun i j => .bl (decide (j ≤ i))
  | .isin => rInA K | .notin => rNotInA K | .is => rIsA false | .isnot => rIsA true
theorem op_cmp (hu : X.A.units + 65 < cLine) (o : Cop) : OpR X (compareOp (cOf o)) (rCmp (kw X) o) := by
  have hu2 : X.A.units + 64 < cLine := by omega
  cases o
  · exact op_eqA hu2
  · exact op_neA hu2
  · exact op_ltA hu2
  · exact op_leA
  · exact op_gt
  · exact op_ge
  · exact op_inA hu
  · exact op_notInA hu
  · exact op_isA
  · exact op_isnotA
theorem b_cmp (o : Cop) (h : o.isIn = false) : OpB K (rCmp K o) (cmpD o) := by
  cases o
  · exact b_eq
  · exact b_ne
  · exact b_lt
  · exact b_le
  · exact b_gt
  · exact b_ge
  · cases h
  · cases h
  · exact b_is
  · exact b_isnot
theorem i_cmp (o : Cop) (h : o.isIn = true) : OpI K (rCmp K o) (cmpD o) := by
  cases o <;> first | cases h; done | exact b_in | exact b_notin
end
end Fw
end
section
set_option Elab.async false
set_option linter.all false
set_option maxRecDepth 100000
set_option maxHeartbeats 4000000
namespace Fw
open PySem PySem.Spec L2
section
variable {X : Cx} {cs : List (Addr × Addr)} {K : Fz} {G H : Hp}
/-- the test of all forms but four -/
def Tst (e : Expr) : Prop := ∀ (whole : Sem Value) (env : Env), isTrue e env whole = (do let v ← whole; standAt e.pos; holding [v] (truthy v))
theorem tst_of {e : Expr} {b : Tau → Option D} (h : PE X e (tB (kw X) cs b)) (ht : Tst e) : PT X e (tT (kw X) cs fun τ => (b τ).bind truth) := by
  refine pt_imp (pt_truth h fun whole => ht whole X.env) fun σ H Q ⟨G, τ, r, st, tb, e, q⟩ => ?_
  obtain ⟨d, e1, e2⟩ := Option.bind_eq_some_iff.mp e
  exact ⟨G, τ, d, st, tb, e1, fun v G' H' x db => ⟨r, tru_of x.inn db e2, q G' H' x⟩⟩
theorem b_of_k {e : Expr} {d : Tau → Option D} (h : PE X e (tB (kw X) cs d)) : PE X e (tK (kw X) cs d) := pe_imp h fun σ H Q ⟨G, τ, r, st, tb, e, q⟩ => ⟨G, τ, r, st, tb, e, fun v G' H' x db => q v G' H' x (.b db)⟩
theorem l_of_p {e : Expr} {d : Tau → Option D} (h : PE X e (tP (kw X) cs d)) : PE X e (tL (kw X) cs d) := pe_imp h fun σ H Q ⟨G, τ, r, st, tb, e, q⟩ => ⟨G, τ, r, st, tb, e, fun v G' H' x rd => q v G' H' x rd.l2⟩
theorem sd_of {e : Expr} {d : Tau → Option D} (h : PE X e (tP (kw X) cs d)) (ht : Tst e) (hp : Plain e) : SD X cs e (Dn.of d) where
  val := h
  bor := p_of_b h
  bok := b_of_k (p_of_b h)
  tst := tst_of (p_of_b h) ht
  plain := hp
  own := fun _ _ _ h => h
  lok := l_of_p h
/-- .. where the test is told otherwise -/
theorem sd_of2 {e : Expr} {d : Tau → Option D} {t : Tau → Option Bool} (h : PE X e (tP (kw X) cs d)) (ht : PT X e (tT (kw X) cs t)) (hp : Plain e) : SD X cs e { Dn.of d with tst := t } where
  val := h
  bor := p_of_b h
  bok := b_of_k (p_of_b h)
  tst := ht
  plain := hp
  own := fun _ _ _ h => h
  lok := l_of_p h
/-! ### names, constants -/
theorem p_const {e : Expr} {d : D} {v : V} (h : PE X e (tC v)) (hd : ∀ G, RD (kw X) G v d) : PE X e (tP (kw X) cs fun _ => some d) := pe_imp h fun σ H Q ⟨G, τ, r, st, tb, e, q⟩ => by
  cases e
  exact q v G H (Ext.refl st.inn) (hd G)
theorem s_var {i : Nat} {x : Str} {pos : Pos} (hN : X.N[i]? = some x) (hv : Vis X.env.scope x) (hd : (x == ("__debug__" : Str)) = false) (hcd : (x == ("__classdict__" : Str)) = false) (G : Nat → Option D) (F : FT) :
    SD X cs (.Name x pos) (den G F (.v i)) := by
  have base : PE X (.Name x pos) (tVar i) := pe_var hN hv hd hcd
  have bor : PE X (.Name x pos) (tB (kw X) cs (den G F (.v i)).bor) := pe_imp base fun σ H Q ⟨G', τ, r, st, tb, e, q⟩ => by
    obtain ⟨t, e1, e2⟩ := Option.bind_eq_some_iff.mp (show (τ[i]?).bind Slot.val = some r from e)
    obtain ⟨v, h1, h2⟩ := st.bor e1 e2
    exact ⟨v, h1, q v G' H (Ext.refl st.inn) h2⟩
  refine ⟨pe_imp base fun σ H Q ⟨G', τ, r, st, tb, e, q⟩ => ?_, bor, pe_imp base fun σ H Q ⟨G', τ, r, st, tb, e, q⟩ => ?_, tst_of (b := fun τ => (τ[i]?).bind Slot.val) bor fun _ _ => rfl, fun _ _ => rfl, fun τ x ho hb => ?_, pe_imp base fun σ H Q ⟨G', τ, r, st, tb, e, q⟩ => ?_⟩
  · have e' : (match τ[i]? with | some (.fz d) => some d | _ => none) = some r := e
    split at e'
    · rename_i d h
      cases e'
      obtain ⟨v, h1, h2⟩ := st.fz i _ h
      exact ⟨v, h1, q v G' H (Ext.refl st.inn) h2⟩
    · cases e'
  · have e' : (match (match τ[i]? with | some (Slot.fk d) => some d | _ => none) with | some x => some x | none => (τ[i]?).bind Slot.val) = some r := e
    cases hk : τ[i]? with
    | none => rw [hk] at e'; cases e'
    | some t =>
      rw [hk] at e'
      cases t with
      | fk d =>
        cases e'
        obtain ⟨v, h1, h2⟩ := st.fk i _ hk
        exact ⟨v, h1, q v G' H (Ext.refl st.inn) (.g h2)⟩
      | un => cases e'
      | os _ => cases e'
      | fz d =>
        obtain ⟨v, h1, h2⟩ := st.bor hk (show Slot.val (.fz d) = some r from e')
        exact ⟨v, h1, q v G' H (Ext.refl st.inn) (.b h2)⟩
      | ol d =>
        obtain ⟨v, h1, h2⟩ := st.bor hk (show Slot.val (.ol d) = some r from e')
        exact ⟨v, h1, q v G' H (Ext.refl st.inn) (.b h2)⟩
      | od k d =>
        obtain ⟨v, h1, h2⟩ := st.bor hk (show Slot.val (.od k d) = some r from e')
        exact ⟨v, h1, q v G' H (Ext.refl st.inn) (.b h2)⟩
  · have ho' : (match τ[i]? with | some s => s.own | none => false) = false := ho
    have hb' : (τ[i]?).bind Slot.val = some x := hb
    show (match τ[i]? with | some (.fz d) => some d | _ => none) = some x
    cases hk : τ[i]? with
    | none => rw [hk] at hb'; cases hb'
    | some t =>
      rw [hk] at ho' hb'
      cases t with
      | fz d => exact hb'
      | un => cases hb'
      | fk d => cases hb'
      | ol d => cases ho'
      | od k d => cases ho'
      | os d => cases ho'
  · have e' : (match (match τ[i]? with | some (Slot.fk d) => some d | _ => none) with | some x => some x | none => (match τ[i]? with | some (.fz d) => some d | _ => none)) = some r := e
    cases hk : τ[i]? with
    | none => rw [hk] at e'; cases e'
    | some t =>
      rw [hk] at e'
      cases t with
      | fk d =>
        cases e'
        obtain ⟨v, h1, h2⟩ := st.fk i _ hk
        exact ⟨v, h1, q v G' H (Ext.refl st.inn) h2⟩
      | fz d =>
        cases e'
        obtain ⟨v, h1, h2⟩ := st.fz i _ hk
        exact ⟨v, h1, q v G' H (Ext.refl st.inn) h2.l2⟩
      | un => cases e'
      | os _ => cases e'
      | ol d => cases e'
      | od k d => cases e'
theorem flat_rd {G G2 : Hp} {v : V} {d : D} (h : L2.Dp K.K G v d) (f : flatD d = true) : RD K G2 v d := by
  cases h <;> first | exact .non | exact .bl _ | exact .int _ | exact .str _ | cases f
/-- a constant of the module -/
theorem s_glob {k : Nat} {x : Str} {pos : Pos} {v : V} {u : Value} (hg : Gl X x) (hm : X.mg x = some u) (r : RelV v u) (hd : (x == ("__debug__" : Str)) = false) {G0 : Nat → Option D} (F : FT) (hG : ∀ d, G0 k = some d → ∀ G, L2.Dp X.K G v d) :
    SD X cs (.Name x pos) (den G0 F (.glob k)) := by
  have base : PE X (.Name x pos) (tC v) := pe_glob hg hm r hd
  have val : PE X (.Name x pos) (tP (kw X) cs (den G0 F (.glob k)).val) := pe_imp base fun σ H Q ⟨G', τ, r, st, tb, e, q⟩ => by
    obtain ⟨d, e1, e2⟩ := Option.bind_eq_some_iff.mp (show (G0 k).bind (fun d => if flatD d then some d else none) = some r from e)
    by_cases hf : flatD d = true
    · rw [if_pos hf] at e2
      cases e2
      exact q v G' H (Ext.refl st.inn) (flat_rd (hG _ e1 G') hf)
    · rw [if_neg hf] at e2; cases e2
  refine ⟨val, p_of_b val, pe_imp base fun σ H Q ⟨G', τ, r, st, tb, e, q⟩ => ?_, tst_of (p_of_b val) fun _ _ => rfl, fun _ _ => rfl, fun _ _ _ h => h, pe_imp base fun σ H Q ⟨G', τ, r, st, tb, e, q⟩ => ?_⟩
  rotate_left
  · have e' : (match G0 k with | some x => some x | none => (den G0 F (.glob k)).val τ) = some r := e
    cases hk : G0 k with
    | some d =>
      rw [hk] at e'
      cases e'
      exact q v G' H (Ext.refl st.inn) (hG _ hk G')
    | none =>
      rw [hk] at e'
      have e2 : (G0 k).bind (fun d => if flatD d then some d else none) = some r := e'
      rw [hk] at e2; cases e2
  have e' : (match G0 k with | some x => some x | none => (den G0 F (.glob k)).bor τ) = some r := e
  cases hk : G0 k with
  | some d =>
    rw [hk] at e'
    cases e'
    exact q v G' H (Ext.refl st.inn) (.g (hG _ hk G'))
  | none =>
    rw [hk] at e'
    have e2 : (G0 k).bind (fun d => if flatD d then some d else none) = some r := e'
    rw [hk] at e2; cases e2
/-! ### operators -/
variable {a b c : Expr} {da db dc : Tau → Option D} {pos : Pos}
theorem p_bin {o : Operator} {r : R2} {f : D → D → Option D} (ho : OpR X (binaryOp o) r) (hs : OpS (kw X) r f) (ha : PE X a (tB (kw X) cs da)) (hb : PE X b (tB (kw X) cs db)) : PE X (.BinOp a o b pos) (tP (kw X) cs fun τ => (da τ).bind fun x => (db τ).bind fun y => f x y) := by
  refine pe_imp (pe_op ho ha hb) fun σ H Q ⟨G, τ, r, st, tb, e, q⟩ => ?_
  obtain ⟨x, e1, e⟩ := Option.bind_eq_some_iff.mp e
  obtain ⟨y, e2, e3⟩ := Option.bind_eq_some_iff.mp e
  refine ⟨G, τ, x, st, tb, e1, fun v G1 H1 x1 h1 => ⟨G1, τ, y, st.ext x1, tb.ext x1, e2, fun u G2 H2 x2 h2 => ?_⟩⟩
  exact hs x2.inn e3 (h1.ext x2) h2 fun w G3 H3 x3 h3 => q w G3 H3 ((x1.trans x2).trans x3) h3
theorem f_bin {o : Operator} {r : R2} {f : D → D → Option D} (ho : OpR X (binaryOp o) r) (hs : OpF (kw X) r f) (ha : PE X a (tB (kw X) cs da)) (hb : PE X b (tB (kw X) cs db)) : PE X (.BinOp a o b pos) (tF (kw X) cs fun τ => (da τ).bind fun x => (db τ).bind fun y => f x y) := by
  refine pe_imp (pe_op ho ha hb) fun σ H Q ⟨G, τ, r, st, tb, e, q⟩ => ?_
  obtain ⟨x, e1, e⟩ := Option.bind_eq_some_iff.mp e
  obtain ⟨y, e2, e3⟩ := Option.bind_eq_some_iff.mp e
  refine ⟨G, τ, x, st, tb, e1, fun v G1 H1 x1 h1 => ⟨G1, τ, y, st.ext x1, tb.ext x1, e2, fun u G2 H2 x2 h2 => ?_⟩⟩
  refine hs x2.inn e3 (h1.ext x2) h2 fun w G3 H3 x3 h3 => q w G3 H3 ((x1.trans x2).trans x3) (FrR.back h3 (x1.trans x2))
theorem p_neg (ha : PE X a (tB (kw X) cs da)) : PE X (.UnaryOp .USub a pos) (tP (kw X) cs fun τ => (da τ).bind fun x => match x with | .int i => some (.int (-i)) | _ => none) := by
  refine pe_imp (pe_un un_neg ha) fun σ H Q ⟨G, τ, r, st, tb, e, q⟩ => ?_
  obtain ⟨x, e1, e⟩ := Option.bind_eq_some_iff.mp e
  cases x <;> try (cases e; done)
  rename_i i
  have er : PyData.int (-i) = r := Option.some.inj e
  subst er
  exact ⟨G, τ, _, st, tb, e1, fun v G1 H1 x1 h1 => ⟨i, h1.int, q _ G1 H1 x1 (.int _)⟩⟩
theorem t_not {ta : Tau → Option Bool} (ha : PT X a (tT (kw X) cs ta)) : PT X (.UnaryOp .Not a pos) (tT (kw X) cs fun τ => (ta τ).map not) := by
  refine pt_imp (pt_not ha) fun σ H Q ⟨G, τ, r, st, tb, e, q⟩ => ?_
  obtain ⟨k, e1, rfl⟩ := Option.map_eq_some_iff.mp e
  exact ⟨G, τ, k, st, tb, e1, fun G1 H1 x1 => q G1 H1 x1⟩
theorem p_not (ha : PE X a (tB (kw X) cs da)) : PE X (.UnaryOp .Not a pos) (tP (kw X) cs fun τ => ((da τ).bind truth).map fun b => .bool (!b)) := by
  refine pe_imp (pe_notT ha) fun σ H Q ⟨G, τ, r, st, tb, e, q⟩ => ?_
  obtain ⟨k, e1, rfl⟩ := Option.map_eq_some_iff.mp e
  obtain ⟨d, e2, e3⟩ := Option.bind_eq_some_iff.mp e1
  exact ⟨G, τ, d, st, tb, e2, fun v G1 H1 x1 h1 => ⟨k, tru_of x1.inn h1 e3, q _ G1 H1 x1 (.bl _)⟩⟩
/-! ### comparisons -/
section
variable {o o' : Cop} {Da Db Dc : Dn} {ea eb ec : Expr}
theorem p_cmp (hu : X.A.units + 65 < cLine) (ha : SD X cs ea Da) (hb : SD X cs eb Db) (hm : behindInMarks (cOf o) eb = false) : PE X (.Compare ea [cOf o] [eb] pos) (tP (kw X) cs fun τ => (cmpT o Da Db τ).map .bool) := by
  have hop := op_cmp (X := X) hu o
  by_cases hi : o.isIn = true
  · refine pe_imp (pe_cmpR hop ha.bor hb.bok hm) fun σ H Q ⟨G, τ, r, st, tb, e, q⟩ => ?_
    obtain ⟨k, e1, rfl⟩ := Option.map_eq_some_iff.mp e
    unfold cmpT at e1
    rw [if_pos hi] at e1
    obtain ⟨x, e2, e1⟩ := Option.bind_eq_some_iff.mp e1
    obtain ⟨y, e3, e4⟩ := Option.bind_eq_some_iff.mp e1
    refine ⟨G, τ, x, st, tb, e2, fun v G1 H1 x1 h1 => ⟨G1, τ, y, st.ext x1, tb.ext x1, e3, fun u G2 H2 x2 h2 => ?_⟩⟩
    exact i_cmp o hi x2.inn e4 (h1.ext x2) h2 (q _ G2 H2 (x1.trans x2) (.bl _))
  · refine pe_imp (pe_cmpR hop ha.bok hb.bok hm) fun σ H Q ⟨G, τ, r, st, tb, e, q⟩ => ?_
    obtain ⟨k, e1, rfl⟩ := Option.map_eq_some_iff.mp e
    unfold cmpT at e1
    rw [if_neg hi] at e1
    obtain ⟨x, e2, e1⟩ := Option.bind_eq_some_iff.mp e1
    obtain ⟨y, e3, e4⟩ := Option.bind_eq_some_iff.mp e1
    refine ⟨G, τ, x, st, tb, e2, fun v G1 H1 x1 h1 => ⟨G1, τ, y, st.ext x1, tb.ext x1, e3, fun u G2 H2 x2 h2 => ?_⟩⟩
    exact b_cmp o (by simpa using hi) x2.inn e4 (h1.ext x2) h2 (q _ G2 H2 (x1.trans x2) (.bl _))
theorem t_cmp (hu : X.A.units + 65 < cLine) (ha : SD X cs ea Da) (hb : SD X cs eb Db) (hm : behindInMarks (cOf o) eb = false) : PT X (.Compare ea [cOf o] [eb] pos) (tT (kw X) cs (cmpT o Da Db)) := by
  have hop := op_cmp (X := X) hu o
  by_cases hi : o.isIn = true
  · refine pt_imp (pt_cmpR hop ha.bor hb.bok hm) fun σ H Q ⟨G, τ, r, st, tb, e1, q⟩ => ?_
    unfold cmpT at e1
    rw [if_pos hi] at e1
    obtain ⟨x, e2, e1⟩ := Option.bind_eq_some_iff.mp e1
    obtain ⟨y, e3, e4⟩ := Option.bind_eq_some_iff.mp e1
    refine ⟨G, τ, x, st, tb, e2, fun v G1 H1 x1 h1 => ⟨G1, τ, y, st.ext x1, tb.ext x1, e3, fun u G2 H2 x2 h2 => ?_⟩⟩
    exact i_cmp o hi x2.inn e4 (h1.ext x2) h2 ⟨r, rfl, q G2 H2 (x1.trans x2)⟩
  · refine pt_imp (pt_cmpR hop ha.bok hb.bok hm) fun σ H Q ⟨G, τ, r, st, tb, e1, q⟩ => ?_
    unfold cmpT at e1
    rw [if_neg hi] at e1
    obtain ⟨x, e2, e1⟩ := Option.bind_eq_some_iff.mp e1
    obtain ⟨y, e3, e4⟩ := Option.bind_eq_some_iff.mp e1
    refine ⟨G, τ, x, st, tb, e2, fun v G1 H1 x1 h1 => ⟨G1, τ, y, st.ext x1, tb.ext x1, e3, fun u G2 H2 x2 h2 => ?_⟩⟩
    exact b_cmp o (by simpa using hi) x2.inn e4 (h1.ext x2) h2 ⟨r, rfl, q G2 H2 (x1.trans x2)⟩
theorem chn_read {Q : V → Hp → Prop} {σ : St} {H : Hp} {r : Bool} {τ : Tau} {G : Hp} (st : StR (kw X) G H σ τ) (tb : TabOk cs G H) (e : chnT o o' Da Db Dc τ = some r) (q : ∀ G' H', Ext G H G' H' → Q (.bl r) H') :
    tChain (rCmp (kw X) o) (rCmp (kw X) o') (tK (kw X) cs Da.bok) (tK (kw X) cs Db.bok) (tK (kw X) cs Dc.bok) σ H Q := by
  unfold chnT at e
  by_cases hi : (o.isIn || o'.isIn) = true
  · rw [if_pos hi] at e; cases e
  · rw [if_neg hi] at e
    have h1 : o.isIn = false := by
      cases h : o.isIn with
      | false => rfl
      | true => exact absurd (by rw [h]; rfl) hi
    have h2 : o'.isIn = false := by
      cases h : o'.isIn with
      | false => rfl
      | true => exact absurd (by rw [h, Bool.or_true]) hi
    obtain ⟨x, e2, e1⟩ := Option.bind_eq_some_iff.mp e
    obtain ⟨y, e3, e1⟩ := Option.bind_eq_some_iff.mp e1
    obtain ⟨k, e4, e5⟩ := Option.bind_eq_some_iff.mp e1
    refine ⟨G, τ, x, st, tb, e2, fun v G1 H1 x1 h3 => ⟨G1, τ, y, st.ext x1, tb.ext x1, e3, fun u G2 H2 x2 h4 => ?_⟩⟩
    refine b_cmp o h1 x2.inn e4 (h3.ext x2) h4 ⟨k, rfl, ?_⟩
    cases k with
    | false =>
      rw [if_neg (by simp)] at e5 ⊢
      cases e5
      exact q G2 H2 (x1.trans x2)
    | true =>
      rw [if_pos rfl] at e5 ⊢
      obtain ⟨z, e6, e7⟩ := Option.bind_eq_some_iff.mp e5
      refine ⟨G2, τ, z, (st.ext x1).ext x2, (tb.ext x1).ext x2, e6, fun w G3 H3 x3 h5 => ?_⟩
      exact b_cmp o' h2 x3.inn e7 (h4.ext x3) h5 (q G3 H3 ((x1.trans x2).trans x3))
theorem p_chn (hu : X.A.units + 65 < cLine) (ha : SD X cs ea Da) (hb : SD X cs eb Db) (hc : SD X cs ec Dc) (hm : lastMarks [cOf o, cOf o'] [eb, ec] = false) : PE X (.Compare ea [cOf o, cOf o'] [eb, ec] pos) (tP (kw X) cs fun τ => (chnT o o' Da Db Dc τ).map .bool) := by
  refine pe_imp (pe_chain (op_cmp hu o) (op_cmp hu o') ha.bok hb.bok hc.bok hm) fun σ H Q ⟨G, τ, r, st, tb, e, q⟩ => ?_
  obtain ⟨k, e1, rfl⟩ := Option.map_eq_some_iff.mp e
  exact chn_read st tb e1 fun G' H' x => q _ G' H' x (.bl _)
theorem t_chn (hu : X.A.units + 65 < cLine) (ha : SD X cs ea Da) (hb : SD X cs eb Db) (hc : SD X cs ec Dc) (hm : lastMarks [cOf o, cOf o'] [eb, ec] = false) : PT X (.Compare ea [cOf o, cOf o'] [eb, ec] pos) (tT (kw X) cs (chnT o o' Da Db Dc)) := by
  refine pt_imp (pt_chain (op_cmp hu o) (op_cmp hu o') ha.bok hb.bok hc.bok hm) fun σ H Q ⟨G, τ, r, st, tb, e, q⟩ => ?_
  exact chn_read (Q := fun x H1 => ∃ k, x = .bl k ∧ Q k H1) st tb e fun G' H' x => ⟨r, rfl, q G' H' x⟩
end
/-! ### a if c else b -/
section
variable {Da Db Dc : Dn} {ea eb ec : Expr}
theorem p_ife (hc : SD X cs ec Dc) (ha : SD X cs ea Da) (hb : SD X cs eb Db) : PE X (.IfExp ec ea eb pos) (tP (kw X) cs fun τ => (Dc.tst τ).bind fun k => if k then Da.val τ else Db.val τ) := by
  refine pe_imp (pe_ifExp hc.tst ha.val hb.val) fun σ H Q ⟨G, τ, r, st, tb, e, q⟩ => ?_
  obtain ⟨k, e1, e2⟩ := Option.bind_eq_some_iff.mp e
  refine ⟨G, τ, k, st, tb, e1, fun G1 H1 x1 => ?_⟩
  cases k with
  | true => exact ⟨G1, τ, r, st.ext x1, tb.ext x1, e2, fun v G2 H2 x2 h => q v G2 H2 (x1.trans x2) h⟩
  | false => exact ⟨G1, τ, r, st.ext x1, tb.ext x1, e2, fun v G2 H2 x2 h => q v G2 H2 (x1.trans x2) h⟩
theorem t_ife (hc : SD X cs ec Dc) (ha : SD X cs ea Da) (hb : SD X cs eb Db) : PT X (.IfExp ec ea eb pos) (tT (kw X) cs fun τ => (Dc.tst τ).bind fun k => if k then Da.tst τ else Db.tst τ) := by
  refine ⟨fun pins s σ H Q I h => ?_⟩
  obtain ⟨G, τ, r, st, tb, e, q⟩ := h
  obtain ⟨k, e1, e2⟩ := Option.bind_eq_some_iff.mp e
  show wpAny _ _ (do if ← isTrue ec X.env (eval ec X.env) then isTrue ea X.env (eval ea X.env) else isTrue eb X.env (eval eb X.env)) _ _ _
  refine wpAny_bind (thn (hc.tst.run pins s σ H (fun b H1 => b = k ∧ ∃ G1, Ext G H G1 H1) I ⟨G, τ, k, st, tb, e1, fun G1 H1 x1 => ⟨rfl, G1, x1⟩⟩) fun b s1 ⟨H1, I1, eb', G1, x1⟩ => ?_)
  subst eb'
  cases b with
  | true => exact ha.tst.run pins s1 σ H1 Q I1 ⟨G1, τ, r, st.ext x1, tb.ext x1, e2, fun G2 H2 x2 => q G2 H2 (x1.trans x2)⟩
  | false => exact hb.tst.run pins s1 σ H1 Q I1 ⟨G1, τ, r, st.ext x1, tb.ext x1, e2, fun G2 H2 x2 => q G2 H2 (x1.trans x2)⟩
end
end
end Fw
end
section
set_option Elab.async false
set_option linter.all false
set_option maxRecDepth 100000
set_option maxHeartbeats 4000000
namespace Fw
open PySem PySem.Spec L2
inductive SDs (X : Cx) (cs : List (Addr × Addr)) : List Expr → List Dn → Prop
  | nil : SDs X cs [] []
  | cons {e : Expr} {d : Dn} {es : List Expr} {ds : List Dn} : SD X cs e d → SDs X cs es ds → SDs X cs (e :: es) (d :: ds)
section
variable {X : Cx} {cs : List (Addr × Addr)} {K : Fz} {G H : Hp} {O : Addr → Prop} {pos : Pos}
theorem DBs.ext {G' H' : Hp} {vs : List V} {ds : List D} (b : DBs K G H O vs ds) (x : Ext G H G' H') : DBs K G' H' O vs ds := L2.Paired.mapP b fun _ _ z => z.ext x
/-! ### and, or -/
theorem w_and : ∀ {es : List Expr} {ds : List Dn}, SDs X cs es ds → es ≠ [] → PW X (.BoolOp .And es pos) (tT (kw X) cs (boT true ds))
  | _, _, .nil, h => absurd rfl h
  | _, _, .cons (e := e) (d := d) a .nil, _ => by
    refine ⟨fun wh pins s σ H Q I h => (pw_and1 (pos := pos) a.tst).run wh pins s σ H Q I ?_⟩
    obtain ⟨G, τ, r, st, tb, e, q⟩ := h
    obtain ⟨k, e1, e2⟩ := Option.bind_eq_some_iff.mp (show (d.tst τ).bind (fun b => if b == true then boT true [] τ else some (!true)) = some r from e)
    refine ⟨G, τ, r, st, tb, ?_, q⟩
    rw [e1]
    cases k <;> exact e2
  | _, _, .cons (e := e) (d := d) a (.cons b r), _ => by
    have ih := w_and (.cons b r) (by simp)
    refine ⟨fun wh pins s σ H Q I h => (pw_and a.tst ih).run wh pins s σ H Q I ?_⟩
    obtain ⟨G, τ, r, st, tb, e, q⟩ := h
    obtain ⟨k, e1, e2⟩ := Option.bind_eq_some_iff.mp (show (d.tst τ).bind (fun b => if b == true then boT true _ τ else some (!true)) = some r from e)
    refine ⟨G, τ, k, st, tb, e1, fun G1 H1 x1 => ?_⟩
    cases k with
    | true => exact ⟨G1, τ, r, st.ext x1, tb.ext x1, e2, fun G2 H2 x2 => q G2 H2 (x1.trans x2)⟩
    | false =>
      have : false = r := Option.some.inj e2
      subst this
      exact q G1 H1 x1
theorem w_or : ∀ {es : List Expr} {ds : List Dn}, SDs X cs es ds → es ≠ [] → PW X (.BoolOp .Or es pos) (tT (kw X) cs (boT false ds))
  | _, _, .nil, h => absurd rfl h
  | _, _, .cons (e := e) (d := d) a .nil, _ => by
    refine ⟨fun wh pins s σ H Q I h => (pw_or1 (pos := pos) a.tst).run wh pins s σ H Q I ?_⟩
    obtain ⟨G, τ, r, st, tb, e, q⟩ := h
    obtain ⟨k, e1, e2⟩ := Option.bind_eq_some_iff.mp (show (d.tst τ).bind (fun b => if b == false then boT false [] τ else some (!false)) = some r from e)
    refine ⟨G, τ, r, st, tb, ?_, q⟩
    rw [e1]
    cases k <;> exact e2
  | _, _, .cons (e := e) (d := d) a (.cons b r), _ => by
    have ih := w_or (.cons b r) (by simp)
    refine ⟨fun wh pins s σ H Q I h => (pw_or a.tst ih).run wh pins s σ H Q I ?_⟩
    obtain ⟨G, τ, r, st, tb, e, q⟩ := h
    obtain ⟨k, e1, e2⟩ := Option.bind_eq_some_iff.mp (show (d.tst τ).bind (fun b => if b == false then boT false _ τ else some (!false)) = some r from e)
    refine ⟨G, τ, k, st, tb, e1, fun G1 H1 x1 => ?_⟩
    cases k with
    | false => exact ⟨G1, τ, r, st.ext x1, tb.ext x1, e2, fun G2 H2 x2 => q G2 H2 (x1.trans x2)⟩
    | true =>
      have : true = r := Option.some.inj e2
      subst this
      exact q G1 H1 x1
theorem p_and : ∀ {es : List Expr} {ds : List Dn}, SDs X cs es ds → es ≠ [] → PE X (.BoolOp .And es pos) (tP (kw X) cs (boV true ds))
  | _, _, .nil, h => absurd rfl h
  | _, _, .cons (e := e) (d := d) a .nil, _ => by
    refine pe_imp (pe_one (pos := pos) a.val) fun σ H Q ⟨G, τ, r, st, tb, e, q⟩ => ?_
    obtain ⟨x, e1, e2⟩ := Option.bind_eq_some_iff.mp (show (d.val τ).bind (fun x => some x) = some r from e)
    exact ⟨G, τ, r, st, tb, by rw [e1]; exact e2, q⟩
  | _, _, .cons (e := e) (d := d) a (.cons b r), _ => by
    have ih := p_and (.cons b r) (by simp)
    refine pe_imp (pe_andT a.val ih) fun σ H Q ⟨G, τ, r, st, tb, e, q⟩ => ?_
    obtain ⟨x, e1, e2⟩ := Option.bind_eq_some_iff.mp (show (d.val τ).bind (fun x => (truth x).bind fun b => if b == true then boV true _ τ else some x) = some r from e)
    obtain ⟨k, e3, e4⟩ := Option.bind_eq_some_iff.mp e2
    refine ⟨G, τ, x, st, tb, e1, fun v G1 H1 x1 h1 => ⟨k, tru_of (O := fun _ => True) x1.inn (.std h1) e3, ?_⟩⟩
    cases k with
    | true => exact ⟨G1, τ, r, st.ext x1, tb.ext x1, e4, fun u G2 H2 x2 h2 => q u G2 H2 (x1.trans x2) h2⟩
    | false =>
      have : x = r := Option.some.inj e4
      subst this
      exact q v G1 H1 x1 h1
theorem p_or : ∀ {es : List Expr} {ds : List Dn}, SDs X cs es ds → es ≠ [] → PE X (.BoolOp .Or es pos) (tP (kw X) cs (boV false ds))
  | _, _, .nil, h => absurd rfl h
  | _, _, .cons (e := e) (d := d) a .nil, _ => by
    refine pe_imp (pe_one (pos := pos) a.val) fun σ H Q ⟨G, τ, r, st, tb, e, q⟩ => ?_
    obtain ⟨x, e1, e2⟩ := Option.bind_eq_some_iff.mp (show (d.val τ).bind (fun x => some x) = some r from e)
    exact ⟨G, τ, r, st, tb, by rw [e1]; exact e2, q⟩
  | _, _, .cons (e := e) (d := d) a (.cons b r), _ => by
    have ih := p_or (.cons b r) (by simp)
    refine pe_imp (pe_orT a.val ih) fun σ H Q ⟨G, τ, r, st, tb, e, q⟩ => ?_
    obtain ⟨x, e1, e2⟩ := Option.bind_eq_some_iff.mp (show (d.val τ).bind (fun x => (truth x).bind fun b => if b == false then boV false _ τ else some x) = some r from e)
    obtain ⟨k, e3, e4⟩ := Option.bind_eq_some_iff.mp e2
    refine ⟨G, τ, x, st, tb, e1, fun v G1 H1 x1 h1 => ⟨k, tru_of (O := fun _ => True) x1.inn (.std h1) e3, ?_⟩⟩
    cases k with
    | false => exact ⟨G1, τ, r, st.ext x1, tb.ext x1, e4, fun u G2 H2 x2 h2 => q u G2 H2 (x1.trans x2) h2⟩
    | true =>
      have : x = r := Option.some.inj e4
      subst this
      exact q v G1 H1 x1 h1
/-! ### lists of expressions -/
theorem a_vals : ∀ {es : List Expr} {ds : List Dn}, SDs X cs es ds → PA X es (tA (kw X) cs (valsL ds))
  | _, _, .nil => pa_imp pa_nil fun σ H Q ⟨G, τ, r, st, tb, e, q⟩ => by
    have : [] = r := Option.some.inj e
    subst this
    exact q [] G H (Ext.refl st.inn) .nil
  | _, _, .cons (d := d) a r => pa_imp (pa_cons a.val (a_vals r) (a.plain _ _)) fun σ H Q ⟨G, τ, rr, st, tb, e, q⟩ => by
    obtain ⟨x, e1, e⟩ := Option.bind_eq_some_iff.mp (show (d.val τ).bind (fun x => (valsL _ τ).map (x :: ·)) = some rr from e)
    obtain ⟨ys, e2, rfl⟩ := Option.map_eq_some_iff.mp e
    refine ⟨G, τ, x, st, tb, e1, fun v G1 H1 x1 h1 => ⟨G1, τ, ys, st.ext x1, tb.ext x1, e2, fun vs G2 H2 x2 h2 => ?_⟩⟩
    exact q _ G2 H2 (x1.trans x2) (.cons (RD.mono x2.sub h1) h2)
theorem a_bors : ∀ {es : List Expr} {ds : List Dn}, SDs X cs es ds → PA X es (tAB (kw X) cs (borsL ds))
  | _, _, .nil => pa_imp pa_nil fun σ H Q ⟨G, τ, r, st, tb, e, q⟩ => by
    have : [] = r := Option.some.inj e
    subst this
    exact q [] G H (Ext.refl st.inn) .nil
  | _, _, .cons (d := d) a r => pa_imp (pa_cons a.bor (a_bors r) (a.plain _ _)) fun σ H Q ⟨G, τ, rr, st, tb, e, q⟩ => by
    obtain ⟨x, e1, e⟩ := Option.bind_eq_some_iff.mp (show (d.bor τ).bind (fun x => (borsL _ τ).map (x :: ·)) = some rr from e)
    obtain ⟨ys, e2, rfl⟩ := Option.map_eq_some_iff.mp e
    refine ⟨G, τ, x, st, tb, e1, fun v G1 H1 x1 h1 => ⟨G1, τ, ys, st.ext x1, tb.ext x1, e2, fun vs G2 H2 x2 h2 => ?_⟩⟩
    exact q _ G2 H2 (x1.trans x2) (.cons (h1.ext x2) h2)
theorem p_tup {es : List Expr} {ds : List Dn} {k : Nat} (h : SDs X cs es ds) : PE X (.Tuple es k pos) (tP (kw X) cs fun τ => (valsL ds τ).bind fun ds => if ds.length ≤ lim then some (.tuple ds) else none) := by
  refine pe_imp (pe_tupZ (a_vals h)) fun σ H Q ⟨G, τ, r, st, tb, e, q⟩ => ?_
  obtain ⟨xs, e1, e2⟩ := Option.bind_eq_some_iff.mp e
  by_cases hl : xs.length ≤ lim
  · rw [if_pos hl] at e2
    cases e2
    refine ⟨G, τ, xs, st, tb, e1, fun vs G1 H1 x1 h1 => ⟨by rw [RDs.length h1, lim_eq]; exact hl, lay_tup x1.inn h1 fun w G2 H2 x2 h2 => q w G2 H2 (x1.trans x2) h2⟩⟩
  · rw [if_neg hl] at e2; cases e2
theorem f_lst {es : List Expr} {ds : List Dn} (h : SDs X cs es ds) : PE X (.List es pos) (tF (kw X) cs fun τ => (valsL ds τ).bind fun ds => if ds.length ≤ lim then some (.list ds) else none) := by
  refine pe_imp (pe_lst (a_vals h)) fun σ H Q ⟨G, τ, r, st, tb, e, q⟩ => ?_
  obtain ⟨xs, e1, e2⟩ := Option.bind_eq_some_iff.mp e
  by_cases hl : xs.length ≤ lim
  · rw [if_pos hl] at e2
    cases e2
    refine ⟨G, τ, xs, st, tb, e1, fun vs G1 H1 x1 h1 => ⟨by rw [RDs.length h1, lim_eq]; exact hl, lay_list x1.inn h1 fun w G2 H2 x2 h2 => q w G2 H2 (x1.trans x2) (h2.back x1)⟩⟩
  · rw [if_neg hl] at e2; cases e2
/-! ### subscripts -/
theorem atD_eq {α : Type} (xs : List α) (i : Int) : atD xs i = atI xs i := rfl
theorem atI_rd {vs : List V} {ds : List D} {i : Int} {d : D} (h : RDs K G vs ds) (e : atD ds i = some d) : ∃ v, atI vs i = some v ∧ RD K G v d := by
  obtain ⟨j, e1, e2⟩ := Option.bind_eq_some_iff.mp (show (ixOf ds.length i).bind (fun j => ds[j]?) = some d from e)
  obtain ⟨v, h1, h2⟩ := RDs.get h e2
  refine ⟨v, ?_, h2⟩
  show (ixN vs.length i).bind (fun j => vs[j]?) = some v
  rw [RDs.length h]
  have : ixN ds.length i = some j := e1
  rw [this]
  exact h1
def rIxA (K : Fz) : R2 := fun x y H Q => rIx K.K x y H Q ∨ ∃ G a d, Inn G H ∧ x = .ref a ∧ DGz K G H a y (some d) ∧ ∀ v, RD K G v d → Q v H
theorem dgz_typeIs {pins : List (Addr × Obj)} {σ : St} {s : Shared} {a : Addr} {y : V} {o : Option D} (I : Inv X pins σ H s) (i : Inn G H) (g : DGz (kw X) G H a y o) : s.TypeIs (.ref a) "dict" ∧ (∀ b, Value.ref a = .ref b → ∃ ob, s.heap.get? b = some ob ∧ ob.dict = none) ∧ (a == sysModules) = false := by
  cases g with
  | @k kvs k e eu so => exact isD_at I (.inl ⟨kvs, .inl e⟩)
  | t e kv eu eb l =>
    obtain ⟨z, hd, dd⟩ := dtz_of I i e kv
    refine ⟨dd.typeIs, fun b q => ?_, z⟩
    cases q
    obtain ⟨ob, _, _, h1, h2, _⟩ := dd
    exact ⟨ob, h1, h2.2.1⟩
theorem ix_dict (hu : X.A.units + 1 < cLine) : IxR X (fun x y H Q => ∃ G a d, Inn G H ∧ x = .ref a ∧ DGz (kw X) G H a y (some d) ∧ ∀ v, RD (kw X) G v d → Q v H) := by
  intro value slice pins s σ H x y v u Q I rx ry h hs
  obtain ⟨G, a, d, i, rfl, g, q⟩ := h
  cases rx
  have hT := (dgz_typeIs I i g).1
  unfold PyProof.Rows.subscriptTail
  refine wpAny_bind ?_
  rw [getitemInPython_of_ne hT.not_modules]
  refine wpAny_bind (wpAny_specialOf hT PySem.F.slot_dict_getitem.lookup ?_)
  have fin : wpAny (model X.prog X.w) X.A (subscripted slice false (.ref a) u) (fun r s₃ => wpAny (model X.prog X.w) X.A (letTemporaryGo value (.ref a) r >>= fun _ => pure r) (EP X pins σ Q) X.xe s₃) X.xe s := by
    rw [hs]
    exact wpAny_operating (thn (z_getItem (Q := EP X pins σ Q) hu I i g ry fun z w' s' I' rd rw' => ⟨z, H, I', rw', q z rd⟩) fun r s₃ h₃ => wpAny_bind (wpAny_letTemporaryGo (wpAny_pure h₃)))
  first
    | exact wpAny_pure (wpAny_bind fin)
    | exact wpAny_bind (wpAny_pure (wpAny_bind fin))
    | exact wpAny_bind fin
theorem ix_all (hu : X.A.units + 1 < cLine) : IxR X (rIxA (kw X)) := ix_seq.or (ix_dict hu)
theorem s_idx : OpS K (rIxA K) idxD := by
  intro G H O x y z v u Q i e a b q
  cases x <;> try (cases e; done)
  case list xs =>
    cases y <;> try (cases e; done)
    rename_i j
    obtain ⟨p, vs, rfl, h1, h2⟩ := a.list i
    obtain ⟨w, h3, h4⟩ := atI_rd h2 (show atD xs j = some z from e)
    exact .inl (.inl ⟨p, vs, j, w, rfl, b.int, .inl h1, h3, q w G H (Ext.refl i) h4⟩)
  case tuple xs =>
    cases y <;> try (cases e; done)
    rename_i j
    obtain ⟨p, vs, rfl, h1, h2, _⟩ := a.tuple i
    obtain ⟨w, h3, h4⟩ := atI_rd h2 (show atD xs j = some z from e)
    exact .inl (.inr (.inl ⟨p, vs, j, w, rfl, b.int, h1.sq, h3, q w G H (Ext.refl i) h4⟩))
  case str x =>
    cases y <;> try (cases e; done)
    rename_i j
    have e' : (if x.length ≤ lim then (atD x.cps.toList j).map fun c => PyData.str ⟨#[c]⟩ else none) = some z := e
    by_cases hl : x.length ≤ lim
    · rw [if_pos hl] at e'
      obtain ⟨c, e1, rfl⟩ := Option.map_eq_some_iff.mp e'
      exact .inl (.inr (.inr ⟨x, j, c, a.str, b.int, by rw [lim_eq]; exact hl, e1, q _ G H (Ext.refl i) (.str _)⟩))
    · rw [if_neg hl] at e'; cases e'
  case dict es =>
    obtain ⟨o, e1, e2⟩ := Option.bind_eq_some_iff.mp (show (dget y es).bind id = some z from e)
    cases e2
    obtain ⟨c, rfl, g⟩ := dget_of i a b e1
    exact .inr ⟨G, c, z, i, rfl, g, fun w rd => q w G H (Ext.refl i) rd⟩
theorem p_idx {ea ei : Expr} {da di : Tau → Option D} (hu : X.A.units + 1 < cLine) (ha : PE X ea (tB (kw X) cs da)) (hi : PE X ei (tB (kw X) cs di)) (hp : PlainIx ei) : PE X (.Subscript ea ei pos) (tP (kw X) cs fun τ => (da τ).bind fun x => (di τ).bind fun y => idxD x y) := by
  refine pe_imp (pe_ix (ix_all hu) ha hi hp) fun σ H Q ⟨G, τ, r, st, tb, e, q⟩ => ?_
  obtain ⟨x, e1, e⟩ := Option.bind_eq_some_iff.mp e
  obtain ⟨y, e2, e3⟩ := Option.bind_eq_some_iff.mp e
  refine ⟨G, τ, x, st, tb, e1, fun v G1 H1 x1 h1 => ⟨G1, τ, y, st.ext x1, tb.ext x1, e2, fun u G2 H2 x2 h2 => ?_⟩⟩
  exact s_idx x2.inn e3 (h1.ext x2) h2 fun w G3 H3 x3 h3 => q w G3 H3 ((x1.trans x2).trans x3) h3
/-! ### slices -/
theorem cutL_rd {vs : List V} {ds : List D} (h : RDs K G vs ds) (lo hi : Option Int) : RDs K G (cutV vs lo hi) (cutL ds lo hi) := by
  have e1 : ∀ n d o, sixD n d o = HT.sIx n d o := fun n d o => by cases o <;> rfl
  unfold cutV cutL
  rw [e1, e1, RDs.length h]
  exact RDs.take _ (RDs.drop _ h)
/-- a part: left out, or an expression -/
inductive PartR (X : Cx) (cs : List (Addr × Addr)) : Bool → Option Expr → Dn → Prop
  | no {d : Dn} : PartR X cs false none d
  | ex {e : Expr} {d : Dn} : SD X cs e d → PartR X cs true (some e) d
def tPartD (K : Fz) (cs : List (Addr × Addr)) (d : Tau → Option (Option Int)) : TO := fun σ H Q => ∃ G τ b, StR K G H σ τ ∧ TabOk cs G H ∧ d τ = some b ∧ ∀ G' H', Ext G H G' H' → Q b H'
theorem po_part {h : Bool} {e : Option Expr} {d : Dn} (p : PartR X cs h e d) : PO X e (tPartD (kw X) cs (d.part h)) := by
  cases p with
  | no =>
    refine ⟨fun pins s σ H Q I ⟨G, τ, b, st, tb, e, q⟩ => po_none.run pins s σ H Q I ?_⟩
    have : none = b := Option.some.inj e
    subst this
    exact q G H (Ext.refl st.inn)
  | ex hs =>
    refine ⟨fun pins s σ H Q I ⟨G, τ, b, st, tb, e, q⟩ => (po_some hs.bor).run pins s σ H Q I ?_⟩
    obtain ⟨x, e1, e2⟩ := Option.bind_eq_some_iff.mp (show (d.bor τ).bind (fun x => match x with | .int i => some (some i) | _ => Option.none) = some b from e)
    cases x <;> try (cases e2; done)
    rename_i i
    have : some i = b := Option.some.inj e2
    subst this
    exact ⟨G, τ, _, st, tb, e1, fun v G' H' x hb => ⟨i, hb.int, q G' H' x⟩⟩
def rSlAll (K : Fz) : V → Option Int → Option Int → Hp → VK → Prop := fun x lo hi H Q => rSlL K.K x lo hi H Q ∨ rSlZ K.K x lo hi H Q
theorem sl_all : SlR X (rSlAll (kw X)) := sl_list.or sl_tupZ
theorem cutL_whole {α : Type} {xs : List α} {lo hi : Option Int} (h : HT.sIx xs.length 0 lo = 0 ∧ HT.sIx xs.length xs.length hi = xs.length) : cutL xs lo hi = xs := by
  have e1 : ∀ n d o, sixD n d o = HT.sIx n d o := fun n d o => by cases o <;> rfl
  unfold cutL
  rw [e1, e1, h.1, h.2]
  simp
theorem f_cut {e : Expr} {lo hi : Option Expr} {da : Tau → Option D} {dl dh : Dn} {hl hh : Bool} {p2 : Pos} (ha : PE X e (tB (kw X) cs da)) (h1 : PartR X cs hl lo dl) (h2 : PartR X cs hh hi dh) :
    PE X (.Subscript e (.Slice lo hi none p2) pos) (tF (kw X) cs fun τ => (da τ).bind fun x => (dl.part hl τ).bind fun l => (dh.part hh τ).bind fun h => cutD x l h) := by
  refine pe_imp (pe_slice sl_all ha (po_part h1) (po_part h2)) fun σ H Q ⟨G, τ, r, st, tb, e, q⟩ => ?_
  obtain ⟨x, e1, e⟩ := Option.bind_eq_some_iff.mp e
  obtain ⟨l, e2, e⟩ := Option.bind_eq_some_iff.mp e
  obtain ⟨h, e3, e4⟩ := Option.bind_eq_some_iff.mp e
  refine ⟨G, τ, x, st, tb, e1, fun v G1 H1 x1 b1 => ⟨G1, τ, l, st.ext x1, tb.ext x1, e2, fun G2 H2 x2 => ⟨G2, τ, h, (st.ext x1).ext x2, (tb.ext x1).ext x2, e3, fun G3 H3 x3 => ?_⟩⟩⟩
  have x4 := (x1.trans x2).trans x3
  have b4 := (b1.ext x2).ext x3
  cases x <;> try (cases e4; done)
  case list xs =>
    cases e4
    obtain ⟨p, vs, rfl, k1, k2⟩ := b4.list x3.inn
    exact .inl ⟨p, vs, rfl, .inl k1, lay_list x3.inn (cutL_rd k2 l h) fun w G5 H5 x5 f => q w G5 H5 (x4.trans x5) (f.back x4)⟩
  case tuple xs =>
    cases e4
    obtain ⟨p, vs, rfl, k1, k2, k3⟩ := b4.tuple x3.inn
    refine .inr ⟨p, vs, rfl, k1.sq, fun hw => ?_, fun _ => lay_tup x3.inn (cutL_rd k2 l h) fun w G5 H5 x5 f => q w G5 H5 (x4.trans x5) (.std f fun _ e => by cases e)⟩
    rw [RDs.length k2] at hw
    rw [cutL_whole hw] at q
    exact q _ G3 H3 x4 (.std k3 fun _ e => by cases e)
end
end Fw
end
section
set_option Elab.async false
set_option linter.all false
set_option maxRecDepth 100000
set_option maxHeartbeats 4000000
namespace HT
open PySem PySem.Spec PyProof.Rows L2
section
variable {prog : Program} {w : World} {A : Around} {E : Value → Shared → Prop} {s : Shared}
theorem sliceApplied_rev {sl : Addr} {vs : Value} {n : Nat} {Q : Int × Int × Nat → Shared → Prop} (hs : s.heap.IsSliceOf sl .none .none vs) (ps : IsPart vs (some (-1)))
    (h : Q ((n : Int) - 1, -1, n) s) : wpAny (model prog w) A (Builtin.Slice.sliceApplied (.ref sl) (pure (n : Int))) Q E s := by
  obtain ⟨os, hos, hcs, hds⟩ := id hs
  unfold Builtin.Slice.sliceApplied Builtin.Slice.sliceFields
  refine wpAny_bind (wpAny_bind (wpAny_field hos hds (x := .none) rfl (wpAny_bind (wpAny_field hos hds (x := .none) rfl (wpAny_bind (wpAny_field hos hds (x := vs) rfl (wpAny_pure ?_)))))))
  refine wpAny_bind (slicePart_ ps ?_)
  show wpAny _ _ (if ((-1 : Int) == 0) = true then _ else _) _ _ s
  rw [if_neg (by decide)]
  refine wpAny_bind (slicePart_none (wpAny_bind (slicePart_none (wpAny_bind (wpAny_pure ?_)))))
  show wpAny _ _ (match Builtin.Slice.sliceAdjust none none (-1) (n : Int) with | (lo, hi) => pure (lo, (-1 : Int), Builtin.Slice.slicePlaces lo hi (-1))) _ _ s
  have e1 : Builtin.Slice.sliceAdjust none none (-1) (n : Int) = ((n : Int) - 1, -1) := by
    unfold Builtin.Slice.sliceAdjust
    simp
  rw [e1]
  have e2 : Builtin.Slice.slicePlaces ((n : Int) - 1) (-1) (-1) = n := by
    unfold Builtin.Slice.slicePlaces
    have h1 : ¬ ((-1 : Int) > 0) := by omega
    have h2 : (-(-1 : Int)) = 1 := rfl
    simp only [h1, if_false, h2, Int.ediv_one]
    split <;> omega
  show wpAny _ _ (pure ((n : Int) - 1, (-1 : Int), Builtin.Slice.slicePlaces ((n : Int) - 1) (-1) (-1))) _ _ s
  rw [e2]
  exact wpAny_pure h
theorem pick_rev (xs : Array Value) : ((List.range xs.size).filterMap fun (m : Nat) => xs[(((xs.size : Nat) : Int) - 1 + (m : Int) * (-1)).toNat]?).toArray = xs.toList.reverse.toArray := by
  congr 1
  apply List.ext_getElem?
  intro i
  have e : ∀ n, n ≤ xs.size → (List.range n).filterMap (fun (m : Nat) => xs[(((xs.size : Nat) : Int) - 1 + (m : Int) * (-1)).toNat]?) = xs.toList.reverse.take n := by
    intro n hn
    induction n with
    | zero => rfl
    | succ n ih =>
      rw [List.range_succ, List.filterMap_append, ih (by omega), List.take_add_one]
      congr 1
      have h1 : (((xs.size : Nat) : Int) - 1 + (n : Int) * (-1)).toNat = xs.size - 1 - n := by omega
      have h2 : xs.size - 1 - n < xs.size := by omega
      rw [List.getElem?_reverse (by rw [Array.length_toList]; omega)]
      simp only [List.filterMap_cons, List.filterMap_nil, h1]
      simp [h2]
  rw [e xs.size (Nat.le_refl _), List.take_of_length_le (by simp)]
theorem getItem_tuple_rev {t sl : Addr} {items : Array Value} {vs : Value} {Q : Value → Shared → Prop} (ht : IsTup s.heap t items) (hs : s.heap.IsSliceOf sl .none .none vs) (ps : IsPart vs (some (-1)))
    (h : Q (.ref s.heap.objs.size) { s with heap := s.heap.push { cls := .type "tuple", data := .seq items.toList.reverse.toArray } })
    (hsz : items.size ≤ sizeLine) : wpAny (model prog w) A (getItem (.ref t) (.ref sl)) Q E s := by
  have htake : sizeOk (.seq items.toList.reverse.toArray) := by
    show items.toList.reverse.toArray.size ≤ sizeLine
    rw [List.size_toArray, List.length_reverse, Array.length_toList]
    exact hsz
  obtain ⟨os, hos, hcs, hds⟩ := id hs
  have hTs : s.TypeIs (.ref sl) "slice" := ⟨os, hos, hcs⟩
  unfold getItem
  try with_reducible refine wpAny_holding ?_
  first | refine wpAny_bind (wpAny_pure ?_) | skip
  refine wpAny_bind (wpAny_sequenceKey ht.typeIs (by decide) ?_)
  refine wpAny_bind (wpAny_callSpecial?_slot (name := Str.ofString "__getitem__") ht.typeIs PyProof.Rows.slot_tuple_getitem
    (wpAny_call_entry PyProof.Rows.slot_tuple_getitem ht.typeIs entry_tuple_getitem ?_ (args_tuple_getitem _ _)))
  show wpAny _ _ (Builtin.Tuple.tupleItemsOf (.ref t) >>= _) _ _ s
  refine wpAny_bind (tupleItemsOf_ ht ?_)
  refine wpAny_bind (wpAny_typeOf hTs ?_)
  rw [if_pos (by decide)]
  refine wpAny_bind (sliceApplied_rev hs ps ?_)
  have hno : ¬ (((((items.size : Nat) : Int) - 1) == 0 && (-1 : Int) == 1 && items.size == items.size) = true) := by
    intro q
    rw [Bool.and_eq_true, Bool.and_eq_true] at q
    exact absurd q.1.2 (by decide)
  show wpAny _ _ (if ((((items.size : Nat) : Int) - 1) == 0 && (-1 : Int) == 1 && items.size == items.size) = true then _ else _) _ _ s
  rw [if_neg hno, pick_rev]
  first
    | exact wpAny_bind (m := Builtin.Tuple.tupleExact _) (wpAny_newObj_type (wpAny_pure ⟨_, rfl, wpAny_pure h⟩) htake)
    | exact wpAny_bind (m := Builtin.Tuple.tupleExact _) (wpAny_newObj_type (wpAny_bind (wpAny_pure (wpAny_pure ⟨_, rfl, wpAny_pure h⟩))) htake)
    | exact wpAny_bind (wpAny_bind (m := Builtin.Tuple.tupleExact _) (wpAny_newObj_type (wpAny_pure (wpAny_pure ⟨_, rfl, wpAny_pure h⟩)) htake))
    | exact wpAny_bind (wpAny_bind (m := Builtin.Tuple.tupleExact _) (wpAny_newObj_type (wpAny_pure ⟨_, rfl, wpAny_pure h⟩) htake))
end
end HT
namespace Fw
open PySem PySem.Spec L2
section
variable {X : Cx} {cs : List (Addr × Addr)} {K : Fz} {G H : Hp} {O : Addr → Prop} {pos : Pos}
/-! ### a[::-1] -/
def tRevA (te : TE) : TE := fun σ H Q => te σ H fun x H1 => (∃ a xs, x = .ref a ∧ Rd H1 a (.lst xs) ∧ ∀ p, H1 p = none → Q (.ref p) (upd H1 p (.lst xs.reverse))) ∨ ∃ a xs, x = .ref a ∧ Tu H1 a xs ∧ LayT H1 xs.reverse Q
theorem pe_revA {e : Expr} {te : TE} {k : Nat} {p1 p2 p3 pos : Pos} (he : PE X e te) : PE X (.Subscript e (.Slice none none (some (.UnaryOp .USub (.Constant (.int 1) k p1) p2)) p3) pos) (tRevA te) := by
  refine ⟨fun pins s σ H Q I h => ?_⟩
  refine PyProof.Rows.Subscript_ (thn (he.run pins s σ H _ I h) fun v s1 ⟨x, H1, I1, r1, q1⟩ => ?_)
  have hst : PO X (some (.UnaryOp .USub (.Constant (.int 1) k p1) p2)) (tPart (tUn (rU fun i => .int (-i)) (tC (.int 1)))) := po_some (pe_un un_neg pe_int)
  refine PySem.wpAny_Slice (thn (po_none.run pins s1 σ H1 (fun o H2 => o = none ∧ H2 = H1) I1 ⟨rfl, rfl⟩) fun vl s2 ⟨l, H2, I2, pl, el, e2⟩ => ?_)
  subst el e2
  refine thn (po_none.run pins s2 σ H2 (fun o H3 => o = none ∧ H3 = H2) I2 ⟨rfl, rfl⟩) fun vu s3 ⟨u, H3, I3, pu, eu, e3⟩ => ?_
  subst eu e3
  refine thn (hst.run pins s3 σ H3 (fun o H4 => o = some (-1) ∧ H4 = H3) I3 ⟨1, rfl, -1, rfl, rfl, rfl⟩) fun vs s4 ⟨o, H4, I4, ps, eo, e4⟩ => ?_
  subst eo e4
  have I5 : Inv X pins σ H4 { s4 with heap := s4.heap.push { cls := .type "slice", data := .fields #[vl, vu, vs] } } := I4.kept (t' := s4.toks) fun b ob q => Heap.get?_push_of_some _ q
  rcases q1 with ⟨a, xs, ex, hx, q⟩ | ⟨a, xs, ex, hx, q⟩
  · subst ex
    cases r1
    obtain ⟨its, r, ht, hz⟩ := I5.list (.inl hx)
    have hlen := r.length
    show wpAny (model X.prog X.w) X.A (PyProof.Rows.subscriptTail e (.Slice none none (some (.UnaryOp .USub (.Constant (.int 1) k p1) p2)) p3) (.ref a) (.ref s4.heap.objs.size)) (EP X pins σ Q) X.xe { s4 with heap := s4.heap.push { cls := .type "slice", data := .fields #[vl, vu, vs] } }
    refine PyProof.Rows.tail_any (ops := [.ref a, .ref s4.heap.objs.size]) ht.isList.typeIs (PySem.slot_list_getitem.lookup) ?_ (by with_unfolding_all rfl)
    refine wpAny_getItem_list_slice ht.isList (Heap.IsSliceOf.new _ vl vu vs) pl pu ps (by decide) ?_ (by rw [List.size_toArray]; omega)
    rw [PySem.W.krv_pick]
    refine ⟨.ref _, _, I5.laid (t' := s4.toks) (o := .lst xs.reverse) (fun b ob q => Heap.get?_push_of_some _ q) (Nat.le_refl _) ?_, rfl, q _ (I5.hok.fresh (Nat.le_refl _))⟩
    exact ⟨by rw [List.length_reverse]; exact hz, _, 0, r.reverse, Heap.get?_push_size _ rfl⟩
  · subst ex
    cases r1
    obtain ⟨its, r, ht, hz⟩ := I5.tuple hx.sq
    have hlen := r.length
    cases pl
    cases pu
    show wpAny (model X.prog X.w) X.A (PyProof.Rows.subscriptTail e (.Slice none none (some (.UnaryOp .USub (.Constant (.int 1) k p1) p2)) p3) (.ref a) (.ref s4.heap.objs.size)) (EP X pins σ Q) X.xe { s4 with heap := s4.heap.push { cls := .type "slice", data := .fields #[.none, .none, vs] } }
    refine PyProof.Rows.tail_any (ops := [.ref a, .ref s4.heap.objs.size]) ht.typeIs (PyProof.Rows.slot_tuple_getitem.lookup) ?_ (by with_unfolding_all rfl)
    refine HT.getItem_tuple_rev ht (Heap.IsSliceOf.new _ .none .none vs) ps ?_ (by rw [List.size_toArray]; omega)
    exact laidT (s := s4) (h := s4.heap.push { cls := .type "slice", data := .fields #[.none, .none, vs] }) (tk := s4.toks) I5 r.reverse (by rw [List.length_reverse]; exact hz) q
theorem f_rev {e : Expr} {da : Tau → Option D} {k : Nat} {p1 p2 p3 : Pos} (ha : PE X e (tB (kw X) cs da)) : PE X (.Subscript e (.Slice none none (some (.UnaryOp .USub (.Constant (.int 1) k p1) p2)) p3) pos)
    (tF (kw X) cs fun τ => (da τ).bind fun x => match x with | .list xs => some (.list xs.reverse) | .tuple xs => some (.tuple xs.reverse) | _ => none) := by
  refine pe_imp (pe_revA ha) fun σ H Q ⟨G, τ, r, st, tb, e, q⟩ => ?_
  obtain ⟨x, e1, e2⟩ := Option.bind_eq_some_iff.mp e
  refine ⟨G, τ, x, st, tb, e1, fun v G1 H1 x1 b1 => ?_⟩
  cases x <;> try (cases e2; done)
  case list xs =>
    cases e2
    obtain ⟨p, vs, rfl, k1, k2⟩ := b1.list x1.inn
    exact .inl ⟨p, vs, rfl, k1, lay_list x1.inn (RDs.reverse k2) fun w G5 H5 x5 f => q w G5 H5 (x1.trans x5) (f.back x1)⟩
  case tuple xs =>
    cases e2
    obtain ⟨p, vs, rfl, k1, k2, k3⟩ := b1.tuple x1.inn
    exact .inr ⟨p, vs, rfl, k1, lay_tup x1.inn (RDs.reverse k2) fun w G5 H5 x5 f => q w G5 H5 (x1.trans x5) (.std f fun _ e => by cases e)⟩
end
end Fw
end
section
set_option Elab.async false
set_option linter.all false
set_option maxRecDepth 100000
set_option maxHeartbeats 4000000
namespace Fw
open PySem PySem.Spec L2
/-! built-in functions -/
section
variable {X : Cx} {cs : List (Addr × Addr)} {K : Fz} {G H : Hp} {O : Addr → Prop}
/-- a rule on arguments does f -/
def OpA (K : Fz) (r : List V → Hp → VK → Prop) (f : List D → Option D) : Prop := ∀ {G H : Hp} {O : Addr → Prop} {xs : List D} {z : D} {vs : List V} {Q : VK}, Inn G H → f xs = some z → DBs K G H O vs xs → (∀ w G' H', Ext G H G' H' → FrR K H G' H' w z → Q w H') → r vs H Q
theorem dbs_nil {vs : List V} (h : DBs K G H O vs []) : vs = [] := by cases h; rfl
theorem dbs_cons {vs : List V} {d : D} {ds : List D} (h : DBs K G H O vs (d :: ds)) : ∃ v r, vs = v :: r ∧ DB K G H O v d ∧ DBs K G H O r ds := by
  cases h with | cons a r => exact ⟨_, _, rfl, a, r⟩
theorem dbs1 {vs : List V} {d : D} (h : DBs K G H O vs [d]) : ∃ v, vs = [v] ∧ DB K G H O v d := by
  obtain ⟨v, r, rfl, a, b⟩ := dbs_cons h
  cases dbs_nil b
  exact ⟨v, rfl, a⟩
theorem dbs2 {vs : List V} {d e : D} (h : DBs K G H O vs [d, e]) : ∃ v u, vs = [v, u] ∧ DB K G H O v d ∧ DB K G H O u e := by
  obtain ⟨v, r, rfl, a, b⟩ := dbs_cons h
  obtain ⟨u, rfl, c⟩ := dbs1 b
  exact ⟨v, u, rfl, a, c⟩
theorem f_call {e : Expr} {r : List V → Hp → VK → Prop} {f : List D → Option D} {t : TA} {d : Tau → Option (List D)} (hp : PE X e (tCB r t)) (ht : ∀ σ H Q, tAB (kw X) cs d σ H Q → t σ H Q) (hr : OpA (kw X) r f) : PE X e (tF (kw X) cs fun τ => (d τ).bind f) := by
  refine pe_imp hp fun σ H Q ⟨G, τ, z, st, tb, e, q⟩ => ?_
  obtain ⟨xs, e1, e2⟩ := Option.bind_eq_some_iff.mp e
  refine ht _ _ _ ⟨G, τ, xs, st, tb, e1, fun vs G1 H1 x1 h1 => ?_⟩
  exact hr x1.inn e2 h1 fun w G2 H2 x2 h2 => q w G2 H2 (x1.trans x2) (h2.back x1)
/-! ### len -/
def rLenA (K : Fz) : List V → Hp → VK → Prop := fun xs H Q => (∃ x n, xs = [x] ∧ LenV K.K x H n ∧ Q (.int n) H) ∨ (∃ a kvs, xs = [V.ref a] ∧ H a = some (.dK kvs) ∧ Q (.int kvs.length) H) ∨ ∃ G a es xs0, Inn G H ∧ xs = [V.ref a] ∧ H a = some (DTO K a xs0) ∧ KvT K G xs0 es ∧ Q (.int (es.length : Nat)) H
theorem call_lenZ : CallR X (.builtin "len") (fun xs H Q => ∃ G a es xs0, Inn G H ∧ xs = [V.ref a] ∧ H a = some (DTO (kw X) a xs0) ∧ KvT (kw X) G xs0 es ∧ Q (.int (es.length : Nat)) H) := by
  intro pins s σ H xs us Q I r h
  obtain ⟨G, p, es, ys, i, rfl, hp, kv, q⟩ := h
  obtain ⟨u, rfl, rx⟩ := vals1 r
  obtain rfl : u = .ref p := rx
  obtain ⟨z, hd, dd⟩ := dtz_of I i hp kv
  have hl : ys.length = es.length := Paired.length kv
  refine call_len_dictH z dd (by rw [sizeLine_eq] at hd; omega) ?_
  rw [← hl] at q
  exact ⟨.int (ys.length : Nat), H, I.tok _, ⟨_, rfl⟩, q⟩
theorem cr_lenA : CallR X (.builtin "len") (rLenA (kw X)) := call_len.or (call_lenD.or call_lenZ)
theorem o_len : OpA K (rLenA K) (bltD .len) := by
  intro G H O xs z vs Q i e h q
  match xs, e with
  | [x], e =>
    obtain ⟨n, e1, rfl⟩ := Option.map_eq_some_iff.mp e
    obtain ⟨v, rfl, b⟩ := dbs1 h
    have fin := q (.int (n : Nat)) G H (Ext.refl i) FrR.int
    cases x with
    | str y =>
      have e1' : (if y.length ≤ lim then some y.length else Option.none) = some n := e1
      by_cases hl : y.length ≤ lim
      · rw [if_pos hl] at e1'
        rw [b.str]
        exact .inl ⟨_, n, rfl, ⟨by rw [lim_eq]; exact hl, (Option.some.inj e1').symm⟩, fin⟩
      · rw [if_neg hl] at e1'; cases e1'
    | list ys =>
      obtain ⟨a, ws, rfl, h1, h2⟩ := b.list i
      exact .inl ⟨_, n, rfl, .inl ⟨ws, .inl h1, by rw [RDs.length h2]; exact (Option.some.inj e1).symm⟩, fin⟩
    | tuple ys =>
      obtain ⟨a, ws, rfl, h1, h2, _⟩ := b.tuple i
      exact .inl ⟨_, n, rfl, .inr ⟨ws, h1.sq, by rw [RDs.length h2]; exact (Option.some.inj e1).symm⟩, fin⟩
    | dict ys =>
      obtain ⟨a, rfl, hh | hh⟩ := b.dict
      · obtain ⟨kvs, es, rfl, h1, h2⟩ := hh
        have : kvs.length = n := by rw [Paired.length h2]; exact Option.some.inj e1
        exact .inr (.inl ⟨a, kvs, rfl, h1, by rw [this]; exact fin⟩)
      · obtain ⟨kvs, es, rfl, h1, h2⟩ := hh
        have : es.length = n := Option.some.inj e1
        exact .inr (.inr ⟨G, a, es, kvs, i, rfl, h1, h2, by rw [this]; exact fin⟩)
    | _ => cases e1
/-! ### abs, int, list, tuple, sum -/
theorem o_abs : OpA K (fun xs H Q => ∃ i, xs = [.int i] ∧ Q (.int (if i < 0 then -i else i)) H) (bltD .abs) := by
  intro G H O xs z vs Q i e h q
  match xs, e with
  | [.int j], e =>
    obtain ⟨v, rfl, b⟩ := dbs1 h
    cases (show PyData.int (if j < 0 then -j else j) = z from Option.some.inj e)
    exact ⟨j, by rw [b.int], q _ G H (Ext.refl i) FrR.int⟩
theorem o_int : OpA K (fun xs H Q => (∃ i, xs = [.int i] ∧ Q (.int i) H) ∨ ∃ k, xs = [.bl k] ∧ Q (.int (if k then 1 else 0)) H) (bltD .int) := by
  intro G H O xs z vs Q i e h q
  match xs, e with
  | [.int j], e =>
    obtain ⟨v, rfl, b⟩ := dbs1 h
    cases (show PyData.int j = z from Option.some.inj e)
    exact .inl ⟨j, by rw [b.int], q _ G H (Ext.refl i) FrR.int⟩
  | [.bool j], e =>
    obtain ⟨v, rfl, b⟩ := dbs1 h
    cases (show PyData.int (if j then 1 else 0) = z from Option.some.inj e)
    exact .inr ⟨j, by rw [b.bool], q _ G H (Ext.refl i) FrR.int⟩
theorem seqD_of {x : D} {ds : List D} (e : seqD x = some ds) : x = .list ds ∨ x = .tuple ds := by
  cases x <;> first | (cases e; done) | (cases e; first | exact .inl rfl | exact .inr rfl)
theorem o_list : OpA K (fun xs H Q => ∃ p ys, xs = [.ref p] ∧ (SqL K.K H p ys ∨ SqT K.K H p ys) ∧ ∀ l, H l = none → Q (.ref l) (upd H l (.lst ys))) (bltD .list) := by
  intro G H O xs z vs Q i e h q
  match xs, e with
  | [x], e =>
    obtain ⟨ds, e1, rfl⟩ := Option.map_eq_some_iff.mp e
    obtain ⟨v, rfl, b⟩ := dbs1 h
    rcases seqD_of e1 with rfl | rfl
    · obtain ⟨a, ws, rfl, h1, h2⟩ := b.list i
      exact ⟨a, ws, rfl, .inl (.inl h1), lay_list i h2 q⟩
    · obtain ⟨a, ws, rfl, h1, h2, _⟩ := b.tuple i
      exact ⟨a, ws, rfl, .inr h1.sq, lay_list i h2 q⟩
theorem o_tuple : OpA K (rTupZ K.K) (bltD .tuple) := by
  intro G H O xs z vs Q i e h q
  match xs, e with
  | [x], e =>
    obtain ⟨ds, e1, rfl⟩ := Option.map_eq_some_iff.mp e
    obtain ⟨v, rfl, b⟩ := dbs1 h
    rcases seqD_of e1 with rfl | rfl
    · obtain ⟨a, ws, rfl, h1, h2⟩ := b.list i
      exact ⟨a, ws, rfl, .inl ⟨.inl h1, lay_tupF i h2 q⟩⟩
    · obtain ⟨a, ws, rfl, h1, h2, h3⟩ := b.tuple i
      exact ⟨a, ws, rfl, .inr ⟨h1.sq, q _ G H (Ext.refl i) (.std h3 fun _ e => by cases e)⟩⟩
theorem o_sum : OpA K (rSum K.K) (bltD .sum) := by
  intro G H O xs z vs Q i e h q
  match xs, e with
  | [.list ds], e =>
    obtain ⟨ns, e1, rfl⟩ := Option.map_eq_some_iff.mp e
    obtain ⟨v, rfl, b⟩ := dbs1 h
    obtain ⟨a, ws, rfl, h1, h2⟩ := b.list i
    obtain ⟨rfl, rfl⟩ := RDs.intsOf h2 e1
    exact ⟨a, ns, rfl, .inl h1, q _ G H (Ext.refl i) FrR.int⟩
theorem boolsOf_rd : ∀ {vs : List V} {ds : List D} {bs : List Bool}, RDs K G vs ds → boolsOf ds = some bs → vs = bs.map V.bl
  | _, _, _, .nil, e => by cases e; rfl
  | _, _, _, .cons a r, e => by
    cases a with
    | bl i =>
      obtain ⟨ms, e1, rfl⟩ := Option.map_eq_some_iff.mp e
      rw [boolsOf_rd r e1] <;> rfl
    | _ => cases e
theorem o_all : OpA K (rAll K.K) (bltD .all) := by
  intro G H O xs z vs Q i e h q
  match xs, e with
  | [.list ds], e =>
    obtain ⟨bs, e1, rfl⟩ := Option.map_eq_some_iff.mp e
    obtain ⟨v, rfl, b⟩ := dbs1 h
    obtain ⟨a, ws, rfl, h1, h2⟩ := b.list i
    have := boolsOf_rd h2 e1
    subst this
    exact ⟨a, bs, rfl, .inl h1, q _ G H (Ext.refl i) (.std (.bl _) fun _ e => by cases e)⟩
theorem o_any : OpA K (rAny K.K) (bltD .any) := by
  intro G H O xs z vs Q i e h q
  match xs, e with
  | [.list ds], e =>
    obtain ⟨bs, e1, rfl⟩ := Option.map_eq_some_iff.mp e
    obtain ⟨v, rfl, b⟩ := dbs1 h
    obtain ⟨a, ws, rfl, h1, h2⟩ := b.list i
    have := boolsOf_rd h2 e1
    subst this
    exact ⟨a, bs, rfl, .inl h1, q _ G H (Ext.refl i) (.std (.bl _) fun _ e => by cases e)⟩
/-! ### sorted, min, max -/
/-- a list's values by what they are data of -/
def rSortD (K : Fz) : List V → Hp → VK → Prop := fun vs H Q => ∃ (a : Addr) (ws : List V) (ds : List D), vs = [V.ref a] ∧ SqL K.K H a ws ∧ DpAll K.K H ws ds ∧ sortable ds = true ∧
  ∀ (ps : List (D × V)) (p : Addr), ps.Perm (ds.zip ws) → ps.map (·.1) = sortD ds → H p = none → Q (.ref p) (upd H p (.lst (ps.map (·.2))))
theorem sortable_of {ds : List D} (h : sortable ds = true) : PySem.W.AllAlike ds ∧ PySem.W.Sortable ds ∧ ds.length ≤ lim ∧ ∀ d ∈ ds, d.depth ≤ 64 := by
  unfold sortable at h
  simp only [Bool.and_eq_true, Bool.or_eq_true, List.all_eq_true, decide_eq_true_eq] at h
  obtain ⟨⟨⟨h1, h2⟩, h3⟩, h4⟩ := h
  refine ⟨fun d hd e he => h1 d hd e he, ?_, h3, h4⟩
  rcases h2 with h2 | h2
  · refine .inl fun d hd => ?_
    have := h2 d hd
    split at this
    · exact ⟨_, _, rfl⟩
    · cases this
  · refine .inr fun d hd => ?_
    have := h2 d hd
    constructor
    · rintro rfl; cases this
    · rintro xs rfl; cases this
open PyProof.Rows in
theorem eachZ {h : Heap} : ∀ {us : List Value} {ds : List D} {ws : List V} {as : List Addr}, ReadsAll h us ds as → Vals ws us → ws.length = ds.length ∧ PySem.W.EachIs (fun u (b : D × V) => RelV b.2 u) us (ds.zip ws) ∧ PySem.W.EachIs (fun u (b : D × V) => ∃ as, Reads h u b.1 as) us (ds.zip ws)
  | _, _, _, _, .nil, .nil => ⟨rfl, .nil, .nil⟩
  | _, _, _, _, .cons h1 h2, .cons r t => by
    obtain ⟨e, a, b⟩ := eachZ h2 t
    exact ⟨by simp [e], .cons r a, .cons ⟨_, h1⟩ b⟩
open PyProof.Rows in
theorem vals_each : ∀ {us : List Value} {bs : List (D × V)}, PySem.W.EachIs (fun u (b : D × V) => RelV b.2 u) us bs → Vals (bs.map (·.2)) us
  | _, _, .nil => .nil
  | _, _, .cons h t => .cons h (vals_each t)
theorem map_fst_zip {α β : Type} : ∀ {xs : List α} {ys : List β}, xs.length = ys.length → (xs.zip ys).map (·.1) = xs
  | [], _, _ => rfl
  | _ :: _, [], h => by cases h
  | x :: xs, y :: ys, h => by
    rw [List.zip_cons_cons, List.map_cons, map_fst_zip (by simpa using h)]
theorem cr_sortD (hu : X.A.units + 66 < cLine) : CallR X (.builtin "sorted") (rSortD (kw X)) := by
  intro pins s σ H vs us Q I r h
  obtain ⟨a, ws, ds, rfl, hs, hd, so, q⟩ := h
  obtain ⟨its, rv, hl, hz⟩ := I.list hs
  rw [Vals.ref1 r]
  obtain ⟨ha, hk, hn, hdp⟩ := sortable_of so
  obtain ⟨as, ra⟩ := Dp.readsAll I ds ws its hd rv
  obtain ⟨el, e1, e2⟩ := eachZ ra rv
  have mz : (ds.zip ws).map (·.1) = ds := map_fst_zip el.symm
  refine PySem.W.sorted_data (bs := ds.zip ws) (enc := (·.1)) hl.isList e1 e2 (by rw [mz]; exact ha) (by rw [mz]; exact hk) (by rw [List.length_zip, el, Nat.min_self, lim_eq]; exact hn) (fun b hb => ?_) fun out h1 h2 => ?_
  · have : b.1 ∈ ds := by rw [← mz]; exact List.mem_map_of_mem hb
    have := hdp _ this
    omega
  obtain ⟨ep, he'⟩ := PyProof.Rows.sortedAll_at s.heap its out.toArray
  have hlen : (((ds.zip ws).mergeSort (PySem.W.dataLe false (·.1))).map (·.2)).length ≤ sizeLine := by rw [List.length_map, List.length_mergeSort, List.length_zip, el, Nat.min_self, lim_eq]; exact hn
  refine ⟨.ref _, upd H (s.heap.objs.size + 1) (.lst _), I.laid (t' := s.toks) (fun _ _ => PyProof.Rows.sortedAll_old) (Nat.le_succ _) ⟨hlen, out, ep, vals_each h2, he'⟩, rfl, q _ _ (List.mergeSort_perm _ _) ?_ (I.hok.fresh (Nat.le_succ _))⟩
  refine (List.map_mergeSort (r := PySem.W.dataLe false fun x : D × V => x.1) (s := PySem.W.dataLe false id) (f := fun x : D × V => x.1) (fun a _ b _ => rfl)).trans ?_
  rw [mz]
  rfl
theorem RDs.zip : ∀ {ws : List V} {ds : List D}, RDs K G ws ds → ∀ p ∈ ds.zip ws, RD K G p.2 p.1
  | _, _, .nil, p, h => by cases h
  | _, _, .cons a r, p, h => by
    rcases List.mem_cons.mp h with e | h
    · subst e; exact a
    · exact RDs.zip r p h
theorem RDs.unzip : ∀ {ps : List (D × V)}, (∀ p ∈ ps, RD K G p.2 p.1) → RDs K G (ps.map (·.2)) (ps.map (·.1))
  | [], _ => .nil
  | p :: ps, h => .cons (h p List.mem_cons_self) (RDs.unzip fun q hq => h q (List.mem_cons_of_mem _ hq))
theorem o_sorted : OpA K (rSortD K) (bltD .sorted) := by
  intro G H O xs z vs Q i e h q
  match xs, e with
  | [.list ds], e =>
    have e' : (if sortable ds then some (PyData.list (sortD ds)) else Option.none) = some z := e
    by_cases hs : sortable ds = true
    · rw [if_pos hs] at e'
      cases e'
      obtain ⟨v, rfl, b⟩ := dbs1 h
      obtain ⟨a, ws, rfl, h1, h2⟩ := b.list i
      refine ⟨a, ws, ds, rfl, .inl h1, RDs.l2 (RDs.mono i h2), hs, fun ps p pm em hn => ?_⟩
      have h3 : RDs K G (ps.map (·.2)) (ps.map (·.1)) := RDs.unzip fun p hp => RDs.zip h2 p (pm.mem_iff.mp hp)
      rw [em] at h3
      exact lay_list i h3 q p hn
    · rw [if_neg hs] at e'; cases e'
/-- the first of the least, as it stands -/
theorem min_at {prog : Program} {w : World} {A : Around} {E : Value → Shared → Prop} {s : Shared} {l : Addr} {vs : Array Value} {x : D} {xs : List D} {as : List Addr} {Q : Value → Shared → Prop} (hh : A.handled = none) (hl : s.heap.IsList l vs) (hr : PySem.ReadsAll s.heap vs.toList (x :: xs) as) (ha : PySem.W.AlikeAll (x :: xs)) (hu : A.units + 1 + PyData.depthAll (x :: xs) < cLine)
    (h : ∀ (i : Nat) v h' tk, vs[i]? = some v → i < xs.length + 1 → (x :: xs).getD i .none = PySem.W.minD x xs → (∀ b o, s.heap.get? b = some o → h'.get? b = some o) → Q v { s with heap := h', toks := tk }) :
    wpAny (model prog w) A (call (.builtin "min") [.ref l]) Q E s := by
  have hn : vs.size = xs.length + 1 := PySem.W.readsAll_len hr
  refine PySem.call_min_walkH (PySem.W.iter_listW (A := A.in1) hh hl fun s₂ e W st hfp hw hk => ?_)
  refine ⟨_, _, _, _, _, _, _, s.heap, _, rfl, W, st, hfp, by omega, hw, hk, PySem.W.cmpIn_lt (A := A.in1) hr ha (by show A.units + 1 + _ < _; exact hu), fun v s' hP m => ?_⟩
  obtain ⟨h', tk, rfl, hk'⟩ := PySem.W.moved_old e rfl m
  obtain ⟨bs, r, hlt, _, _⟩ := PySem.W.readsAll_atA hr _ v hP
  have e1 : vs.size - 1 = xs.length := by omega
  have e2 := (PySem.W.argBest_fold PySem.W.dataLt PyData.none x xs xs.length (Nat.le_refl _)).2
  rw [List.take_length] at e2
  refine h _ v h' tk hP hlt ?_ hk'
  rw [e1]
  exact e2
theorem max_at {prog : Program} {w : World} {A : Around} {E : Value → Shared → Prop} {s : Shared} {l : Addr} {vs : Array Value} {x : D} {xs : List D} {as : List Addr} {Q : Value → Shared → Prop} (hh : A.handled = none) (hl : s.heap.IsList l vs) (hr : PySem.ReadsAll s.heap vs.toList (x :: xs) as) (ha : PySem.W.AlikeAll (x :: xs)) (hu : A.units + 1 + PyData.depthAll (x :: xs) < cLine)
    (h : ∀ (i : Nat) v h' tk, vs[i]? = some v → i < xs.length + 1 → (x :: xs).getD i .none = PySem.W.maxD x xs → (∀ b o, s.heap.get? b = some o → h'.get? b = some o) → Q v { s with heap := h', toks := tk }) :
    wpAny (model prog w) A (call (.builtin "max") [.ref l]) Q E s := by
  have hn : vs.size = xs.length + 1 := PySem.W.readsAll_len hr
  refine PySem.call_max_walkH (PySem.W.iter_listW (A := A.in1) hh hl fun s₂ e W st hfp hw hk => ?_)
  refine ⟨_, _, _, _, _, _, _, s.heap, _, rfl, W, st, hfp, by omega, hw, hk, PySem.W.cmpIn_gt (A := A.in1) hr ha (by show A.units + 1 + _ < _; exact hu), fun v s' hP m => ?_⟩
  obtain ⟨h', tk, rfl, hk'⟩ := PySem.W.moved_old e rfl m
  obtain ⟨bs, r, hlt, _, _⟩ := PySem.W.readsAll_atA hr _ v hP
  have e1 : vs.size - 1 = xs.length := by omega
  have e2 := (PySem.W.argBest_fold (fun a b => PySem.W.dataLt b a) PyData.none x xs xs.length (Nat.le_refl _)).2
  rw [List.take_length] at e2
  refine h _ v h' tk hP hlt ?_ hk'
  rw [e1]
  exact e2
theorem minOk_of {ds : List D} (h : minOk ds = true) : PySem.W.AlikeAll ds ∧ PyData.depthAll ds ≤ 63 ∧ ∀ d ∈ ds, ∀ xs, d ≠ .list xs := by
  unfold minOk at h
  simp only [Bool.and_eq_true, List.all_eq_true, decide_eq_true_eq] at h
  obtain ⟨⟨h1, h2⟩, h3⟩ := h
  refine ⟨⟨fun d hd e he => h1 d hd e he, fun d hd => ?_⟩, h3, fun d hd xs => ?_⟩
  · rintro rfl
    have := h2 _ hd
    cases this
  · rintro rfl
    have := h2 _ hd
    cases this
def rBest (K : Fz) (g : D → List D → D) : List V → Hp → VK → Prop := fun vs H Q => ∃ (a : Addr) (ws : List V) (d : D) (ds : List D), vs = [V.ref a] ∧ SqL K.K H a ws ∧ DpAll K.K H ws (d :: ds) ∧ minOk (d :: ds) = true ∧
  ∀ (i : Nat) (w : V), ws[i]? = some w → (d :: ds)[i]? = some (g d ds) → Q w H
theorem getD_get {α : Type} {xs : List α} {i : Nat} {d v : α} (hi : i < xs.length) (h : xs.getD i d = v) : xs[i]? = some v := by
  rw [List.getD_eq_getElem?_getD, List.getElem?_eq_getElem hi] at h
  rw [List.getElem?_eq_getElem hi, ← h] <;> rfl
theorem valsGetV : ∀ {xs : List V} {us : List Value} {i : Nat} {u : Value}, Vals xs us → us[i]? = some u → ∃ x, xs[i]? = some x ∧ RelV x u
  | _, _, _, _, .nil, h => by simp at h
  | _, _, 0, _, .cons r _, h => by simp at h; subst h; exact ⟨_, rfl, r⟩
  | _, _, i + 1, u, .cons _ t, h => by
    obtain ⟨x, h1, h2⟩ := valsGetV (i := i) (u := u) t (by simpa using h)
    exact ⟨x, by simpa using h1, h2⟩
theorem cr_minD (hu : X.A.units + 66 < cLine) (hc : X.calm = true) : CallR X (.builtin "min") (rBest (kw X) PySem.W.minD) := by
  intro pins s σ H vs us Q I r h
  obtain ⟨a, ws, d, ds, rfl, hs, hd, so, q⟩ := h
  obtain ⟨its, rv, hl, hz⟩ := I.list hs
  rw [Vals.ref1 r]
  obtain ⟨ha, hdp, _⟩ := minOk_of so
  obtain ⟨as, ra⟩ := Dp.readsAll I (d :: ds) ws its hd rv
  refine min_at (I.ok.hd hc) hl.isList (by simpa using ra) ha (by omega) fun i v h' tk hv hi e hk => ?_
  obtain ⟨w, hw, rw'⟩ := valsGetV (i := i) (u := v) rv (by simpa using hv)
  exact ⟨w, H, I.kept hk, rw', q i w hw (getD_get (by simpa using hi) e)⟩
theorem cr_maxD (hu : X.A.units + 66 < cLine) (hc : X.calm = true) : CallR X (.builtin "max") (rBest (kw X) PySem.W.maxD) := by
  intro pins s σ H vs us Q I r h
  obtain ⟨a, ws, d, ds, rfl, hs, hd, so, q⟩ := h
  obtain ⟨its, rv, hl, hz⟩ := I.list hs
  rw [Vals.ref1 r]
  obtain ⟨ha, hdp, _⟩ := minOk_of so
  obtain ⟨as, ra⟩ := Dp.readsAll I (d :: ds) ws its hd rv
  refine max_at (I.ok.hd hc) hl.isList (by simpa using ra) ha (by omega) fun i v h' tk hv hi e hk => ?_
  obtain ⟨w, hw, rw'⟩ := valsGetV (i := i) (u := v) rv (by simpa using hv)
  exact ⟨w, H, I.kept hk, rw', q i w hw (getD_get (by simpa using hi) e)⟩
def rMin2A (K : Fz) : List V → Hp → VK → Prop := fun xs H Q => (∃ i j, xs = [.int i, .int j] ∧ Q (.int (if j < i then j else i)) H) ∨ rBest K PySem.W.minD xs H Q
def rMax2A (K : Fz) : List V → Hp → VK → Prop := fun xs H Q => (∃ i j, xs = [.int i, .int j] ∧ Q (.int (if j > i then j else i)) H) ∨ rBest K PySem.W.maxD xs H Q
theorem best_o {g : D → List D → D} {d : D} {ds : List D} {O : Addr → Prop} {G H : Hp} {vs : List V} {Q : VK} (i : Inn G H) (ok : minOk (d :: ds) = true) (h : DBs K G H O vs [.list (d :: ds)]) (q : ∀ w G' H', Ext G H G' H' → FrR K H G' H' w (g d ds) → Q w H') : rBest K g vs H Q := by
  obtain ⟨v, rfl, b⟩ := dbs1 h
  obtain ⟨a, ws, rfl, h1, h2⟩ := b.list i
  refine ⟨a, ws, d, ds, rfl, .inl h1, RDs.l2 (RDs.mono i h2), ok, fun k w hw e => ?_⟩
  obtain ⟨w2, hw2, r⟩ := RDs.get h2 e
  rw [hw] at hw2
  cases hw2
  exact q w G H (Ext.refl i) (.std r ((minOk_of ok).2.2 _ (List.mem_of_getElem? e)))
theorem o_min : OpA K (rMin2A K) (bltD .min) := by
  intro G H O xs z vs Q i e h q
  match xs, e with
  | [.int a, .int b], e =>
    cases (show PyData.int (if b < a then b else a) = z from Option.some.inj e)
    obtain ⟨v, u, rfl, b1, b2⟩ := dbs2 h
    exact .inl ⟨a, b, by rw [b1.int, b2.int], q _ G H (Ext.refl i) FrR.int⟩
  | [.list (d :: ds)], e =>
    have e' : (if minOk (d :: ds) then some (PySem.W.minD d ds) else Option.none) = some z := e
    by_cases ok : minOk (d :: ds) = true
    · rw [if_pos ok] at e'
      cases e'
      exact .inr (best_o i ok h q)
    · rw [if_neg ok] at e'; cases e'
theorem o_max : OpA K (rMax2A K) (bltD .max) := by
  intro G H O xs z vs Q i e h q
  match xs, e with
  | [.int a, .int b], e =>
    cases (show PyData.int (if b > a then b else a) = z from Option.some.inj e)
    obtain ⟨v, u, rfl, b1, b2⟩ := dbs2 h
    exact .inl ⟨a, b, by rw [b1.int, b2.int], q _ G H (Ext.refl i) FrR.int⟩
  | [.list (d :: ds)], e =>
    have e' : (if minOk (d :: ds) then some (PySem.W.maxD d ds) else Option.none) = some z := e
    by_cases ok : minOk (d :: ds) = true
    · rw [if_pos ok] at e'
      cases e'
      exact .inr (best_o i ok h q)
    · rw [if_neg ok] at e'; cases e'
end
end Fw
end
section
set_option Elab.async false
set_option linter.all false
set_option maxRecDepth 100000
set_option maxHeartbeats 4000000
namespace Fw
open PySem PySem.Spec L2
section
variable {X : Cx} {cs : List (Addr × Addr)} {K : Fz} {G H : Hp} {O : Addr → Prop}
/-! ### isinstance -/
def tyN : D → String
  | .none => "NoneType"
  | .bool _ => "bool"
  | .int _ => "int"
  | .str _ => "str"
  | .list _ => "list"
  | .tuple _ => "tuple"
  | .dict _ => "dict"
def tyS : Ty → String
  | .int => "int"
  | .bool => "bool"
  | .str => "str"
  | .list => "list"
  | .tuple => "tuple"
theorem ty_of (i : Inn G H) {v : V} {d : D} (b : DB K G H O v d) (nd : isDict d = false) : TyX K.K H v (.type (tyN d)) := by
  cases d with
  | none => rw [b.none]; exact .base .non
  | bool x => rw [b.bool]; exact .base (.bl _)
  | int x => rw [b.int]; exact .base (.int _)
  | str x => rw [b.str]; exact .base (.str _)
  | list xs =>
    obtain ⟨a, vs, rfl, s | ⟨o, s⟩, _⟩ := b.list i
    · exact .base (.lst s)
    · exact .base (.frz s)
  | tuple xs =>
    obtain ⟨a, vs, rfl, ⟨o, s, _⟩, _, _⟩ := b.tuple i
    exact .fTuple s
  | dict es => cases nd
theorem kit1 (d : D) (t : Ty) (h : isDict d = false) : kitB (tyN d) (tyS t) = some (isTy d t) := by
  cases d <;> first
    | (cases h; done)
    | (cases t <;> (show kitB _ _ = some _) <;> first | decide +kernel | rfl)
theorem kitA (K : PySem.W.Frag) (d : D) (h : isDict d = false) : ∀ ts : List Ty, PySem.W.kitAny K (.type (tyN d)) (ts.map fun t => Value.type (tyS t)) = some (ts.any (isTy d))
  | [] => kitAny_nil
  | t :: ts => by
    refine kitAny_cons (kit_ty (kit1 d t h)) (fun e => ?_) (fun e => ?_)
    · rw [List.any_cons, e, Bool.false_or]; exact kitA K d h ts
    · rw [List.any_cons, e] <;> rfl
theorem tys_paired : ∀ ts : List Ty, Paired ClsV (ts.map fun t => V.ty (tyS t)) (ts.map fun t => Value.type (tyS t))
  | [] => .nil
  | t :: ts => .cons (.ty _) (tys_paired ts)
theorem boot_ty (t : Ty) : bootBuiltins (Str.ofString (tyS t)) = some (.type (tyS t)) := by
  cases t <;> decide +kernel
/-- the name of a built-in type -/
inductive TyE : Expr → Ty → Prop
  | mk (t : Ty) (p : Pos) : TyE (.Name (Str.ofString (tyS t)) p) t
def TyG (X : Cx) (t : Ty) : Prop := Gl X (Str.ofString (tyS t)) ∧ X.mg (Str.ofString (tyS t)) = none
theorem pe_ty {e : Expr} {t : Ty} (h : TyE e t) (g : TyG X t) : PE X e (tC (.ty (tyS t))) := by
  cases h
  exact pe_bltn g.1 g.2 (boot_ty t) rfl (by cases t <;> decide) (by cases t <;> decide)
theorem plain_ty {e : Expr} {t : Ty} (h : TyE e t) : Plain e := by cases h; exact fun _ _ => rfl
theorem pa_tys : ∀ {es : List Expr} {ts : List Ty}, Paired TyE es ts → (∀ t ∈ ts, TyG X t) → PA X es (fun σ H Q => Q (ts.map fun t => V.ty (tyS t)) H)
  | _, _, .nil, _ => pa_nil
  | e :: es, t :: ts, .cons h r, g => pa_imp (pa_cons (pe_ty h (g t List.mem_cons_self)) (pa_tys r fun t' ht => g t' (List.mem_cons_of_mem _ ht)) (plain_ty h _ _)) fun σ H Q q => q
variable {ea : Expr} {da : Tau → Option D} {pos p : Pos}
def isiD (ts : List Ty) (x : D) : Option D := match x with | .dict _ => none | _ => some (.bool (ts.any (isTy x)))
theorem isiD_of {ts : List Ty} {x z : D} (e : isiD ts x = some z) : isDict x = false ∧ z = .bool (ts.any (isTy x)) := by
  cases x <;> first | (cases e; done) | exact ⟨rfl, (Option.some.inj e).symm⟩
theorem p_isi1 {et : Expr} {t : Ty} (hg : Gl X "isinstance") (hm : X.mg "isinstance" = none) (ha : PE X ea (tB (kw X) cs da)) (hp : Plain ea) (ht : TyE et t) (g : TyG X t) :
    PE X (.Call (.Name "isinstance" p) [ea, et] [] pos) (tP (kw X) cs fun τ => (da τ).bind (isiD [t])) := by
  refine pe_imp (pe_callB call_isi hg hm PyProof.Rows.boot_isinstance (pa_cons ha (pa_cons (pe_ty ht g) pa_nil (plain_ty ht _ _)) (hp _ _)) (he := hp _ _) (hpl := by cases ht; rfl)) fun σ H Q ⟨G, τ, r, st, tb, e, q⟩ => ?_
  obtain ⟨x, e1, e2⟩ := Option.bind_eq_some_iff.mp e
  obtain ⟨nd, rfl⟩ := isiD_of e2
  refine ⟨G, τ, x, st, tb, e1, fun v G1 H1 x1 h1 => ?_⟩
  refine ⟨v, .ty (tyS t), .type (tyN x), .type (tyS t), isTy x t, rfl, .ty _, ty_of x1.inn h1 nd, kit_ty (kit1 x t nd), ?_⟩
  have : [t].any (isTy x) = isTy x t := by simp
  rw [← this]
  exact q _ G1 H1 x1 (.bl _)
theorem p_isiT {es : List Expr} {ts : List Ty} {k : Nat} {tp : Pos} (hg : Gl X "isinstance") (hm : X.mg "isinstance" = none) (ha : PE X ea (tB (kw X) cs da)) (hp : Plain ea) (ht : Paired TyE es ts) (g : ∀ t ∈ ts, TyG X t) (hl : ts.length ≤ 5) :
    PE X (.Call (.Name "isinstance" p) [ea, .Tuple es k tp] [] pos) (tP (kw X) cs fun τ => (da τ).bind (isiD ts)) := by
  have hT : Plain (.Tuple es k tp) := fun _ _ => rfl
  refine pe_imp (pe_callB call_isiT hg hm PyProof.Rows.boot_isinstance (pa_cons ha (pa_cons (pe_tup (pa_tys ht g)) pa_nil (hT _ _)) (hp _ _)) (he := hp _ _) (hpl := rfl)) fun σ H Q ⟨G, τ, r, st, tb, e, q⟩ => ?_
  obtain ⟨x, e1, e2⟩ := Option.bind_eq_some_iff.mp e
  obtain ⟨nd, rfl⟩ := isiD_of e2
  refine ⟨G, τ, x, st, tb, e1, fun v G1 H1 x1 h1 => ⟨by rw [List.length_map, sizeLine_eq]; omega, fun T hT => ?_⟩⟩
  have x2 := Ext.lay (o := .tup (ts.map fun t => V.ty (tyS t))) x1.inn hT
  exact ⟨v, T, _, .type (tyN x), _, _, rfl, upd_same, tys_paired ts, ty_of x2.inn (h1.ext x2) nd, kitA (kw X).K x nd ts, q _ G1 _ (x1.trans x2) (.bl _)⟩
/-! ### methods of lists, tuples, dicts, whichever it is -/
def TyZ (X : Cx) (T : String) (x : V) (H : Hp) : Prop := ∀ (pins : List (Addr × Obj)) (σ : St) (s : Shared) (v : Value), Inv X pins σ H s → RelV x v → s.TypeIs v T ∧ ∀ a, v = .ref a → ∃ ob, s.heap.get? a = some ob ∧ ob.dict = none
theorem tyz_list {a : Addr} {vs : List V} (h : Rd H a (.lst vs)) : TyZ X "list" (.ref a) H := fun pins σ s v I r => tyV_is I r (.inl ⟨rfl, vs, .inl h⟩)
theorem tyz_tuple {a : Addr} {vs : List V} (h : Tu H a vs) : TyZ X "tuple" (.ref a) H := by
  obtain ⟨ob, e, d⟩ := h
  intro pins σ s v I r
  cases r
  obtain ⟨e1, _, its, _, o, e2, hc, _⟩ := (show ObjOk X.prog X.w H s.heap a (.frz ob (.tup vs)) from I.hok a _ e)
  rw [e1] at e2
  cases e2
  refine ⟨⟨_, e1, hc⟩, fun b q => ?_⟩
  cases q
  exact ⟨_, e1, d⟩
theorem tyz_dict (i : Inn G H) {v : V} {es : List (D × D)} (b : DB (kw X) G H O v (.dict es)) : TyZ X "dict" v H := fun pins σ s u I r => by
  obtain ⟨a, rfl, ⟨kvs, es', rfl, h1, h2⟩ | ⟨kvs, es', rfl, h1, h2⟩⟩ := b.dict
  · cases r
    obtain ⟨k1, k2, _⟩ := isD_at I (.inl ⟨kvs, .inl h1⟩)
    exact ⟨k1, k2⟩
  · cases r
    obtain ⟨z, hd, dd⟩ := dtz_of I i h1 h2
    refine ⟨dd.typeIs, fun b q => ?_⟩
    cases q
    obtain ⟨ob, _, _, h1, h2, _⟩ := dd
    exact ⟨ob, h1, h2.2.1⟩
def tMD (X : Cx) (name : Str) (to : TE) (t : TA) : TE := fun σ H Q => to σ H fun x H1 => ∃ (T id : String) (r : V → List V → Hp → VK → Prop), PlainAttrs T ∧ PySem.Slot T name id ∧ typeOf (.builtin id) = pure (.type "method_descriptor") ∧ MtR X id r ∧ TyZ X T x H1 ∧ t σ H1 fun xs H2 => r x xs H2 Q
theorem pe_mD {o e : Expr} {es : List Expr} {to : TE} {t : TA} {name : Str} {apos cpos : Pos} (ho : PE X o to) (ha : PA X (e :: es) t)
    (hbase : attributeBase o name X.env (eval o X.env) = eval o X.env)
    (hfew : ((backTo cpos (starEach (e :: es) X.env)).all (fun x => !x.1) && (backToKw cpos (keywordEach [] X.env)).all (fun x => x.1.isSome)
      && decide ((e :: es).length + ([] : List Keyword).length + (if ([] : List Keyword).isEmpty then 0 else 1) < 30)) = true)
    (hline : (apos.endLine == cpos.line) = true) (hs : starEach (e :: es) X.env = (false, eval e X.env) :: starEach es X.env) (hplain : (backTo cpos (starEach es X.env)).any (·.1) = false) :
    PE X (.Call (.Attribute o name apos) (e :: es) [] cpos) (tMD X name to t) := by
  refine ⟨fun pins s σ H Q I h => ?_⟩
  refine wpAny_Call_method_late hbase hfew hline rfl (thn (ho.run pins s σ H _ I h) fun v s1 ⟨x, H1, I1, r1, T, id, r, pa, slot, hty, hm, ty, q1⟩ => ?_)
  obtain ⟨h1, h2⟩ := ty pins σ s1 v I1 r1
  refine ⟨T, id, pa, slot, hty, h1, h2, ?_⟩
  have hA := ha.run cpos pins s1 σ H1 _ I1 q1
  rw [hs] at hA ⊢
  refine Calls.callWith_builtin (by show (false || (backTo cpos (starEach es X.env)).any (·.1)) = false; rw [hplain] <;> rfl) (Calls.evalArgs_plain ?_)
  exact thn hA fun us s2 ⟨vs, H2, I2, r2, q2⟩ => hm pins s2 σ H2 x vs v us Q I2 r1 r2 q2
/-! index -/
def rIndexT (K : PySem.W.Frag) : V → List V → Hp → VK → Prop := fun x xs H Q => ∃ (a : Addr) (y : V) (d : PyData) (ds : List PyData) (j : Nat) (z : PyData), x = V.ref a ∧ xs = [y] ∧ Dp K H (V.ref a) (.tuple ds) ∧ Dp K H y d ∧
  SeqAt.shaped (.tuple ds) = true ∧ SeqAt.shaped d = true ∧ ds[j]? = some z ∧ PyData.eqv z d = true ∧ (∀ (m : Nat) (z' : PyData), m < j → ds[m]? = some z' → PyData.eqv z' d = false) ∧ Q (.int (j : Nat)) H
theorem mt_indexT (hu : X.A.units + 65 < cLine) : MtR X "tuple.index" (rIndexT X.K) := by
  intro pins s σ H x xs v us Q I rx rxs h
  obtain ⟨a, y, d, ds, j, z, rfl, rfl, hl, hy, sl, sd, hz, hzj, hno, q⟩ := h
  cases rx
  cases rxs with
  | cons ry rt =>
    rename_i uy ut
    cases rt
    obtain ⟨bs, r1⟩ := Dp.reads I d y uy hy ry
    have hxs : PyData.canLayAll0 ds = true := SeqAt.canLay_of_shaped sl
    have hroom : X.A.units + 1 + min (PyData.depthAll ds) d.depth < cLine := PyProof.Rows.room_in_shaped sd hu
    cases hl with
    | tup hs ha =>
      obtain ⟨its, rv, ⟨⟨cls, dd, data, sls⟩, ho, hc, n, hdt⟩, hlen⟩ := I.tuple hs
      simp only at hc hdt
      subst hc hdt
      obtain ⟨as, h4⟩ := Dp.readsAll I ds _ its ha rv
      have hn : its.length = ds.length := SeqAt.ReadsAll.length ds its as h4
      have hmap : its.map (SeqAt.readOf s.heap) = ds := SeqAt.readsAll_map ds its as hxs h4
      have hvl := rv.length
      have hsl := sizeLine_eq
      obtain ⟨hjd, _⟩ := List.getElem?_eq_some_iff.mp hz
      have hjl : j < its.length := by omega
      have hj : j < its.toArray.size := by simpa using hjl
      have at_ : ∀ (m : Nat) (hm : m < its.toArray.size) (z' : PyData), ds[m]? = some z' → SeqAt.readOf s.heap its.toArray[m] = z' := by
        intro m hm z' hz'
        have hml : m < its.length := by simpa using hm
        rw [← hmap, List.getElem?_map, List.getElem?_eq_getElem hml] at hz'
        have e1 : SeqAt.readOf s.heap its[m] = z' := Option.some.inj (show some (SeqAt.readOf s.heap its[m]) = some z' from hz')
        simpa using e1
      refine call_meets PySem.F.slot_tuple_index ⟨_, ho, rfl⟩ PySem.F.entry_tuple_index (PySem.F.args_tuple_index_2 _ _)
        (TI.tuple_indexAt a its.toArray n dd sls uy (fun u => PyData.eqv (SeqAt.readOf s.heap u) d) j hj ?_ ?_) ⟨ho, SeqAt.items_eqAt (vs := its.toArray) (show ReadsAll s.heap its.toArray.toList ds as from h4) r1 hxs (SeqAt.canLay_of_shaped sd) hroom, ?_⟩
      · show PyData.eqv (SeqAt.readOf s.heap its.toArray[j]) d = true
        rw [at_ j hj z hz]
        exact hzj
      · intro m hm hmj
        have hmd : m < ds.length := by omega
        have hz' : ds[m]? = some ds[m] := List.getElem?_eq_getElem hmd
        show PyData.eqv (SeqAt.readOf s.heap its.toArray[m]) d = false
        rw [at_ m hm _ hz']
        exact hno m _ hmj hz'
      · exact ⟨.int (j : Nat), H, I.tok _, ⟨_, rfl⟩, q⟩
theorem idxFrom_of {x : D} : ∀ {ds : List D} {n k : Nat}, idxFrom x ds n = some k → ∃ j z, k = n + j ∧ ds[j]? = some z ∧ PyData.eqv z x = true ∧ ∀ (m : Nat) (z' : D), m < j → ds[m]? = some z' → PyData.eqv z' x = false
  | [], _, _, h => nomatch h
  | d :: r, n, k, h => by
    have h' : (if PyData.eqv d x then some n else idxFrom x r (n + 1)) = some k := h
    by_cases e : PyData.eqv d x = true
    · rw [if_pos e] at h'
      cases h'
      exact ⟨0, d, rfl, rfl, e, fun m z' hm => absurd hm (Nat.not_lt_zero m)⟩
    · rw [if_neg e] at h'
      obtain ⟨j, z, h1, h2, h3, h4⟩ := idxFrom_of h'
      refine ⟨j + 1, z, by omega, by simpa using h2, h3, fun m z' hm hz => ?_⟩
      cases m with
      | zero =>
        have : d = z' := by simpa using hz
        subst this
        simpa using e
      | succ m => exact h4 m z' (by omega) (by simpa using hz)
/-! count -/
def rCountL (K : PySem.W.Frag) : V → List V → Hp → VK → Prop := fun x xs H Q => ∃ (a : Addr) (ws : List V) (y : V) (d : D) (ds : List D), x = V.ref a ∧ xs = [y] ∧ SqL K H a ws ∧ DpAll K H ws ds ∧ Dp K H y d ∧ ds.all PyData.plain = true ∧ d.plain = true ∧ d.depth ≤ 63 ∧ Q (.int ((ds.countP fun y => PyData.eqv y d : Nat) : Int)) H
def rCountT (K : PySem.W.Frag) : V → List V → Hp → VK → Prop := fun x xs H Q => ∃ (a : Addr) (ws : List V) (y : V) (d : D) (ds : List D), x = V.ref a ∧ xs = [y] ∧ SqT K H a ws ∧ DpAll K H ws ds ∧ Dp K H y d ∧ ds.all PyData.plain = true ∧ d.plain = true ∧ d.depth ≤ 63 ∧ Q (.int ((ds.countP fun y => PyData.eqv y d : Nat) : Int)) H
theorem plainAll_of : ∀ {ds : List D}, ds.all PyData.plain = true → PyData.plainAll ds = true
  | [], _ => rfl
  | d :: r, h => by
    rw [List.all_cons, Bool.and_eq_true] at h
    show (d.plain && PyData.plainAll r) = true
    rw [h.1, plainAll_of h.2] <;> rfl
theorem mt_countL (hu : X.A.units + 65 < cLine) : MtR X "list.count" (rCountL X.K) := by
  intro pins s σ H x xs v us Q I rx rxs h
  obtain ⟨a, ws, y, d, ds, rfl, rfl, hs, hd, hy, p1, p2, p3, q⟩ := h
  cases rx
  obtain ⟨uy, rfl, ry⟩ := vals1 rxs
  obtain ⟨bs, r1⟩ := Dp.reads I d y uy hy ry
  obtain ⟨its, rv, pl, hlen⟩ := I.list hs
  obtain ⟨as, h4⟩ := Dp.readsAll I ds _ its hd rv
  exact PySem.SeqAt.count_list_data pl.isList (by simpa using h4) r1 (plainAll_of p1) p2 (by omega) ⟨.int _, H, I.tok _, ⟨_, rfl⟩, q⟩
theorem mt_countT (hu : X.A.units + 65 < cLine) : MtR X "tuple.count" (rCountT X.K) := by
  intro pins s σ H x xs v us Q I rx rxs h
  obtain ⟨a, ws, y, d, ds, rfl, rfl, hs, hd, hy, p1, p2, p3, q⟩ := h
  cases rx
  obtain ⟨uy, rfl, ry⟩ := vals1 rxs
  obtain ⟨bs, r1⟩ := Dp.reads I d y uy hy ry
  obtain ⟨its, rv, pl, hlen⟩ := I.tuple hs
  obtain ⟨as, h4⟩ := Dp.readsAll I ds _ its hd rv
  exact PySem.SeqAt.count_tuple_data pl (by simpa using h4) r1 (plainAll_of p1) p2 (by omega) ⟨.int _, H, I.tok _, ⟨_, rfl⟩, q⟩
/-! get -/
def rGet1 (K : Fz) : V → List V → Hp → VK → Prop := fun x xs H Q => ∃ G a y o, Inn G H ∧ x = .ref a ∧ xs = [y] ∧ DGz K G H a y o ∧ ∀ v, RD K G v (o.getD .none) → Q v H
def rGet2 (K : Fz) : V → List V → Hp → VK → Prop := fun x xs H Q => ∃ G a y z o, Inn G H ∧ x = .ref a ∧ xs = [y, z] ∧ DGz K G H a y o ∧ ∀ v, ((∃ d, o = some d ∧ RD K G v d) ∨ (o = none ∧ v = z)) → Q v H
theorem mt_get1 (hu : X.A.units + 1 < cLine) : MtR X "dict.get" (rGet1 (kw X)) := by
  intro pins s σ H x xs v us Q I rx rxs h
  obtain ⟨G, a, y, o, i, rfl, rfl, g, q⟩ := h
  cases rx
  obtain ⟨uy, rfl, ry⟩ := vals1 rxs
  exact z_get1 hu I i g ry fun w w' s' I' rd rw' => ⟨w, H, I', rw', q w rd⟩
theorem mt_get2 (hu : X.A.units + 1 < cLine) : MtR X "dict.get" (rGet2 (kw X)) := by
  intro pins s σ H x xs v us Q I rx rxs h
  obtain ⟨G, a, y, z, o, i, rfl, rfl, g, q⟩ := h
  cases rx
  obtain ⟨uy, uz, rfl, ry, rz⟩ := vals2 rxs
  exact z_get2 (d0 := .none) hu I i g ry rz fun w w' s' I' rd rw' => ⟨w, H, I', rw', q w rd⟩
theorem RDs.dbs : ∀ {us : List V} {ds : List D}, RDs K G us ds → DBs K G H O us ds
  | _, _, .nil => .nil
  | _, _, .cons a r => .cons (.std a) (RDs.dbs r)
theorem rds2 {u v : V} {d e : D} (h : RDs K G [u, v] [d, e]) : RD K G v e := by
  cases h with | cons _ r => cases r with | cons a _ => exact a
def mName : Mth → Str
  | .index => "index"
  | .count => "count"
  | .get1 => "get"
  | .get2 => "get"
/-- what the object is asked for is done -/
theorem m_all (hu : X.A.units + 65 < cLine) {m : Mth} {x z : D} {vs : List D} {v : V} {Q : VK} {t : TA} {σ : St} (i : Inn G H) (e : mthD m x vs = some z) (b : DB (kw X) G H O v x)
    (ht : ∀ Q', (∀ us G' H', Ext G H G' H' → RDs (kw X) G' us vs → Q' us H') → t σ H Q') (q : ∀ w G' H', Ext G H G' H' → RD (kw X) G' w z → Q w H') :
    ∃ (T id : String) (r : V → List V → Hp → VK → Prop), PlainAttrs T ∧ PySem.Slot T (mName m) id ∧ typeOf (.builtin id) = pure (.type "method_descriptor") ∧ MtR X id r ∧ TyZ X T v H ∧ t σ H fun xs H2 => r v xs H2 Q := by
  have hu1 : X.A.units + 1 < cLine := by omega
  match m, x, vs, e with
  | .index, .list ds, [y], e =>
    have e' : (if shp y && shp (.list ds) then (idxFrom y ds 0).map fun n => PyData.int (n : Nat) else Option.none) = some z := e
    by_cases h : (shp y && shp (.list ds)) = true
    · rw [if_pos h] at e'
      obtain ⟨h1, h2⟩ := Bool.and_eq_true_iff.mp h
      obtain ⟨n, e1, rfl⟩ := Option.map_eq_some_iff.mp e'
      obtain ⟨j, w, rfl, k1, k2, k3⟩ := idxFrom_of e1
      obtain ⟨a, ws, rfl, s1, s2⟩ := b.list i
      refine ⟨_, _, _, PySem.F.plainAttrs_list, PySem.F.slot_list_index, PySem.F.type_list_index, mt_indexD hu, tyz_list s1, ht _ fun us G' H' x h => ?_⟩
      obtain ⟨u, rfl, b2⟩ := dbs1 (h.dbs (H := H') (O := O))
      refine ⟨a, u, y, ds, j, w, rfl, rfl, DK.shp x.inn (.b (b.ext x)) h2, DK.shp x.inn (.b b2) h1, h2, h1, k1, k2, k3, ?_⟩
      rw [Nat.zero_add] at q
      exact q _ G' H' x (.int _)
    · rw [if_neg h] at e'; cases e'
  | .index, .tuple ds, [y], e =>
    have e' : (if shp y && shp (.tuple ds) then (idxFrom y ds 0).map fun n => PyData.int (n : Nat) else Option.none) = some z := e
    by_cases h : (shp y && shp (.tuple ds)) = true
    · rw [if_pos h] at e'
      obtain ⟨h1, h2⟩ := Bool.and_eq_true_iff.mp h
      obtain ⟨n, e1, rfl⟩ := Option.map_eq_some_iff.mp e'
      obtain ⟨j, w, rfl, k1, k2, k3⟩ := idxFrom_of e1
      obtain ⟨a, ws, rfl, s1, s2, _⟩ := b.tuple i
      refine ⟨_, _, _, PySem.F.plainAttrs_tuple, PySem.F.slot_tuple_index, PySem.F.type_tuple_index, mt_indexT hu, tyz_tuple s1, ht _ fun us G' H' x h => ?_⟩
      obtain ⟨u, rfl, b2⟩ := dbs1 (h.dbs (H := H') (O := O))
      refine ⟨a, u, y, ds, j, w, rfl, rfl, DK.shp x.inn (.b (b.ext x)) h2, DK.shp x.inn (.b b2) h1, h2, h1, k1, k2, k3, ?_⟩
      rw [Nat.zero_add] at q
      exact q _ G' H' x (.int _)
    · rw [if_neg h] at e'; cases e'
  | .count, .list ds, [y], e =>
    have e' : (if ds.all PyData.plain && (y.plain && decide (y.depth ≤ 63)) then some (PyData.int ((ds.countP fun k => PyData.eqv k y : Nat) : Int)) else Option.none) = some z := e
    by_cases h : (ds.all PyData.plain && (y.plain && decide (y.depth ≤ 63))) = true
    · rw [if_pos h] at e'
      cases e'
      simp only [Bool.and_eq_true, decide_eq_true_eq] at h
      obtain ⟨h1, h2, h3⟩ := h
      obtain ⟨a, ws, rfl, s1, s2⟩ := b.list i
      refine ⟨_, _, _, PySem.F.plainAttrs_list, PySem.F.slot_list_count, PySem.F.type_list_count, mt_countL hu, tyz_list s1, ht _ fun us G' H' x h => ?_⟩
      obtain ⟨u, rfl, b2⟩ := dbs1 (h.dbs (H := H') (O := O))
      obtain ⟨a', ws', ea, s3, s4⟩ := (b.ext x).list x.inn
      cases ea
      exact ⟨a, ws', u, y, ds, rfl, rfl, .inl s3, RDs.l2 (RDs.mono x.inn s4), (b2.dp x.inn fun es ee => by rw [ee] at h2; cases h2).l2, h1, h2, h3, q _ G' H' x (.int _)⟩
    · rw [if_neg h] at e'; cases e'
  | .count, .tuple ds, [y], e =>
    have e' : (if ds.all PyData.plain && (y.plain && decide (y.depth ≤ 63)) then some (PyData.int ((ds.countP fun k => PyData.eqv k y : Nat) : Int)) else Option.none) = some z := e
    by_cases h : (ds.all PyData.plain && (y.plain && decide (y.depth ≤ 63))) = true
    · rw [if_pos h] at e'
      cases e'
      simp only [Bool.and_eq_true, decide_eq_true_eq] at h
      obtain ⟨h1, h2, h3⟩ := h
      obtain ⟨a, ws, rfl, s1, s2, _⟩ := b.tuple i
      refine ⟨_, _, _, PySem.F.plainAttrs_tuple, PySem.F.slot_tuple_count, PySem.F.type_tuple_count, mt_countT hu, tyz_tuple s1, ht _ fun us G' H' x h => ?_⟩
      obtain ⟨u, rfl, b2⟩ := dbs1 (h.dbs (H := H') (O := O))
      obtain ⟨a', ws', ea, s3, s4, _⟩ := (b.ext x).tuple x.inn
      cases ea
      exact ⟨a, ws', u, y, ds, rfl, rfl, s3.sq, RDs.l2 (RDs.mono x.inn s4), (b2.dp x.inn fun es ee => by rw [ee] at h2; cases h2).l2, h1, h2, h3, q _ G' H' x (.int _)⟩
    · rw [if_neg h] at e'; cases e'
  | .get1, .dict kvs, [k], e =>
    obtain ⟨o, e1, rfl⟩ := Option.map_eq_some_iff.mp (show (dget k kvs).map (fun o => o.getD PyData.none) = some z from e)
    refine ⟨_, _, _, PySem.F.plainAttrs_dict, PySem.F.slot_dict_get, PySem.F.type_dict_get, mt_get1 hu1, tyz_dict i b, ht _ fun us G' H' x h => ?_⟩
    obtain ⟨u, rfl, b2⟩ := dbs1 (h.dbs (H := H') (O := O))
    obtain ⟨a, rfl, g⟩ := dget_of x.inn (b.ext x) b2 e1
    exact ⟨G', a, u, o, x.inn, rfl, rfl, g, fun w rd => q w G' H' x rd⟩
  | .get2, .dict kvs, [k, d], e =>
    obtain ⟨o, e1, rfl⟩ := Option.map_eq_some_iff.mp (show (dget k kvs).map (fun o => o.getD d) = some z from e)
    refine ⟨_, _, _, PySem.F.plainAttrs_dict, PySem.F.slot_dict_get, PySem.F.type_dict_get, mt_get2 hu1, tyz_dict i b, ht _ fun us G' H' x h => ?_⟩
    obtain ⟨u, u2, rfl, b2, b3⟩ := dbs2 (h.dbs (H := H') (O := O))
    have b4 := rds2 h
    obtain ⟨a, rfl, g⟩ := dget_of x.inn (b.ext x) b2 e1
    refine ⟨G', a, u, u2, o, x.inn, rfl, rfl, g, fun w hw => ?_⟩
    rcases hw with ⟨d', rfl, rd⟩ | ⟨rfl, rfl⟩
    · exact q w G' H' x rd
    · exact q _ G' H' x b4
/-- o.m(..) -/
theorem p_mth {o e : Expr} {es : List Expr} {m : Mth} {do_ : Tau → Option D} {da : Tau → Option (List D)} {apos cpos : Pos} (hu : X.A.units + 65 < cLine) (ho : PE X o (tB (kw X) cs do_)) (ha : PA X (e :: es) (tA (kw X) cs da))
    (hbase : attributeBase o (mName m) X.env (eval o X.env) = eval o X.env)
    (hfew : ((backTo cpos (starEach (e :: es) X.env)).all (fun x => !x.1) && (backToKw cpos (keywordEach [] X.env)).all (fun x => x.1.isSome)
      && decide ((e :: es).length + ([] : List Keyword).length + (if ([] : List Keyword).isEmpty then 0 else 1) < 30)) = true)
    (hline : (apos.endLine == cpos.line) = true) (hs : starEach (e :: es) X.env = (false, eval e X.env) :: starEach es X.env) (hplain : (backTo cpos (starEach es X.env)).any (·.1) = false) :
    PE X (.Call (.Attribute o (mName m) apos) (e :: es) [] cpos) (tP (kw X) cs fun τ => (do_ τ).bind fun x => (da τ).bind fun vs => mthD m x vs) := by
  refine pe_imp (pe_mD ho ha hbase hfew hline hs hplain) fun σ H Q ⟨G, τ, r, st, tb, e, q⟩ => ?_
  obtain ⟨x, e1, e⟩ := Option.bind_eq_some_iff.mp e
  obtain ⟨vs, e2, e3⟩ := Option.bind_eq_some_iff.mp e
  refine ⟨G, τ, x, st, tb, e1, fun v G1 H1 x1 h1 => ?_⟩
  exact m_all hu x1.inn e3 h1 (fun Q' h => ⟨G1, τ, vs, st.ext x1, tb.ext x1, e2, fun us G2 H2 x2 h2 => h us G2 H2 x2 h2⟩) fun w G2 H2 x2 h2 => q w G2 H2 (x1.trans x2) h2
end
end Fw
end
section
set_option Elab.async false
set_option linter.all false
set_option maxRecDepth 100000
set_option maxHeartbeats 4000000
namespace Fw
open PySem PySem.Spec L2
/-! the loops of a comprehension's clauses, whatever their number -/
section
variable {prog : Program} {w : World} {A : Around} {R : Result → Shared → Prop} {s : Shared} {e : Expr} {gens : List Comprehension} {t0 i0 t1 i1 : Expr} {ifs0 ifs1 : List Expr} {it acc : Value} {env : Env} {d : Nat}
/-- the clauses of a list or a set made in place, what is done at the innermost -/
inductive CmpE (acc : Value) (env : Env) : Expr → List Comprehension → Sem Unit → Prop
  | l (elt : Expr) (gens : List Comprehension) (scope : Scope) (pos : Pos) : CmpE acc env (.ListComp elt gens scope pos) gens (do let _ ← call (.builtin "list.append") [acc, ← eval elt env])
  | s (elt : Expr) (gens : List Comprehension) (scope : Scope) (pos : Pos) : CmpE acc env (.SetComp elt gens scope pos) gens (do let v ← eval elt env; standAt elt.pos; let _ ← call (.builtin "set.add") [acc, v])
abbrev testsM (ifs : List Expr) (env : Env) : Sem Bool := forIn ifs true fun c r => if r = true then do let ok ← isTrue c env (eval c env); pure (ForInStep.yield ok) else pure (ForInStep.yield r)
/-- the loop of the innermost clause -/
theorem loop_in {emit : Sem Unit} (ce : CmpE acc env e gens emit) (hg : gens[d]? = some ⟨t0, i0, ifs0, 0⟩) (hn : gens[d + 1]? = none) (I : Nat → Shared → Prop)
    (turn : ∀ n s, I n s → wpAny (model prog w) A (pyNext it) (fun r s₁ => match r with
      | none => R (.ok .next) s₁
      | some v => wpAny (model prog w) A (letOwnedTupleGo t0 it v) (fun _ s₁' => wpAny (model prog w) A (assign t0 env v) (fun _ s₂ =>
          wpAny (model prog w) A (testsM ifs0 env) (fun ok s₃ =>
            if ok = true then wpAny (model prog w) A emit (fun _ s₅ => ∃ m, m < n ∧ I m s₅) (notedBy (model prog w) A env fun e s' => R (.error e) s') s₃
            else ∃ m, m < n ∧ I m s₃) (notedBy (model prog w) A env fun e s' => R (.error e) s') s₂) (notedBy (model prog w) A env fun e s' => R (.error e) s') s₁') (notedBy (model prog w) A env fun e s' => R (.error e) s') s₁) (notedBy (model prog w) A env fun e s' => R (.error e) s') s)
    (n : Nat) (h : I n s) : codeAny (model prog w) A (.compLoop e d it acc env) R s := by
  refine codeAny_loop rfl I (fun n s hI => ?_) n h
  have T := turn n s hI
  cases ce <;> (
    show wpAny _ A ((compTurn _ d it acc env).onRaise (fun x => do noteFrame x env; theTreesLotGoes x)) _ _ s
    refine wpAny_noted ?_
    unfold compTurn
    dsimp only
    rw [hg]
    dsimp only
    refine wpAny_bind (wpAny_standAt ?_)
    show wpAny _ A (pyNext it >>= _) _ _ s
    refine wpAny_bind (wpAny_mono T (fun r s₁ h₁ => ?_) fun _ _ h' => h')
    cases r with
    | none => exact wpAny_pure h₁
    | some v =>
      refine wpAny_bind (wpAny_mono h₁ (fun _ s₁' h₁' => ?_) fun _ _ h' => h')
      refine wpAny_bind (wpAny_mono h₁' (fun _ s₂ h₂ => wpAny_bind (wpAny_mono h₂ (fun ok s₃ h₃ => ?_) fun _ _ h' => h')) fun _ _ h' => h')
      cases ok with
      | false => exact wpAny_pure ⟨rfl, h₃⟩
      | true =>
        rw [hn]
        exact wpAny_bind (wpAny_mono h₃ (fun x s₄ h₄ => wpAny_pure ⟨rfl, h₄⟩) fun _ _ h' => h'))
/-- the loop of a clause with more within -/
theorem loop_out {emit : Sem Unit} (ce : CmpE acc env e gens emit) (hg : gens[d]? = some ⟨t0, i0, ifs0, 0⟩) (hn : gens[d + 1]? = some ⟨t1, i1, ifs1, 0⟩) (hs : ∀ x, foldedSetIterable i1 env x = pure x) (I : Nat → Shared → Prop)
    (turn : ∀ n s, I n s → wpAny (model prog w) A (pyNext it) (fun r s₁ => match r with
      | none => R (.ok .next) s₁
      | some v => wpAny (model prog w) A (letOwnedTupleGo t0 it v) (fun _ s₁' => wpAny (model prog w) A (assign t0 env v) (fun _ s₂ =>
          wpAny (model prog w) A (testsM ifs0 env) (fun ok s₃ =>
            if ok = true then wpAny (model prog w) A (eval i1 env) (fun x s₄ => wpAny (model prog w) A (pyIter x) (fun it1 s₅ =>
              codeAny (model prog w) A (.compStart e (d + 1) it1 acc env) (fun r s' => match r with
                | .ok _ => ∃ m, m < n ∧ I m s'
                | .error _ => False) s₅) (notedBy (model prog w) A env fun e s' => R (.error e) s') s₄) (notedBy (model prog w) A env fun e s' => R (.error e) s') s₃
            else ∃ m, m < n ∧ I m s₃) (notedBy (model prog w) A env fun e s' => R (.error e) s') s₂) (notedBy (model prog w) A env fun e s' => R (.error e) s') s₁') (notedBy (model prog w) A env fun e s' => R (.error e) s') s₁) (notedBy (model prog w) A env fun e s' => R (.error e) s') s)
    (n : Nat) (h : I n s) : codeAny (model prog w) A (.compLoop e d it acc env) R s := by
  refine codeAny_loop rfl I (fun n s hI => ?_) n h
  have T := turn n s hI
  cases ce <;> (
    show wpAny _ A ((compTurn _ d it acc env).onRaise (fun x => do noteFrame x env; theTreesLotGoes x)) _ _ s
    refine wpAny_noted ?_
    unfold compTurn
    dsimp only
    rw [hg]
    dsimp only
    refine wpAny_bind (wpAny_standAt ?_)
    show wpAny _ A (pyNext it >>= _) _ _ s
    refine wpAny_bind (wpAny_mono T (fun r s₁ h₁ => ?_) fun _ _ h' => h')
    cases r with
    | none => exact wpAny_pure h₁
    | some v =>
      refine wpAny_bind (wpAny_mono h₁ (fun _ s₁' h₁' => ?_) fun _ _ h' => h')
      refine wpAny_bind (wpAny_mono h₁' (fun _ s₂ h₂ => wpAny_bind (wpAny_mono h₂ (fun ok s₃ h₃ => ?_) fun _ _ h' => h')) fun _ _ h' => h')
      cases ok with
      | false => exact wpAny_pure ⟨rfl, h₃⟩
      | true =>
        rw [hn]
        dsimp only
        refine wpAny_bind (wpAny_mono h₃ (fun x s₄ h₄ => ?_) fun _ _ h' => h')
        refine wpAny_bind (wpAny_standAt ?_)
        show wpAny _ A (foldedSetIterable i1 env x >>= _) _ _ s₄
        refine wpAny_bind (wpAny_of_eq (hs x) (wpAny_bind (wpAny_holding ?_)))
        show wpAny _ A (pyIter x) _ _ s₄
        refine wpAny_mono h₄ (fun it1 s₅ h₅ => ?_) fun _ _ h' => h'
        refine wpAny_bind (wpAny_runOwn ?_)
        rw [Around.mark_none]
        refine codeAny_mono h₅ fun r s' hr => ?_
        cases r with
        | ok f =>
          first
            | exact wpAny_pure ⟨rfl, hr⟩
            | exact wpAny_bind (wpAny_pure (wpAny_pure ⟨rfl, hr⟩))
        | error e => exact hr.elim)
theorem wp_no {α : Type} {M : Model} {c : Prop} {dc : Decidable c} {t f : Sem α} {Q : α → Shared → Prop} {E : Value → Shared → Prop} (h : ¬ c) (hw : wpAny M A f Q E s) : wpAny M A (@ite _ c dc t f) Q E s := by
  rw [if_neg h]; exact hw
/-- a clause's start -/
theorem start_any {emit : Sem Unit} (ce : CmpE acc env e gens emit) (hg : gens[d]? = some ⟨t0, i0, ifs0, 0⟩) (h0 : codeAny (model prog w) A (.compLoop e d it acc env) R s)
    (h : wpAny (model prog w) A (pyIter it) (fun it' s' => codeAny (model prog w) A (.compLoop e d it' acc env) R s') (notedBy (model prog w) A env fun x s' => R (.error x) s') s) :
    codeAny (model prog w) A (.compStart e d it acc env) R s := by
  cases ce <;> (
    refine codeAny_of_tree ?_
    show wpAny _ _ ((compStart _ d it acc env).onRaise (fun x => do noteFrame x env; standAt theWindowsPlace)) _ _ s
    refine wpAny_notedAt ?_
    unfold compStart
    have hcond : ¬ (gens[d]?.elim false (·.is_async != 0)) = true := by rw [hg]; exact Bool.false_ne_true
    refine wp_no hcond ?_
    dsimp only [clausesOf]
    rw [hg]
    show wpAny _ _ (ask >>= _) _ _ s
    refine wpAny_bind (wpAny_askSetting (wpAny_ite ?_))
    split
    · first
        | exact wpAny_bind (wpAny_pure (wpAny_pure (And.intro rfl h0)))
        | exact wpAny_pure (And.intro rfl h0)
    · first
        | exact wpAny_bind (wpAny_rule (wpAny_bind (wpAny_standAt (wpAny_bind (wpAny_mono h (fun it' s' h' => wpAny_pure (And.intro rfl h')) fun _ _ x => x)))))
        | (refine wpAny_bind (wpAny_rule ?_); show wpAny _ _ (standAt i0.pos >>= _) _ _ s; exact wpAny_bind (wpAny_standAt (wpAny_bind (wpAny_mono h (fun it' s' h' => wpAny_pure (And.intro rfl h')) fun _ _ x => x)))))
end
end Fw
end
section
set_option Elab.async false
set_option linter.all false
set_option maxRecDepth 100000
set_option maxHeartbeats 4000000
namespace Fw
open PySem PySem.Spec L2
/-! what is walked, what the items are stored in -/
section
variable {X : Cx} {cs : List (Addr × Addr)} {K : Fz} {G H G1 H1 : Hp} {O : Addr → Prop}
def Good (G1 H1 : Hp) (O : Addr → Prop) (P : Hp → Hp → Prop) : Prop := ∀ G H, P G H → (∀ a o, G1 a = some o → G a = some o) ∧ Inn G H ∧ ∀ a o, O a → H1 a = some o → (∀ ps, o ≠ .tbl ps) → H a = some o
/-- an item: it stands, or a pair just made -/
inductive YV (K : Fz) (G H : Hp) : V → D → Prop
  | rd {v : V} {d : D} : RD K G v d → YV K G H v d
  | pr {a : Addr} {vs : List V} {ds : List D} : H a = some (.tup vs) → RDs K G vs ds → YV K G H (.ref a) (.tuple ds)
structure Wk (K : Fz) (J : It) (ds : List D) (P : Hp → Hp → Prop) : Prop where
  go : ∀ i G H, i < ds.length → P G H → J.go i H
  st : ∀ G H, P G H → J.stop ds.length H
  yl : ∀ i d G H x H', ds[i]? = some d → P G H → J.yld i H x H' → ∃ G', Ext G H G' H' ∧ RD K G' x d
abbrev TO3 := St → Tau → Addr → Prop
def tBO (K : Fz) (cs : List (Addr × Addr)) (O : TO3) (d : Tau → Option D) : TE := fun σ H Q => ∃ G τ r, StR K G H σ τ ∧ TabOk cs G H ∧ d τ = some r ∧ ∀ v G' H', Ext G H G' H' → DB K G' H' (O σ τ) v r → Q v H'
theorem bo_of_p {e : Expr} {d : Tau → Option D} {O : TO3} (h : PE X e (tP (kw X) cs d)) : PE X e (tBO (kw X) cs O d) := pe_imp h fun σ H Q ⟨G, τ, r, st, tb, e, q⟩ => ⟨G, τ, r, st, tb, e, fun v G' H' x dp => q v G' H' x (.std dp)⟩
def tI (K : Fz) (cs : List (Addr × Addr)) (O : TO3) (d : Tau → Option D) : TI := fun σ H R => ∃ G τ x ds, StR K G H σ τ ∧ TabOk cs G H ∧ d τ = some x ∧ itemsD x = some ds ∧
  ∀ J G1 H1, Ext G H G1 H1 → (∀ P, Good G1 H1 (O σ τ) P → Wk K J ds P) → R J H1
theorem db_here {P : Hp → Hp → Prop} {v : V} {ds : List D} (i : Inn G1 H1) (g : Good G1 H1 O P) (b : DB K G1 H1 O v (.list ds)) : ∃ a vs, v = .ref a ∧ Rd H1 a (.lst vs) ∧ RDs K G1 vs ds ∧ ∀ G H, P G H → Rd H a (.lst vs) := by
  cases b with
  | std h =>
    cases h with
    | lst s a => exact ⟨_, _, rfl, rd_mono i s, a, fun G H p => rd_mono (g G H p).2.1 (rd_mono (g G H p).1 s)⟩
  | own h1 h2 h3 h4 =>
    cases h2 with
    | ol a =>
      simp only [Slot.val, Option.some.injEq, PyData.list.injEq] at h3
      subst h3
      exact ⟨_, _, rfl, .inl h1, a, fun G H p => .inl ((g G H p).2.2 _ _ h4 h1 fun ps e => by cases e)⟩
    | odK _ => simp [Slot.val, dictV] at h3
    | odT _ => simp [Slot.val, dictV] at h3
    | os _ _ _ => simp [Slot.val, dictV] at h3
theorem wk_list {P : Hp → Hp → Prop} {a : Addr} {vs : List V} {ds : List D} (r : RDs K G1 vs ds) (h : ∀ G H, P G H → Rd H a (.lst vs) ∧ (∀ a o, G1 a = some o → G a = some o) ∧ Inn G H) : Wk K (Itl K.K a) ds P where
  go := fun i G H hi p => by
    rw [← RDs.length r] at hi
    exact ⟨vs, vs[i], .inl (h G H p).1, by simp [hi]⟩
  st := fun G H p => ⟨vs, .inl (h G H p).1, by rw [RDs.length r]; exact Nat.le_refl _⟩
  yl := fun i d G H x H' e p y => by
    obtain ⟨rfl, y⟩ := y
    have y := y vs (.inl (h G _ p).1)
    obtain ⟨v, h1, h2⟩ := RDs.get r e
    rw [y] at h1
    cases h1
    exact ⟨G, Ext.refl (h G _ p).2.2, RD.mono (h G _ p).2.1 h2⟩
theorem wk_tup {P : Hp → Hp → Prop} {a : Addr} {vs : List V} {ds : List D} (r : RDs K G1 vs ds) (h : ∀ G H, P G H → Tu H a vs ∧ (∀ a o, G1 a = some o → G a = some o) ∧ Inn G H) : Wk K (Itt K.K a) ds P where
  go := fun i G H hi p => by
    rw [← RDs.length r] at hi
    exact ⟨vs, vs[i], (h G H p).1.sq, by simp [hi]⟩
  st := fun G H p => ⟨vs, (h G H p).1.sq, by rw [RDs.length r]; exact Nat.le_refl _⟩
  yl := fun i d G H x H' e p y => by
    obtain ⟨rfl, y⟩ := y
    have y := y vs (h G _ p).1.sq
    obtain ⟨v, h1, h2⟩ := RDs.get r e
    rw [y] at h1
    cases h1
    exact ⟨G, Ext.refl (h G _ p).2.2, RD.mono (h G _ p).2.1 h2⟩
theorem wk_str {P : Hp → Hp → Prop} {x : Str} (h : ∀ G H, P G H → Inn G H) : Wk K (Its x) (x.cps.toList.map fun c => PyData.str ⟨#[c]⟩) P where
  go := fun i G H hi p => by
    rw [List.length_map, Array.length_toList] at hi
    exact hi
  st := fun G H p => by
    rw [List.length_map, Array.length_toList]
    exact Nat.le_refl _
  yl := fun i d G H v H' e p y => by
    obtain ⟨rfl, c, hc, rfl⟩ := y
    rw [List.getElem?_map, Array.getElem?_toList, hc] at e
    cases e
    exact ⟨G, Ext.refl (h G _ p), .str _⟩
theorem db_tup {P : Hp → Hp → Prop} {v : V} {ds : List D} (i : Inn G1 H1) (g : Good G1 H1 O P) (b : DB K G1 H1 O v (.tuple ds)) : ∃ a vs, v = .ref a ∧ Tu H1 a vs ∧ RDs K G1 vs ds ∧ ∀ G H, P G H → Tu H a vs := by
  cases b with
  | std h => cases h with | tup s a => exact ⟨_, _, rfl, s.mono i, a, fun G H p => (s.mono (g G H p).1).mono (g G H p).2.1⟩
  | own h1 h2 h3 h4 => cases h2 <;> simp [Slot.val, dictV] at h3
/-- a list, a tuple, a text -/
theorem pi_src {tg e : Expr} {d : Tau → Option D} {O : TO3} (he : PE X e (tBO (kw X) cs O d)) : PI X tg e (tI (kw X) cs O d) := by
  refine ⟨fun pins s σ H R I h => ?_⟩
  obtain ⟨G, τ, x, ds, st, tb, e1, e2, q⟩ := h
  refine thn (he.run pins s σ H (fun v H1 => ∃ G1, Ext G H G1 H1 ∧ DB (kw X) G1 H1 (O σ τ) v x) I ⟨G, τ, x, st, tb, e1, fun v G1 H1 x1 b => ⟨G1, x1, b⟩⟩) fun v s1 ⟨y, H1, I1, r1, G1, x1, b⟩ => ?_
  have ng : Good G1 H1 (O σ τ) (fun _ _ => False) := fun G H p => p.elim
  cases x with
  | list xs =>
    cases e2
    obtain ⟨a, vs, rfl, h1, h2, _⟩ := db_here x1.inn ng b
    cases r1
    obtain ⟨its, rv, p, hz⟩ := I1.list (.inl h1)
    refine wpAny_pyIter_list p.isList ?_
    refine pi_one (tk := s1.toks) I1 _ (turn_list a _) ⟨_, Heap.get?_push_size _ rfl, rfl, rfl⟩ (q _ G1 H1 x1 fun P g => ?_)
    obtain ⟨a', vs', ea, _, k2, k3⟩ := db_here x1.inn g b
    cases ea
    exact wk_list k2 fun G H p => ⟨k3 G H p, (g G H p).1, (g G H p).2.1⟩
  | tuple xs =>
    cases e2
    obtain ⟨a, vs, rfl, h1, h2, _⟩ := db_tup x1.inn ng b
    cases r1
    obtain ⟨its, rv, p, hz⟩ := I1.tuple h1.sq
    refine wpAny_pyIter_tuple (show s1.heap.IsTuple a its.toArray from p) ?_
    refine pi_one (tk := s1.toks) I1 _ (turn_tuple a _) ⟨_, Heap.get?_push_size _ rfl, rfl, rfl⟩ (q _ G1 H1 x1 fun P g => ?_)
    obtain ⟨a', vs', ea, _, k2, k3⟩ := db_tup x1.inn g b
    cases ea
    exact wk_tup k2 fun G H p => ⟨k3 G H p, (g G H p).1, (g G H p).2.1⟩
  | str z =>
    cases e2
    cases b.str
    obtain ⟨t, rfl⟩ := r1
    have fin : R (Its z) H1 := q _ G1 H1 x1 fun P g => wk_str fun G H p => (g G H p).2.1
    cases ha : z.cps.all (· < 128)
    · exact wpAny_pyIter_wide ha (pi_one (tk := s1.toks) I1 _ (turn_str _ z t "str_iterator" (.inr rfl)) ⟨_, Heap.get?_push_size _ rfl, rfl, rfl⟩ fin)
    · exact wpAny_pyIter_ascii ha (pi_one (tk := s1.toks) I1 _ (turn_str _ z t "str_ascii_iterator" (.inl rfl)) ⟨_, Heap.get?_push_size _ rfl, rfl, rfl⟩ fin)
  | _ => cases e2
/-! ranges -/
theorem wk_range {P : Hp → Hp → Prop} {lo : Int} {n : Nat} (h : ∀ G H, P G H → Inn G H) : Wk K (Itr lo n) (rngL lo n) P where
  go := fun i G H hi p => by
    simp only [rngL, List.length_map, List.length_range] at hi
    exact hi
  st := fun G H p => by
    simp only [rngL, List.length_map, List.length_range]
    exact Nat.le_refl _
  yl := fun i d G H v H' e p y => by
    obtain ⟨rfl, rfl⟩ := y
    simp only [rngL, List.getElem?_map, Option.map_eq_some_iff] at e
    obtain ⟨j, hj, rfl⟩ := e
    obtain ⟨hi, hj⟩ := List.getElem?_eq_some_iff.mp hj
    rw [List.getElem_range] at hj
    subst hj
    exact ⟨G, Ext.refl (h G _ p), .int _⟩
theorem wk_down {P : Hp → Hp → Prop} {a : Int} {n : Nat} (h : ∀ G H, P G H → Inn G H) : Wk K (Itc a (-1) n) ((List.range n).map fun k => PyData.int (a - (k : Nat))) P where
  go := fun i G H hi p => by
    simp only [List.length_map, List.length_range] at hi
    exact hi
  st := fun G H p => by
    simp only [List.length_map, List.length_range]
    exact Nat.le_refl _
  yl := fun i d G H v H' e p y => by
    obtain ⟨rfl, rfl⟩ := y
    simp only [List.getElem?_map, Option.map_eq_some_iff] at e
    obtain ⟨j, hj, rfl⟩ := e
    obtain ⟨hi, hj⟩ := List.getElem?_eq_some_iff.mp hj
    rw [List.getElem_range] at hj
    subst hj
    refine ⟨G, Ext.refl (h G _ p), ?_⟩
    have : a + (i : Int) * (-1) = a - (i : Nat) := by omega
    rw [this]
    exact .int _
theorem rngOk_of {i : Int} (h : rngOk i = true) : -(2 ^ 62) ≤ i ∧ i < 2 ^ 62 := by
  unfold rngOk at h
  simp only [Bool.and_eq_true, decide_eq_true_eq] at h
  omega
variable {tg : Expr} {O3 : TO3} {p pos : Pos}
def rngV (f : Tau → Option (List D)) : Tau → Option D := fun τ => (f τ).bind fun vs => (rangeD vs).map .list
theorem itm_list {l ds : List D} (h : itemsD (.list l) = some ds) : l = ds := Option.some.inj h
theorem pi_rng1 {a : Expr} {da : Tau → Option (List D)} (hg : Gl X "range") (hm : X.mg "range" = none) (ha : PA X [a] (tAB (kw X) cs da)) (hl : ∀ τ vs, da τ = some vs → vs.length = 1) (hp : Plain a) : PI X tg (.Call (.Name "range" p) [a] [] pos) (tI (kw X) cs O3 (rngV da)) := by
  refine ⟨fun pins s σ H R I h => (pi_range1 hg hm ha (hp _ _)).run pins s σ H R I ?_⟩
  obtain ⟨G, τ, x, ds, st, tb, e1, e2, q⟩ := h
  obtain ⟨vs, e3, e4⟩ := Option.bind_eq_some_iff.mp (show (da τ).bind (fun vs => (rangeD vs).map PyData.list) = some x from e1)
  obtain ⟨l, e5, rfl⟩ := Option.map_eq_some_iff.mp e4
  cases itm_list e2
  refine ⟨G, τ, vs, st, tb, e3, fun us G1 H1 x1 hb => ?_⟩
  match vs, hl τ vs e3, e5 with
  | [.int b], _, e5 =>
    have e5' : (if rngOk b then some (rngL 0 b.toNat) else none) = some ds := e5
    by_cases ok : rngOk b = true
    · rw [if_pos ok] at e5'
      cases e5'
      obtain ⟨v, rfl, bb⟩ := dbs1 hb
      obtain ⟨k1, k2⟩ := rngOk_of ok
      exact ⟨b, by rw [bb.int], k1, k2, q _ G1 H1 x1 fun P g => wk_range fun G H p => (g G H p).2.1⟩
    · rw [if_neg ok] at e5'; cases e5'
theorem pi_rng2 {a b : Expr} {da : Tau → Option (List D)} (hg : Gl X "range") (hm : X.mg "range" = none) (ha : PA X [a, b] (tAB (kw X) cs da)) (hl : ∀ τ vs, da τ = some vs → vs.length = 2) (hp : Plain a) (hp2 : Plain b) : PI X tg (.Call (.Name "range" p) [a, b] [] pos) (tI (kw X) cs O3 (rngV da)) := by
  refine ⟨fun pins s σ H R I h => (pi_range2 hg hm ha (by rw [hp, hp2] <;> rfl) (hp2 _ _)).run pins s σ H R I ?_⟩
  obtain ⟨G, τ, x, ds, st, tb, e1, e2, q⟩ := h
  obtain ⟨vs, e3, e4⟩ := Option.bind_eq_some_iff.mp (show (da τ).bind (fun vs => (rangeD vs).map PyData.list) = some x from e1)
  obtain ⟨l, e5, rfl⟩ := Option.map_eq_some_iff.mp e4
  cases itm_list e2
  refine ⟨G, τ, vs, st, tb, e3, fun us G1 H1 x1 hb => ?_⟩
  match vs, hl τ vs e3, e5 with
  | [.int a, .int b], _, e5 =>
    have e5' : (if rngOk a && rngOk b then some (rngL a (b - a).toNat) else none) = some ds := e5
    by_cases ok : (rngOk a && rngOk b) = true
    · rw [if_pos ok] at e5'
      cases e5'
      obtain ⟨v, u, rfl, bb, bc⟩ := dbs2 hb
      obtain ⟨o1, o2⟩ := Bool.and_eq_true_iff.mp ok
      obtain ⟨k1, k2⟩ := rngOk_of o1
      obtain ⟨k3, k4⟩ := rngOk_of o2
      exact ⟨a, b, by rw [bb.int, bc.int], ⟨k1, k2, k3, k4⟩, q _ G1 H1 x1 fun P g => wk_range fun G H p => (g G H p).2.1⟩
    · rw [if_neg ok] at e5'; cases e5'
theorem pi_rng3 {a b c : Expr} {da : Tau → Option (List D)} (hg : Gl X "range") (hm : X.mg "range" = none) (ha : PA X [a, b, c] (tAB (kw X) cs da)) (hl : ∀ τ vs, da τ = some vs → vs.length = 3) (hp : Plain a) (hp2 : Plain b) (hp3 : Plain c) : PI X tg (.Call (.Name "range" p) [a, b, c] [] pos) (tI (kw X) cs O3 (rngV da)) := by
  refine ⟨fun pins s σ H R I h => (pi_range3 hg hm ha (hp _ _) (by rw [hp2, hp3] <;> rfl)).run pins s σ H R I ?_⟩
  obtain ⟨G, τ, x, ds, st, tb, e1, e2, q⟩ := h
  obtain ⟨vs, e3, e4⟩ := Option.bind_eq_some_iff.mp (show (da τ).bind (fun vs => (rangeD vs).map PyData.list) = some x from e1)
  obtain ⟨l, e5, rfl⟩ := Option.map_eq_some_iff.mp e4
  cases itm_list e2
  refine ⟨G, τ, vs, st, tb, e3, fun us G1 H1 x1 hb => ?_⟩
  match vs, hl τ vs e3, e5 with
  | [.int a, .int b, .int (-1)], _, e5 =>
    have e5' : (if rngOk a && rngOk b then some ((List.range (a - b).toNat).map fun k => PyData.int (a - (k : Nat))) else none) = some ds := e5
    by_cases ok : (rngOk a && rngOk b) = true
    · rw [if_pos ok] at e5'
      cases e5'
      obtain ⟨v, us, rfl, bb, hb⟩ := dbs_cons hb
      obtain ⟨u, w, rfl, bc, bd⟩ := dbs2 hb
      obtain ⟨o1, o2⟩ := Bool.and_eq_true_iff.mp ok
      obtain ⟨k1, k2⟩ := rngOk_of o1
      obtain ⟨k3, k4⟩ := rngOk_of o2
      exact ⟨a, b, -1, (a - b).toNat, by rw [bb.int, bc.int, bd.int], RgC.neg k1 k2 k3 k4, q _ G1 H1 x1 fun P g => wk_down fun G H p => (g G H p).2.1⟩
    · rw [if_neg ok] at e5'; cases e5'
end
end Fw
end
section
set_option Elab.async false
set_option linter.all false
set_option maxRecDepth 100000
set_option maxHeartbeats 4000000
namespace Fw
open PySem PySem.Spec L2
/-! ### the heap without one object, the slots without some names -/
def delD (H : Hp) (D : Addr) : Hp := fun a => if a = D then none else H a
section
variable {K : Fz} {cs : List (Addr × Addr)} {G H G' H' : Hp} {DD : Addr} {σ : St} {τ : Tau} {ho : HO}
theorem delD_sub {a : Addr} {o : HO} (h : delD H DD a = some o) : H a = some o := by
  unfold delD at h
  split at h
  · cases h
  · exact h
theorem delD_ne {a : Addr} (h : a ≠ DD) : delD H DD a = H a := by unfold delD; rw [if_neg h]
theorem delD_neD {a : Addr} {o : HO} (h : delD H DD a = some o) : a ≠ DD := fun e => by
  unfold delD at h
  rw [if_pos e] at h; cases h
theorem delD_none (h : H DD = none) : delD H DD = H := by
  funext a
  unfold delD
  split
  · rename_i e; rw [e, h]
  · rfl
theorem delD_upd : delD (upd H DD ho) DD = delD H DD := by
  funext a
  unfold delD
  split
  · rfl
  · rename_i e; rw [upd_ne e]
theorem delD_inn (i : Inn G H) (g : G DD = none) : Inn G (delD H DD) := fun a o e => by
  rw [delD_ne (ne_of_none e g)]; exact i a o e
theorem StR.undel (s : StR K G (delD H DD) σ τ) : StR K G H σ τ where
  inn := fun a o e => delD_sub (s.inn a o e)
  len := s.len
  fz := s.fz
  fk := s.fk
  ow := fun i t e h => let ⟨a, o, h1, h2, h3, h4⟩ := s.ow i t e h; ⟨a, o, h1, delD_sub h2, h3, h4⟩
  sep := s.sep
theorem TabOk.undel (t : TabOk cs G (delD H DD)) : TabOk cs G H := fun p hp => by
  obtain ⟨⟨ps, e, h⟩, g⟩ := t p hp
  exact ⟨⟨ps, delD_sub e, h⟩, g⟩
theorem Ext.del (x : Ext G H G' H') (hD : H DD = some ho) (g : G DD = none) : Ext G (delD H DD) G' (delD H' DD) where
  same := fun a o e => by
    rw [delD_ne (delD_neD e)]
    exact x.same a o (delD_sub e)
  sub := x.sub
  inn := fun a o e => by
    have := x.new DD ho hD g
    rw [delD_ne (ne_of_none e this)]
    exact x.inn a o e
  new := fun a o e => x.new a o (delD_sub e)
/-! wiped slots -/
theorem wipeT_len : ∀ (vs : List Nat) (τ : Tau), (wipeT τ vs).length = τ.length
  | [], _ => rfl
  | v :: vs, τ => by
    show (wipeT (τ.set v .un) vs).length = _
    rw [wipeT_len vs, List.length_set]
theorem wipeT_get : ∀ (vs : List Nat) (τ : Tau) {i : Nat} {s : Slot}, (wipeT τ vs)[i]? = some s → s = .un ∨ (τ[i]? = some s ∧ i ∉ vs)
  | [], _, _, _, h => .inr ⟨h, by simp⟩
  | v :: vs, τ, i, s, h => by
    rcases wipeT_get vs (τ.set v .un) (show (wipeT (τ.set v .un) vs)[i]? = some s from h) with h | ⟨h, n⟩
    · exact .inl h
    · rw [List.getElem?_set] at h
      by_cases e : v = i
      · subst e
        rw [if_pos rfl] at h
        split at h
        · cases h; exact .inl rfl
        · cases h
      · rw [if_neg e] at h
        exact .inr ⟨h, by simp only [List.mem_cons, not_or]; exact ⟨fun z => e z.symm, n⟩⟩
theorem StR.wipe (s : StR K G H σ τ) (vs : List Nat) {us : List Nat} (h : ∀ i ∈ us, i ∈ vs) : StR K G H (L2.wipe σ us) (wipeT τ vs) where
  inn := s.inn
  len := by rw [wipe_length, wipeT_len]; exact s.len
  fz := fun i d e => by
    rcases wipeT_get vs τ e with h' | ⟨h', n⟩
    · cases h'
    · rw [wipe_out fun z => n (h i z)]; exact s.fz i d h'
  fk := fun i d e => by
    rcases wipeT_get vs τ e with h' | ⟨h', n⟩
    · cases h'
    · rw [wipe_out fun z => n (h i z)]; exact s.fk i d h'
  ow := fun i t e ho => by
    rcases wipeT_get vs τ e with h' | ⟨h', n⟩
    · subst h'; cases ho
    · rw [wipe_out fun z => n (h i z)]; exact s.ow i t h' ho
  sep := fun i j t u a e1 o1 e2 o2 h1 h2 => by
    rcases wipeT_get vs τ e1 with h' | ⟨h', n⟩
    · subst h'; cases o1
    · rcases wipeT_get vs τ e2 with k' | ⟨k', m⟩
      · subst k'; cases o2
      · rw [wipe_out fun z => n (h i z)] at h1
        rw [wipe_out fun z => m (h j z)] at h2
        exact s.sep i j t u a h' o1 k' o2 h1 h2
/-- a name set to a value that stands -/
theorem StR.setZ (s : StR K G H σ τ) {i : Nat} {v : V} {d : D} (h : RD K G v d) : StR K G H (σ.set i (some v)) (τ.set i (.fz d)) where
  inn := s.inn
  len := by rw [List.length_set, List.length_set]; exact s.len
  fz := fun j x e => by
    rw [List.getElem?_set] at e ⊢
    by_cases q : i = j
    · rw [if_pos q] at e ⊢
      rw [s.len]
      split at e
      · cases e; rename_i hl; rw [if_pos hl]; exact ⟨v, rfl, h⟩
      · cases e
    · rw [if_neg q] at e ⊢; exact s.fz j x e
  fk := fun j x e => by
    rw [List.getElem?_set] at e ⊢
    by_cases q : i = j
    · rw [if_pos q] at e; split at e <;> cases e
    · rw [if_neg q] at e ⊢; exact s.fk j x e
  ow := fun j t e ho => by
    rw [List.getElem?_set] at e ⊢
    by_cases q : i = j
    · rw [if_pos q] at e
      split at e
      · cases e; cases ho
      · cases e
    · rw [if_neg q] at e ⊢; exact s.ow j t e ho
  sep := fun j k t u a e1 o1 e2 o2 h1 h2 => by
    rw [List.getElem?_set] at e1 h1 e2 h2
    by_cases q : i = j
    · rw [if_pos q] at e1
      split at e1
      · cases e1; cases o1
      · cases e1
    · by_cases p : i = k
      · rw [if_pos p] at e2
        split at e2
        · cases e2; cases o2
        · cases e2
      · rw [if_neg q] at e1 h1
        rw [if_neg p] at e2 h2
        exact s.sep j k t u a e1 o1 e2 o2 h1 h2
def setAll (σ : St) (is : List Nat) (vs : List V) : St := (is.zip vs).foldl (fun σ p => σ.set p.1 (some p.2)) σ
theorem StR.setAllZ : ∀ {is : List Nat} {vs : List V} {ds : List D} {σ : St} {τ : Tau}, StR K G H σ τ → RDs K G vs ds → is.length = ds.length → StR K G H (setAll σ is vs) ((is.zip ds).foldl (fun τ p => τ.set p.1 (.fz p.2)) τ)
  | [], _, _, _, _, s, .nil, _ => s
  | i :: is, _, _, σ, τ, s, .cons a r, h => StR.setAllZ (is := is) (s.setZ a) r (by simpa using h)
theorem wipe_set {σ : St} {i : Nat} {x : Option V} : ∀ {vs : List Nat}, i ∈ vs → wipe (σ.set i x) vs = wipe σ vs
  | [], h => nomatch h
  | v :: vs, h => by
    show (wipe (σ.set i x) vs).set v none = (wipe σ vs).set v none
    by_cases e : i ∈ vs
    · rw [wipe_set e]
    · rcases List.mem_cons.mp h with rfl | h
      · apply List.ext_getElem?
        intro j
        rw [List.getElem?_set, List.getElem?_set, wipe_length, wipe_length, List.length_set]
        by_cases q : i = j
        · rw [if_pos q, if_pos q]
        · rw [if_neg q, if_neg q]
          by_cases m : j ∈ vs
          · have gen : ∀ (σ : St) (vs : List Nat), j ∈ vs → (wipe σ vs)[j]? = if j < σ.length then some none else none := by
              intro σ vs
              induction vs with
              | nil => intro h; cases h
              | cons w ws ih =>
                intro h
                show ((wipe σ ws).set w none)[j]? = _
                rw [List.getElem?_set, wipe_length]
                by_cases q : w = j
                · rw [if_pos q, q]
                · rw [if_neg q]
                  rcases List.mem_cons.mp h with rfl | h
                  · exact absurd rfl q
                  · exact ih h
            rw [gen _ _ m, gen _ _ m, List.length_set]
          · rw [wipe_out m, wipe_out m, List.getElem?_set, if_neg q]
      · exact absurd h e
theorem wipe_setAll : ∀ {is : List Nat} {vs : List V} {σ : St} {ws : List Nat}, (∀ i ∈ is, i ∈ ws) → wipe (setAll σ is vs) ws = wipe σ ws
  | [], _, _, _, _ => rfl
  | _ :: _, [], _, _, _ => rfl
  | i :: is, v :: vs, σ, ws, h => by
    show wipe (setAll (σ.set i (some v)) is vs) ws = _
    rw [wipe_setAll fun j hj => h j (List.mem_cons_of_mem _ hj), wipe_set (h i List.mem_cons_self)]
end
/-! ### targets -/
section
variable {X : Cx} {cs : List (Addr × Addr)}
structure NmOk (X : Cx) (i : Nat) (x : Str) : Prop where
  ix : X.N[i]? = some x
  loc : Loc X.env.scope x
  fn : X.fn x = true ∨ X.env.scope.names.lookup x = some .local
inductive NmE (X : Cx) : Expr → Nat → Prop
  | mk {i : Nat} {x : Str} {p : Pos} : NmOk X i x → NmE X (.Name x p) i
inductive TgE (X : Cx) : Expr → Tg → Prop
  | n {e : Expr} {i : Nat} : NmE X e i → TgE X e (.n i)
  | t {es : List Expr} {is : List Nat} {k : Nat} {p : Pos} : Paired (NmE X) es is → TgE X (.Tuple es k p) (.t is)
theorem pgs_names (hN : X.N.Nodup) : ∀ {es : List Expr} {is : List Nat}, Paired (NmE X) es is → PGs X es (fun vs σ H Q => vs.length = is.length ∧ Q (setAll σ is vs) H)
  | _, _, .nil => ⟨fun pins s σ H vs us Q I r ⟨h, q⟩ => pgs_nil.run pins s σ H vs us Q I r ⟨List.eq_nil_of_length_eq_zero h, by cases vs with | nil => exact q | cons _ _ => cases h⟩⟩
  | e :: es, i :: is, .cons h n => by
    cases h with
    | mk ok =>
      refine ⟨fun pins s σ H vs us Q I r ⟨hl, q⟩ => (pgs_cons (pg_name hN ok.ix ok.loc ok.fn) (pgs_names hN n) rfl).run pins s σ H vs us Q I r ?_⟩
      cases vs with
      | nil => cases hl
      | cons v vs => exact ⟨v, vs, rfl, by simpa using hl, q⟩
theorem names_each : ∀ {es : List Expr} {is : List Nat}, Paired (NmE X) es is → (assignEach es X.env).length = is.length ∧ (assignEach es X.env).findIdx? (·.1) = none
  | _, _, .nil => ⟨rfl, rfl⟩
  | e :: es, i :: is, .cons h n => by
    obtain ⟨h1, h2⟩ := names_each n
    cases h with
    | mk ok =>
      rename_i x p
      have e1 : assignEach (Expr.Name x p :: es) X.env = (false, assign (.Name x p) X.env) :: assignEach es X.env := rfl
      rw [e1]
      exact ⟨by simp [h1], by rw [List.findIdx?_cons]; simp [h2]⟩
def tGd (K : Fz) (tg : Tg) : TG := fun v σ H Q => ∃ G H0 τ d τ', StR K G H0 σ τ ∧ RD K G v d ∧ Inn G H ∧ bindTg tg d τ = some τ' ∧ ∀ σ', StR K G H0 σ' τ' → σ'.length = σ.length → (∀ vs, (∀ i ∈ tg.own, i ∈ vs) → wipe σ' vs = wipe σ vs) → Q σ' H
theorem pg_tg (hc : X.calm = true) (hN : X.N.Nodup) {e : Expr} {tg : Tg} (h : TgE X e tg) : PG X e (tGd (kw X) tg) := by
  cases h with
  | n h =>
    cases h with
    | mk ok =>
      rename_i i x p
      refine ⟨fun pins s σ H v u Q I r ⟨G, H0, τ, d, τ', st, rd, inn, e, q⟩ => (pg_name hN ok.ix ok.loc ok.fn).run pins s σ H v u Q I r ?_⟩
      have e' := Option.some.inj (show some (τ.set _ (.fz d)) = some τ' from e)
      subst e'
      exact q _ (st.setZ rd) (List.length_set ..) fun vs hv => wipe_set (hv i (by simp [Tg.own]))
  | @t es is k p hn =>
    obtain ⟨h1, h2⟩ := names_each hn
    refine ⟨fun pins s σ H v u Q I r ⟨G, H0, τ, d, τ', st, rd, inn, e, q⟩ => (pg_tup hc (pgs_names hN hn) h1 h2).run pins s σ H v u Q I r ?_⟩
    cases d with
    | tuple ds =>
      have e' : (if is.length = ds.length then some ((is.zip ds).foldl (fun τ p => τ.set p.1 (.fz p.2)) τ) else none) = some τ' := e
      by_cases hl : is.length = ds.length
      · rw [if_pos hl] at e'
        cases e'
        cases rd with
        | @tup a vs ds t rs =>
          refine ⟨a, vs, rfl, (t.mono inn).sq, by rw [RDs.length rs]; exact hl.symm, by rw [RDs.length rs]; exact hl.symm, q _ (st.setAllZ rs hl) ?_ fun ws hw => wipe_setAll hw⟩
          have : ∀ (is : List Nat) (vs : List V) (σ : St), (setAll σ is vs).length = σ.length := by
            intro is
            induction is with
            | nil => intro vs σ; rfl
            | cons i is ih =>
              intro vs σ
              cases vs with
              | nil => rfl
              | cons v vs =>
                show (setAll (σ.set i (some v)) is vs).length = _
                rw [ih, List.length_set]
          exact this is vs σ
      · rw [if_neg hl] at e'; cases e'
    | _ => cases e
/-! ### a clause's tests: none, or one -/
inductive TsE (X : Cx) (cs : List (Addr × Addr)) : List Expr → List Dn → Prop
  | no : TsE X cs [] []
  | one {e : Expr} {d : Dn} : SD X cs e d → TsE X cs [e] [d]
theorem pts_ts {es : List Expr} {ds : List Dn} (h : TsE X cs es ds) : PTs X es (tT (kw X) cs (tstsL ds)) := by
  cases h with
  | no => exact ⟨fun pins s σ H Q I ⟨G, τ, r, st, tb, e, q⟩ => pts_nil.run pins s σ H Q I (by cases e; exact q G H (Ext.refl st.inn))⟩
  | one a =>
    refine ⟨fun pins s σ H Q I ⟨G, τ, r, st, tb, e, q⟩ => (pts_one a.tst).run pins s σ H Q I ⟨G, τ, r, st, tb, ?_, q⟩⟩
    obtain ⟨b, e1, e2⟩ := Option.bind_eq_some_iff.mp (show (Dn.tst _ τ).bind (fun b => if b then some true else some false) = some r from e)
    rw [e1]
    cases b <;> exact e2
end
end Fw
end
section
set_option Elab.async false
set_option linter.all false
set_option maxRecDepth 100000
set_option maxHeartbeats 4000000
namespace Fw
open PySem PySem.Spec L2
/-! ### comprehensions -/
/-- what a comprehension gathers in -/
structure AccK where
  R : Fz → Hp → Addr → HO → List D → Prop
  fits : List D → Prop
  mono : ∀ {K : Fz} {G G' : Hp} {a : Addr} {o : HO} {ds : List D}, (∀ a o, G a = some o → G' a = some o) → R K G a o ds → R K G' a o ds
  ntbl : ∀ {K : Fz} {G : Hp} {a : Addr} {o : HO} {ds : List D}, R K G a o ds → ∀ ps, o ≠ .tbl ps
  fitL : ∀ {xs ys : List D}, fits (xs ++ ys) → fits xs
/-- the names of the clauses from here on -/
def Kn (vs : List Nat) (σ σ' : St) : Prop := σ'.length = σ.length ∧ ∀ (j : Nat) (v : V), (wipe σ vs)[j]? = some (some v) → σ'[j]? = some (some v)
section
variable {X : Cx} {cs : List (Addr × Addr)} {A : AccK} {e0 : Expr} {gens : List Comprehension} {emit : Sem Unit} {DD : Addr} {d : Nat} {vs : List Nat}
def NoE : Value → Shared → Prop := fun _ _ => False
/-- what is run behind a clause's tests -/
def runS (X : Cx) (e0 : Expr) (gens : List Comprehension) (emit : Sem Unit) (DD : Addr) (d : Nat) (Qn : Shared → Prop) (s : Shared) : Prop := match gens[d]? with
  | none => wpAny (model X.prog X.w) X.A emit (fun _ s' => Qn s') NoE s
  | some g => wpAny (model X.prog X.w) X.A (eval g.iter X.env) (fun x s4 => wpAny (model X.prog X.w) X.A (pyIter x) (fun it1 s5 => codeAny (model X.prog X.w) X.A (.compStart e0 d it1 (.ref DD) X.env) (fun r s' => match r with
      | .ok _ => Qn s'
      | .error _ => False) s5) NoE s4) NoE s
def StageP (X : Cx) (cs : List (Addr × Addr)) (A : AccK) (e0 : Expr) (gens : List Comprehension) (emit : Sem Unit) (DD : Addr) (vs : List Nat) (d : Nat) (gen : Tau → Option (List D)) : Prop :=
  ∀ (pins : List (Addr × Obj)) (s : Shared) (σ : St) (H G : Hp) (τ : Tau) (ho : HO) (acc ds : List D) (Qn : Shared → Prop), Inv X pins σ H s → H DD = some ho → A.R (kw X) G DD ho acc → G DD = none → StR (kw X) G (delD H DD) σ τ → TabOk cs G (delD H DD) →
    gen τ = some ds → A.fits (acc ++ ds) →
    (∀ σ' G' H' ho' s', Inv X pins σ' H' s' → Kn vs σ σ' → Ext G (delD H DD) G' (delD H' DD) → H' DD = some ho' → A.R (kw X) G' DD ho' (acc ++ ds) → Qn s') →
    runS X e0 gens emit DD d Qn s
/-- a thing not of the tables stays -/
theorem keepO {G H G' H' : Hp} {K : Fz} {ho : HO} {acc : List D} (x : Ext G H G' H') (h : H DD = some ho) (r : A.R K G DD ho acc) : H' DD = some ho := (x.same _ _ h).of (A.ntbl r)
theorem clause_some {α : Type} {ow : List Nat} {tg : Tg} {ifs : List Dn} {off : α} {rest : Tau → Option α} {τ : Tau} {x : D} {b : α} (h : clause ow tg ifs off rest τ x = some b) :
    ∃ τ' k, bindTg tg x (wipeT τ ow) = some τ' ∧ tstsL ifs τ' = some k ∧ ((k = true ∧ rest τ' = some b) ∨ (k = false ∧ b = off)) := by
  obtain ⟨τ', h1, h⟩ := Option.bind_eq_some_iff.mp h
  obtain ⟨k, h2, h3⟩ := Option.bind_eq_some_iff.mp h
  refine ⟨τ', k, h1, h2, ?_⟩
  cases k with
  | true => exact .inl ⟨rfl, h3⟩
  | false => exact .inr ⟨rfl, (Option.some.inj h3).symm⟩
def LInv (X : Cx) (A : AccK) (DD : Addr) (vs : List Nat) (tg : Tg) (ifsD : List Dn) (rest : Tau → Option (List D)) (pins : List (Addr × Obj)) (σ : St) (H G : Hp) (τ : Tau) (acc ds xs : List D) (tn : Nat → Heap → Prop) (fp : List Addr) (n : Nat) (s' : Shared) : Prop :=
  ∃ i G' H' ho' acc' dr, n = xs.length - i ∧ i ≤ xs.length ∧ Inv X pins (wipe σ vs) H' s' ∧ tn i s'.heap ∧ (∀ b ∈ fp, H' b = none) ∧ Ext G (delD H DD) G' (delD H' DD) ∧ H' DD = some ho' ∧ G' DD = none ∧ A.R (kw X) G' DD ho' acc' ∧
    genGo (clause vs tg ifsD [] rest τ) (xs.drop i) = some dr ∧ acc' ++ dr = acc ++ ds
/-- the loop of a clause -/
theorem loop_gen (hxe : X.xe = NoE) (hc : X.calm = true) (hN : X.N.Nodup) (ce : CmpE (.ref DD) X.env e0 gens emit) {t0 i0 : Expr} {ifs0 : List Expr} (hg : gens[d]? = some ⟨t0, i0, ifs0, 0⟩) (hs1 : ∀ g, gens[d + 1]? = some g → g.is_async = 0 ∧ ∀ x, foldedSetIterable g.iter X.env x = pure x)
    {tg : Tg} {ifsD : List Dn} {rest : Tau → Option (List D)} {vr : List Nat} (ht : TgE X t0 tg) (hi : TsE X cs ifs0 ifsD) (hr : StageP X cs A e0 gens emit DD vr (d + 1) rest) (hvs : vs = tg.own ++ vr)
    {pins : List (Addr × Obj)} {s : Shared} {σ : St} {H G : Hp} {τ : Tau} {ho : HO} {acc ds xs : List D} {J : It} {fp : List Addr} {it : Addr} {tn : Nat → Heap → Prop} {R : Result → Shared → Prop}
    (I : Inv X pins σ H s) (hD : H DD = some ho) (hA : A.R (kw X) G DD ho acc) (gD : G DD = none) (st : StR (kw X) G (delD H DD) σ τ) (tb : TabOk cs G (delD H DD))
    (hgen : genGo (clause vs tg ifsD [] rest τ) xs = some ds) (hfit : A.fits (acc ++ ds)) (T : Turn X.prog X.w X.K t0 J fp it tn) (st0 : tn 0 s.heap) (hn0 : ∀ b ∈ fp, H b = none)
    (hfp : ∀ H', (∀ b ∈ fp, H' b = none) → ∀ b ∈ fp, FpOk X pins H' b) (W : Wk (kw X) J xs (fun G' H' => Ext G (delD H DD) G' (delD H' DD)))
    (fin : ∀ G' H' ho' s', Inv X pins (wipe σ vs) H' s' → Ext G (delD H DD) G' (delD H' DD) → H' DD = some ho' → A.R (kw X) G' DD ho' (acc ++ ds) → R (.ok .next) s') :
    codeAny (model X.prog X.w) X.A (.compLoop e0 d (.ref it) (.ref DD) X.env) R s := by
  -- one turn, whichever follows
  have turn : ∀ (n : Nat) (s' : Shared), LInv X A DD vs tg ifsD rest pins σ H G τ acc ds xs tn fp n s' →
      wpAny (model X.prog X.w) X.A (pyNext (.ref it)) (fun r s₁ => match r with
        | none => R (.ok .next) s₁
        | some v => wpAny (model X.prog X.w) X.A (letOwnedTupleGo t0 (.ref it) v) (fun _ s₁' => wpAny (model X.prog X.w) X.A (assign t0 X.env v) (fun _ s₂ =>
            wpAny (model X.prog X.w) X.A (testsM ifs0 X.env) (fun ok s₃ =>
              if ok = true then runS X e0 gens emit DD (d + 1) (fun s₅ => ∃ m, m < n ∧ LInv X A DD vs tg ifsD rest pins σ H G τ acc ds xs tn fp m s₅) s₃
              else ∃ m, m < n ∧ LInv X A DD vs tg ifsD rest pins σ H G τ acc ds xs tn fp m s₃) NoE s₂) NoE s₁') NoE s₁) NoE s' := by
    rintro n s5 ⟨i, G5, H5, ho5, acc5, dr, rfl, hi5, I5, st5, n5, x5, hD5, gD5, hA5, hg5, he5⟩
    by_cases hlt : i < xs.length
    · have ti := T.item X rfl rfl rfl hc i pins s5 _ H5 NoE I5 (hfp H5 n5) st5 (W.go i G5 H5 hlt x5)
      refine thnF ti fun r s6 ⟨u, hr', h6⟩ => ?_
      subst hr'
      refine thnF h6 fun _ s7 ⟨x, H7, I7, r7, y7, st7, n7⟩ => ?_
      have hx : xs[i]? = some xs[i] := List.getElem?_eq_getElem hlt
      obtain ⟨G7, x7, rd7⟩ := W.yl i xs[i] G5 H5 x H7 hx x5 y7
      have hD7 := keepO x7 hD5 hA5
      have gD7 := x7.new DD _ hD5 gD5
      have hA7 := A.mono x7.sub hA5
      have x7' := x5.trans (x7.del hD5 gD5)
      have I7' := I7.pinned (hfp H7 n7) (T.obj _ _ st7)
      rw [List.drop_eq_getElem_cons hlt] at hg5
      obtain ⟨b, hb, hg5⟩ := Option.bind_eq_some_iff.mp (show (clause vs tg ifsD [] rest τ xs[i]).bind (fun x => (genGo (clause vs tg ifsD [] rest τ) (xs.drop (i + 1))).map (x ++ ·)) = some dr from hg5)
      obtain ⟨dr', hg6, rfl⟩ := Option.map_eq_some_iff.mp hg5
      obtain ⟨τ', k, b1, b2, b3⟩ := clause_some hb
      have stw : StR (kw X) G7 (delD H7 DD) (wipe σ vs) (wipeT τ vs) := (st.wipe vs fun i h => h).ext x7'
      have pg := (pg_tg hc hN ht).run _ s7 _ H7 x u (fun σ8 H8 => H8 = H7 ∧ StR (kw X) G7 (delD H7 DD) σ8 τ' ∧ σ8.length = (wipe σ vs).length ∧ wipe σ8 tg.own = wipe (wipe σ vs) tg.own) I7' r7
        ⟨G7, delD H7 DD, _, _, _, stw, rd7, x7.inn, b1, fun σ8 s8 l8 w8 => ⟨rfl, s8, l8, w8 _ fun _ h => h⟩⟩
      rw [hxe] at pg
      refine thnF pg fun _ s8 ⟨σ8, H8, I8, hH8, st8, l8, w8⟩ => ?_
      subst hH8
      have pt := (pts_ts hi).run _ s8 σ8 H8 (fun kk H9 => kk = k ∧ ∃ G9, Ext G7 H8 G9 H9) I8 ⟨G7, τ', k, st8.undel, (tb.ext x7').undel, b2, fun G9 H9 x9 => ⟨rfl, G9, x9⟩⟩
      rw [hxe] at pt
      refine thnF pt fun kk s9 ⟨H9, I9, ek, G9, x9⟩ => ?_
      subst ek
      have hD9 := keepO x9 hD7 hA7
      have gD9 := x9.new DD _ hD7 gD7
      have hA9 := A.mono x9.sub hA7
      have x9' := x9.del hD7 gD7
      -- the turn's end
      have fin1 : ∀ {σ' : St} {G' H' : Hp} {ho' : HO} {s' : Shared} {acc' : List D}, Inv X (pins ++ pinsAt fp s7.heap) σ' H' s' → Kn vr σ8 σ' → Ext G9 (delD H9 DD) G' (delD H' DD) → H' DD = some ho' → A.R (kw X) G' DD ho' acc' → acc' ++ dr' = acc ++ ds →
          ∃ m, m < xs.length - i ∧ LInv X A DD vs tg ifsD rest pins σ H G τ acc ds xs tn fp m s' := by
        intro σ' G' H' ho' s' acc' I' kn x' hD' hA' hac
        have pin' : ∀ b ∈ fp, ∀ o, s7.heap.get? b = some o → s'.heap.get? b = some o ∧ H' b = none := fun b hb o e =>
          let z := I'.pin (b, o) (List.mem_append_right _ (List.mem_append_right _ (mem_pinsAt hb e)))
          ⟨z.1, z.2.1⟩
        have gD' : G' DD = none := by
          cases e : G' DD with
          | none => rfl
          | some o => exact absurd rfl (delD_neD (x'.inn DD o e))
        refine ⟨xs.length - (i + 1), by omega, i + 1, G', H', ho', acc', dr', rfl, hlt, (I'.unpinned (pins := pins)).weak ?_ ?_, T.keep _ _ _ st7 fun b hb o e => (pin' b hb o e).1, fun b hb => ?_, (x7'.trans x9').trans x', hD', gD', hA', hg6, hac⟩
        · rw [kn.1, l8]
        · intro j v hj
          have hj0 := (wipe_some hj).2
          have n1 : j ∉ tg.own := fun z => hj0 (by rw [hvs]; exact List.mem_append_left _ z)
          have n2 : j ∉ vr := fun z => hj0 (by rw [hvs]; exact List.mem_append_right _ z)
          refine kn.2 j v ?_
          rw [wipe_out n2]
          have e1 : (wipe σ8 tg.own)[j]? = (wipe (wipe σ vs) tg.own)[j]? := by rw [w8]
          rw [wipe_out n1, wipe_out n1] at e1
          rw [e1]; exact hj
        · obtain ⟨o, e, _⟩ := T.obj _ _ st7 b hb
          exact (pin' b hb o e).2
      rcases b3 with ⟨rfl, b3⟩ | ⟨rfl, rfl⟩
      · rw [if_pos rfl]
        refine hr _ s9 σ8 H9 G9 τ' ho5 acc5 b _ I9 hD9 hA9 gD9 (st8.ext x9') ((tb.ext x7').ext x9') b3 (A.fitL (ys := dr') (by rw [List.append_assoc, he5]; exact hfit)) fun σ' G' H' ho' s' I' kn x' hD' hA' => ?_
        exact fin1 I' kn x' hD' hA' (by rw [List.append_assoc]; exact he5)
      · rw [if_neg (by simp)]
        exact fin1 I9 ⟨rfl, fun j v h => (wipe_some h).1⟩ (Ext.refl (delD_inn x9.inn gD9)) hD9 hA9 (by simpa using he5)
    · have e : i = xs.length := by omega
      subst e
      have td := T.done X rfl rfl rfl hc _ pins s5 _ H5 NoE I5 (hfp H5 n5) st5 (W.st G5 H5 x5)
      refine thnF td fun r s6 ⟨hr', I6⟩ => ?_
      subst hr'
      rw [List.drop_length] at hg5
      cases hg5
      rw [List.append_nil] at he5
      exact fin G5 H5 ho5 s6 I6 x5 hD5 (by rw [← he5]; exact hA5)
  have start : LInv X A DD vs tg ifsD rest pins σ H G τ acc ds xs tn fp xs.length s :=
    ⟨0, G, H, ho, acc, ds, rfl, Nat.zero_le _, I.weak (wipe_length _ _) (fun j v e => (wipe_some e).1), st0, hn0, Ext.refl st.inn, hD, gD, hA, hgen, rfl⟩
  cases hn : gens[d + 1]? with
  | none =>
    refine loop_in ce hg hn (LInv X A DD vs tg ifsD rest pins σ H G τ acc ds xs tn fp) (fun n s' h => ?_) _ start
    refine thnF (turn n s' h) fun r s₁ h₁ => ?_
    cases r with
    | none => exact h₁
    | some v =>
      refine thnF h₁ fun _ s₁' h₂ => thnF h₂ fun _ s₂ h₃ => thnF h₃ fun ok s₃ h₄ => ?_
      cases ok with
      | false => exact h₄
      | true =>
        rw [if_pos rfl] at h₄ ⊢
        unfold runS at h₄
        rw [hn] at h₄
        exact thnF h₄ fun _ s5 h5 => h5
  | some g =>
    obtain ⟨t1, i1, ifs1, as1⟩ := g
    obtain ⟨ha, hs⟩ := hs1 _ hn
    simp only at ha
    subst ha
    refine loop_out ce hg hn hs (LInv X A DD vs tg ifsD rest pins σ H G τ acc ds xs tn fp) (fun n s' h => ?_) _ start
    refine thnF (turn n s' h) fun r s₁ h₁ => ?_
    cases r with
    | none => exact h₁
    | some v =>
      refine thnF h₁ fun _ s₁' h₂ => thnF h₂ fun _ s₂ h₃ => thnF h₃ fun ok s₃ h₄ => ?_
      cases ok with
      | false => exact h₄
      | true =>
        rw [if_pos rfl] at h₄ ⊢
        unfold runS at h₄
        rw [hn] at h₄
        exact thnF h₄ fun x s4 h5 => thnF h5 fun it1 s5 h6 => codeAny_mono h6 fun r s6 h7 => by
          cases r with
          | ok f => exact h7
          | error e => exact h7
end
end Fw
end
section
set_option Elab.async false
set_option linter.all false
set_option maxRecDepth 100000
set_option maxHeartbeats 4000000
namespace Fw
open PySem PySem.Spec L2
section
variable {X : Cx} {cs : List (Addr × Addr)} {A : AccK} {e0 : Expr} {gens : List Comprehension} {emit : Sem Unit} {DD : Addr} {d : Nat} {vs : List Nat} {K : Fz} {G H G' H' : Hp} {σ : St} {τ : Tau}
theorem ow_ne (st : StR K G (delD H DD) σ τ) {a : Addr} (h : Ow σ τ a) : a ≠ DD := by
  obtain ⟨i, s, e, o, h⟩ := h
  obtain ⟨a', ob, h1, h2, _⟩ := st.ow i s e o
  rw [h] at h1
  cases h1
  exact delD_neD h2
theorem good_blk {G1 H1 : Hp} (st : StR K G (delD H DD) σ τ) : Good G1 H1 (Ow σ τ) (fun G' H' => Ext G1 (delD H1 DD) G' (delD H' DD)) := fun G' H' x => by
  refine ⟨x.sub, fun a o e => delD_sub (x.inn a o e), fun a o h e n => ?_⟩
  have e2 : delD H1 DD a = some o := by rw [delD_ne (ow_ne st h)]; exact e
  exact delD_sub ((x.same a o e2).of n)
/-- a clause behind others -/
theorem stage_gen (hxe : X.xe = NoE) (hc : X.calm = true) (hN : X.N.Nodup) (ce : CmpE (.ref DD) X.env e0 gens emit) {t0 i0 : Expr} {ifs0 : List Expr} (hg : gens[d]? = some ⟨t0, i0, ifs0, 0⟩) (hs1 : ∀ g, gens[d + 1]? = some g → g.is_async = 0 ∧ ∀ x, foldedSetIterable g.iter X.env x = pure x)
    {tg : Tg} {itd : Tau → Option D} {ifsD : List Dn} {rest : Tau → Option (List D)} {vr : List Nat} (hp : PI X t0 i0 (tI (kw X) cs Ow itd)) (ht : TgE X t0 tg) (hi : TsE X cs ifs0 ifsD) (hr : StageP X cs A e0 gens emit DD vr (d + 1) rest) (hvs : vs = tg.own ++ vr) :
    StageP X cs A e0 gens emit DD vs d (fun τ => (itd τ).bind fun x => (itemsD x).bind fun ds => genGo (clause vs tg ifsD [] rest τ) ds) := by
  intro pins s σ H G τ ho acc ds Qn I hD hA gD st tb e hfit q
  obtain ⟨x, e1, e⟩ := Option.bind_eq_some_iff.mp e
  obtain ⟨xs, e2, e3⟩ := Option.bind_eq_some_iff.mp e
  unfold runS
  rw [hg]
  have hrun := hp.run pins s σ H (fun J H1 => ∃ G1, Ext G H G1 H1 ∧ Wk (kw X) J xs (fun G' H' => Ext G1 (delD H1 DD) G' (delD H' DD))) I ⟨G, τ, x, xs, st.undel, tb.undel, e1, e2, fun J G1 H1 x1 w => ⟨G1, x1, w _ (good_blk st)⟩⟩
  rw [hxe] at hrun
  refine thnF hrun fun v s1 h1 => thnF h1 fun itv s2 h2 => ?_
  obtain ⟨it, fp, tn, J, H1, rfl, I1, T, st1, f1, G1, x1, W⟩ := h2
  have hD1 := keepO x1 hD hA
  have gD1 := x1.new DD _ hD gD
  have x1' := x1.del hD gD
  have loop : codeAny (model X.prog X.w) X.A (.compLoop e0 d (.ref it) (.ref DD) X.env) (fun r s' => match r with
      | .ok _ => Qn s'
      | .error _ => False) s2 :=
    loop_gen hxe hc hN ce hg hs1 ht hi hr hvs I1 hD1 (A.mono x1.sub hA) gD1 (st.ext x1') (tb.ext x1') e3 hfit T st1 (fun b hb => (f1 b hb).1) (fun H' hn b hb => ⟨hn b hb, (f1 b hb).2⟩) W
      fun G' H' ho' s' I' x' hD' hA' => q _ G' H' ho' s' I' ⟨wipe_length _ _, fun _ _ h => h⟩ (x1'.trans x') hD' hA'
  exact start_any ce hg loop (T.self X.A 0 _ _ _ st1 loop)
/-! what is gathered: a list -/
def accL : AccK where
  R := fun K G _ o ds => ∃ vs, o = .lst vs ∧ RDs K G vs ds
  fits := fun ds => ds.length ≤ lim
  mono := fun h ⟨vs, e, r⟩ => ⟨vs, e, RDs.mono h r⟩
  ntbl := fun ⟨vs, e, r⟩ ps z => by rw [z] at e; cases e
  fitL := fun h => by rw [List.length_append] at h; omega
theorem stage_yldL (hxe : X.xe = NoE) {elt : Expr} {scope : Scope} {pos : Pos} (ce : CmpE (.ref DD) X.env (.ListComp elt gens scope pos) gens emit) (hg : gens[d]? = none) {dv : Tau → Option D} (he : PE X elt (tP (kw X) cs dv)) :
    StageP X cs accL (.ListComp elt gens scope pos) gens emit DD [] d (fun τ => (dv τ).map ([·])) := by
  intro pins s σ H G τ ho acc ds Qn I hD hA gD st tb e hfit q
  obtain ⟨y, e1, rfl⟩ := Option.map_eq_some_iff.mp e
  obtain ⟨vs, rfl, rs⟩ := hA
  unfold runS
  rw [hg]
  cases ce
  have hrun := he.run pins s σ H (fun v H1 => ∃ G1, Ext G H G1 H1 ∧ RD (kw X) G1 v y) I ⟨G, τ, y, st.undel, tb.undel, e1, fun v G1 H1 x1 r => ⟨G1, x1, r⟩⟩
  rw [hxe] at hrun
  refine wpAny_bind (thnF hrun fun u s1 ⟨v, H1, I1, r1, G1, x1, rd⟩ => ?_)
  have hD1 : H1 DD = some (.lst vs) := (x1.same _ _ hD).of fun ps z => by cases z
  have gD1 := x1.new DD _ hD gD
  have x1' := x1.del hD gD
  have hl : vs.length < sizeLine := by
    rw [RDs.length rs, lim_eq]
    have : (acc ++ [y]).length ≤ lim := hfit
    rw [List.length_append] at this
    simp at this
    omega
  refine wpAny_bind (app_ok I1 hD1 hl r1 fun s2 I2 => wpAny_pure ?_)
  exact q σ G1 _ _ s2 I2 ⟨rfl, fun j v h => (wipe_some h).1⟩ (by rw [delD_upd]; exact x1') upd_same ⟨_, rfl, RDs.append (RDs.mono x1.sub rs) (RDs.one rd)⟩
/-! ### the whole of it -/
theorem wipeT_at : ∀ (vs : List Nat) (τ : Tau) (i : Nat), (wipeT τ vs)[i]? = if i ∈ vs then (if i < τ.length then some Slot.un else none) else τ[i]?
  | [], _, _ => by simp [wipeT]
  | v :: vs, τ, i => by
    show (wipeT (τ.set v .un) vs)[i]? = _
    rw [wipeT_at vs (τ.set v .un) i, List.length_set, List.getElem?_set]
    by_cases h : i ∈ vs
    · rw [if_pos h, if_pos (List.mem_cons_of_mem _ h)]
    · rw [if_neg h]
      by_cases e : v = i
      · subst e
        rw [if_pos rfl, if_pos List.mem_cons_self]
      · rw [if_neg e, if_neg]
        simp only [List.mem_cons, not_or]
        exact ⟨fun z => e z.symm, h⟩
theorem wipeT_idem (vs : List Nat) (τ : Tau) : wipeT (wipeT τ vs) vs = wipeT τ vs := by
  apply List.ext_getElem?
  intro i
  rw [wipeT_at, wipeT_at, wipeT_len]
  split <;> rfl
/-- a block of the comprehension -/
inductive BlkX (X : Cx) (scope : Scope) : Cx → Prop
  | mk (s : Shared) (H : Hp) (C : Addr) (cl : List (Str × Addr)) (fp : List Addr) : BlkX X scope (X.blk s H scope (compEnvC scope cl C X.env) fp)
theorem Ext.undelN {DD : Addr} (x : Ext G H G' (delD H' DD)) (n : H DD = none) : Ext G H G' H' where
  same := fun a o e => by
    have k := x.same a o e
    rw [delD_ne (ne_of_none e n)] at k
    exact k
  sub := x.sub
  inn := fun a o e => delD_sub (x.inn a o e)
  new := x.new
theorem ext_none (x : Ext G H G' H') (n : H' DD = none) : H DD = none := by
  cases e : H DD with
  | none => rfl
  | some o =>
    have k := x.same DD o e
    rw [n] at k
    cases o <;> first | (cases k; done) | (obtain ⟨_, k, _⟩ := k; cases k)
theorem comp_core {pins : List (Addr × Obj)} {s : Shared} {σ : St} {H G : Hp} {τ : Tau} {t0 i0 : Expr} {ifs0 : List Expr} {gs : List Comprehension} {scope : Scope} {own : List (Str × Nat)} {pos' : Pos} {use : Option (Value → Sem Unit)} {Qf : Value → Shared → Prop}
    {newAcc : Sem Value} {obj : Obj} {ho0 : Addr → HO} {ds : List D} {tg : Tg} {itd : Tau → Option D} {ifsD : List Dn} {rest : Tau → Option (List D)} {vr : List Nat}
    (hc : X.calm = true) (hN : X.N.Nodup) (I : Inv X pins σ H s) (hgens : gens = ⟨t0, i0, ifs0, 0⟩ :: gs) (hcl : clausesOf e0 = gens) (hce : ∀ DD env, ∃ emit, CmpE (.ref DD) env e0 gens emit)
    (hp : PI X t0 i0 (tI (kw X) cs Ow itd)) (ok : BlkOk X.N X.env.scope scope own) (hs : ∀ x, foldedSetIterable i0 X.env x = pure x)
    (hs1 : ∀ B, BlkX X scope B → ∀ g, gens[0 + 1]? = some g → g.is_async = 0 ∧ ∀ x, foldedSetIterable g.iter B.env x = pure x)
    (ht : ∀ B, BlkX X scope B → TgE B t0 tg) (hi : ∀ B, BlkX X scope B → TsE B cs ifs0 ifsD) (hr : ∀ B, BlkX X scope B → ∀ DD emit, CmpE (.ref DD) B.env e0 gens emit → StageP B cs A e0 gens emit DD vr (0 + 1) rest)
    (hvs : vs = tg.own ++ vr) (hown : ∀ i ∈ own.map (·.2), i ∈ vs)
    (hnew : ∀ {Q : Value → Shared → Prop} {E : Value → Shared → Prop} {s : Shared}, Q (.ref s.heap.objs.size) { s with heap := s.heap.push obj } → wpAny (model X.prog X.w) X.A newAcc Q E s)
    (hobj : ∀ (H : Hp) (h : Heap), ObjOk X.prog X.w (upd H h.objs.size (ho0 h.objs.size)) (h.push obj) h.objs.size (ho0 h.objs.size)) (hA0 : ∀ G D, A.R (kw X) G D (ho0 D) [])
    (st : StR (kw X) G H σ τ) (tb : TabOk cs G H) (hgen : ((itd τ).bind fun x => (itemsD x).bind fun xs => genGo (clause vs tg ifsD [] rest τ) xs) = some ds) (hfit : A.fits ds)
    (hRR : ∀ DD C s' m G' H' ho', Inv X pins σ H' s' → H DD = none → Ext G H G' H' → H' DD = some ho' → G' DD = none → A.R (kw X) G' DD ho' ds → s'.heap.Ns C m → FpOk X pins H' C → compPost (model X.prog X.w) X.A X.xe use Qf (.ref DD) C (.ok .next) s') :
    wpAny (model X.prog X.w) X.A (comprehension e0 scope X.env pos' newAcc false (eval i0 X.env) use) Qf X.xe s := by
  have hfree : ∀ y ∈ scope.names, y.2 = .free → ∃ c, X.env.cells.lookup y.1 = some c := fun y hy e => by
    rcases ok.free y hy e with k | k
    · exact I.ok.has _ (.inl k)
    · exact I.ok.has _ (.inr k)
  obtain ⟨x, e1, hgen⟩ := Option.bind_eq_some_iff.mp hgen
  obtain ⟨xs, e2, e3⟩ := Option.bind_eq_some_iff.mp hgen
  have hgen0 : gens[0]? = some ⟨t0, i0, ifs0, 0⟩ := by rw [hgens] <;> rfl
  refine wpAny_comprehension_free (use := use) (g := ⟨t0, i0, ifs0, 0⟩) (gs := gs) (hcl.trans hgens) hs (closure_ok hfree) ok.kind (fun y hy e => by rw [ok.uniq y hy, e])
    (thn (hp.run pins s σ H (fun J H1 => ∃ G1, Ext G H G1 H1 ∧ ∀ P, Good G1 H1 (Ow σ τ) P → Wk (kw X) J xs P) I ⟨G, τ, x, xs, st, tb, e1, e2, fun J G1 H1 x1 w => ⟨G1, x1, w⟩⟩) fun xv s1 hx => thn hx fun itv s2 h2 => ?_)
  obtain ⟨it, fp, tn, J, H2, rfl, I2, T, st2, f2, G2, x2, W⟩ := h2
  refine hnew (newEnv_comp ?_)
  generalize hD : s2.heap.objs.size = DD
  have hDn : H2 DD = none := I2.hok.fresh (Nat.le_of_eq hD)
  have gDn : G2 DD = none := by
    cases e : G2 DD with
    | none => rfl
    | some o => rw [x2.inn DD o e] at hDn; cases hDn
  generalize hs3 : ({ s2 with heap := s2.heap.push obj } : Shared) = s3
  have I3 : Inv X pins σ (upd H2 DD (ho0 DD)) s3 := by
    rw [← hs3, ← hD]
    exact I2.laid (t' := s2.toks) (fun b o e => Heap.get?_push_of_some _ e) (Nat.le_refl _) (hobj H2 s2.heap)
  have h3 : s3.heap = s2.heap.push obj := by rw [← hs3]
  have sz : ∀ b ∈ fp, b < s2.heap.objs.size := fun b hb => by
    obtain ⟨o, e, _⟩ := T.obj _ _ st2 b hb
    exact Heap.lt_size e
  have f3 : ∀ b ∈ fp, FpOk X pins (upd H2 DD (ho0 DD)) b ∧ b < s3.heap.objs.size := fun b hb => by
    have hlt := sz b hb
    refine ⟨⟨?_, (f2 b hb).2⟩, by rw [h3, Heap.size_push]; exact Nat.lt_succ_of_lt hlt⟩
    rw [upd_ne (by rw [← hD]; exact Nat.ne_of_lt hlt)]
    exact (f2 b hb).1
  have st3 : tn 0 s3.heap := T.keep _ _ _ st2 fun b _ o e => by rw [h3]; exact Heap.get?_push_of_some _ e
  have I4 := block_start I3 ok hN f3
  generalize hB : X.blk s3 (upd H2 DD (ho0 DD)) scope (compEnvC scope (cellsFrom (s3.heap.objs.size + 1) scope.names (cloFrom X.env.cells scope.names [])) s3.heap.objs.size X.env) fp = B at I4
  have hBX : BlkX X scope B := by rw [← hB]; exact .mk _ _ _ _ _
  have bxe : B.xe = NoE := by rw [← hB]; rfl
  have bp : B.prog = X.prog := by rw [← hB]
  have bw : B.w = X.w := by rw [← hB]
  have bK : kw B = kw X := by rw [← hB]
  have bA : B.A = X.A := by rw [← hB]
  have bc : B.calm = true := by rw [← hB]; exact hc
  have bN : B.N.Nodup := by rw [← hB]; exact hN
  have benv : B.env = compEnvC scope (cellsFrom (s3.heap.objs.size + 1) scope.names (cloFrom X.env.cells scope.names [])) s3.heap.objs.size X.env := by rw [← hB]
  have bL : B.env.locals = s3.heap.objs.size := by rw [benv]; rfl
  have nfp : ∀ b ∈ fp, (upd H2 DD (ho0 DD)) b = none := fun b hb => (f3 b hb).1.1
  have bex : B.ex = fp := by rw [← hB]
  have bpn : B.pn = [] := by rw [← hB]
  obtain ⟨emit, ce⟩ := hce DD B.env
  show codeAny (model X.prog X.w) X.A (.compStart e0 0 (.ref it) (.ref DD) (compEnvC scope (cellsFrom (s3.heap.objs.size + 1) scope.names (cloFrom X.env.cells scope.names [])) s3.heap.objs.size X.env)) (compPost (model X.prog X.w) X.A X.xe use Qf (.ref DD) s3.heap.objs.size) { s3 with heap := pushCells (s3.heap.push { cls := .type "dict", data := .dict #[] }) scope.names }
  rw [← benv]
  generalize hs4 : ({ s3 with heap := pushCells (s3.heap.push { cls := .type "dict", data := .dict #[] }) scope.names } : Shared) = s4 at I4 ⊢
  have st4 : tn 0 s4.heap := T.keep _ _ _ st3 fun b _ o e => by rw [← hs4]; exact pushCells_keeps _ _ _ _ (Heap.get?_push_of_some _ e)
  have stat : ∀ {σ' : St} {H' : Hp} {s' : Shared}, Inv B [] σ' H' s' → ∀ H', (∀ b ∈ fp, H' b = none) → ∀ b ∈ fp, FpOk B [] H' b := fun {σ' H0 s'} I' H' hn b hb => by
    have hb' : b ∈ B.ex := by rw [bex]; exact hb
    exact ⟨hn b hb, (I'.ok.exf b hb').1, I'.ok.exfs b hb', .inl hb', fun x c e => (I'.ok.exf b hb').2 x c e, fun p hp => absurd (show p ∈ B.pn ++ [] from hp) (by rw [bpn]; simp)⟩
  have du : delD (upd H2 DD (ho0 DD)) DD = H2 := by rw [delD_upd, delD_none hDn]
  have W2 : Wk (kw B) J xs (fun G' H' => Ext G2 (delD (upd H2 DD (ho0 DD)) DD) G' (delD H' DD)) := by
    rw [bK, du]
    refine W _ fun G' H' x => ⟨x.sub, fun a o e => delD_sub (x.inn a o e), fun a o h e n => delD_sub ((x.same a o e).of n)⟩
  have T2 : Turn B.prog B.w B.K t0 J fp it tn := by
    have : B.K = X.K := by rw [← hB]
    rw [bp, bw, this]; exact T
  have loop : codeAny (model B.prog B.w) B.A (.compLoop e0 0 (.ref it) (.ref DD) B.env) (compPost (model X.prog X.w) X.A X.xe use Qf (.ref DD) s3.heap.objs.size) s4 := by
    refine loop_gen (σ := wipe σ (own.map (·.2))) (τ := wipeT τ vs) (G := G2) (xs := xs) (ds := ds) (acc := []) bxe bc bN ce hgen0 (hs1 B hBX) (ht B hBX) (hi B hBX) (hr B hBX DD emit ce) hvs I4 upd_same (by rw [bK]; exact hA0 _ _) gDn ?_ ?_ ?_ (by simpa using hfit) T2 st4 nfp (stat I4) W2 fun G' H' ho' s' I' x' hD' hA' => ?_
    · rw [bK, du]; exact (st.ext x2).wipe vs hown
    · rw [du]; exact tb.ext x2
    · rw [← e3]
      congr 1
      funext y
      unfold clause
      rw [wipeT_idem]
    · rw [du] at x'
      rw [bK] at hA'
      have xx : Ext G H G' H' := (x2.trans x').undelN (ext_none x2 hDn)
      have gD' : G' DD = none := by
        cases e : G' DD with
        | none => rfl
        | some o => exact absurd rfl (delD_neD (x'.inn DD o e))
      have I6 := I'
      rw [← hB] at I6
      have I7 : Inv X pins σ H' s' := I3.call' (ch := fp) I6.os I6.base I6.hok I6.bare fun b hb => ⟨(f3 b hb).1.2.2.2.1, (f3 b hb).1.2.1, (f3 b hb).1.2.2.2.2.1, (f3 b hb).1.2.2.2.2.2⟩
      have nC : H' s3.heap.objs.size = none := by
        have z : H' B.env.locals = none := I'.free
        rw [bL] at z
        exact z
      obtain ⟨m, hn, _⟩ := I'.loc
      rw [bL] at hn
      exact hRR DD s3.heap.objs.size s' m G' H' ho' I7 (ext_none x2 hDn) xx hD' gD' hA' hn (I3.fpOk (Nat.le_refl _) nC)
  rw [bp, bw, bA] at loop
  exact start_any ce hgen0 loop (T.self X.A 0 _ _ _ st4 loop)
end
end Fw
end
section
set_option Elab.async false
set_option linter.all false
set_option maxRecDepth 100000
set_option maxHeartbeats 4000000
namespace Fw
open PySem PySem.Spec L2
section
variable {X : Cx} {cs : List (Addr × Addr)} {A : AccK} {e0 : Expr} {gens : List Comprehension} {scope : Scope} {K : Fz} {G H G' H' : Hp} {σ : St} {τ : Tau}
/-- what is shown of a comprehension's clauses -/
inductive GenOk (X : Cx) (cs : List (Addr × Addr)) (A : AccK) (e0 : Expr) (gens : List Comprehension) (scope : Scope) (gen : Tau → Option (List D)) : Prop
  | mk {t0 i0 : Expr} {ifs0 : List Expr} {gs : List Comprehension} {own : List (Str × Nat)} {tg : Tg} {itd : Tau → Option D} {ifsD : List Dn} {rest : Tau → Option (List D)} {vs vr : List Nat} (hgens : gens = ⟨t0, i0, ifs0, 0⟩ :: gs)
    (hp : PI X t0 i0 (tI (kw X) cs Ow itd)) (ok : BlkOk X.N X.env.scope scope own) (hs : ∀ x, foldedSetIterable i0 X.env x = pure x)
    (hs1 : ∀ B, BlkX X scope B → ∀ g, gens[0 + 1]? = some g → g.is_async = 0 ∧ ∀ x, foldedSetIterable g.iter B.env x = pure x)
    (ht : ∀ B, BlkX X scope B → TgE B t0 tg) (hi : ∀ B, BlkX X scope B → TsE B cs ifs0 ifsD) (hr : ∀ B, BlkX X scope B → ∀ DD emit, CmpE (.ref DD) B.env e0 gens emit → StageP B cs A e0 gens emit DD vr (0 + 1) rest)
    (hvs : vs = tg.own ++ vr) (hown : ∀ i ∈ own.map (·.2), i ∈ vs)
    (hgen : ∀ τ, gen τ = (itd τ).bind fun x => (itemsD x).bind fun xs => genGo (clause vs tg ifsD [] rest τ) xs) : GenOk X cs A e0 gens scope gen
theorem objL (P : Program) (w : World) (H : Hp) (h : Heap) : ObjOk P w (upd H h.objs.size (.lst [])) (h.push { cls := .type "list", data := .seq ([] : List Value).toArray }) h.objs.size (.lst []) := ⟨Nat.zero_le _, [], 0, .nil, Heap.get?_push_size _ rfl⟩
theorem newL {M : Model} {A : Around} {Q : Value → Shared → Prop} {E : Value → Shared → Prop} {s : Shared} (h : Q (.ref s.heap.objs.size) { s with heap := s.heap.push { cls := .type "list", data := .seq ([] : List Value).toArray } }) : wpAny M A (newList []) Q E s :=
  wpAny_newObj_type h (by show 0 ≤ sizeLine; decide)
theorem lc_run {elt : Expr} {pos : Pos} {gen : Tau → Option (List D)} {pins : List (Addr × Obj)} {s : Shared} {ds : List D} {use : Option (Value → Sem Unit)} {Qf : Value → Shared → Prop} (hc : X.calm = true) (hN : X.N.Nodup) (g : GenOk X cs accL (.ListComp elt gens scope pos) gens scope gen) (I : Inv X pins σ H s)
    (st : StR (kw X) G H σ τ) (tb : TabOk cs G H) (e : gen τ = some ds) (hf : ds.length ≤ lim)
    (hRR : ∀ DD C s' m G' H' vs, Inv X pins σ H' s' → H DD = none → Ext G H G' H' → H' DD = some (.lst vs) → G' DD = none → RDs (kw X) G' vs ds → s'.heap.Ns C m → FpOk X pins H' C → compPost (model X.prog X.w) X.A X.xe use Qf (.ref DD) C (.ok .next) s') :
    wpAny (model X.prog X.w) X.A (comprehension (.ListComp elt gens scope pos) scope X.env (firstIterPos gens pos) (newList []) (firstAsync gens) (firstIter gens X.env) use) Qf X.xe s := by
  cases g with
  | mk hgens hp ok hs hs1 ht hi hr hvs hown hgen =>
    rename_i t0 i0 ifs0 gs own tg itd ifsD rest vs vr
    have e1 : firstAsync gens = false := by rw [hgens]; rfl
    have e2 : firstIter gens X.env = eval i0 X.env := by rw [hgens]; rfl
    rw [e1, e2]
    rw [hgen] at e
    exact comp_core (A := accL) (ho0 := fun _ => .lst []) hc hN I hgens rfl (fun DD env => ⟨_, .l _ _ _ _⟩) hp ok hs hs1 ht hi hr hvs hown newL (objL X.prog X.w) (fun G D => ⟨[], rfl, .nil⟩) st tb e hf
      fun DD C s' m G' H' ho' I' n x h1 h2 ⟨vs', hv, rs⟩ q f => by
        subst hv
        exact hRR DD C s' m G' H' vs' I' n x h1 h2 rs q f
/-- [..] as a value -/
theorem f_lc {elt : Expr} {pos : Pos} {gen : Tau → Option (List D)} (hc : X.calm = true) (hN : X.N.Nodup) (g : GenOk X cs accL (.ListComp elt gens scope pos) gens scope gen) :
    PE X (.ListComp elt gens scope pos) (tF (kw X) cs fun τ => (gen τ).bind (ckD .lst)) := by
  refine ⟨fun pins s σ H Q I ⟨G, τ, r, st, tb, e, q⟩ => ?_⟩
  obtain ⟨ds, e1, e2⟩ := Option.bind_eq_some_iff.mp e
  have e2' : (if ds.length ≤ lim then some (PyData.list ds) else none) = some r := e2
  by_cases hl : ds.length ≤ lim
  · rw [if_pos hl] at e2'
    cases e2'
    rw [eval_ListComp]
    refine lc_run hc hN g I st tb e1 hl fun DD C s' m G' H' vs I' n x h1 h2 rs hn f => ⟨m, hn, fun h'' sb => ?_⟩
    obtain ⟨f0, f1, f2, f3, f4, f5⟩ := f
    exact ⟨.ref DD, H', I'.turned (t' := s'.toks) (fun b o hb e => (sb.2 b hb).trans e) f0 f1 f3 f4 f5, rfl, q _ G' H' x (.new n h1 h2 rs)⟩
  · rw [if_neg hl] at e2'; cases e2'
/-! ### statements -/
def OwnNew (H0 : Hp) (σ : St) (τ : Tau) : Prop := ∀ a, Ow σ τ a → H0 a = none
def tS (K : Fz) (cs : List (Addr × Addr)) (G0 H0 : Hp) (ex : Tau → Option Out) : TS := fun D σ H => ∃ G τ o, StR K G H σ τ ∧ TabOk cs G H ∧ Ext G0 H0 G H ∧ OwnNew H0 σ τ ∧ ex τ = some o ∧
  match o with
  | .nx τ' => ∀ σ' G' H', StR K G' H' σ' τ' → TabOk cs G' H' → Ext G0 H0 G' H' → OwnNew H0 σ' τ' → D.nx σ' H'
  | .rt d => ∀ v G' H', RD K G' v d → Ext G0 H0 G' H' → D.rt v H'
  | .bk τ' => ∀ σ' G' H', StR K G' H' σ' τ' → TabOk cs G' H' → Ext G0 H0 G' H' → OwnNew H0 σ' τ' → D.bk σ' H'
  | .ct τ' => ∀ σ' G' H', StR K G' H' σ' τ' → TabOk cs G' H' → Ext G0 H0 G' H' → OwnNew H0 σ' τ' → D.ct σ' H'
def SS (X : Cx) (cs : List (Addr × Addr)) (e : Stmt) (ex : Tau → Option Out) : Prop := ∀ G0 H0, PS X e (tS (kw X) cs G0 H0 ex)
def SSs (X : Cx) (cs : List (Addr × Addr)) (e : List Stmt) (ex : Tau → Option Out) : Prop := ∀ G0 H0, PSs X e (tS (kw X) cs G0 H0 ex)
theorem ss_nil : SSs X cs [] (fun τ => some (.nx τ)) := fun G0 H0 => pss_imp pss_nil fun D σ H ⟨G, τ, o, st, tb, x, on, e, q⟩ => by
  cases e
  exact q σ G H st tb x on
theorem ss_cons {s : Stmt} {r : List Stmt} {f g : Tau → Option Out} (h1 : SS X cs s f) (h2 : SSs X cs r g) : SSs X cs (s :: r) (fun τ => seqO (f τ) g) := fun G0 H0 => pss_imp (pss_cons (h1 G0 H0) (h2 G0 H0)) fun D σ H ⟨G, τ, o, st, tb, x, on, e, q⟩ => by
  have e : seqO (f τ) g = some o := e
  cases hf : f τ with
  | none => rw [hf] at e; cases e
  | some o1 =>
    rw [hf] at e
    refine ⟨G, τ, o1, st, tb, x, on, hf, ?_⟩
    cases o1 with
    | nx τ1 => exact fun σ' G' H' st' tb' x' on' => ⟨G', τ1, o, st', tb', x', on', e, q⟩
    | rt d => cases e; exact q
    | bk τ1 => cases e; exact q
    | ct τ1 => cases e; exact q
theorem ow_set_fz {i : Nat} {v : V} {d : D} {a : Addr} (h : Ow (σ.set i (some v)) (τ.set i (.fz d)) a) : Ow σ τ a := by
  obtain ⟨j, s, e, o, h⟩ := h
  rw [List.getElem?_set] at e h
  by_cases q : i = j
  · rw [if_pos q] at e
    split at e
    · cases e; cases o
    · cases e
  · rw [if_neg q] at e h
    exact ⟨j, s, e, o, h⟩
theorem OwnNew.setZ {i : Nat} {v : V} {d : D} {H0 : Hp} (h : OwnNew H0 σ τ) : OwnNew H0 (σ.set i (some v)) (τ.set i (.fz d)) := fun a o => h a (ow_set_fz o)
/-- a new object that a name alone comes to hold -/
theorem StR.setO (s : StR K G H σ τ) {i : Nat} {a : Addr} {o : HO} {t : Slot} (ha : H a = some o) (ga : G a = none) (ok : OwnOk K G t a o) (hn : ∀ b, Ow σ τ b → b ≠ a) : StR K G H (σ.set i (some (.ref a))) (τ.set i t) where
  inn := s.inn
  len := by rw [List.length_set, List.length_set]; exact s.len
  fz := fun j x e => by
    rw [List.getElem?_set] at e ⊢
    by_cases q : i = j
    · rw [if_pos q] at e
      split at e
      · cases e; cases ok
      · cases e
    · rw [if_neg q] at e ⊢; exact s.fz j x e
  fk := fun j x e => by
    rw [List.getElem?_set] at e ⊢
    by_cases q : i = j
    · rw [if_pos q] at e
      split at e
      · cases e; cases ok
      · cases e
    · rw [if_neg q] at e ⊢; exact s.fk j x e
  ow := fun j u e hu => by
    rw [List.getElem?_set] at e ⊢
    by_cases q : i = j
    · rw [if_pos q] at e ⊢
      rw [s.len]
      split at e
      · cases e; rename_i hl; rw [if_pos hl]; exact ⟨a, o, rfl, ha, ga, ok⟩
      · cases e
    · rw [if_neg q] at e ⊢; exact s.ow j u e hu
  sep := fun j k t1 t2 b e1 o1 e2 o2 h1 h2 => by
    rw [List.getElem?_set] at e1 h1 e2 h2
    by_cases q : i = j
    · by_cases p : i = k
      · exact q.symm.trans p
      · rw [if_neg p] at e2 h2
        rw [if_pos q] at h1
        split at h1
        · cases h1
          exact absurd rfl (hn _ ⟨k, t2, e2, o2, h2⟩)
        · cases h1
    · by_cases p : i = k
      · rw [if_neg q] at e1 h1
        rw [if_pos p] at h2
        split at h2
        · cases h2
          exact absurd rfl (hn _ ⟨j, t1, e1, o1, h1⟩)
        · cases h2
      · rw [if_neg q] at e1 h1
        rw [if_neg p] at e2 h2
        exact s.sep j k t1 t2 b e1 o1 e2 o2 h1 h2
theorem ow_setO {i : Nat} {a b : Addr} {t : Slot} (h : Ow (σ.set i (some (.ref a))) (τ.set i t) b) : b = a ∨ Ow σ τ b := by
  obtain ⟨j, s, e, o, h⟩ := h
  rw [List.getElem?_set] at e h
  by_cases q : i = j
  · rw [if_pos q] at h
    split at h
    · cases h; exact .inl rfl
    · cases h
  · rw [if_neg q] at e h
    exact .inr ⟨j, s, e, o, h⟩
theorem ow_in (st : StR K G H σ τ) {a : Addr} (h : Ow σ τ a) : ∃ o, H a = some o ∧ G a = none := by
  obtain ⟨i, s, e, o, h⟩ := h
  obtain ⟨a', ob, h1, h2, h3, _⟩ := st.ow i s e o
  rw [h] at h1
  cases h1
  exact ⟨ob, h2, h3⟩
/-- a value just made stored in a name: kept by it alone if so marked -/
theorem set_fr {G0 H0 : Hp} {i : Nat} {own : Bool} {v : V} {r : D} (st : StR K G H σ τ) (tb : TabOk cs G H) (x0 : Ext G0 H0 G H) (on : OwnNew H0 σ τ) (x : Ext G H G' H') (f : FrR K H G' H' v r) :
    ∃ G2, StR K G2 H' (σ.set i (some v)) (τ.set i (mkSlot own r)) ∧ TabOk cs G2 H' ∧ Ext G0 H0 G2 H' ∧ OwnNew H0 (σ.set i (some v)) (τ.set i (mkSlot own r)) := by
  cases f with
  | std rd nl =>
    have e : mkSlot own r = .fz r := by
      cases own with
      | false => cases r <;> rfl
      | true => cases r <;> first | rfl | exact absurd rfl (nl _)
    rw [e]
    exact ⟨G', (st.ext x).setZ rd, tb.ext x, x0.trans x, on.setZ⟩
  | @new a vs xs h1 h2 h3 h4 =>
    have n0 : H0 a = none := ext_none x0 h1
    cases own with
    | true =>
      have hn : ∀ b, Ow σ τ b → b ≠ a := fun b ob => by
        obtain ⟨o, e, _⟩ := ow_in st ob
        exact ne_of_none e h1
      refine ⟨G', (st.ext x).setO h2 h3 (.ol h4) hn, tb.ext x, x0.trans x, fun b ob => ?_⟩
      rcases ow_setO ob with rfl | ob
      · exact n0
      · exact on b ob
    | false =>
      have x2 := x.keep h2 h1 h3
      have m : ∀ b o, G' b = some o → upd G' a (.lst vs) b = some o := fun b o e => by rw [upd_ne (ne_of_none e h3)]; exact e
      exact ⟨_, (st.ext x2).setZ (.lst (.inl upd_same) (RDs.mono m h4)), (tb.ext x).keep h2 (fun ps z => by cases z), x0.trans x2, on.setZ⟩
theorem ss_set {i : Nat} {y : Str} {py pos : Pos} {e : Expr} {own : Bool} {f : Tau → Option D} (hN : X.N.Nodup) (ok : NmOk X i y) (he : PE X e (tF (kw X) cs f)) (hs : swapsWith e (some (.Name y py)) pos.line X.env = pure false) :
    SS X cs (.Assign [.Name y py] e pos) (fun τ => (f τ).map fun d => .nx (τ.set i (mkSlot own d))) := fun G0 H0 => ps_imp (ps_set hN ok.ix ok.loc he hs ok.fn) fun D σ H ⟨G, τ, o, st, tb, x, on, e, q⟩ => by
  obtain ⟨d, e1, rfl⟩ := Option.map_eq_some_iff.mp e
  refine ⟨G, τ, d, st, tb, e1, fun v G' H' x' fr => ?_⟩
  obtain ⟨G2, h1, h2, h3, h4⟩ := set_fr st tb x on x' fr
  exact q _ G2 H' h1 h2 h3 h4
theorem ss_setP {i : Nat} {y : Str} {py pos : Pos} {e : Expr} {f : Tau → Option D} (hN : X.N.Nodup) (ok : NmOk X i y) (he : PE X e (tP (kw X) cs f)) (hs : swapsWith e (some (.Name y py)) pos.line X.env = pure false) :
    SS X cs (.Assign [.Name y py] e pos) (fun τ => (f τ).map fun d => .nx (τ.set i (.fz d))) := fun G0 H0 => ps_imp (ps_set hN ok.ix ok.loc he hs ok.fn) fun D σ H ⟨G, τ, o, st, tb, x, on, e, q⟩ => by
  obtain ⟨d, e1, rfl⟩ := Option.map_eq_some_iff.mp e
  exact ⟨G, τ, d, st, tb, e1, fun v G' H' x' rd => q _ G' H' ((st.ext x').setZ rd) (tb.ext x') (x.trans x') on.setZ⟩
theorem ss_setLc {i : Nat} {y : Str} {py pos spos : Pos} {elt : Expr} {own : Bool} {gen : Tau → Option (List D)} (hc : X.calm = true) (hN : X.N.Nodup) (ok : NmOk X i y) (hyl : X.env.scope.names.lookup y = some .local)
    (hsw : swapsWith (.ListComp elt gens scope pos) (some (.Name y py)) spos.line X.env = pure true) (g : GenOk X cs accL (.ListComp elt gens scope pos) gens scope gen) :
    SS X cs (.Assign [.Name y py] (.ListComp elt gens scope pos) spos) (fun τ => ((gen τ).bind (ckD .lst)).map fun d => .nx (τ.set i (mkSlot own d))) := fun G0 H0 => by
  refine ⟨fun pins s σ H D I ⟨G, τ, o, st, tb, x, on, e, q⟩ => ?_⟩
  obtain ⟨r, e3, rfl⟩ := Option.map_eq_some_iff.mp e
  obtain ⟨ds, e1, e2⟩ := Option.bind_eq_some_iff.mp e3
  have e2' : (if ds.length ≤ lim then some (PyData.list ds) else none) = some r := e2
  by_cases hl : ds.length ≤ lim
  · rw [if_pos hl] at e2'
    cases e2'
    rw [exec_Assign_Name_used _ _ _ _ hsw]
    refine wpAny_bind (wpAny_standAt (wpAny_bind ?_))
    show wpAny _ X.A (do let _ ← comprehension (.ListComp elt gens scope pos) scope X.env (firstIterPos gens pos) (newList []) (firstAsync gens) (firstIter gens X.env) (some (assign (.Name y py) X.env))) _ _ s
    refine wpAny_bind (thn (lc_run (Qf := fun _ s' => SP X pins D .next s') hc hN g I st tb e1 hl fun L C s' m G' H' vs I' n x' h1 h2 rs hn f => ?_) fun _ s' hq => wpAny_pure (wpAny_pure hq))
    show wpAny _ _ (assign (.Name y py) X.env (.ref L)) _ _ _
    refine wpAny_assign_Name (store_ok2 (v := V.ref L) I' hN ok.ix (.inl hyl) rfl (fun s2 I2 ⟨a, sb, ha⟩ => ?_) (.inr hyl))
    obtain ⟨f0, f1, f2, f3, f4, f5⟩ := f
    have haC : C ≠ a := by
      rcases ha with z | z
      · rw [z]; exact f1
      · exact fun e => f4 y a z e.symm
    refine ⟨m, hn.sameBut sb haC, fun h3 sb3 => ?_⟩
    obtain ⟨G2, k1, k2, k3, k4⟩ := set_fr (i := i) (own := own) st tb x on x' (.new n h1 h2 rs)
    exact ⟨_, H', I2.turned (t' := s2.toks) (fun b o hb e => (sb3.2 b hb).trans e) f0 f1 f3 f4 f5, q _ G2 H' k1 k2 k3 k4⟩
  · rw [if_neg hl] at e2'; cases e2'
end
end Fw
end
section
set_option Elab.async false
set_option linter.all false
set_option maxRecDepth 100000
set_option maxHeartbeats 4000000
namespace Fw
open PySem PySem.Spec L2
section
variable {X : Cx} {cs : List (Addr × Addr)} {K : Fz} {G H G' H' : Hp} {σ : St} {τ : Tau} {pos : Pos} {e : Expr}
theorem ss_pass : SS X cs (.Pass pos) (fun τ => some (.nx τ)) := fun G0 H0 => ps_imp ps_pass fun D σ H ⟨G, τ, o, st, tb, x, on, e, q⟩ => by
  cases e; exact q σ G H st tb x on
theorem ss_brk : SS X cs (.Break pos) (fun τ => some (.bk τ)) := fun G0 H0 => ps_imp ps_break fun D σ H ⟨G, τ, o, st, tb, x, on, e, q⟩ => by
  cases e; exact q σ G H st tb x on
theorem ss_cnt : SS X cs (.Continue pos) (fun τ => some (.ct τ)) := fun G0 H0 => ps_imp ps_continue fun D σ H ⟨G, τ, o, st, tb, x, on, e, q⟩ => by
  cases e; exact q σ G H st tb x on
theorem ss_never {s : Stmt} : SS X cs s (fun _ => none) := fun G0 H0 => ps_imp ps_never fun D σ H ⟨G, τ, o, st, tb, x, on, e, q⟩ => by cases e
theorem ss_retN : SS X cs (.Return none pos) (fun _ => some (.rt .none)) := fun G0 H0 => ps_imp ps_retN fun D σ H ⟨G, τ, o, st, tb, x, on, e, q⟩ => by
  cases e; exact q .non G H .non x
theorem ss_doc {x : Str} {j : Nat} {pos' : Pos} : SS X cs (.Expr (.Constant (.str x) j pos) pos') (fun τ => some (.nx τ)) := fun G0 H0 => ps_imp ps_doc fun D σ H ⟨G, τ, o, st, tb, x, on, e, q⟩ => by
  cases e; exact q σ G H st tb x on
theorem ss_ret {f : Tau → Option D} (he : PE X e (tP (kw X) cs f)) : SS X cs (.Return (some e) pos) (fun τ => (f τ).map .rt) := fun G0 H0 => ps_imp (ps_ret he) fun D σ H ⟨G, τ, o, st, tb, x, on, e, q⟩ => by
  obtain ⟨d, e1, rfl⟩ := Option.map_eq_some_iff.mp e
  exact ⟨G, τ, d, st, tb, e1, fun v G' H' x' rd => q v G' H' rd (x.trans x')⟩
theorem ss_ex {f : Tau → Option D} (he : PE X e (tP (kw X) cs f)) (hs : swapsWith e none pos.line X.env = pure false) : SS X cs (.Expr e pos) (fun τ => (f τ).map fun _ => .nx τ) := fun G0 H0 => ps_imp (ps_expr he hs) fun D σ H ⟨G, τ, o, st, tb, x, on, e, q⟩ => by
  obtain ⟨d, e1, rfl⟩ := Option.map_eq_some_iff.mp e
  exact ⟨G, τ, d, st, tb, e1, fun v G' H' x' rd => q σ G' H' (st.ext x') (tb.ext x') (x.trans x') on⟩
theorem ss_ife {c : Expr} {a b : List Stmt} {t : Tau → Option Bool} {f g : Tau → Option Out} (hc : PT X c (tT (kw X) cs t)) (ha : SSs X cs a f) (hb : SSs X cs b g) : SS X cs (.If c a b pos) (fun τ => (t τ).bind fun k => if k then f τ else g τ) := fun G0 H0 =>
  ps_imp (ps_if hc (ha G0 H0) (hb G0 H0)) fun D σ H ⟨G, τ, o, st, tb, x, on, e, q⟩ => by
    obtain ⟨k, e1, e2⟩ := Option.bind_eq_some_iff.mp e
    refine ⟨G, τ, k, st, tb, e1, fun G' H' x' => ?_⟩
    cases k with
    | true => exact ⟨G', τ, o, st.ext x', tb.ext x', x.trans x', on, e2, q⟩
    | false => exact ⟨G', τ, o, st.ext x', tb.ext x', x.trans x', on, e2, q⟩
/-- a ghost step: a list that a name alone held is to stand for ever -/
theorem ss_frz {i : Nat} {r : List Stmt} {g : Tau → Option Out} (h : SSs X cs r g) : SSs X cs r (fun τ => g (match τ[i]? with | some s => τ.set i (freeze s) | none => τ)) := fun G0 H0 => pss_imp (h G0 H0) fun D σ H ⟨G, τ, o, st, tb, x, on, e, q⟩ => by
  cases hi : τ[i]? with
  | none =>
    simp only [hi] at e
    exact ⟨G, τ, o, st, tb, x, on, e, q⟩
  | some s =>
    simp only [hi] at e
    have same : τ.set i s = τ := by
      apply List.ext_getElem?
      intro j
      rw [List.getElem?_set]
      by_cases q : i = j
      · subst q
        rw [if_pos rfl]
        obtain ⟨h1, h2⟩ := List.getElem?_eq_some_iff.mp hi
        rw [if_pos h1, hi]
      · rw [if_neg q]
    cases s with
    | ol xs =>
      obtain ⟨a, ob, h1, h2, h3, h4⟩ := st.ow i _ hi rfl
      cases h4 with
      | @ol _ vs _ rs =>
        have n0 : H0 a = none := on a ⟨i, _, hi, rfl, h1⟩
        have m : ∀ b o, G b = some o → upd G a (.lst vs) b = some o := fun b o e => by rw [upd_ne (ne_of_none e h3)]; exact e
        have x2 := x.keep h2 n0 h3
        have hset : σ.set i (some (.ref a)) = σ := by
          apply List.ext_getElem?
          intro j
          rw [List.getElem?_set]
          by_cases q : i = j
          · subst q
            rw [if_pos rfl]
            obtain ⟨k1, k2⟩ := List.getElem?_eq_some_iff.mp h1
            rw [if_pos k1, h1]
          · rw [if_neg q]
        have st2 : StR (kw X) (upd G a (.lst vs)) H σ (τ.set i (.fz (.list xs))) := by
          refine ⟨x2.inn, by rw [List.length_set]; exact st.len, fun j d e => ?_, fun j d e => ?_, fun j t e ho => ?_, fun j k t u b e1 o1 e2 o2 k1 k2 => ?_⟩
          · rw [List.getElem?_set] at e
            by_cases q : i = j
            · rw [if_pos q] at e
              split at e
              · cases e
                subst q
                exact ⟨_, h1, .lst (.inl upd_same) (RDs.mono m rs)⟩
              · cases e
            · rw [if_neg q] at e
              obtain ⟨v, k1, k2⟩ := st.fz j d e
              exact ⟨v, k1, RD.mono m k2⟩
          · rw [List.getElem?_set] at e
            by_cases q : i = j
            · rw [if_pos q] at e; split at e <;> cases e
            · rw [if_neg q] at e
              obtain ⟨v, k1, k2⟩ := st.fk j d e
              exact ⟨v, k1, l2_mono m k2⟩
          · rw [List.getElem?_set] at e
            by_cases q : i = j
            · rw [if_pos q] at e
              split at e
              · cases e; cases ho
              · cases e
            · rw [if_neg q] at e
              obtain ⟨b, ob, k1, k2, k3, k4⟩ := st.ow j t e ho
              have hba : b ≠ a := fun z => by
                subst z
                exact q (st.sep i j _ t b hi rfl e ho h1 k1)
              exact ⟨b, ob, k1, k2, by rw [upd_ne hba]; exact k3, k4.mono m⟩
          · rw [List.getElem?_set] at e1 e2
            by_cases q : i = j
            · rw [if_pos q] at e1
              split at e1
              · cases e1; cases o1
              · cases e1
            · by_cases p : i = k
              · rw [if_pos p] at e2
                split at e2
                · cases e2; cases o2
                · cases e2
              · rw [if_neg q] at e1
                rw [if_neg p] at e2
                exact st.sep j k t u b e1 o1 e2 o2 k1 k2
        refine ⟨_, _, o, st2, tb.keep h2 (fun ps z => by cases z), x2, fun b ob => ?_, e, q⟩
        obtain ⟨j, t, e', o', k⟩ := ob
        rw [List.getElem?_set] at e'
        by_cases q : i = j
        · rw [if_pos q] at e'
          split at e'
          · cases e'; cases o'
          · cases e'
        · rw [if_neg q] at e'
          exact on b ⟨j, t, e', o', k⟩
    | _ =>
      dsimp only [freeze] at e
      rw [same] at e
      exact ⟨G, τ, o, st, tb, x, on, e, q⟩
/-- a, b, .. = a tuple -/
theorem ss_asg {is : List Nat} {t : Expr} {f : Tau → Option D} (hc : X.calm = true) (hN : X.N.Nodup) (ht : TgE X t (.t is)) (he : PE X e (tB (kw X) cs f)) (hs : swapsWithSole [t] e pos.line X.env = pure false) (hw : swappedStores [t] e X.env = pure none)
    (h1 : (assignEach [t] X.env).map (·.2) = [assign t X.env]) : SS X cs (.Assign [t] e pos) (fun τ => (f τ).bind fun d => (bindTg (.t is) d τ).map .nx) := fun G0 H0 => ps_imp (ps_asg he (pg_tg hc hN ht) hs hw h1) fun D σ H ⟨G, τ, o, st, tb, x, on, e, q⟩ => by
  obtain ⟨d, e1, e2⟩ := Option.bind_eq_some_iff.mp e
  obtain ⟨τ', e3, rfl⟩ := Option.map_eq_some_iff.mp e2
  refine ⟨G, τ, d, st, tb, e1, fun v G' H' x' b => ?_⟩
  have rd : RD (kw X) G' v d := by
    cases d with
    | tuple ds => exact (b.tuple x'.inn).elim fun a ⟨vs, h⟩ => h.2.2.2
    | _ => cases e3
  refine ⟨G', H', τ, d, τ', st.ext x', rd, x'.inn, e3, fun σ' st' hl hw' => q σ' G' H' st' (tb.ext x') (x.trans x') fun a ob => ?_⟩
  -- what a name alone holds is as before
  obtain ⟨j, s, k1, k2, k3⟩ := ob
  cases d with
  | tuple ds =>
    have e3' : (if is.length = ds.length then some ((is.zip ds).foldl (fun τ p => τ.set p.1 (.fz p.2)) τ) else none) = some τ' := e3
    by_cases hl2 : is.length = ds.length
    · rw [if_pos hl2] at e3'
      cases e3'
      have gen : ∀ (l : List (Nat × PyData)) (τ : Tau), (l.foldl (fun τ p => τ.set p.1 (.fz p.2)) τ)[j]? = some s → τ[j]? = some s ∨ ∃ d, s = .fz d := by
        intro l
        induction l with
        | nil => intro τ h; exact .inl h
        | cons p l ih =>
          intro τ h
          rcases ih (τ.set p.1 (.fz p.2)) h with h | h
          · rw [List.getElem?_set] at h
            by_cases q : p.1 = j
            · rw [if_pos q] at h
              split at h
              · cases h; exact .inr ⟨_, rfl⟩
              · cases h
            · rw [if_neg q] at h; exact .inl h
          · exact .inr h
      rcases gen _ _ k1 with h | ⟨d, h⟩
      · obtain ⟨a', ob, m1, m2, _⟩ := st.ow j s h k2
        by_cases hj : j ∈ is
        · -- written over: then the slot is no longer its
          exfalso
          have gen2 : ∀ (is : List Nat) (ds : List PyData) (τ : Tau), is.length = ds.length → j ∈ is → ∀ s, ((is.zip ds).foldl (fun τ p => τ.set p.1 (.fz p.2)) τ)[j]? = some s → ∃ d, s = .fz d := by
            intro is
            induction is with
            | nil => intro ds τ _ h; cases h
            | cons i is ih =>
              intro ds τ hl h s hs
              cases ds with
              | nil => cases hl
              | cons d ds =>
                by_cases hm : j ∈ is
                · exact ih ds (τ.set i (.fz d)) (by simpa using hl) hm s hs
                · rcases List.mem_cons.mp h with rfl | h
                  · have gen3 : ∀ (l : List (Nat × PyData)) (τ : Tau), (∀ p ∈ l, p.1 ≠ j) → (l.foldl (fun τ p => τ.set p.1 (.fz p.2)) τ)[j]? = τ[j]? := by
                      intro l
                      induction l with
                      | nil => intro τ _; rfl
                      | cons p l ih2 =>
                        intro τ hp
                        have : (List.foldl (fun τ p => τ.set p.1 (Slot.fz p.2)) (τ.set p.1 (.fz p.2)) l)[j]? = (τ.set p.1 (.fz p.2))[j]? := ih2 _ fun q hq => hp q (List.mem_cons_of_mem _ hq)
                        rw [List.foldl_cons, this, List.getElem?_set, if_neg (hp p List.mem_cons_self)]
                    have h3 : (List.foldl (fun τ p => τ.set p.1 (Slot.fz p.2)) (τ.set j (.fz d)) (is.zip ds))[j]? = some s := hs
                    rw [gen3 _ _ (fun p hp => fun e => hm (by rw [← e]; exact (List.of_mem_zip hp).1)), List.getElem?_set, if_pos rfl] at h3
                    split at h3
                    · cases h3; exact ⟨_, rfl⟩
                    · cases h3
                  · exact absurd h hm
          obtain ⟨d, hd⟩ := gen2 is ds τ hl2 hj s k1
          subst hd
          cases k2
        · have hw2 := hw' is fun i hi => hi
          have : σ'[j]? = σ[j]? := by
            have e5 : (wipe σ' is)[j]? = (wipe σ is)[j]? := by rw [hw2]
            rw [wipe_out hj, wipe_out hj] at e5
            exact e5
          rw [this] at k3
          exact on a ⟨j, s, h, k2, k3⟩
      · subst h; cases k2
    · rw [if_neg hl2] at e3'; cases e3'
  | _ => cases e3
/-- a, b = x, y -/
theorem ss_par {i j : Nat} {x y : Str} {a b : Expr} {f g : Tau → Option D} {px py pt : Pos} {kt k2 : Nat} {pt2 : Pos} (hc : X.calm = true) (hN : X.N.Nodup) (hi : NmOk X i x) (hj : NmOk X j y) (hij : i ≠ j)
    (hx : X.env.scope.names.lookup x = some .local) (hy : X.env.scope.names.lookup y = some .local) (ha : PE X a (tP (kw X) cs f)) (hb : PE X b (tP (kw X) cs g)) (pa : Plain a) (pb : Plain b)
    (hw : swappedStores [.Tuple [.Name x px, .Name y py] kt pt] (.Tuple [a, b] k2 pt2) X.env = pure (some [x, y]))
    (hs : swapsWithSole [.Tuple [.Name x px, .Name y py] kt pt] (.Tuple [a, b] k2 pt2) pos.line X.env = pure false) :
    SS X cs (.Assign [.Tuple [.Name x px, .Name y py] kt pt] (.Tuple [a, b] k2 pt2) pos) (fun τ => (f τ).bind fun x => (g τ).map fun y => .nx ((τ.set i (.fz x)).set j (.fz y))) := fun G0 H0 =>
  ps_imp (ps_par hc hN hi.ix hj.ix hij hx hy (pa_cons ha (pa_cons hb pa_nil (pb _ _)) (pa _ _)) hw hs) fun D σ H ⟨G, τ, o, st, tb, x, on, e, q⟩ => by
    obtain ⟨d1, e1, e2⟩ := Option.bind_eq_some_iff.mp e
    obtain ⟨d2, e3, rfl⟩ := Option.map_eq_some_iff.mp e2
    refine ⟨G, τ, d1, st, tb, e1, fun v G1 H1 x1 r1 => ⟨G1, τ, d2, st.ext x1, tb.ext x1, e3, fun u G2 H2 x2 r2 => ⟨v, u, rfl, ?_⟩⟩⟩
    exact q _ G2 H2 ((((st.ext x1).ext x2).setZ (RD.mono x2.sub r1)).setZ r2) ((tb.ext x1).ext x2) ((x.trans x1).trans x2) on.setZ.setZ
/-- a name += an int -/
theorem ss_aug {i : Nat} {y : Str} {py : Pos} {f : Tau → Option D} (hN : X.N.Nodup) (ok : NmOk X i y) (he : PE X e (tP (kw X) cs f)) : SS X cs (.AugAssign (.Name y py) .Add e pos) (fun τ => (f τ).bind fun d => match τ[i]?, d with
    | some (.fz (.int a)), .int b => some (.nx (τ.set i (.fz (.int (a + b)))))
    | _, _ => none) := fun G0 H0 => ps_imp (ps_aug hN ok.ix ok.loc he ip_add ok.fn) fun D σ H ⟨G, τ, o, st, tb, x, on, e, q⟩ => by
  obtain ⟨d, e1, e2⟩ := Option.bind_eq_some_iff.mp e
  split at e2
  · rename_i a b ht
    cases e2
    obtain ⟨v, h1, h2⟩ := st.fz i _ ht
    cases h2
    refine ⟨_, h1, G, τ, _, st, tb, e1, fun v G' H' x' rd => ?_⟩
    cases rd
    exact ⟨a, b, rfl, rfl, q _ G' H' ((st.ext x').setZ (.int _)) (tb.ext x') (x.trans x') on.setZ⟩
  · cases e2
end
end Fw
end
section
set_option Elab.async false
set_option linter.all false
set_option maxRecDepth 100000
set_option maxHeartbeats 4000000
namespace Fw
open PySem PySem.Spec L2
/-! what a name alone holds is changed -/
section
variable {X : Cx} {cs : List (Addr × Addr)} {K : Fz} {G H G' H' G0 H0 : Hp} {σ : St} {τ : Tau} {a : Addr}
theorem Ext.poke {o : HO} (x : Ext G0 H0 G H) (n : H0 a = none) (g : G a = none) : Ext G0 H0 G (upd H a o) where
  same := fun b u e => by rw [upd_ne (ne_of_none e n)]; exact x.same b u e
  sub := x.sub
  inn := fun b u e => by rw [upd_ne (ne_of_none e g)]; exact x.inn b u e
  new := x.new
theorem TabOk.poke {o u : HO} (t : TabOk cs G H) (h : H a = some u) (n : ∀ ps, u ≠ .tbl ps) : TabOk cs G (upd H a o) := fun p hp => by
  obtain ⟨⟨ps, e, r⟩, g⟩ := t p hp
  refine ⟨⟨ps, ?_, r⟩, g⟩
  rw [upd_ne]
  · exact e
  · rintro rfl
    rw [h] at e
    cases e
    exact n _ rfl
theorem StR.mut (s : StR K G H σ τ) {i : Nat} {t t' : Slot} {o o' : HO} (hi : τ[i]? = some t) (ho : t.own = true) (ha : σ[i]? = some (some (.ref a))) (hg : G a = none) (ok : OwnOk K G t' a o') : StR K G (upd H a o') σ (τ.set i t') where
  inn := fun b u e => by rw [upd_ne (ne_of_none e hg)]; exact s.inn b u e
  len := by rw [List.length_set]; exact s.len
  fz := fun j x e => by
    rw [List.getElem?_set] at e
    by_cases q : i = j
    · rw [if_pos q] at e
      split at e
      · cases e; cases ok
      · cases e
    · rw [if_neg q] at e; exact s.fz j x e
  fk := fun j x e => by
    rw [List.getElem?_set] at e
    by_cases q : i = j
    · rw [if_pos q] at e
      split at e
      · cases e; cases ok
      · cases e
    · rw [if_neg q] at e; exact s.fk j x e
  ow := fun j u e hu => by
    rw [List.getElem?_set] at e
    by_cases q : i = j
    · rw [if_pos q] at e
      split at e
      · cases e
        subst q
        exact ⟨a, o', ha, upd_same, hg, ok⟩
      · cases e
    · rw [if_neg q] at e
      obtain ⟨b, ob, h1, h2, h3, h4⟩ := s.ow j u e hu
      have hb : b ≠ a := fun z => by
        subst z
        exact q (s.sep i j t u b hi ho e hu ha h1)
      exact ⟨b, ob, h1, by rw [upd_ne hb]; exact h2, h3, h4⟩
  sep := fun j k u1 u2 b e1 o1 e2 o2 h1 h2 => by
    have old : ∀ (j : Nat) (u : Slot), (τ.set i t')[j]? = some u → u.own = true → ∃ w, τ[j]? = some w ∧ w.own = true := by
      intro j u e hu
      rw [List.getElem?_set] at e
      by_cases q : i = j
      · subst q; exact ⟨t, hi, ho⟩
      · rw [if_neg q] at e; exact ⟨u, e, hu⟩
    obtain ⟨w1, e1, o1⟩ := old j u1 e1 o1
    obtain ⟨w2, e2, o2⟩ := old k u2 e2 o2
    exact s.sep j k w1 w2 b e1 o1 e2 o2 h1 h2
theorem ow_mut {i : Nat} {t t' : Slot} {b : Addr} (hi : τ[i]? = some t) (ho : t.own = true) (h : Ow σ (τ.set i t') b) : Ow σ τ b := by
  obtain ⟨j, u, e, hu, h⟩ := h
  rw [List.getElem?_set] at e
  by_cases q : i = j
  · subst q; exact ⟨i, t, hi, ho, h⟩
  · rw [if_neg q] at e; exact ⟨j, u, e, hu, h⟩
/-- a name's object by values -/
theorem pe_own {i : Nat} {x : Str} {pos : Pos} (hN : X.N[i]? = some x) (hv : Vis X.env.scope x) (hd : (x == ("__debug__" : Str)) = false) (hcd : (x == ("__classdict__" : Str)) = false) : PE X (.Name x pos) (tVar i) := pe_var hN hv hd hcd
/-! ### append -/
theorem ss_app {i : Nat} {y : Str} {py apos cpos pos : Pos} {e : Expr} {f : Tau → Option D} (ok : X.N[i]? = some y) (hv : Vis X.env.scope y) (hd : (y == ("__debug__" : Str)) = false) (hcd : (y == ("__classdict__" : Str)) = false)
    (he : PE X e (tP (kw X) cs f)) (hp : Plain e) (hb : attributeBase (.Name y py) "append" X.env (eval (.Name y py) X.env) = eval (.Name y py) X.env)
    (hline : (apos.endLine == cpos.line) = true) : SS X cs (.Expr (.Call (.Attribute (.Name y py) "append" apos) [e] [] cpos) pos) (fun τ => (f τ).bind fun d => match τ[i]? with
    | some (.ol xs) => if xs.length < lim then some (.nx (τ.set i (.ol (xs ++ [d])))) else none
    | _ => none) := fun G0 H0 => by
  have hfew : ((backTo cpos (starEach [e] X.env)).all (fun x => !x.1) && (backToKw cpos (keywordEach [] X.env)).all (fun x => x.1.isSome)
      && decide (([e] : List Expr).length + ([] : List Keyword).length + (if ([] : List Keyword).isEmpty then 0 else 1) < 30)) = true := by rw [hp]; rfl
  have hcall : PE X (.Call (.Attribute (.Name y py) "append" apos) [e] [] cpos) (tMD X "append" (tVar i) (tCons (tP (kw X) cs f) tNil)) := pe_mD (pe_own ok hv hd hcd) (pa_cons he pa_nil (hp _ _)) hb hfew hline (hp _ _) rfl
  refine ps_imp (ps_expr hcall (by rfl)) fun D σ H ⟨G, τ, o, st, tb, x, on, e, q⟩ => ?_
  obtain ⟨d, e1, e2⟩ := Option.bind_eq_some_iff.mp e
  split at e2
  · rename_i xs ht
    by_cases hl : xs.length < lim
    · rw [if_pos hl] at e2
      cases e2
      obtain ⟨a, ob, h1, h2, h3, h4⟩ := st.ow i _ ht rfl
      cases h4 with
      | @ol _ vs _ rs =>
        refine ⟨_, h1, "list", "list.append", rAppend, PySem.F.plainAttrs_list, PySem.F.slot_list_append, PySem.F.type_list_append, mt_append, tyz_list (.inl h2), G, τ, d, st, tb, e1, fun v G' H' x' rd => ?_⟩
        have h2' : H' a = some (.lst vs) := (x'.same _ _ h2).of fun ps z => by cases z
        have h3' := x'.new _ _ h2 h3
        have n0 : H0 a = none := on a ⟨i, _, ht, rfl, h1⟩
        refine ⟨a, vs, v, rfl, rfl, h2', by rw [RDs.length rs, lim_eq]; exact hl, ?_⟩
        exact q σ G' _ ((st.ext x').mut (o := .lst vs) ht rfl h1 h3' (.ol (RDs.append (RDs.mono x'.sub rs) (RDs.one rd)))) ((tb.ext x').poke h2' fun ps z => by cases z) ((x.trans x').poke n0 h3') fun b ob => on b (ow_mut ht rfl ob)
    · rw [if_neg hl] at e2; cases e2
  · cases e2
/-! ### a[k] = v -/
section
variable {pins : List (Addr × Obj)} {s : Shared} {x y : V} {u r : Value} {k d : D} {es : List (D × D)} {tk : Bool} {ho : HO} {A : Around} {E : Value → Shared → Prop} {Q : Unit → Shared → Prop}
theorem kput_len (k v : D) (es : List (D × D)) : (kput k v es).length ≤ es.length + 1 := by
  unfold kput
  split
  · rw [List.length_map]; omega
  · rw [List.length_append]; simp
/-- what a dict's object is after a step that puts u, r in it -/
theorem put_after (I : Inv X pins σ H s) (i : Inn G H) (hD : H a = some ho) (ok : OwnOk (kw X) G (.od tk es) a ho) (rk : RelV x u) (hk : RD (kw X) G x k) (kok : keyOk tk k = true) (rv : RelV y r) (hv : RD (kw X) G y d) (len : es.length < lim)
    {act : Sem Unit}
    (hK : ∀ (c : Key) (vs : List (Key × Value)), (mixKind X.prog X.w).is c u = true → s.heap.DictOf (mixKind X.prog X.w) a vs → vs.length ≤ sizeLine →
      (∀ h' tk, h'.DictOf (mixKind X.prog X.w) a (stored vs c r) → Heap.SameBut a s.heap h' → Q () { s with heap := h', toks := tk }) → wpAny (model X.prog X.w) A act Q E s)
    (hT : ∀ (c : List Key) (b : Addr) (xs : List TkE), u = .ref b → (tupleKind (mixKind X.prog X.w)).is s.heap c b → s.heap.DictOfH (tupleKind (mixKind X.prog X.w)) a xs → xs.length ≤ sizeLine →
      (∀ h' tk, h'.DictOfH (tupleKind (mixKind X.prog X.w)) a (storedH xs c b r) → Heap.SameBut a s.heap h' → Q () { s with heap := h', toks := tk }) → wpAny (model X.prog X.w) A act Q E s)
    (h : ∀ ho' s', Inv X pins σ (upd H a ho') s' → OwnOk (kw X) G (.od tk (kput k d es)) a ho' → Q () s') : wpAny (model X.prog X.w) A act Q E s := by
  have hz := lim_eq
  cases ok with
  | @odK _ kvs _ p =>
    obtain ⟨c, rfl⟩ := keyF_of kok
    rw [RD.key hk] at rk
    obtain ⟨z, hd, vs, rel, dd⟩ := dk_of I.hok hD
    have hl : kvs.length = es.length := Paired.length p
    refine hK c vs (kV_is rk) dd (by rw [← rel.length]; exact z) fun h' t dd' hs => h (.dK (putK kvs c y)) _ ?_ (.odK (kput_of key_eqv c hv p))
    have he : ∃ q, h'.get? a = some q := let ⟨q, _, _, hq, _⟩ := dd'; ⟨q, hq⟩
    have hl2 : (putK kvs c y).length ≤ sizeLine := by have := length_putK kvs c y; omega
    exact d_write I (by rw [hD]; exact True.intro) hs he (dk_new hl2 hd (rel.put c rv) dd')
  | @odT _ xs _ p =>
    obtain ⟨c, rfl⟩ := keyT_of kok
    obtain ⟨b, rfl, ht⟩ := RD.tkey hk
    cases (show u = Value.ref b from rk)
    obtain ⟨z, hd, dd⟩ := dtz_of I i hD p
    have hl : xs.length = es.length := Paired.length p
    have hp2 := kputT rv hv ht p
    refine hT c b xs rfl (key_ofZ I.hok (ht.mono i)) dd hd fun h' t dd' hs => h (DTO (kw X) a (storedH xs c b r)) _ ?_ (.odT hp2)
    have he : ∃ q, h'.get? a = some q := let ⟨q, _, _, hq, _⟩ := dd'; ⟨q, hq⟩
    have hl2 : (storedH xs c b r).length ≤ sizeLine := by
      have h1 : (storedH xs c b r).length = (kput (tkeyD c) d es).length := Paired.length hp2
      have h2 := kput_len (tkeyD c) d es
      omega
    exact d_write I (by rw [hD]; exact True.intro) hs he (dtz_new z hl2 dd')
theorem z_set (hu : A.units + 1 < cLine) (I : Inv X pins σ H s) (i : Inn G H) (hD : H a = some ho) (ok : OwnOk (kw X) G (.od tk es) a ho) (rk : RelV x u) (hk : RD (kw X) G x k) (kok : keyOk tk k = true) (rv : RelV y r) (hv : RD (kw X) G y d) (len : es.length < lim)
    (h : ∀ ho' s', Inv X pins σ (upd H a ho') s' → OwnOk (kw X) G (.od tk (kput k d es)) a ho' → Q () s') : wpAny (model X.prog X.w) A (setItem (.ref a) u r) Q E s :=
  put_after I i hD ok rk hk kok rv hv len (fun c vs h1 dd hz q => wpAny_setItem_pairs (hsz := hz) h1 dd fun h' d1 d2 => q h' _ d1 d2)
    (fun c b xs e h1 dd hz q => by subst e; exact wpAny_setItem_heap (hsz := hz) (tupleKind_room_in1 hu) h1 dd fun h' d1 d2 => q h' _ d1 d2) h
theorem z_dset (hu : A.units < cLine) (I : Inv X pins σ H s) (i : Inn G H) (hD : H a = some ho) (ok : OwnOk (kw X) G (.od tk es) a ho) (rk : RelV x u) (hk : RD (kw X) G x k) (kok : keyOk tk k = true) (rv : RelV y r) (hv : RD (kw X) G y d) (len : es.length < lim)
    (h : ∀ ho' s', Inv X pins σ (upd H a ho') s' → OwnOk (kw X) G (.od tk (kput k d es)) a ho' → Q () s') : wpAny (model X.prog X.w) A (dictSet a u r) Q E s :=
  put_after I i hD ok rk hk kok rv hv len (fun c vs h1 dd hz q => wpAny_dictSet_pairs (hsz := hz) h1 dd fun h' d1 d2 => q h' _ d1 d2)
    (fun c b xs e h1 dd hz q => by subst e; exact wpAny_dictSet_heap (hsz := hz) hu h1 dd fun h' d1 d2 => q h' _ d1 d2) h
end
def rPut (X : Cx) : TSet := fun o iv v H Q => rSetL o iv v H Q ∨ ∃ (a : Addr) (G : Hp) (ho : HO) (tk : Bool) (es : List (D × D)) (k d : D), o = .ref a ∧ Inn G H ∧ H a = some ho ∧ OwnOk (kw X) G (.od tk es) a ho ∧ RD (kw X) G iv k ∧ keyOk tk k = true ∧ RD (kw X) G v d ∧ es.length < lim ∧
  ∀ ho', OwnOk (kw X) G (.od tk (kput k d es)) a ho' → Q (upd H a ho')
theorem pset_all (hu : X.A.units + 1 < cLine) : PSet X (rPut X) := by
  intro pins s σ H o i v ov iv u Q I ro ri rv h
  rcases h with h | ⟨a, G, ho, tk, es, k, d, rfl, inn, hD, ok, hk, kok, hv, len, q⟩
  · exact set_list pins s σ H o i v ov iv u Q I ro ri rv h
  · cases (show ov = Value.ref a from ro)
    exact z_set hu I inn hD ok ri hk kok rv hv len fun ho' s' I' ok' => ⟨_, I', q ho' ok'⟩
theorem ss_put {i : Nat} {y : Str} {py pos pos' : Pos} {ek ev : Expr} {fk fv : Tau → Option D} (hu : X.A.units + 1 < cLine) (ok : X.N[i]? = some y) (hv : Vis X.env.scope y) (hd : (y == ("__debug__" : Str)) = false) (hcd : (y == ("__classdict__" : Str)) = false)
    (hek : PE X ek (tP (kw X) cs fk)) (hev : PE X ev (tP (kw X) cs fv))
    (ha : ∀ v, assign (.Subscript (.Name y py) ek pos') X.env v = (do
      let ov ← holding [v] (eval (.Name y py) X.env)
      let iv ← holding [v, ov] (eval ek X.env)
      standAt pos'
      holding [v, ov, iv] (setItem ov iv v)
      release [v, ov, iv] []))
    (hs : swapsWithSole [.Subscript (.Name y py) ek pos'] ev pos.line X.env = pure false) (hw : swappedStores [.Subscript (.Name y py) ek pos'] ev X.env = pure none)
    (h1 : (assignEach [.Subscript (.Name y py) ek pos'] X.env).map (·.2) = [assign (.Subscript (.Name y py) ek pos') X.env]) :
    SS X cs (.Assign [.Subscript (.Name y py) ek pos'] ev pos) (fun τ => (fv τ).bind fun d => (fk τ).bind fun kd => match τ[i]? with
    | some (.ol xs) => (match kd with
      | .int j => (ixOf xs.length j).map fun n => .nx (τ.set i (.ol (xs.set n d)))
      | _ => none)
    | some (.od tk kvs) => if keyOk tk kd && decide (kvs.length < lim) then some (.nx (τ.set i (.od tk (kput kd d kvs)))) else none
    | _ => none) := fun G0 H0 => by
  refine ps_imp (ps_asg hev (pg_sub (pe_own ok hv hd hcd) hek (pset_all hu) ha) hs hw h1) fun D σ H ⟨G, τ, o, st, tb, x, on, e, q⟩ => ?_
  obtain ⟨d, e1, e⟩ := Option.bind_eq_some_iff.mp e
  obtain ⟨kd, e2, e3⟩ := Option.bind_eq_some_iff.mp e
  refine ⟨G, τ, d, st, tb, e1, fun v G1 H1 x1 rd1 => ?_⟩
  split at e3
  · rename_i xs ht
    obtain ⟨a, ob, k1, k2, k3, k4⟩ := (st.ext x1).ow i _ ht rfl
    refine ⟨_, k1, G1, τ, kd, st.ext x1, tb.ext x1, e2, fun w G2 H2 x2 rd2 => ?_⟩
    split at e3
    · rename_i j
      obtain ⟨n, hn, rfl⟩ := Option.map_eq_some_iff.mp e3
      cases k4 with
      | @ol _ vs _ rs =>
        cases rd2
        have k2' : H2 a = some (.lst vs) := (x2.same _ _ k2).of fun ps z => by cases z
        have k3' := x2.new _ _ k2 k3
        have n0 : H0 a = none := on a ⟨i, _, ht, rfl, k1⟩
        refine .inl ⟨a, vs, j, n, rfl, rfl, k2', by rw [RDs.length rs]; exact hn, ?_⟩
        exact q σ G2 _ (((st.ext x1).ext x2).mut (o := .lst vs) ht rfl k1 k3' (.ol (RDs.set n (RDs.mono x2.sub rs) (RD.mono x2.sub rd1)))) (((tb.ext x1).ext x2).poke k2' fun ps z => by cases z) (((x.trans x1).trans x2).poke n0 k3') fun b ob => on b (ow_mut ht rfl ob)
    · cases e3
  · rename_i tk kvs ht
    obtain ⟨a, ob, k1, k2, k3, k4⟩ := (st.ext x1).ow i _ ht rfl
    refine ⟨_, k1, G1, τ, kd, st.ext x1, tb.ext x1, e2, fun w G2 H2 x2 rd2 => ?_⟩
    by_cases hc : (keyOk tk kd && decide (kvs.length < lim)) = true
    · rw [if_pos hc] at e3
      cases e3
      simp only [Bool.and_eq_true, decide_eq_true_eq] at hc
      have nt := k4.ntbl
      have k2' : H2 a = some ob := (x2.same _ _ k2).of nt
      have k3' := x2.new _ _ k2 k3
      have n0 : H0 a = none := on a ⟨i, _, ht, rfl, k1⟩
      refine .inr ⟨a, G2, ob, tk, kvs, kd, d, rfl, x2.inn, k2', k4.mono x2.sub, rd2, hc.1, RD.mono x2.sub rd1, hc.2, fun ho' ok' => ?_⟩
      exact q σ G2 _ (((st.ext x1).ext x2).mut (o := ob) ht rfl k1 k3' ok') (((tb.ext x1).ext x2).poke k2' nt) (((x.trans x1).trans x2).poke n0 k3') fun b ob => on b (ow_mut ht rfl ob)
    · rw [if_neg hc] at e3; cases e3
  · cases e3
end
end Fw
end
section
set_option Elab.async false
set_option linter.all false
set_option maxRecDepth 100000
set_option maxHeartbeats 800000
namespace Fw
open PySem PySem.Spec L2
/-! a dict display kept by a name; loops -/
section
variable {X : Cx} {cs : List (Addr × Addr)} {K : Fz} {G H G' H' G0 H0 : Hp} {σ : St} {τ : Tau} {DD : Addr} {pos : Pos} {tk : Bool}
inductive PairsV (K : Fz) (G : Hp) : List (V × V) → List D → List D → Prop
  | nil : PairsV K G [] [] []
  | cons {x y : V} {us : List (V × V)} {k d : D} {ks ds : List D} : RD K G x k → RD K G y d → PairsV K G us ks ds → PairsV K G ((x, y) :: us) (k :: ks) (d :: ds)
theorem PairsV.mono (h : ∀ a o, G a = some o → G' a = some o) : ∀ {us : List (V × V)} {ks ds : List D}, PairsV K G us ks ds → PairsV K G' us ks ds
  | _, _, _, .nil => .nil
  | _, _, _, .cons c d r => .cons (RD.mono h c) (RD.mono h d) (PairsV.mono h r)
def trsOf (K : Fz) (cs : List (Addr × Addr)) : List Dn → List Dn → List (TE × TE)
  | k :: ks, v :: vs => (tP K cs k.val, tP K cs v.val) :: trsOf K cs ks vs
  | _, _ => []
theorem pps_all : ∀ {ks vs : List Expr} {kd vd : List Dn}, SDs X cs ks kd → SDs X cs vs vd → ks.length = vs.length → PPs X pos (ks.map some) vs (trsOf (kw X) cs kd vd)
  | _, _, _, _, .nil, .nil, _ => pps_nil
  | _, _, _, _, .cons hk rk, .cons hv rv, hl => pps_cons hk.val hv.val (pps_all rk rv (by simpa using hl))
  | _, _, _, _, .nil, .cons _ _, hl => by cases hl
  | _, _, _, _, .cons _ _, .nil, hl => by cases hl
theorem valsL_cons {d : Dn} {r : List Dn} {xs : List D} (e : valsL (d :: r) τ = some xs) : ∃ x ys, d.val τ = some x ∧ valsL r τ = some ys ∧ xs = x :: ys := by
  obtain ⟨k, a1, e1⟩ := Option.bind_eq_some_iff.mp (show (d.val τ).bind (fun x => (valsL r τ).map (x :: ·)) = some xs from e)
  obtain ⟨kr, a2, rfl⟩ := Option.map_eq_some_iff.mp e1
  exact ⟨k, kr, a1, a2, rfl⟩
theorem pairs_read : ∀ (kd vd : List Dn) (kl vl : List D) (H G : Hp) (Q : List (V × V) → Hp → Prop), StR K G H σ τ → TabOk cs G H → valsL kd τ = some kl → valsL vd τ = some vl → kd.length = vd.length →
    (∀ ps G' H', Ext G H G' H' → PairsV K G' ps kl vl → Q ps H') → tPairs (trsOf K cs kd vd) σ H Q
  | [], [], kl, vl, H, G, Q, st, tb, e1, e2, hl, q => by
    cases e1; cases e2
    exact q [] G H (Ext.refl st.inn) .nil
  | dk :: kd, dv :: vd, kl, vl, H, G, Q, st, tb, e1, e2, hl, q => by
    obtain ⟨k, kr, a1, a2, rfl⟩ := valsL_cons e1
    obtain ⟨v, vr, b1, b2, rfl⟩ := valsL_cons e2
    refine ⟨G, τ, k, st, tb, a1, fun x G1 H1 x1 d1 => ⟨G1, τ, v, st.ext x1, tb.ext x1, b1, fun y G2 H2 x2 d2 => ?_⟩⟩
    refine pairs_read kd vd kr vr H2 G2 _ ((st.ext x1).ext x2) ((tb.ext x1).ext x2) a2 b2 (by simpa using hl) fun ps G3 H3 x3 pr => ?_
    exact q _ G3 H3 ((x1.trans x2).trans x3) (.cons (RD.mono x3.sub (RD.mono x2.sub d1)) (RD.mono x3.sub d2) pr)
  | [], _ :: _, _, _, _, _, _, _, _, _, _, hl, _ => by cases hl
  | _ :: _, [], _, _, _, _, _, _, _, _, _, hl, _ => by cases hl
theorem upd_self {o : HO} (h : H DD = some o) : upd H DD o = H := by
  funext b
  unfold upd
  split
  · rename_i e; rw [e, h]
  · rfl
theorem store_pairs (hu : X.A.units < cLine) (gD : G DD = none) {pins : List (Addr × Obj)} {E : Value → Shared → Prop} : ∀ (ps : List (V × V)) (us : List (Value × Value)) (kl vl : List D), PairsV (kw X) G ps kl vl → VV ps us → ∀ (s : Shared) (H : Hp) (es : List (D × D)) (ho : HO) (Q : PUnit → Shared → Prop), Inv X pins σ H s → Inn G H → H DD = some ho →
    OwnOk (kw X) G (.od tk es) DD ho → kl.all (keyOk tk) = true → es.length + kl.length ≤ lim →
    (∀ ho' s', Inv X pins σ (upd H DD ho') s' → OwnOk (kw X) G (.od tk ((kl.zip vl).foldl (fun m p => kput p.1 p.2 m) es)) DD ho' → Q PUnit.unit s') →
    wpAny (model X.prog X.w) X.A (forIn us PUnit.unit fun (x : Value × Value) (_ : PUnit) => (do dictSet DD x.1 x.2; pure (ForInStep.yield PUnit.unit) : Sem (ForInStep PUnit))) Q E s := by
  intro ps
  induction ps with
  | nil =>
    intro us kl vl pr vv s H es ho Q I i hD ok hk hl q
    cases pr
    cases vv
    rw [List.forIn_nil]
    exact wpAny_pure (q ho s (by rw [upd_self hD]; exact I) ok)
  | cons p ps ih =>
    intro us kl vl pr vv s H es ho Q I i hD ok hk hl q
    obtain ⟨x, y⟩ := p
    cases pr with
    | @cons _ _ _ k d kr vr d1 d2 pr =>
      cases vv with
      | @cons _ u _ us rr vv =>
        obtain ⟨r1, r2⟩ := rr
        rw [List.all_cons, Bool.and_eq_true] at hk
        rw [List.length_cons] at hl
        rw [List.forIn_cons]
        refine wpAny_bind (wpAny_bind (z_dset hu I i hD ok r1 d1 hk.1 r2 d2 (by omega) fun ho1 s1 I1 ok1 => wpAny_pure ?_))
        refine ih us kr vr pr vv s1 _ _ ho1 Q I1 (fun b o e => by rw [upd_ne (ne_of_none e gD)]; exact i b o e) upd_same ok1 hk.2 (by have := kput_len k d es; omega) fun ho' s' I' ok' => q ho' s' (by rw [upd_upd] at I'; exact I') ok'
def tND (K : Fz) (cs : List (Addr × Addr)) (tk : Bool) (ks vs : Tau → Option (List D)) : TE := fun σ H Q => ∃ G τ kl vl, StR K G H σ τ ∧ TabOk cs G H ∧ ks τ = some kl ∧ vs τ = some vl ∧ kl.all (keyOk tk) = true ∧ kl.length ≤ 15 ∧
  ∀ DD ho G' H', Ext G H G' H' → H DD = none → H' DD = some ho → G' DD = none → OwnOk K G' (.od tk ((kl.zip vl).foldl (fun m p => kput p.1 p.2 m) [])) DD ho → Q (.ref DD) H'
theorem valsL_len : ∀ {ds : List Dn} {τ : Tau} {xs : List D}, valsL ds τ = some xs → xs.length = ds.length
  | [], _, _, e => by cases e; rfl
  | d :: ds, τ, xs, e => by
    obtain ⟨k, a1, e1⟩ := Option.bind_eq_some_iff.mp (show (d.val τ).bind (fun x => (valsL ds τ).map (x :: ·)) = some xs from e)
    obtain ⟨kr, a2, rfl⟩ := Option.map_eq_some_iff.mp e1
    rw [List.length_cons, List.length_cons, valsL_len a2]
theorem SDs.length : ∀ {es : List Expr} {ds : List Dn}, SDs X cs es ds → es.length = ds.length
  | _, _, .nil => rfl
  | _, _, .cons _ r => by rw [List.length_cons, List.length_cons, SDs.length r]
theorem pe_nd (hu : X.A.units < cLine) {ks vs : List Expr} {kd vd : List Dn} (hk : SDs X cs ks kd) (hv : SDs X cs vs vd) (hl : ks.length = vs.length) : PE X (.Dict (ks.map some) vs pos) (tND (kw X) cs tk (valsL kd) (valsL vd)) := by
  refine ⟨fun pins s σ H Q I ⟨G, τ, kl, vl, st, tb, e1, e2, ak, h15, q⟩ => ?_⟩
  have hn : H s.heap.objs.size = none := I.hok.fresh (Nat.le_refl _)
  have gn : G s.heap.objs.size = none := by
    cases e : G s.heap.objs.size with
    | none => rfl
    | some o => rw [st.inn _ o e] at hn; cases hn
  have hz : (s.heap.objs.size == sysModules) = false := beq_eq_false_iff_ne.mpr (Ne.symm (Nat.ne_of_lt I.big))
  obtain ⟨ho0, I1, ok0⟩ : ∃ ho0, Inv X pins σ (upd H s.heap.objs.size ho0) { s with heap := s.heap.push { cls := .type "dict", data := .dict #[] } } ∧ OwnOk (kw X) G (.od tk []) s.heap.objs.size ho0 := by
    cases tk with
    | false => exact ⟨.dK [], I.laid (t' := s.toks) (fun _ _ q => Heap.get?_push_of_some _ q) (Nat.le_refl _) (dk_empty s.heap I.big), .odK .nil⟩
    | true => exact ⟨DTO (kw X) s.heap.objs.size [], I.laid (t' := s.toks) (fun _ _ q => Heap.get?_push_of_some _ q) (Nat.le_refl _) (dtz_new hz (Nat.zero_le _) (Heap.DictOfH.new _)), .odT .nil⟩
  have h15l : (15 : Nat) ≤ lim := by decide
  have x0 : Ext G H G (upd H s.heap.objs.size ho0) := Ext.lay st.inn hn
  by_cases h0 : ks = []
  · subst h0
    cases hk
    cases hv with
    | nil =>
      cases e1; cases e2
      exact wpAny_Dict_empty ⟨.ref _, _, I1, rfl, q _ ho0 G _ x0 hn upd_same gn ok0⟩
    | cons _ _ => cases hl
  · have hall : (ks.map some).all (·.isSome) = true := by simp
    have hll : (ks.map some).length = vs.length := by rw [List.length_map]; exact hl
    have hkl : kl.length = ks.length := by rw [valsL_len e1, SDs.length hk]
    have hn2 := pairTrees_length (ks.map some) vs X.env pos hall hll
    rw [List.length_map] at hn2
    rw [arm_eval_Dict, zip_pairTrees (ks.map some) vs X.env pos hall hll, dictDisplay_pairs _ (fun e => h0 (by rw [e] at hn2; exact List.length_eq_zero_iff.mp hn2.symm)) (by omega)]
    refine wpAny_bind (wpAny_standAt (wpAny_bind ?_))
    unfold subDict
    refine wpAny_bind (wpAny_alloc ?_)
    refine wpAny_bind (wpAny_holding ?_)
    rw [if_pos (by omega)]
    have hlk : kd.length = vd.length := by rw [← SDs.length hk, ← SDs.length hv]; exact hl
    refine wpAny_bind (thn ((pps_all (pos := pos) hk hv hl).run pins _ σ _ (fun ps H2 => ∃ G2, Ext G (upd H s.heap.objs.size ho0) G2 H2 ∧ PairsV (kw X) G2 ps kl vl) I1 (pairs_read kd vd kl vl _ G _ (st.ext x0) (tb.ext x0) e1 e2 hlk fun ps G2 H2 x2 pr => ⟨G2, x2, pr⟩)) fun us s2 ⟨ps, H2, I2, vv, G2, x2, pr⟩ => ?_)
    have nt := ok0.ntbl
    have hD2 : H2 s.heap.objs.size = some ho0 := (x2.same _ _ upd_same).of nt
    have gD2 := x2.new _ _ upd_same gn
    refine wpAny_holding (wpAny_bind (store_pairs hu gD2 ps us kl vl pr vv s2 H2 [] ho0 _ I2 x2.inn hD2 (ok0.mono x2.sub) ak (by rw [List.length_nil]; exact Nat.le_trans (by omega) h15l) fun ho' s' I' ok' => wpAny_pure (wpAny_pure (wpAny_pure ?_))))
    exact ⟨.ref _, _, I', rfl, q _ ho' G2 _ ((x0.trans x2).poke hn gD2) hn upd_same gD2 ok'⟩
theorem ss_newD {i : Nat} {y : Str} {py : Pos} {ks vs : List Expr} {kd vd : List Dn} {p2 : Pos} (hu : X.A.units < cLine) (hN : X.N.Nodup) (ok : NmOk X i y) (hk : SDs X cs ks kd) (hv : SDs X cs vs vd) (hl : ks.length = vs.length) :
    SS X cs (.Assign [.Name y py] (.Dict (ks.map some) vs p2) pos) (fun τ => (valsL kd τ).bind fun kl => (valsL vd τ).bind fun vl => if kl.all (keyOk tk) && decide (kl.length ≤ 15) then some (.nx (τ.set i (.od tk ((kl.zip vl).foldl (fun m p => kput p.1 p.2 m) [])))) else none) := fun G0 H0 => by
  refine ps_imp (ps_set hN ok.ix ok.loc (pe_nd (tk := tk) hu hk hv hl) (by rfl) ok.fn) fun D σ H ⟨G, τ, o, st, tb, x, on, e, q⟩ => ?_
  obtain ⟨kl, e1, e⟩ := Option.bind_eq_some_iff.mp e
  obtain ⟨vl, e2, e3⟩ := Option.bind_eq_some_iff.mp e
  by_cases hc : (kl.all (keyOk tk) && decide (kl.length ≤ 15)) = true
  · rw [if_pos hc] at e3
    cases e3
    simp only [Bool.and_eq_true, decide_eq_true_eq] at hc
    refine ⟨G, τ, kl, vl, st, tb, e1, e2, hc.1, hc.2, fun DD ho G' H' x' n1 h1 g1 ok1 => ?_⟩
    have hn : ∀ b, Ow σ τ b → b ≠ DD := fun b ob => by
      obtain ⟨o, e, _⟩ := ow_in st ob
      exact ne_of_none e n1
    refine q _ G' H' ((st.ext x').setO h1 g1 ok1 hn) (tb.ext x') (x.trans x') fun b ob => ?_
    rcases ow_setO ob with rfl | ob
    · exact ext_none x n1
    · exact on b ob
  · rw [if_neg hc] at e3; cases e3
/-! ### while -/
theorem ss_whl {c : Expr} {b : List Stmt} {t : Tau → Option Bool} {f : Tau → Option Out} {fuel : Nat} (hp : PassesOwn (model X.prog X.w) X.A X.env X.xe) (hc : PT X c (tT (kw X) cs t)) (hb : SSs X cs b f) : SS X cs (.While c b [] pos) (whlGo t f fuel) := fun G0 H0 => by
  refine ps_imp (ps_while hp hc (hb G0 H0)) fun D σ H ⟨G, τ, o, st, tb, x, on, e, q⟩ => ?_
  refine ⟨fun n σ H => ∃ G τ, StR (kw X) G H σ τ ∧ TabOk cs G H ∧ Ext G0 H0 G H ∧ OwnNew H0 σ τ ∧ whlGo t f n τ = some o, ⟨fuel, G, τ, st, tb, x, on, e⟩, ?_⟩
  rintro n σ H ⟨G, τ, st, tb, x, on, e⟩
  cases n with
  | zero => cases e
  | succ n =>
    obtain ⟨k, e1, e2⟩ := Option.bind_eq_some_iff.mp (show (t τ).bind (fun b => if b then (match f τ with
      | some (.nx τ') => whlGo t f n τ'
      | some (.ct τ') => whlGo t f n τ'
      | some (.bk τ') => some (.nx τ')
      | o => o) else some (.nx τ)) = some o from e)
    refine ⟨G, τ, k, st, tb, e1, fun G1 H1 x1 => ?_⟩
    cases k with
    | false =>
      rw [if_neg (by simp)] at e2 ⊢
      cases e2
      exact q σ G1 H1 (st.ext x1) (tb.ext x1) (x.trans x1) on
    | true =>
      rw [if_pos rfl] at e2 ⊢
      refine ⟨fun σ' H' => ∃ G τ, StR (kw X) G H' σ' τ ∧ TabOk cs G H' ∧ Ext G0 H0 G H' ∧ OwnNew H0 σ' τ ∧ whlGo t f n τ = some o, fun σ' H' h => ⟨n, Nat.lt_succ_self n, h⟩, ?_⟩
      cases hf : f τ with
      | none => rw [hf] at e2; cases e2
      | some o1 =>
        rw [hf] at e2
        refine ⟨G1, τ, o1, st.ext x1, tb.ext x1, x.trans x1, on, hf, ?_⟩
        cases o1 with
        | nx τ1 => exact fun σ' G' H' s' t' x' o' => ⟨G', τ1, s', t', x', o', e2⟩
        | ct τ1 => exact fun σ' G' H' s' t' x' o' => ⟨G', τ1, s', t', x', o', e2⟩
        | rt d => cases e2; exact q
        | bk τ1 => cases e2; exact q
/-! ### for -/
open Classical in
noncomputable def minO (H : Hp) (O : Addr → Prop) : Hp := fun a => if O a then none else H a
theorem minO_sub {O : Addr → Prop} {a : Addr} {o : HO} (h : minO H O a = some o) : H a = some o ∧ ¬ O a := by
  unfold minO at h
  split at h
  · cases h
  · exact ⟨h, by assumption⟩
theorem minO_no {O : Addr → Prop} {a : Addr} (h : ¬ O a) : minO H O a = H a := by
  unfold minO
  rw [if_neg h]
theorem minO_yes {O : Addr → Prop} {a : Addr} (h : O a) : minO H O a = none := by
  unfold minO
  rw [if_pos h]
theorem ext_min {O : Addr → Prop} (i : Inn G H) (hO : ∀ a, O a → G a = none) : Ext G (minO H O) G H where
  same := fun a o e => by rw [(minO_sub e).1]; exact Kp.refl o
  sub := fun _ _ e => e
  inn := i
  new := fun _ _ _ e => e
/-- .. and what then holds of the first -/
theorem ext_chain {G1 H1 : Hp} {O : Addr → Prop} (x : Ext G0 H0 G1 H1) (hO : ∀ a, O a → H0 a = none) (y : Ext G1 (minO H1 O) G' H') : Ext G0 H0 G' H' where
  same := fun a o e => by
    have no : ¬ O a := fun z => by rw [hO a z] at e; cases e
    have h1 := x.same a o e
    have key : ∀ u, H1 a = some u → Kp u (H' a) := fun u hu => y.same a u (by rw [minO_no no]; exact hu)
    cases o with
    | tbl ps =>
      obtain ⟨qs, e1, t⟩ := h1
      obtain ⟨rs, e2, t2⟩ := key _ e1
      exact ⟨rs, e2, fun z => t2 (t z)⟩
    | _ => exact key _ h1
  sub := fun a o e => y.sub a o (x.sub a o e)
  inn := y.inn
  new := fun a o e n => by
    have no : ¬ O a := fun z => by rw [hO a z] at e; cases e
    have h1 := x.same a o e
    have n1 := x.new a o e n
    have key : ∀ u, H1 a = some u → G' a = none := fun u hu => y.new a u (by rw [minO_no no]; exact hu) n1
    cases o with
    | tbl ps =>
      obtain ⟨qs, e1, _⟩ := h1
      exact key _ e1
    | _ => exact key _ h1
theorem own_chain {G1 H1 : Hp} {O : Addr → Prop} {σ' : St} {τ' : Tau} (x : Ext G0 H0 G1 H1) (hO : ∀ a, O a → H0 a = none) (h : OwnNew (minO H1 O) σ' τ') : OwnNew H0 σ' τ' := fun a ob => by
  have h1 := h a ob
  by_cases z : O a
  · exact hO a z
  · rw [minO_no z] at h1
    exact ext_none x h1
theorem foldl_in {j : Nat} : ∀ (is : List Nat) (ds : List PyData) (τ : Tau), is.length = ds.length → j ∈ is → ∀ s, ((is.zip ds).foldl (fun τ p => τ.set p.1 (.fz p.2)) τ)[j]? = some s → ∃ d, s = Slot.fz d := by
  have gen : ∀ (l : List (Nat × PyData)) (τ : Tau) (s : Slot), (l.foldl (fun τ p => τ.set p.1 (.fz p.2)) τ)[j]? = some s → τ[j]? = some s ∨ ∃ d, s = .fz d := by
    intro l
    induction l with
    | nil => intro τ s h; exact .inl h
    | cons p l ih =>
      intro τ s h
      rcases ih (τ.set p.1 (.fz p.2)) s h with h | h
      · rw [List.getElem?_set] at h
        by_cases q : p.1 = j
        · rw [if_pos q] at h
          split at h
          · cases h; exact .inr ⟨_, rfl⟩
          · cases h
        · rw [if_neg q] at h; exact .inl h
      · exact .inr h
  intro is
  induction is with
  | nil => intro ds τ _ h; cases h
  | cons i is ih =>
    intro ds τ hl h s hs
    cases ds with
    | nil => cases hl
    | cons d ds =>
      by_cases hm : j ∈ is
      · exact ih ds (τ.set i (.fz d)) (by simpa using hl) hm s hs
      · rcases List.mem_cons.mp h with rfl | h
        · rcases gen (is.zip ds) (τ.set j (.fz d)) s hs with h | h
          · rw [List.getElem?_set, if_pos rfl] at h
            split at h
            · cases h; exact ⟨_, rfl⟩
            · cases h
          · exact h
        · exact absurd h hm
theorem foldl_out {j : Nat} : ∀ (is : List Nat) (ds : List PyData) (τ : Tau), j ∉ is → ((is.zip ds).foldl (fun τ p => τ.set p.1 (.fz p.2)) τ)[j]? = τ[j]? := by
  intro is
  induction is with
  | nil => intro ds τ _; rfl
  | cons i is ih =>
    intro ds τ h
    cases ds with
    | nil => rfl
    | cons d ds =>
      simp only [List.mem_cons, not_or] at h
      have : ((is.zip ds).foldl (fun τ p => τ.set p.1 (Slot.fz p.2)) (τ.set i (.fz d)))[j]? = (τ.set i (.fz d))[j]? := ih ds _ h.2
      rw [List.zip_cons_cons, List.foldl_cons, this, List.getElem?_set, if_neg (fun e => h.1 e.symm)]
theorem bind_get {tg : Tg} {d : D} {τ' : Tau} (h : bindTg tg d τ = some τ') (j : Nat) : (j ∈ tg.own → ∀ s, τ'[j]? = some s → ∃ d, s = Slot.fz d) ∧ (j ∉ tg.own → τ'[j]? = τ[j]?) := by
  cases tg with
  | n i =>
    cases (show some (τ.set i (.fz d)) = some τ' from h)
    refine ⟨fun hj s hs => ?_, fun hj => ?_⟩
    · have : j = i := by simpa [Tg.own] using hj
      subst this
      rw [List.getElem?_set, if_pos rfl] at hs
      split at hs
      · cases hs; exact ⟨_, rfl⟩
      · cases hs
    · rw [List.getElem?_set, if_neg]
      intro e
      exact hj (by simp [Tg.own, e])
  | t is =>
    cases d with
    | tuple ds =>
      have e' : (if is.length = ds.length then some ((is.zip ds).foldl (fun τ p => τ.set p.1 (.fz p.2)) τ) else none) = some τ' := h
      by_cases hl : is.length = ds.length
      · rw [if_pos hl] at e'
        cases e'
        exact ⟨fun hj s hs => foldl_in is ds τ hl hj s hs, fun hj => foldl_out is ds τ hj⟩
      · rw [if_neg hl] at e'; cases e'
    | _ => cases h
theorem ow_bind {tg : Tg} {d : D} {τ' : Tau} {σ' : St} {a : Addr} (h : bindTg tg d τ = some τ') (hw : ∀ vs, (∀ i ∈ tg.own, i ∈ vs) → wipe σ' vs = wipe σ vs) (ob : Ow σ' τ' a) : Ow σ τ a := by
  obtain ⟨j, s, k1, k2, k3⟩ := ob
  obtain ⟨b1, b2⟩ := bind_get h j
  by_cases hj : j ∈ tg.own
  · obtain ⟨d, rfl⟩ := b1 hj s k1
    cases k2
  · rw [b2 hj] at k1
    have e5 : (wipe σ' tg.own)[j]? = (wipe σ tg.own)[j]? := by rw [hw _ fun i hi => hi]
    rw [wipe_out hj, wipe_out hj] at e5
    rw [e5] at k3
    exact ⟨j, s, k1, k2, k3⟩
theorem pss_any {b : List Stmt} {f : Tau → Option Out} (hb : SSs X cs b f) : PSs X b (fun D σ H => ∃ Gb Hb, tS (kw X) cs Gb Hb f D σ H) := ⟨fun pins s σ H D I ⟨Gb, Hb, h⟩ => (hb Gb Hb).run pins s σ H D I h⟩
theorem ss_for {tg : Tg} {t it : Expr} {b : List Stmt} {fi : Tau → Option D} {f : Tau → Option Out} (hp : PassesOwn (model X.prog X.w) X.A X.env X.xe) (hc : X.calm = true) (hN : X.N.Nodup) (ht : TgE X t tg)
    (hi : PI X t it (tI (kw X) cs (fun _ _ _ => False) fi)) (hb : SSs X cs b f) (hs : ∀ x, foldedSetIterable it X.env x = pure x) :
    SS X cs (.For t it b [] pos) (fun τ => (fi τ).bind fun x => (itemsD x).bind fun ds => forGo (fun d τ => (bindTg tg d τ).bind fun τ' => f τ') ds τ) := fun G0 H0 => by
  refine ps_imp (ps_for hp hc hi (pg_tg hc hN ht) (pss_any hb) hs) fun D σ H ⟨G, τ, o, st, tb, x, on, e, q⟩ => ?_
  obtain ⟨v, e1, e⟩ := Option.bind_eq_some_iff.mp e
  obtain ⟨ds, e2, e3⟩ := Option.bind_eq_some_iff.mp e
  refine ⟨G, τ, v, ds, st, tb, e1, e2, fun J G1 H1 x1 wk => ?_⟩
  have W := wk (fun G H => (∀ a o, G1 a = some o → G a = some o) ∧ Inn G H) fun G H p => ⟨p.1, p.2, fun a o z => z.elim⟩
  have st1 := st.ext x1
  have hO : ∀ a, Ow σ τ a → H0 a = none := on
  have x01 := x.trans x1
  refine ⟨fun i m σ' H' => ∃ G' τ', m = ds.length - i ∧ i ≤ ds.length ∧ StR (kw X) G' H' σ' τ' ∧ TabOk cs G' H' ∧ Ext G1 (minO H1 (Ow σ τ)) G' H' ∧ OwnNew (minO H1 (Ow σ τ)) σ' τ' ∧ forGo (fun d τ => (bindTg tg d τ).bind fun τ' => f τ') (ds.drop i) τ' = some o,
    ⟨ds.length, G1, τ, rfl, Nat.zero_le _, st1, tb.ext x1, ext_min x1.inn fun a oa => (ow_in st1 oa).elim fun _ h => h.2, fun a oa => minO_yes oa, e3⟩, ?_⟩
  rintro i m σ' H' ⟨G', τ', rfl, hi', st', tb', x', on', e'⟩
  by_cases hlt : i < ds.length
  · refine .inr ⟨W.go i G' H' hlt ⟨x'.sub, x'.inn⟩, fun σ2 H2 => ∃ G2 τ2, StR (kw X) G2 H2 σ2 τ2 ∧ TabOk cs G2 H2 ∧ Ext G1 (minO H1 (Ow σ τ)) G2 H2 ∧ OwnNew (minO H1 (Ow σ τ)) σ2 τ2 ∧ forGo (fun d τ => (bindTg tg d τ).bind fun τ' => f τ') (ds.drop (i + 1)) τ2 = some o,
      fun σ2 H2 ⟨G2, τ2, a1, a2, a3, a4, a5⟩ => ⟨ds.length - (i + 1), by omega, G2, τ2, rfl, hlt, a1, a2, a3, a4, a5⟩, fun y H2 hy => ?_⟩
    have hx : ds[i]? = some ds[i] := List.getElem?_eq_getElem hlt
    obtain ⟨G2, x2, rd⟩ := W.yl i ds[i] G' H' y H2 hx ⟨x'.sub, x'.inn⟩ hy
    rw [List.drop_eq_getElem_cons hlt] at e'
    cases hb' : bindTg tg ds[i] τ' with
    | none =>
      exfalso
      have e'' : (match (bindTg tg ds[i] τ').bind f with
        | some (.nx τ') => forGo (fun d τ => (bindTg tg d τ).bind fun τ' => f τ') (ds.drop (i + 1)) τ'
        | some (.ct τ') => forGo (fun d τ => (bindTg tg d τ).bind fun τ' => f τ') (ds.drop (i + 1)) τ'
        | some (.bk τ') => some (.nx τ')
        | o => o) = some o := e'
      rw [hb'] at e''
      cases e''
    | some τ3 =>
      have e'' : (match (bindTg tg ds[i] τ').bind f with
        | some (.nx τ') => forGo (fun d τ => (bindTg tg d τ).bind fun τ' => f τ') (ds.drop (i + 1)) τ'
        | some (.ct τ') => forGo (fun d τ => (bindTg tg d τ).bind fun τ' => f τ') (ds.drop (i + 1)) τ'
        | some (.bk τ') => some (.nx τ')
        | o => o) = some o := e'
      rw [hb'] at e''
      have e4 : (match f τ3 with
        | some (.nx τ') => forGo (fun d τ => (bindTg tg d τ).bind fun τ' => f τ') (ds.drop (i + 1)) τ'
        | some (.ct τ') => forGo (fun d τ => (bindTg tg d τ).bind fun τ' => f τ') (ds.drop (i + 1)) τ'
        | some (.bk τ') => some (.nx τ')
        | o => o) = some o := e''
      refine ⟨G2, H2, τ', ds[i], τ3, st'.ext x2, rd, x2.inn, hb', fun σ3 st3 hl3 hw3 => ?_⟩
      have on3 : OwnNew (minO H1 (Ow σ τ)) σ3 τ3 := fun a ob => on' a (ow_bind hb' hw3 ob)
      cases hf : f τ3 with
      | none => rw [hf] at e4; cases e4
      | some o1 =>
        rw [hf] at e4
        refine ⟨G1, minO H1 (Ow σ τ), G2, τ3, o1, st3, tb'.ext x2, x'.trans x2, on3, hf, ?_⟩
        cases o1 with
        | nx τ1 => exact fun σ4 G4 H4 s4 t4 x4 o4 => ⟨G4, τ1, s4, t4, x4, o4, e4⟩
        | ct τ1 => exact fun σ4 G4 H4 s4 t4 x4 o4 => ⟨G4, τ1, s4, t4, x4, o4, e4⟩
        | rt d => cases e4; exact fun v G4 H4 rd4 x4 => q v G4 H4 rd4 (ext_chain x01 hO x4)
        | bk τ1 => cases e4; exact fun σ4 G4 H4 s4 t4 x4 o4 => q σ4 G4 H4 s4 t4 (ext_chain x01 hO x4) (own_chain x01 hO o4)
  · have : i = ds.length := by omega
    subst this
    rw [List.drop_length] at e'
    cases e'
    exact .inl ⟨W.st G' H' ⟨x'.sub, x'.inn⟩, q σ' G' H' st' tb' (ext_chain x01 hO x') (own_chain x01 hO on')⟩
end
end Fw
end
section
set_option Elab.async false
set_option linter.all false
set_option maxRecDepth 100000
set_option maxHeartbeats 800000
namespace Fw
open PySem PySem.Spec L2
/-! ### calls of the text's own defs -/
section
variable {X : Cx} {cs : List (Addr × Addr)} {K : Fz} {G H G' H' G1 H1 : Hp} {O : Addr → Prop} {σ : St} {τ : Tau}
inductive ArgR (K : Fz) (G : Hp) : Bool → V → D → Prop
  | rd {v : V} {d : D} : RD K G v d → ArgR K G false v d
  | lk {v : V} {d : D} : L2.Dp K.K G v d → ArgR K G true v d
inductive ArgsR (K : Fz) (G : Hp) : List Bool → List V → List D → Prop
  | nil : ArgsR K G [] [] []
  | cons {k : Bool} {ks : List Bool} {v : V} {vs : List V} {d : D} {ds : List D} : ArgR K G k v d → ArgsR K G ks vs ds → ArgsR K G (k :: ks) (v :: vs) (d :: ds)
theorem ArgR.mono (h : ∀ a o, G a = some o → G' a = some o) {k : Bool} {v : V} {d : D} (a : ArgR K G k v d) : ArgR K G' k v d := by
  cases a with
  | rd r => exact .rd (RD.mono h r)
  | lk r => exact .lk (l2_mono h r)
theorem ArgsR.mono (h : ∀ a o, G a = some o → G' a = some o) : ∀ {ks : List Bool} {vs : List V} {ds : List D}, ArgsR K G ks vs ds → ArgsR K G' ks vs ds
  | _, _, _, .nil => .nil
  | _, _, _, .cons a r => .cons (a.mono h) (ArgsR.mono h r)
theorem ArgsR.len : ∀ {ks : List Bool} {vs : List V} {ds : List D}, ArgsR K G ks vs ds → vs.length = ks.length
  | _, _, _, .nil => rfl
  | _, _, _, .cons a r => by rw [List.length_cons, List.length_cons, ArgsR.len r]
/-- what a def promises -/
def spF (K : Fz) (cs : List (Addr × Addr)) (kf : List Bool) (F : List D → Option D) : Sp := fun vs H Q _ => ∃ G ds r, Inn G H ∧ ArgsR K G kf vs ds ∧ TabOk cs G H ∧ F ds = some r ∧ ∀ v G' H', Ext G H G' H' → RD K G' v r → Q v H'
/-- an argument as it comes: held by a name alone if so told -/
inductive ArgV (K : Fz) (G H : Hp) (O : Addr → Prop) (own : Bool) : Bool → V → D → Prop
  | rd {v : V} {d : D} : RD K G v d → ArgV K G H O own false v d
  | ow {v : V} {d : D} : own = true → DB K G H O v d → ArgV K G H O own false v d
  | lk {v : V} {d : D} : L2.Dp K.K G v d → ArgV K G H O own true v d
inductive ArgsV (K : Fz) (G H : Hp) (O : Addr → Prop) (own : Bool) : List Bool → List V → List D → Prop
  | nil : ArgsV K G H O own [] [] []
  | cons {k : Bool} {ks : List Bool} {v : V} {vs : List V} {d : D} {ds : List D} : ArgV K G H O own k v d → isDict d = false → ArgsV K G H O own ks vs ds → ArgsV K G H O own (k :: ks) (v :: vs) (d :: ds)
theorem ArgV.ext {own : Bool} {k : Bool} {v : V} {d : D} (a : ArgV K G H O own k v d) (x : Ext G H G' H') : ArgV K G' H' O own k v d := by
  cases a with
  | rd r => exact .rd (RD.mono x.sub r)
  | ow h b => exact .ow h (b.ext x)
  | lk r => exact .lk (l2_mono x.sub r)
theorem ArgV.up {own own' : Bool} (ho : own = true → own' = true) {k : Bool} {v : V} {d : D} (a : ArgV K G H O own k v d) : ArgV K G H O own' k v d := by
  cases a with
  | rd r => exact .rd r
  | ow h b => exact .ow (ho h) b
  | lk r => exact .lk r
theorem ArgsV.up {own own' : Bool} (ho : own = true → own' = true) : ∀ {ks : List Bool} {vs : List V} {ds : List D}, ArgsV K G H O own ks vs ds → ArgsV K G H O own' ks vs ds
  | _, _, _, .nil => .nil
  | _, _, _, .cons a n r => .cons (a.up ho) n (ArgsV.up ho r)
def tArgs (K : Fz) (cs : List (Addr × Addr)) (kf : List Bool) (ds : List Dn) : TA := fun σ H Q => ∃ G τ r, StR K G H σ τ ∧ TabOk cs G H ∧ argsL kf ds τ = some r ∧ ∀ vs G' H', Ext G H G' H' → ArgsV K G' H' (Ow σ τ) (ds.any (·.owns τ)) kf vs r → Q vs H'
theorem pe_argV {e : Expr} {d : Dn} (h : SD X cs e d) : PE X e (fun σ H Q => ∃ G τ r, StR (kw X) G H σ τ ∧ TabOk cs G H ∧ d.bor τ = some r ∧ ∀ v G' H', Ext G H G' H' → ArgV (kw X) G' H' (Ow σ τ) (d.owns τ) false v r → Q v H') := by
  refine ⟨fun pins s σ H Q I ⟨G, τ, r, st, tb, e, q⟩ => ?_⟩
  cases ho : d.owns τ with
  | true => exact h.bor.run pins s σ H Q I ⟨G, τ, r, st, tb, e, fun v G' H' x b => q v G' H' x (.ow ho b)⟩
  | false => exact h.val.run pins s σ H Q I ⟨G, τ, r, st, tb, h.own τ r ho e, fun v G' H' x b => q v G' H' x (.rd b)⟩
theorem pa_args : ∀ {kf : List Bool} {es : List Expr} {ds : List Dn}, SDs X cs es ds → kf.length = es.length → PA X es (tArgs (kw X) cs kf ds)
  | [], _, _, .nil, _ => pa_imp pa_nil fun σ H Q ⟨G, τ, r, st, tb, e, q⟩ => by
    cases e
    exact q [] G H (Ext.refl st.inn) .nil
  | k :: ks, _, _, .cons (d := d) (ds := dr) a r, hl => by
    have ih := pa_args (kf := ks) r (by simpa using hl)
    cases k with
    | false =>
      refine pa_imp (pa_cons (pe_argV a) ih (a.plain _ _)) fun σ H Q ⟨G, τ, rr, st, tb, e, q⟩ => ?_
      obtain ⟨x, e1, e⟩ := Option.bind_eq_some_iff.mp (show (d.bor τ).bind (fun x => if isDict x then none else (argsL ks dr τ).map (x :: ·)) = some rr from e)
      cases hd : isDict x with
      | true => rw [hd, if_pos rfl] at e; cases e
      | false =>
        rw [hd, if_neg (by simp)] at e
        obtain ⟨ys, e2, rfl⟩ := Option.map_eq_some_iff.mp e
        refine ⟨G, τ, x, st, tb, e1, fun v G1 H1 x1 h1 => ⟨G1, τ, ys, st.ext x1, tb.ext x1, e2, fun vs G2 H2 x2 h2 => q _ G2 H2 (x1.trans x2) (.cons ((h1.ext x2).up fun h => ?_) hd (h2.up fun h => ?_))⟩⟩
        · show (d.owns τ || _) = true; rw [h] <;> rfl
        · show (d.owns τ || dr.any (·.owns τ)) = true; rw [h, Bool.or_true]
    | true =>
      refine pa_imp (pa_cons a.lok ih (a.plain _ _)) fun σ H Q ⟨G, τ, rr, st, tb, e, q⟩ => ?_
      obtain ⟨x, e1, e⟩ := Option.bind_eq_some_iff.mp (show (d.lok τ).bind (fun x => if isDict x then none else (argsL ks dr τ).map (x :: ·)) = some rr from e)
      cases hd : isDict x with
      | true => rw [hd, if_pos rfl] at e; cases e
      | false =>
        rw [hd, if_neg (by simp)] at e
        obtain ⟨ys, e2, rfl⟩ := Option.map_eq_some_iff.mp e
        refine ⟨G, τ, x, st, tb, e1, fun v G1 H1 x1 h1 => ⟨G1, τ, ys, st.ext x1, tb.ext x1, e2, fun vs G2 H2 x2 h2 => q _ G2 H2 (x1.trans x2) (.cons (.lk (l2_mono x2.sub h1)) hd (h2.up fun h => ?_))⟩⟩
        show (d.owns τ || dr.any (·.owns τ)) = true; rw [h, Bool.or_true]
/-! what names alone hold stands while a call runs -/
open Classical in
noncomputable def addO (G H : Hp) (O : Addr → Prop) : Hp := fun a => match G a with
  | some o => some o
  | none => if O a then H a else none
theorem addO_sub {a : Addr} {o : HO} (h : G a = some o) : addO G H O a = some o := by unfold addO; rw [h]
theorem addO_inn (i : Inn G H) : Inn (addO G H O) H := fun a o e => by
  unfold addO at e
  cases g : G a with
  | some u => rw [g] at e; cases e; exact i a _ g
  | none =>
    rw [g] at e
    dsimp only at e
    split at e
    · exact e
    · cases e
theorem TabOk.addO {cs : List (Addr × Addr)} (t : TabOk cs G H) (h : ∀ a, O a → ∃ o, H a = some o ∧ ∀ ps, o ≠ .tbl ps) : TabOk cs (addO G H O) H := fun p hp => by
  obtain ⟨⟨ps, e, r⟩, g⟩ := t p hp
  refine ⟨⟨ps, e, r⟩, ?_⟩
  unfold Fw.addO
  rw [g]
  dsimp only
  rw [if_neg]
  intro z
  obtain ⟨o, e1, n⟩ := h _ z
  rw [e] at e1
  exact n ps (Option.some.inj e1).symm
theorem addO_own {a : Addr} (g : G a = none) (h : O a) : addO G H O a = H a := by
  unfold addO
  rw [g]
  dsimp only
  rw [if_pos h]
theorem args_add (i : Inn G H) (ho : ∀ a, O a → G a = none) {own : Bool} : ∀ {ks : List Bool} {vs : List V} {ds : List D}, ArgsV K G H O own ks vs ds → ArgsR K (addO G H O) ks vs ds
  | _, _, _, .nil => .nil
  | _, _, _, .cons a n r => by
    refine .cons ?_ (args_add i ho r)
    cases a with
    | rd r => exact .rd (RD.mono (fun _ _ => addO_sub) r)
    | lk r => exact .lk (l2_mono (fun _ _ => addO_sub) r)
    | ow h b =>
      cases b with
      | std r => exact .rd (RD.mono (fun _ _ => addO_sub) r)
      | own h1 h2 h3 h4 =>
        cases h2 with
        | ol rs =>
          simp only [Slot.val, Option.some.injEq] at h3
          subst h3
          refine .rd (.lst (.inl ?_) (RDs.mono (fun _ _ => addO_sub) rs))
          rw [addO_own (ho _ h4) h4]; exact h1
        | odK _ => simp only [Slot.val, dictV, Option.some.injEq] at h3; subst h3; cases n
        | odT _ => simp only [Slot.val, dictV, Option.some.injEq] at h3; subst h3; cases n
        | os _ _ _ => simp [Slot.val] at h3
theorem args_std {ks : List Bool} {vs : List V} {ds : List D} (a : ArgsV K G H O false ks vs ds) : ArgsR K G ks vs ds := by
  induction a with
  | nil => exact .nil
  | cons a n r ih =>
    refine .cons ?_ ih
    cases a with
    | rd r => exact .rd r
    | lk r => exact .lk r
    | ow h b => cases h
open Classical in
/-- taken back -/
noncomputable def dropO (G0 G : Hp) (O : Addr → Prop) : Hp := fun a => if O a ∧ G0 a = none then none else G a
theorem dropO_sub {G0 : Hp} {a : Addr} {o : HO} (h : dropO G0 G O a = some o) : G a = some o := by
  unfold dropO at h
  split at h
  · cases h
  · exact h
theorem dropO_no {G0 : Hp} {a : Addr} (h : ¬ (O a ∧ G0 a = none)) : dropO G0 G O a = G a := by unfold dropO; rw [if_neg h]
theorem ext_drop (i : Inn G H) (x : Ext (addO G H O) H G' H') : Ext G H (dropO G G' O) H' where
  same := x.same
  sub := fun a o e => by
    rw [dropO_no (fun z => by rw [z.2] at e; cases e)]
    exact x.sub a o (addO_sub e)
  inn := fun a o e => x.inn a o (dropO_sub e)
  new := fun a o e n => by
    by_cases h : O a
    · unfold dropO
      rw [if_pos ⟨h, n⟩]
    · have z : addO G H O a = none := by
        unfold addO
        rw [n]
        dsimp only
        rw [if_neg h]
      have := x.new a o e z
      rw [dropO_no (fun z => h z.1)]
      exact this
mutual
theorem rd_drop (hO : ∀ a vs, O a → ¬ Tu G' a vs) : ∀ {v : V} {d : D}, RD K G' v d → noList d = true → RD K (dropO G G' O) v d
  | _, _, .non, _ => .non
  | _, _, .bl b, _ => .bl b
  | _, _, .int i, _ => .int i
  | _, _, .str x, _ => .str x
  | _, _, .lst _ _, h => by cases h
  | _, _, .tup s a, h => .tup (by
      obtain ⟨ob, e, d⟩ := s
      exact ⟨ob, by rw [dropO_no (fun z => hO _ _ z.1 ⟨ob, e, d⟩)]; exact e, d⟩) (rds_drop hO a (by simpa [noList] using h))
theorem rds_drop (hO : ∀ a vs, O a → ¬ Tu G' a vs) : ∀ {vs : List V} {ds : List D}, RDs K G' vs ds → noList.go ds = true → RDs K (dropO G G' O) vs ds
  | _, _, .nil, _ => .nil
  | _, _, .cons a r, h => by
    have h' : (noList _ && noList.go _) = true := h
    rw [Bool.and_eq_true] at h'
    exact .cons (rd_drop hO a h'.1) (rds_drop hO r h'.2)
end
theorem call_read {kf : List Bool} {F : List D → Option D} {ds : List Dn} {Q : VK} {E : XK} (h : ∃ G τ r, StR K G H σ τ ∧ TabOk cs G H ∧ ((argsL kf ds τ).bind fun vs => (F vs).bind fun r => if ds.any (·.owns τ) && !noList r then none else some r) = some r ∧ ∀ v G' H', Ext G H G' H' → RD K G' v r → Q v H') :
    tArgs K cs kf ds σ H (fun vs H1 => spF K cs kf F (vs ++ []) H1 Q E) := by
  obtain ⟨G, τ, r, st, tb, e, q⟩ := h
  obtain ⟨vs, e1, e⟩ := Option.bind_eq_some_iff.mp e
  obtain ⟨r', e2, e3⟩ := Option.bind_eq_some_iff.mp e
  have hr : r' = r ∧ (ds.any (·.owns τ) = true → noList r' = true) := by
    cases ho : ds.any (·.owns τ) with
    | false =>
      rw [ho, Bool.false_and, if_neg (by simp)] at e3
      exact ⟨Option.some.inj e3, fun h => by cases h⟩
    | true =>
      rw [ho, Bool.true_and] at e3
      cases hn : noList r' with
      | true => rw [hn] at e3; exact ⟨Option.some.inj e3, fun _ => rfl⟩
      | false => rw [hn] at e3; cases e3
  obtain ⟨rfl, hn⟩ := hr
  refine ⟨G, τ, vs, st, tb, e1, fun us G1 H1 x1 a => ?_⟩
  show spF K cs kf F (us ++ []) H1 Q E
  rw [List.append_nil]
  have st1 := st.ext x1
  cases ho : ds.any (·.owns τ) with
  | false =>
    rw [ho] at a
    exact ⟨G1, vs, r', x1.inn, args_std a, tb.ext x1, e2, fun v G2 H2 x2 rd => q v G2 H2 (x1.trans x2) rd⟩
  | true =>
    have hO : ∀ a, Ow σ τ a → G1 a = none := fun a h => (ow_in st1 h).elim fun _ z => z.2
    refine ⟨addO G1 H1 (Ow σ τ), vs, r', addO_inn x1.inn, args_add x1.inn hO a, (tb.ext x1).addO (fun b ob => ?_), e2, fun v G2 H2 x2 rd => ?_⟩
    · obtain ⟨i, s, k1, k2, k3⟩ := ob
      obtain ⟨b', o, m1, m2, m3, m4⟩ := st1.ow i s k1 k2
      rw [k3] at m1
      cases m1
      exact ⟨o, m2, m4.ntbl⟩
    refine q v (dropO G1 G2 (Ow σ τ)) H2 (x1.trans (ext_drop x1.inn x2)) (rd_drop (fun b ws ob t => ?_) rd (hn ho))
    obtain ⟨i, s, k1, k2, k3⟩ := ob
    obtain ⟨b', o, m1, m2, m3, m4⟩ := st1.ow i s k1 k2
    rw [k3] at m1
    cases m1
    have z : H2 b = some o := (x2.same _ _ m2).of m4.ntbl
    obtain ⟨obj, t1, _⟩ := t
    have z2 := x2.inn _ _ t1
    rw [z] at z2
    cases z2
    cases m4
/-- f(e, ..) -/
theorem p_call {kf : List Bool} {F : List D → Option D} {f : Addr} {fd : FuncData} {ps : List Str} {k : Nat} {x : Str} {p pos : Pos} {e : Expr} {es : List Expr} {ds : List Dn} (Fk : FnOk X.prog X.w X.K X.mg X.base CX0 k f fd ps (spF (kw X) cs kf F)) (hr : Room k X.A) (hg : Gl X x) (hm : X.mg x = some (.ref f))
    (hk : PySem.W.keepIn X.K (.ref f) = true) (hb : Binds X.K fd ps []) (ha : SDs X cs (e :: es) ds) (hl : kf.length = (e :: es).length) (hdb : (x == ("__debug__" : Str)) = false) (hpl : (backTo pos (starEach es X.env)).any (·.1) = false) :
    PE X (.Call (.Name x p) (e :: es) [] pos) (tP (kw X) cs fun τ => (argsL kf ds τ).bind fun vs => (F vs).bind fun r => if ds.any (·.owns τ) && !noList r then none else some r) := by
  have hp : Plain e := by cases ha with | cons a _ => exact a.plain
  exact pe_imp (pe_call Fk hr hg hm hk hb .nil (E := E0) (fun _ _ _ _ _ _ _ h => h.elim) (pa_args ha hl) hdb (hp _ _) hpl) fun σ H Q h => call_read h
theorem p_call0 {F : List D → Option D} {f : Addr} {fd : FuncData} {ps : List Str} {k : Nat} {x : Str} {p pos : Pos} (Fk : FnOk X.prog X.w X.K X.mg X.base CX0 k f fd ps (spF (kw X) cs [] F)) (hr : Room k X.A) (hg : Gl X x) (hm : X.mg x = some (.ref f))
    (hk : PySem.W.keepIn X.K (.ref f) = true) (hb : Binds X.K fd ps []) (hdb : (x == ("__debug__" : Str)) = false) :
    PE X (.Call (.Name x p) [] [] pos) (tP (kw X) cs fun τ => (argsL [] [] τ).bind fun vs => (F vs).bind fun r => if ([] : List Dn).any (·.owns τ) && !noList r then none else some r) := by
  refine pe_imp (pe_call0 Fk hr hg hm hk hb .nil (E := E0) (fun _ _ _ _ _ _ _ h => h.elim) hdb) fun σ H Q h => ?_
  have h2 := call_read (E := E0) h
  obtain ⟨G, τ, r, st, tb, e, q⟩ := h2
  cases e
  exact q [] G H (Ext.refl st.inn) .nil
end
end Fw
end
section
set_option Elab.async false
set_option linter.all false
set_option maxRecDepth 100000
set_option maxHeartbeats 800000
namespace Fw
open PySem PySem.Spec L2
/-! ### plain facts: first ones kept, sorted -/
section
variable {α : Type} [BEq α] [LawfulBEq α]
theorem dedup_go : ∀ (ds acc : List α), acc.Nodup → (ds.foldl (fun acc d => if acc.contains d then acc else acc ++ [d]) acc).Nodup ∧ ∀ x, x ∈ ds.foldl (fun acc d => if acc.contains d then acc else acc ++ [d]) acc ↔ x ∈ acc ∨ x ∈ ds
  | [], acc, h => ⟨h, fun x => by simp⟩
  | d :: ds, acc, h => by
    rw [List.foldl_cons]
    by_cases c : acc.contains d = true
    · rw [if_pos c]
      obtain ⟨h1, h2⟩ := dedup_go ds acc h
      refine ⟨h1, fun x => (h2 x).trans ?_⟩
      have : d ∈ acc := List.contains_iff_mem.mp c
      constructor
      · rintro (h | h)
        · exact .inl h
        · exact .inr (List.mem_cons_of_mem _ h)
      · rintro (h | h)
        · exact .inl h
        · rcases List.mem_cons.mp h with rfl | h
          · exact .inl this
          · exact .inr h
    · rw [if_neg c]
      have nd : d ∉ acc := fun z => c (List.contains_iff_mem.mpr z)
      obtain ⟨h1, h2⟩ := dedup_go ds (acc ++ [d]) (by
        rw [List.nodup_append]
        refine ⟨h, by simp, fun a ha b hb => ?_⟩
        rw [List.mem_singleton] at hb
        subst hb
        rintro rfl
        exact nd ha)
      refine ⟨h1, fun x => (h2 x).trans ?_⟩
      simp only [List.mem_append, List.mem_cons, List.not_mem_nil, or_false]
      constructor
      · rintro ((h | h) | h)
        · exact .inl h
        · exact .inr (.inl h)
        · exact .inr (.inr h)
      · rintro (h | h | h)
        · exact .inl (.inl h)
        · exact .inl (.inr h)
        · exact .inr h
theorem dedup_nodup (ds : List α) : (dedupA ds).Nodup := (dedup_go ds [] List.nodup_nil).1
theorem dedup_mem (ds : List α) (x : α) : x ∈ dedupA ds ↔ x ∈ ds := ((dedup_go ds [] List.nodup_nil).2 x).trans (by simp)
theorem dedup_len {ds ks : List α} (h : ks.Nodup) (m : ∀ x, x ∈ ks ↔ x ∈ ds) : ks.length = (dedupA ds).length :=
  ((List.perm_ext_iff_of_nodup h (dedup_nodup ds)).mpr fun x => (m x).trans (dedup_mem ds x).symm).length_eq
end
section
variable {α : Type} {le : α → α → Bool}
theorem ins_perm (x : α) : ∀ l : List α, (insA le x l).Perm (x :: l)
  | [] => List.Perm.refl _
  | y :: r => by
    unfold insA
    split
    · exact List.Perm.refl _
    · exact (List.Perm.cons y (ins_perm x r)).trans (List.Perm.swap x y r)
theorem isort_perm : ∀ l : List α, (isort le l).Perm l
  | [] => List.Perm.refl _
  | x :: r => (ins_perm x _).trans (List.Perm.cons x (isort_perm r))
theorem ins_sorted (tr : ∀ a b c, le a b = true → le b c = true → le a c = true) (to : ∀ a b, le a b = true ∨ le b a = true) (x : α) : ∀ l : List α, l.Pairwise (fun a b => le a b = true) → (insA le x l).Pairwise (fun a b => le a b = true)
  | [], _ => by simp [insA]
  | y :: r, h => by
    unfold insA
    split
    · rename_i hxy
      refine List.pairwise_cons.mpr ⟨fun z hz => ?_, h⟩
      rcases List.mem_cons.mp hz with rfl | hz
      · exact hxy
      · exact tr _ _ _ hxy ((List.pairwise_cons.mp h).1 z hz)
    · rename_i hxy
      refine List.pairwise_cons.mpr ⟨fun z hz => ?_, ins_sorted tr to x r (List.pairwise_cons.mp h).2⟩
      rcases List.mem_cons.mp ((ins_perm x r).mem_iff.mp hz) with rfl | hz
      · exact (to z y).resolve_left hxy
      · exact (List.pairwise_cons.mp h).1 z hz
theorem isort_sorted (tr : ∀ a b c, le a b = true → le b c = true → le a c = true) (to : ∀ a b, le a b = true ∨ le b a = true) : ∀ l : List α, (isort le l).Pairwise (fun a b => le a b = true)
  | [] => List.Pairwise.nil
  | x :: r => ins_sorted tr to x _ (isort_sorted tr to r)
/-- a sorted list of the same is it -/
theorem isort_eq (tr : ∀ a b c, le a b = true → le b c = true → le a c = true) (to : ∀ a b, le a b = true ∨ le b a = true) (an : ∀ a b, le a b = true → le b a = true → a = b) {l m : List α} (p : m.Perm l) (s : m.Pairwise (fun a b => le a b = true)) : m = isort le l :=
  List.Perm.eq_of_pairwise (fun a b _ _ h1 h2 => an a b h1 h2) s (isort_sorted tr to l) (p.trans (isort_perm l).symm)
end
theorem leI_tr (a b c : Int) (h : leI a b = true) (k : leI b c = true) : leI a c = true := by
  simp only [leI, decide_eq_true_eq] at h k ⊢; omega
theorem leI_to (a b : Int) : leI a b = true ∨ leI b a = true := by
  simp only [leI, decide_eq_true_eq]; omega
theorem leI_an (a b : Int) (h : leI a b = true) (k : leI b a = true) : a = b := by
  simp only [leI, decide_eq_true_eq] at h k; omega
theorem leT_tr (a b c : List Int) (h : leT a b = true) (k : leT b c = true) : leT a c = true := by
  simp only [leT, decide_eq_true_eq] at h k ⊢; exact List.le_trans h k
theorem leT_to (a b : List Int) : leT a b = true ∨ leT b a = true := by
  simp only [leT, decide_eq_true_eq]; exact List.le_total a b
theorem leT_an (a b : List Int) (h : leT a b = true) (k : leT b a = true) : a = b := by
  simp only [leT, decide_eq_true_eq] at h k; exact List.le_antisymm h k
/-- the order by the code is the tuples' order -/
theorem code_le {B : Int} : ∀ {xs ys : List Int}, xs.length = ys.length → TS.Bd B xs → TS.Bd B ys → (TS.code B xs ≤ TS.code B ys ↔ xs ≤ ys) := by
  have lt : ∀ {xs ys : List Int}, xs.length = ys.length → TS.Bd B xs → TS.Bd B ys → (TS.code B xs < TS.code B ys ↔ xs < ys) := by
    intro xs
    induction xs with
    | nil =>
      intro ys h _ _
      cases ys with
      | nil => simp [TS.code]
      | cons _ _ => cases h
    | cons x xs ih =>
      intro ys h bx by_
      cases ys with
      | nil => cases h
      | cons y ys =>
        have h' : xs.length = ys.length := by simpa using h
        rw [List.cons_lt_cons_iff]
        rcases Int.lt_trichotomy x y with q | q | q
        · exact ⟨fun _ => .inl q, fun _ => TS.code_lt h' bx.tail by_.tail q⟩
        · subst q
          rw [← ih h' bx.tail by_.tail]
          constructor
          · intro z; exact .inr ⟨rfl, (TS.code_same h').mp z⟩
          · rintro (z | ⟨_, z⟩)
            · exact absurd z (Int.lt_irrefl _)
            · exact (TS.code_same h').mpr z
        · constructor
          · intro z
            have := TS.code_lt h'.symm by_.tail bx.tail q
            omega
          · rintro (z | ⟨z, _⟩) <;> omega
  intro xs ys h bx by_
  have := lt h.symm by_ bx
  constructor
  · intro z
    exact List.not_lt.mp fun w => by have := this.mpr w; omega
  · intro z
    refine Int.not_lt.mp fun w => ?_
    exact List.not_lt.mpr z (this.mp w)
end Fw
end
section
set_option Elab.async false
set_option linter.all false
set_option maxRecDepth 100000
set_option maxHeartbeats 3200000
namespace L2
open PySem PySem.Spec PyProof.Rows
section
variable {P : Program} {w : World} {A : Around} {E : Value → Shared → Prop} {s : Shared}
/-! set(xs) of a list of ints: as set_update_ints of the kit tells of any walk (this follows its tuple's case) -/
theorem call_set_listR {l : Addr} {items : Array Value} (ns : List Int) {Q : Value → Shared → Prop} (hh : A.handled = none) (hl : s.heap.IsList l items) (hit : IntsAre items.toList ns) (hb : ns.length + 1 < scanBound)
    (h : ∀ (h' : Heap) (tk c : Nat), SetR w h' s.heap.objs.size (fun j => decide (j ∈ ns)) c → c ≤ ns.length → (∀ b o, s.heap.get? b = some o → h'.get? b = some o) → Q (.ref s.heap.objs.size) { s with heap := h', toks := tk }) :
    wpAny (model P w) A (call (.type "set") [.ref l]) Q E s := by
  have hisz : items.size = ns.length := by
    have q := IntsAre.length hit
    rw [Array.length_toList] at q
    exact q
  obtain ⟨c, tl, hmro⟩ := F.called_set.mro
  have hmade := F.called_set.made
  have hsub := F.called_set.sub
  refine wpAny_call (codeAny_of_tree ?_)
  show wpAny _ _ (callAny (.type "set") _) _ _ _
  refine wpAny_pure ⟨Code.quiet_builtin _ (by decide +kernel), codeAny_builtin F.entry_type_call ?_⟩
  rw [Around.under_plain (weight_type_call_type "set" [.ref l] []) rfl]
  have h1 := F.called_set.notType
  have h2 := F.called_set.canCreate
  have hct := F.typeCall_set_1 (.ref l)
  repeat (any_goals (first | assumption | wp_step))

  refine codeAny_mono (code_set_led1 (.ref l) (E := E) (Q₁ := fun obj s₁ => obj = .ref s.heap.objs.size ∧ s₁ = { s with heap := s.heap.push { cls := .type "set", dict := none, data := .set #[] 0 (.fresh 0 0 (!w.params.followText "set-order")) } }) ⟨rfl, rfl⟩) fun r s₁ hr => ?_
  cases r with
  | error e => exact hr
  | ok fl =>
    cases fl with
    | ret obj =>
      obtain ⟨rfl, rfl⟩ := hr
      have hS : (s.heap.push { cls := .type "set", dict := none, data := .set #[] 0 (.fresh 0 0 (!w.params.followText "set-order")) }).get? s.heap.objs.size = some { cls := .type "set", dict := none, data := .set #[] 0 (.fresh 0 0 (!w.params.followText "set-order")) } := Heap.get?_push_size _ rfl
      have hT : Shared.TypeIs { s with heap := s.heap.push { cls := .type "set", dict := none, data := .set #[] 0 (.fresh 0 0 (!w.params.followText "set-order")) } } (.ref s.heap.objs.size) "set" := ⟨_, hS, rfl⟩
      have hli := F.called_set.init.lookup
      have hbi := F.called_set.init.bind (.ref s.heap.objs.size)
      repeat (any_goals (first | assumption | wp_step))

      refine codeAny_mono (codeAny_call_builtin (R := wants (fun r s₂ => r = .none ∧ ∃ h' tk c, s₂ = { s with heap := h', toks := tk } ∧ SetR w h' s.heap.objs.size (fun j => decide (j ∈ ns)) c ∧ c ≤ ns.length ∧
          (∀ b o, s.heap.get? b = some o → h'.get? b = some o)) E) F.called_set.init.plain F.entry_set_init (check_set_init_1 hT ?_)) fun r₂ s₂ hr₂ => ?_
      · obtain ⟨ol, hol, hcl, nl, hdl⟩ := hl
        obtain ⟨ocls, odict, odata, oslots⟩ := ol
        simp only at hcl hdl
        subst hcl; subst hdl
        have hol' : (s.heap.push { cls := .type "set", dict := none, data := .set #[] 0 (.fresh 0 0 (!w.params.followText "set-order")) }).get? l = some { cls := .type "list", dict := odict, data := .seq items nl, slots := oslots } := Heap.get?_push_of_some _ hol
        have hsls := F.sub_list_set
        have hslf := F.sub_list_frozenset
        have hne : (Value.type "list" == Value.type "dict") = false := by decide
        have hl1 : (s.heap.push { cls := .type "set", dict := none, data := .set #[] 0 (.fresh 0 0 (!w.params.followText "set-order")) }).IsList l items := ⟨_, hol', rfl, nl, rfl⟩
        unfold Builtin.«set.__init__» noKeywords Builtin.Frozenset.updateFrom
        generalize hPI : pyIter = PI
        wp_walk
        subst hPI

        refine wpAny_pyIter_list hl1 ?_
        refine wpAny_bind (wpAny_runValue ?_)
        have hlS : l < s.heap.objs.size := Heap.lt_size hol
        have hh3 : A.in1.in1.in1.handled = none := by simp [hh]
        have hz1 : (s.heap.push { cls := .type "set", dict := none, data := .set #[] 0 (.fresh 0 0 (!w.params.followText "set-order")) }).objs.size = s.heap.objs.size + 1 := Heap.size_push ..
        have hneI : l ≠ (s.heap.push { cls := .type "set", dict := none, data := .set #[] 0 (.fresh 0 0 (!w.params.followText "set-order")) }).objs.size := by
          rw [Heap.size_push]; exact Nat.ne_of_lt (Nat.lt_succ_of_lt hlS)
        have hSf : s.heap.objs.size ∉ [(s.heap.push { cls := .type "set", dict := none, data := .set #[] 0 (.fresh 0 0 (!w.params.followText "set-order")) }).objs.size, l] := by
          rw [Heap.size_push]; simp only [List.mem_cons, List.mem_singleton, List.not_mem_nil, or_false, not_or]
          exact ⟨Nat.ne_of_lt (Nat.lt_succ_self _), Nat.ne_of_gt hlS⟩
        have hval : ∀ (i : Nat) (v : Value), items[i]? = some v → ∃ k t, ns[i]? = some k ∧ v = .int k t := fun i v hv => by
          have hi : i < ns.length := by rw [← hisz]; exact (Array.getElem?_eq_some_iff.mp hv).1
          obtain ⟨t, e⟩ := PyProof.Rows.IntsAre.int_at hit i v (by rw [Array.getElem?_toList]; exact hv)
          refine ⟨ns[i], t, List.getElem?_eq_getElem hi, ?_⟩
          rw [e, List.getD_eq_getElem?_getD, List.getElem?_eq_getElem hi] <;> rfl
        refine set_update_ints ((Walks.list hh3 _ l hneI items).toS) s.heap.objs.size
          hSf ns hisz hb hval (items.size - 0) 0 _ (by omega) (Nat.zero_le _)
          ⟨⟨_, Heap.get?_push_size _ rfl, rfl, rfl⟩, (hl1.push _)⟩ ?hS0 ?hR
        case hS0 =>
          have hget : ((s.heap.push { cls := .type "set", dict := none, data := .set #[] 0 (.fresh 0 0 (!w.params.followText "set-order")) }).push { cls := .type "list_iterator", data := .fields #[.ref l, .int 0 0] }).get? s.heap.objs.size
              = some { cls := .type "set", dict := none, data := .set #[] 0 (.fresh 0 0 (!w.params.followText "set-order")) } := Heap.get?_push_of_some _ hS
          exact ⟨0, Nat.le_refl 0, setR_new_at hget⟩
        case hR =>
          intro s' c' hm hc' hS'
          obtain ⟨h', g2, d', tk', os'⟩ := s'
          have eg : g2 = s.gens := hm.gens
          have ed : d' = s.drawn := hm.drawn
          have eo : os' = s.os := hm.os
          subst eg; subst ed; subst eo
          show wpAny _ _ _ _ _ _
          refine wpAny_pure ?_
          show wpAny _ _ (ret Value.none) _ _ _
          rw [hisz] at hc'
          refine wpAny_pure ⟨rfl, h', tk', c', rfl, hS', hc', fun b o e => ?_⟩
          have hb0 : b < s.heap.objs.size := Heap.lt_size e
          have hb1 : b ≠ s.heap.objs.size := Nat.ne_of_lt hb0
          have hb2 : b ≠ (s.heap.push { cls := .type "set", dict := none, data := .set #[] 0 (.fresh 0 0 (!w.params.followText "set-order")) }).objs.size := by
            rw [Heap.size_push]; exact Nat.ne_of_lt (Nat.lt_succ_of_lt hb0)
          exact hm.heap b o (by simp only [List.mem_cons, List.mem_singleton, List.not_mem_nil, or_false, not_or]; exact ⟨hb1, hb2⟩) (Heap.get?_push_of_some _ (Heap.get?_push_of_some _ e))

      · cases r₂ with
        | error e => exact hr₂
        | ok fl₂ =>
          cases fl₂ with
          | ret r =>
            obtain ⟨rfl, h', tk, c', rfl, hS', hc', hk'⟩ := hr₂
            repeat (any_goals (first | assumption | wp_step))
            exact h _ _ _ hS' hc' hk'
          | _ => exact hr₂.elim
    | _ => exact hr.elim


end
end L2
end
section
set_option Elab.async false
set_option linter.all false
set_option maxRecDepth 100000
set_option maxHeartbeats 800000
namespace Fw
open PySem PySem.Spec L2
section
variable {X : Cx} {cs : List (Addr × Addr)} {K : Fz} {G H G' H' G1 H1 : Hp} {O : Addr → Prop} {σ : St} {τ : Tau} {DD : Addr}
/-! sets: of ints, of tuples of ints -/
/-- what a set holds -/
inductive SetV (K : Fz) (G : Hp) (a : Addr) : HO → List D → Prop
  | ints {S : Int → Bool} {n : Nat} {ns : List Int} : (∀ i, S i = true ↔ i ∈ ns) → ns.length < 4000 → SetV K G a (SetO K.w a S n) (ns.map .int)
  | tups {L : List (Addr × List Int)} {ks : List (List Int)} : (∀ p ∈ L, Tu G p.1 (p.2.map V.int)) → (∀ k, k ∈ L.map (·.2) ↔ k ∈ ks) → tupsOk ks = true → SetV K G a (SetTO K.P K.w a L) (ks.map tupI)
theorem intsOf_eq : ∀ {ds : List D} {ns : List Int}, intsOf ds = some ns → ds = ns.map PyData.int
  | [], _, h => by cases h; rfl
  | .int i :: r, _, h => by
    obtain ⟨ms, e, rfl⟩ := Option.map_eq_some_iff.mp (show (intsOf r).map (i :: ·) = some _ from h)
    rw [intsOf_eq e] <;> rfl
theorem intsOf_map : ∀ ns : List Int, intsOf (ns.map PyData.int) = some ns
  | [] => rfl
  | i :: r => by
    show (intsOf (r.map PyData.int)).map (i :: ·) = some (i :: r)
    rw [intsOf_map r] <;> rfl
theorem tupIs_eq : ∀ {ds : List D} {ks : List (List Int)}, tupIs ds = some ks → ds = ks.map tupI
  | [], _, h => by cases h; rfl
  | .tuple xs :: r, _, h => by
    obtain ⟨k, e1, h⟩ := Option.bind_eq_some_iff.mp (show (intsOf xs).bind (fun k => (tupIs r).map (k :: ·)) = some _ from h)
    obtain ⟨ks, e2, rfl⟩ := Option.map_eq_some_iff.mp h
    rw [tupIs_eq e2, intsOf_eq e1] <;> rfl
theorem tupIs_map : ∀ ks : List (List Int), tupIs (ks.map tupI) = some ks
  | [] => rfl
  | k :: r => by
    show (intsOf (k.map PyData.int)).bind (fun k => (tupIs (r.map tupI)).map (k :: ·)) = some (k :: r)
    rw [intsOf_map, tupIs_map r] <;> rfl
theorem not_ints {ks : List (List Int)} (h : tupsOk ks = true) : setI (ks.map tupI) = none := by
  cases ks with
  | nil => cases h
  | cons k r =>
    unfold setI
    have e : intsOf ((k :: r).map tupI) = none := rfl
    rw [e]
    split <;> rfl
theorem lenS_ints {ns : List Int} (h : ns.length < 4000) : lenS (ns.map .int) = some (dedupA ns).length := by
  unfold lenS setI
  rw [List.length_map, if_pos h, intsOf_map]
theorem lenS_tups {ks : List (List Int)} (h : tupsOk ks = true) : lenS (ks.map tupI) = some (dedupA ks).length := by
  unfold lenS
  rw [not_ints h]
  unfold setT
  rw [tupIs_map]
  show ((if tupsOk ks then some ks else none).map _) = _
  rw [if_pos h] <;> rfl
theorem sortS_ints {ns : List Int} (h : ns.length < 4000) : sortS (ns.map .int) = sortI ns := by
  unfold sortS setI
  rw [List.length_map, if_pos h, intsOf_map]
theorem sortS_tups {ks : List (List Int)} (h : tupsOk ks = true) : sortS (ks.map tupI) = some (.list ((isort leT (dedupA ks)).map tupI)) := by
  unfold sortS
  rw [not_ints h]
  unfold setT
  rw [tupIs_map]
  show ((if tupsOk ks then some ks else none).map _) = _
  rw [if_pos h] <;> rfl
/-- len(s) -/
def rLenS (K : Fz) : List V → Hp → VK → Prop := fun xs H Q => ∃ G a o ds n, xs = [V.ref a] ∧ H a = some o ∧ SetV K G a o ds ∧ Inn G H ∧ lenS ds = some n ∧ Q (.int (n : Nat)) H
theorem setT_nodup {pins : List (Addr × Obj)} {s : Shared} {a : Addr} {L : List (Addr × List Int)} (I : Inv X pins σ H s) (h : H a = some (SetTO X.prog X.w a L)) : (L.map (·.2)).Nodup ∧ L.length < 64 := by
  obtain ⟨⟨es, ep, t, h1, h2, h3, h4, h5, h6, h7, h8⟩⟩ := (I.hok a _ h).1
  exact ⟨h4, h8⟩
theorem cr_lenS : CallR X (.builtin "len") (rLenS (kw X)) := by
  intro pins s σ H xs us Q I r h
  obtain ⟨G, a, o, ds, n, rfl, hD, sv, inn, hn, q⟩ := h
  rw [Vals.ref1 r]
  have hsb : scanBound ≤ 2 ^ 62 := by unfold scanBound; decide
  cases sv with
  | @«ints» S m ns hS hl =>
    have R := setO_get I hD
    obtain ⟨o, es, ep, t, ho, hx, hd, g, nd, hm, hb, hf, hz, _⟩ := R
    rw [lenS_ints hl] at hn
    cases hn
    have e : es.size = (dedupA ns).length := by
      have := dedup_len (ds := ns) nd fun x => (hm x).symm.trans (hS x)
      rw [List.length_map, Array.length_toList] at this
      exact this
    rw [← e] at q
    exact call_len_set ho hx hd hf (by omega) ⟨.int (es.size : Nat), H, I.tok _, ⟨_, rfl⟩, q⟩
  | @tups L ks hT hm hk =>
    obtain ⟨nd, few⟩ := setT_nodup I hD
    obtain ⟨es, ep, t, R⟩ := SetT0.full (I.hok a _ hD).1 fun p hp => I.isT ((hT p hp).mono inn).sq
    obtain ⟨o, ho, hx, hd⟩ := R.ob
    rw [lenS_tups hk] at hn
    cases hn
    have e : es.size = (dedupA ks).length := by
      rw [R.size, ← dedup_len nd hm, List.length_map]
    rw [← e] at q
    have hz : es.size < 64 := by rw [R.size]; exact few
    exact call_len_set ho hx hd R.fits (by omega) ⟨.int (es.size : Nat), H, I.tok _, ⟨_, rfl⟩, q⟩
/-- sorted(s): a new list -/
def rSortS (K : Fz) : List V → Hp → VK → Prop := fun xs H Q => ∃ G a o ds z, xs = [V.ref a] ∧ H a = some o ∧ SetV K G a o ds ∧ Inn G H ∧ sortS ds = some (.list z) ∧ ∀ vs p, RDs K G vs z → H p = none → Q (.ref p) (upd H p (.lst vs))
theorem vint_map : ∀ (ns : List Int), RDs K G (ns.map V.int) (ns.map PyData.int) := RDs.ints
theorem tups_rd : ∀ {L : List (Addr × List Int)}, (∀ p ∈ L, Tu G p.1 (p.2.map V.int)) → RDs K G (L.map fun q => V.ref q.1) ((L.map (·.2)).map tupI)
  | [], _ => .nil
  | p :: L, h => .cons (.tup (h p List.mem_cons_self) (RDs.ints _)) (tups_rd fun q hq => h q (List.mem_cons_of_mem _ hq))
theorem tupsOk_of {ks : List (List Int)} (h : tupsOk ks = true) : ∃ d, 1 ≤ d ∧ ∀ k ∈ ks, k.length = d ∧ ∀ i ∈ k, 0 ≤ i := by
  cases ks with
  | nil => cases h
  | cons k r =>
    unfold tupsOk at h
    simp only [Bool.and_eq_true, decide_eq_true_eq, List.all_eq_true] at h
    obtain ⟨_, h1, h2⟩ := h
    refine ⟨k.length, h1, fun q hq => ?_⟩
    obtain ⟨a, b⟩ := h2 q hq
    exact ⟨by simpa using a, b⟩
theorem bound_of : ∀ (ks : List (List Int)), ∃ B : Int, ∀ k ∈ ks, ∀ i ∈ k, i < B := by
  have one : ∀ (k : List Int), ∃ B : Int, ∀ i ∈ k, i < B := by
    intro k
    induction k with
    | nil => exact ⟨0, fun i h => nomatch h⟩
    | cons x r ih =>
      obtain ⟨B, h⟩ := ih
      refine ⟨max B (x + 1), fun i hi => ?_⟩
      rcases List.mem_cons.mp hi with rfl | hi
      · omega
      · have := h i hi; omega
  intro ks
  induction ks with
  | nil => exact ⟨0, fun k h => nomatch h⟩
  | cons k r ih =>
    obtain ⟨B, h⟩ := ih
    obtain ⟨C, h2⟩ := one k
    refine ⟨max B C, fun q hq i hi => ?_⟩
    rcases List.mem_cons.mp hq with rfl | hq
    · have := h2 i hi; omega
    · have := h q hq i hi; omega
theorem cr_sortS (hc : X.calm = true) : CallR X (.builtin "sorted") (rSortS (kw X)) := by
  intro pins s σ H xs us Q I r h
  obtain ⟨G, a, o, ds, z, rfl, hD, sv, inn, hz, q⟩ := h
  cases sv with
  | @«ints» S m ns hS hl =>
    rw [sortS_ints hl] at hz
    have hz' : (if (dedupA ns).length < 64 then some (PyData.list ((isort leI (dedupA ns)).map .int)) else none) = some (.list z) := hz
    by_cases h64 : (dedupA ns).length < 64
    · rw [if_pos h64] at hz'
      have R := setO_get I hD
      obtain ⟨o, es, ep, t, ho, hx, hd, g, nd, hm, hb, hf, hn, _⟩ := R
      have e : es.size = (dedupA ns).length := by
        have := dedup_len (ds := ns) nd fun x => (hm x).symm.trans (hS x)
        rw [List.length_map, Array.length_toList] at this
        exact this
      refine cr_sortedSet hc pins s σ H _ us Q I r ⟨a, S, m, rfl, hD, by omega, fun ks p hs hk hl2 hp => ?_⟩
      have nks : ks.Nodup := hs.imp fun h => Int.ne_of_lt h
      have pm : ks.Perm (dedupA ns) := (List.perm_ext_iff_of_nodup nks (dedup_nodup ns)).mpr fun x => ((hk x).trans (hS x)).trans (dedup_mem ns x).symm
      have eq := isort_eq leI_tr leI_to leI_an pm (hs.imp fun h => by simp only [leI, decide_eq_true_eq]; omega)
      rw [← eq] at hz'
      cases hz'
      exact q _ p (RDs.ints ks) hp
    · rw [if_neg h64] at hz'; cases hz'
  | @tups L ks hT hm hk =>
    rw [sortS_tups hk] at hz
    cases hz
    obtain ⟨nd, few⟩ := setT_nodup I hD
    obtain ⟨d, hd1, hall⟩ := tupsOk_of hk
    obtain ⟨B, hB⟩ := bound_of ks
    have hb : ∀ p ∈ L, p.2.length = d ∧ TS.Bd B p.2 := fun p hp => by
      have m : p.2 ∈ ks := (hm _).mp (List.mem_map_of_mem hp)
      obtain ⟨h1, h2⟩ := hall _ m
      exact ⟨h1, fun i hi => ⟨h2 i hi, hB _ m i hi⟩⟩
    refine cr_sortedT hc pins s σ H _ us Q I r ⟨a, L, d, B, rfl, hD, fun p hp => ((hT p hp).mono inn).sq, hd1, hb, fun L' p pm nd' _ pw hp => ?_⟩
    have pm2 : (L'.map (·.2)).Perm (dedupA ks) := (List.perm_ext_iff_of_nodup nd' (dedup_nodup ks)).mpr fun x => by
      rw [(pm.map (·.2)).mem_iff, hm, dedup_mem]
    have eq := isort_eq leT_tr leT_to leT_an pm2 (List.pairwise_map.mpr (List.Pairwise.imp_of_mem (fun {x y} hx hy h => by
      obtain ⟨l1, b1⟩ := hb x (pm.mem_iff.mp hx)
      obtain ⟨l2, b2⟩ := hb y (pm.mem_iff.mp hy)
      simp only [leT, decide_eq_true_eq]
      exact (code_le (l1.trans l2.symm) b1 b2).mp h) pw))
    rw [← eq] at q
    exact q _ p (tups_rd fun q hq => hT q (pm.mem_iff.mp hq)) hp
/-- set(x), x a list or a tuple of ints, a list of tuples of ints -/
def setDs : D → Option (List D)
  | .list ds => if (setI ds).isSome || (setT ds).isSome then some ds else none
  | .tuple ds => if (setI ds).isSome then some ds else none
  | _ => none
def rSetX (K : Fz) : List V → Hp → VK → Prop := fun xs H Q => ∃ G O x v ds, Inn G H ∧ xs = [v] ∧ DB K G H O v x ∧ setDs x = some ds ∧ ∀ a o, H a = none → SetV K G a o ds → Q (.ref a) (upd H a o)
theorem rds_ints {vs : List V} {ns : List Int} (r : RDs K G vs (ns.map .int)) : vs = ns.map V.int := (RDs.intsOf r (intsOf_map ns)).1
theorem rds_tups : ∀ {ks : List (List Int)} {vs : List V}, RDs K G vs (ks.map tupI) → ∃ L : List (Addr × List Int), vs = L.map (fun p => V.ref p.1) ∧ L.map (·.2) = ks ∧ ∀ p ∈ L, Tu G p.1 (p.2.map V.int)
  | [], _, h => by cases h; exact ⟨[], rfl, rfl, fun p h => nomatch h⟩
  | k :: ks, _, h => by
    cases h with
    | cons a r =>
      obtain ⟨L, rfl, rfl, h⟩ := rds_tups r
      cases a with
      | @tup p us _ t rs =>
        rw [rds_ints rs] at t
        exact ⟨(p, k) :: L, rfl, rfl, fun q hq => by
          rcases List.mem_cons.mp hq with rfl | hq
          · exact t
          · exact h q hq⟩
theorem setI_of {ds : List D} {ns : List Int} (h : setI ds = some ns) : ds = ns.map .int ∧ ns.length < 4000 := by
  unfold setI at h
  split at h
  · have := intsOf_eq h
    subst this
    rename_i hl
    rw [List.length_map] at hl
    exact ⟨rfl, hl⟩
  · cases h
theorem setT_of {ds : List D} {ks : List (List Int)} (h : setT ds = some ks) : ds = ks.map tupI ∧ tupsOk ks = true := by
  obtain ⟨q, e1, e2⟩ := Option.bind_eq_some_iff.mp h
  by_cases hk : tupsOk q = true
  · rw [if_pos hk] at e2
    cases e2
    exact ⟨tupIs_eq e1, hk⟩
  · rw [if_neg hk] at e2; cases e2
theorem cr_setX (hc : X.calm = true) (hu : X.A.units + 64 < cLine) : CallR X (.type "set") (rSetX (kw X)) := by
  intro pins s σ H xs us Q I r h
  obtain ⟨G, O, x, v, ds, inn, rfl, b, e, q⟩ := h
  have hn : H s.heap.objs.size = none := I.hok.fresh (Nat.le_refl _)
  have ofInts : ∀ (ns : List Int) (h' : Heap) (tk c : Nat), ds = ns.map .int → ns.length < 4000 → SetR X.w h' s.heap.objs.size (fun j => decide (j ∈ ns)) c → (∀ b o, s.heap.get? b = some o → h'.get? b = some o) → EP X pins σ Q (.ref s.heap.objs.size) { s with heap := h', toks := tk } := by
    intro ns h' tk c e2 hl R k
    exact ⟨.ref s.heap.objs.size, _, I.laid (t' := tk) (o := SetO X.w s.heap.objs.size (fun j => decide (j ∈ ns)) c) k (Nat.le_refl _) (setO_new R), rfl, q _ _ hn (by rw [e2]; exact .ints (fun i => by simp) hl)⟩
  cases x with
  | list xs =>
    have e' : (if (setI xs).isSome || (setT xs).isSome then some xs else none) = some ds := e
    by_cases hs : ((setI xs).isSome || (setT xs).isSome) = true
    · rw [if_pos hs] at e'
      cases e'
      obtain ⟨a, vs, rfl, h1, h2⟩ := b.list inn
      rw [Vals.ref1 r]
      obtain ⟨its, rv, pl, hz⟩ := I.list (.inl h1)
      cases h3 : setI ds with
      | some ns =>
        obtain ⟨rfl, hl⟩ := setI_of h3
        have := rds_ints h2
        subst this
        refine call_set_listR ns (I.ok.hd hc) pl.isList (by simpa using rv.ints) (by unfold scanBound; omega) fun h' tk c R _ k => ofInts ns h' tk c rfl hl R k
      | none =>
        rw [h3] at hs
        cases h4 : setT ds with
        | none => rw [h4] at hs; cases hs
        | some ks =>
          obtain ⟨rfl, hk⟩ := setT_of h4
          obtain ⟨L, rfl, hL, hT⟩ := rds_tups h2
          have few : L.length < 64 := by
            have : L.length = ks.length := by rw [← hL, List.length_map]
            cases ks with
            | nil => cases hk
            | cons k r =>
              unfold tupsOk at hk
              simp only [Bool.and_eq_true, decide_eq_true_eq] at hk
              omega
          refine cr_setOfT hc hu pins s σ H [V.ref a] [Value.ref a] Q I (.cons (show Value.ref a = Value.ref a from rfl) .nil) ⟨a, L, rfl, .inl h1, fun p hp => ((hT p hp).mono inn).sq, few, fun D M hD hsub hall => ?_⟩
          refine q D _ hD (.tups (fun p hp => hT p (hsub p hp)) (fun k => ?_) hk)
          rw [← hL]
          constructor
          · intro h
            obtain ⟨p, hp, rfl⟩ := List.mem_map.mp h
            exact List.mem_map_of_mem (hsub p hp)
          · intro h
            obtain ⟨p, hp, rfl⟩ := List.mem_map.mp h
            exact hall p hp
    · rw [if_neg hs] at e'; cases e'
  | tuple xs =>
    have e' : (if (setI xs).isSome then some xs else none) = some ds := e
    by_cases hs : (setI xs).isSome = true
    · rw [if_pos hs] at e'
      cases e'
      obtain ⟨a, vs, rfl, h1, h2, _⟩ := b.tuple inn
      rw [Vals.ref1 r]
      obtain ⟨its, rv, pl, hz⟩ := I.tuple h1.sq
      cases h3 : setI ds with
      | none => rw [h3] at hs; cases hs
      | some ns =>
        obtain ⟨rfl, hl⟩ := setI_of h3
        have := rds_ints h2
        subst this
        exact call_set_tupI ns (I.ok.hd hc) pl (by simpa using rv.ints) (by unfold scanBound; omega) fun h' tk c R _ k => ofInts ns h' tk c rfl hl R k
    · rw [if_neg hs] at e'; cases e'
  | _ => cases e
end
end Fw
end
section
set_option Elab.async false
set_option linter.all false
set_option maxRecDepth 100000
set_option maxHeartbeats 800000
namespace L2
open PySem PySem.Spec PyProof.Rows
section
variable {P : Program} {w : World} {A : Around} {E : Value → Shared → Prop} {s : Shared} {a : Addr} {L : List (Addr × List Int)} {es : Array (Int × Value)} {ep : Nat} {t : SetTable}
/-- s.add(t), t a tuple of ints -/
theorem setTR_add (R : SetTR P w s.heap a L es ep t) {x : Addr} {k : List Int} (hx : IsT P w s.heap k x) (hu : A.units + 1 < cLine) (hfew : L.length + 1 < 64) {Q : Value → Shared → Prop}
    (hQ : ∀ h' tk L' es' ep' t', Heap.SameBut a s.heap h' → SetTR P w h' a L' es' ep' t' → (k ∈ L.map (·.2) → L' = L) → (k ∉ L.map (·.2) → L'.Perm ((x, k) :: L)) → Q .none { s with heap := h', toks := tk }) :
    wpAny (model P w) A (call (.builtin "set.add") [.ref a, .ref x]) Q E s := by
  obtain ⟨o, ho, hex, hd⟩ := R.ob
  have hT : s.TypeIs (.ref a) "set" := ⟨o, ho, hex.1⟩
  refine wpAny_call_entry F.slot_set_add hT F.entry_set_add ?_ (F.args_set_add_2 _ _)
  unfold Builtin.«set.add» Builtin.Frozenset.oneOther
  simp only [List.isEmpty_nil, bind_assoc]
  unfold Builtin.Frozenset.addrOf setAdd
  refine wpAny_bind (wpAny_pure ?_)
  try dsimp only
  refine wpAny_bind (wpAny_pure ?_)
  try dsimp only
  refine wpAny_bind ?_
  refine wpAny_holding ?_
  have hu' : A.in1.units < cLine := hu
  refine wpAny_bind (wpAny_pyHash_tuple hu' hx ?_)
  refine add_at (s := { s with toks := s.toks + (k.length + 1) }) R hx hu' hfew fun b h' L' es' ep' t' hsb hS2 c1 c2 => ?_
  show wpAny _ _ (ret Value.none) _ _ _
  exact wpAny_pure ⟨_, rfl, hQ h' _ L' es' ep' t' hsb hS2 c1 c2⟩
end
end L2
namespace Fw
open PySem PySem.Spec L2
section
variable {X : Cx} {cs : List (Addr × Addr)} {K : Fz} {G H G' H' G1 H1 : Hp} {O : Addr → Prop} {σ : St} {τ : Tau} {DD : Addr} {gens : List Comprehension} {emit : Sem Unit} {d : Nat}
/-! what is gathered: a set of ints, of tuples -/
def accI : AccK where
  R := fun K G a o ds => ∃ (S : Int → Bool) (n : Nat) (ns : List Int), o = SetO K.w a S n ∧ ds = ns.map PyData.int ∧ (∀ i, S i = true ↔ i ∈ ns) ∧ n ≤ ns.length
  fits := fun ds => ∃ ns : List Int, ds = ns.map PyData.int ∧ ns.length < 4000
  mono := fun _ h => h
  ntbl := fun ⟨S, n, ns, e, _⟩ ps z => by rw [z] at e; cases e
  fitL := fun {xs ys} ⟨ns, e, h⟩ => ⟨ns.take xs.length, by rw [List.map_take, ← e, List.take_left'] <;> rfl, by rw [List.length_take]; omega⟩
def accT : AccK where
  R := fun K G a o ds => ∃ (L : List (Addr × List Int)) (ks : List (List Int)), o = SetTO K.P K.w a L ∧ ds = ks.map tupI ∧ (∀ p ∈ L, Tu G p.1 (p.2.map V.int)) ∧ (∀ k, k ∈ L.map (fun p : Addr × List Int => p.2) ↔ k ∈ ks) ∧ L.length ≤ ks.length
  fits := fun ds => ∃ ks : List (List Int), ds = ks.map tupI ∧ ks.length < 64
  mono := fun h ⟨L, ks, a, b, c, d, r⟩ => ⟨L, ks, a, b, fun p hp => (c p hp).mono h, d, r⟩
  ntbl := fun ⟨L, ks, e, _⟩ ps z => by rw [z] at e; cases e
  fitL := fun {xs ys} ⟨ks, e, h⟩ => ⟨ks.take xs.length, by rw [List.map_take, ← e, List.take_left'] <;> rfl, by rw [List.length_take]; omega⟩
/-- one item put in -/
def AddOk (A : AccK) : Prop := ∀ (X : Cx) (pins : List (Addr × Obj)) (s : Shared) (σ : St) (H G : Hp) (DD : Addr) (ho : HO) (acc : List D) (y : D) (v : V) (u : Value) (E : Value → Shared → Prop) (Q : Value → Shared → Prop), X.A.units + 1 < cLine → Inv X pins σ H s → H DD = some ho → A.R (kw X) G DD ho acc → G DD = none → Inn G H → RelV v u → RD (kw X) G v y → A.fits (acc ++ [y]) →
  (∀ ho' s', Inv X pins σ (upd H DD ho') s' → A.R (kw X) G DD ho' (acc ++ [y]) → Q .none s') → wpAny (model X.prog X.w) X.A (call (.builtin "set.add") [.ref DD, u]) Q E s
theorem append_map {α β : Type} {f : α → β} (hf : ∀ x y, f x = f y → x = y) {xs : List α} {y : β} {zs : List α} (h : xs.map f ++ [y] = zs.map f) : ∃ z, y = f z ∧ zs = xs ++ [z] := by
  have hl := congrArg List.length h
  simp only [List.length_append, List.length_map, List.length_cons, List.length_nil] at hl
  have e : zs = zs.take xs.length ++ zs.drop xs.length := (List.take_append_drop _ _).symm
  match hz : zs.drop xs.length with
  | [] =>
    have := congrArg List.length hz
    rw [List.length_drop, List.length_nil] at this
    omega
  | [z] =>
    rw [e, hz, List.map_append] at h
    have h1 : xs.map f = (zs.take xs.length).map f := by
      have := congrArg (List.take xs.length) h
      rw [List.take_left' (by simp), List.take_left' (by simp; omega)] at this
      exact this
    have inj : ∀ (a b : List α), a.map f = b.map f → a = b := by
      intro a
      induction a with
      | nil => intro b h; cases b with | nil => rfl | cons _ _ => cases h
      | cons x a ih =>
        intro b h
        cases b with
        | nil => cases h
        | cons y b =>
          rw [List.map_cons, List.map_cons] at h
          injection h with h1 h2
          rw [hf _ _ h1, ih _ h2]
    have h2 := inj _ _ h1
    rw [h1] at h
    have h3 := List.append_cancel_left h
    rw [List.map_cons, List.map_nil] at h3
    injection h3 with h3 _
    refine ⟨z, h3, ?_⟩
    rw [e, hz, ← h2]
  | z :: z' :: r =>
    have := congrArg List.length hz
    rw [List.length_drop, List.length_cons, List.length_cons] at this
    omega
theorem int_inj (x y : Int) (h : PyData.int x = PyData.int y) : x = y := by injection h
theorem ints_inj : ∀ (x y : List Int), x.map PyData.int = y.map PyData.int → x = y
  | [], [], _ => rfl
  | [], _ :: _, h => by cases h
  | _ :: _, [], h => by cases h
  | a :: x, b :: y, h => by
    rw [List.map_cons, List.map_cons] at h
    injection h with h1 h2
    rw [int_inj _ _ h1, ints_inj _ _ h2]
theorem tupI_inj (x y : List Int) (h : tupI x = tupI y) : x = y := by
  unfold tupI at h
  injection h with h
  exact ints_inj _ _ h
theorem add_ints : AddOk accI := by
  intro X pins s σ H G DD ho acc y v u E Q hu I hD hA gD inn rv rd hf q
  obtain ⟨S, n, ns, rfl, rfl, hS, hn⟩ := hA
  obtain ⟨zs, hz, hl⟩ := hf
  obtain ⟨z, rfl, rfl⟩ := append_map int_inj hz
  cases rd
  obtain ⟨tk, rfl⟩ := rv
  rw [List.length_append, List.length_singleton] at hl
  have R := setO_get I hD
  refine setR_add R (by unfold scanBound; omega) fun h' sb new => ?_
  have he : ∃ u, h'.get? DD = some u := by
    have ⟨o, _, _, _, ho, _⟩ := new
    exact ⟨o, ho⟩
  refine q (SetO X.w DD (fun j => S j || decide (j = z)) (if S z = true then n else n + 1)) _ (I.write (e := DD) (t' := s.toks + 1) (by rw [hD]; trivial) (.inl rfl) (fun b u hb hu => (sb.2 b hb).trans hu) he (setO_new new)) ⟨_, _, ns ++ [z], rfl, by rw [List.map_append] <;> rfl, fun i => ?_, ?_⟩
  · rw [Bool.or_eq_true, hS, decide_eq_true_eq, List.mem_append, List.mem_singleton]
  · rw [List.length_append, List.length_singleton]
    split <;> omega
theorem add_tups : AddOk accT := by
  intro X pins s σ H G DD ho acc y v u E Q hu I hD hA gD inn rv rd hf q
  obtain ⟨L, ks, rfl, rfl, hT, hm, hn⟩ := hA
  obtain ⟨zs, hz, hl⟩ := hf
  obtain ⟨z, rfl, rfl⟩ := append_map tupI_inj hz
  rw [List.length_append, List.length_singleton] at hl
  cases rd with
  | @tup p vs _ t rs =>
    have := rds_ints rs
    subst this
    cases rv
    obtain ⟨es, ep, tt, R⟩ := SetT0.full (I.hok DD _ hD).1 fun p hp => I.isT ((hT p hp).mono inn).sq
    refine setTR_add R (I.isT (t.mono inn).sq) hu (by omega) fun h' tk L' es' ep' t' hsb hS2 c1 c2 => ?_
    have he : ∃ u, h'.get? DD = some u := by
      have ⟨o, ho, _⟩ := hS2.ob
      exact ⟨o, ho⟩
    refine q (SetTO X.prog X.w DD L') _ (I.write (e := DD) (t' := tk) (by rw [hD]; trivial) (.inl rfl) (fun b u hb hu => (hsb.2 b hb).trans hu) he (setTO_new hS2.t0)) ⟨L', ks ++ [z], rfl, by rw [List.map_append] <;> rfl, fun q hq => ?_, fun k => ?_, ?_⟩
    · rcases Classical.em (z ∈ L.map (·.2)) with c | c
      · rw [c1 c] at hq; exact hT q hq
      · rcases List.mem_cons.mp ((c2 c).mem_iff.mp hq) with rfl | hq
        · exact t
        · exact hT q hq
    · rw [List.mem_append, List.mem_singleton]
      rcases Classical.em (z ∈ L.map (·.2)) with c | c
      · rw [c1 c, hm]
        constructor
        · intro h; exact .inl h
        · rintro (h | rfl)
          · exact h
          · exact (hm k).mp c
      · rw [((c2 c).map (·.2)).mem_iff, List.map_cons, List.mem_cons, hm]
        exact ⟨fun h => h.symm, fun h => h.symm⟩
    · rw [List.length_append, List.length_singleton]
      rcases Classical.em (z ∈ L.map (·.2)) with c | c
      · rw [c1 c]; omega
      · rw [(c2 c).length_eq, List.length_cons]; omega
theorem stage_yldS {A : AccK} (hA : AddOk A) (hu : X.A.units + 1 < cLine) (hxe : X.xe = NoE) {elt : Expr} {scope : Scope} {pos : Pos} (ce : CmpE (.ref DD) X.env (.SetComp elt gens scope pos) gens emit) (hg : gens[d]? = none) {dv : Tau → Option D} (he : PE X elt (tP (kw X) cs dv)) :
    StageP X cs A (.SetComp elt gens scope pos) gens emit DD [] d (fun τ => (dv τ).map ([·])) := by
  intro pins s σ H G τ ho acc ds Qn I hD hAR gD st tb e hfit q
  obtain ⟨y, e1, rfl⟩ := Option.map_eq_some_iff.mp e
  unfold runS
  rw [hg]
  cases ce
  have hrun := he.run pins s σ H (fun v H1 => ∃ G1, Ext G H G1 H1 ∧ RD (kw X) G1 v y) I ⟨G, τ, y, st.undel, tb.undel, e1, fun v G1 H1 x1 r => ⟨G1, x1, r⟩⟩
  rw [hxe] at hrun
  refine wpAny_bind (thnF hrun fun u s1 ⟨v, H1, I1, r1, G1, x1, rd⟩ => ?_)
  have hD1 := keepO x1 hD hAR
  have gD1 := x1.new DD _ hD gD
  have x1' := x1.del hD gD
  refine wpAny_bind (wpAny_standAt (wpAny_bind (hA X pins s1 σ H1 G1 DD ho acc y v u _ _ hu I1 hD1 (A.mono x1.sub hAR) gD1 x1.inn r1 rd hfit fun ho' s2 I2 hA2 => wpAny_pure ?_)))
  exact q σ G1 _ ho' s2 I2 ⟨rfl, fun j v h => (wipe_some h).1⟩ (by rw [delD_upd]; exact x1') upd_same hA2
/-! {.. for ..} -/
def tSC (K : Fz) (cs : List (Addr × Addr)) (gen : Tau → Option (List D)) : TE := fun σ H Q => ∃ G τ ds, StR K G H σ τ ∧ TabOk cs G H ∧ gen τ = some ds ∧ ((setI ds).isSome = true ∨ (setT ds).isSome = true) ∧ ∀ a o G' H', Ext G H G' H' → H' a = some o → SetV K G' a o ds → Q (.ref a) H'
theorem sc_run {A : AccK} {ho0 : Addr → HO} {elt : Expr} {scope : Scope} {pos : Pos} {gen : Tau → Option (List D)} {pins : List (Addr × Obj)} {s : Shared} {ds : List D} {Q : VK} (hc : X.calm = true) (hN : X.N.Nodup) (g : GenOk X cs A (.SetComp elt gens scope pos) gens scope gen) (I : Inv X pins σ H s)
    (hobj : ∀ (H : Hp) (h : Heap), ObjOk X.prog X.w (upd H h.objs.size (ho0 h.objs.size)) (h.push { cls := .type "set", dict := none, data := .set #[] 0 (.fresh 0 0 (!X.w.params.followText "set-order")) }) h.objs.size (ho0 h.objs.size)) (hA0 : ∀ G D, A.R (kw X) G D (ho0 D) [])
    (st : StR (kw X) G H σ τ) (tb : TabOk cs G H) (e : gen τ = some ds) (hf : A.fits ds) (hq : ∀ a o G' H', Ext G H G' H' → H' a = some o → A.R (kw X) G' a o ds → Q (.ref a) H') :
    wpAny (model X.prog X.w) X.A (eval (.SetComp elt gens scope pos) X.env) (EP X pins σ Q) X.xe s := by
  rw [show eval (.SetComp elt gens scope pos) X.env = comprehension (.SetComp elt gens scope pos) scope X.env (firstIterPos gens pos) (newSet (.type "set")) (firstAsync gens) (firstIter gens X.env) from rfl]
  cases g with
  | mk hgens hp ok hs hs1 ht hi hr hvs hown hgen =>
    rename_i t0 i0 ifs0 gs own tg itd ifsD rest vs vr
    have e1 : firstAsync gens = false := by rw [hgens]; rfl
    have e2 : firstIter gens X.env = eval i0 X.env := by rw [hgens]; rfl
    rw [e1, e2]
    rw [hgen] at e
    refine comp_core (A := A) (ho0 := ho0) hc hN I hgens rfl (fun DD env => ⟨_, .s _ _ _ _⟩) hp ok hs hs1 ht hi hr hvs hown (fun {Q E s} h => wpAny_newSet_raw fun led hl => by subst hl; exact h) hobj hA0 st tb e hf
      fun DD C s' m G' H' ho' I' n x h1 h2 hA hn f => ⟨m, hn, fun h'' sb => ?_⟩
    obtain ⟨f0, f1, f2, f3, f4, f5⟩ := f
    exact ⟨.ref DD, H', I'.turned (t' := s'.toks) (fun b o hb e => (sb.2 b hb).trans e) f0 f1 f3 f4 f5, rfl, hq DD ho' G' H' x h1 hA⟩
theorem pe_sc {elt : Expr} {scope : Scope} {pos : Pos} {gen : Tau → Option (List D)} (hc : X.calm = true) (hN : X.N.Nodup) (gI : GenOk X cs accI (.SetComp elt gens scope pos) gens scope gen) (gT : GenOk X cs accT (.SetComp elt gens scope pos) gens scope gen) :
    PE X (.SetComp elt gens scope pos) (tSC (kw X) cs gen) := by
  refine ⟨fun pins s σ H Q I ⟨G, τ, ds, st, tb, e, hs, q⟩ => ?_⟩
  cases h1 : setI ds with
  | some ns =>
    obtain ⟨rfl, hl⟩ := setI_of h1
    refine sc_run (ho0 := fun a => SetO X.w a (fun _ => false) 0) hc hN gI I (fun H h => setO_new (setR_fresh X.w)) (fun G D => ⟨_, _, [], rfl, rfl, fun i => by simp, Nat.le_refl _⟩) st tb e ⟨ns, rfl, hl⟩ fun a o G' H' x ha hA => q a o G' H' x ha ?_
    obtain ⟨S, n, ms, rfl, em, hS, hn⟩ := hA
    have := ints_inj _ _ em
    subst this
    exact .ints hS hl
  | none =>
    rw [h1] at hs
    cases h2 : setT ds with
    | none => rw [h2] at hs; rcases hs with h | h <;> cases h
    | some ks =>
      obtain ⟨rfl, hk⟩ := setT_of h2
      have few : ks.length < 64 := by
        cases ks with
        | nil => cases hk
        | cons k r =>
          unfold tupsOk at hk
          simp only [Bool.and_eq_true, decide_eq_true_eq] at hk
          omega
      refine sc_run (ho0 := fun a => SetTO X.prog X.w a []) hc hN gT I (fun H h => setTO_new (setTR_fresh (Heap.get?_push_size _ rfl)).t0) (fun G D => ⟨[], [], rfl, rfl, (by intro p h; cases h), (by intro k; simp), Nat.le_refl _⟩) st tb e ⟨ks, rfl, few⟩ fun a o G' H' x ha hA => q a o G' H' x ha ?_
      obtain ⟨L, ms, rfl, em, hT, hm, hn⟩ := hA
      have inj : ∀ (a b : List (List Int)), a.map tupI = b.map tupI → a = b := by
        intro a
        induction a with
        | nil => intro b h; cases b with | nil => rfl | cons _ _ => cases h
        | cons x a ih =>
          intro b h
          cases b with
          | nil => cases h
          | cons y b =>
            rw [List.map_cons, List.map_cons] at h
            injection h with h1 h2
            rw [tupI_inj _ _ h1, ih _ h2]
      have := inj _ _ em
      subst this
      exact .tups hT hm hk
/-! sorted(..), len(..) of a set just made -/
theorem sortS_set {ds : List D} {z : D} (h : sortS ds = some z) : (setI ds).isSome = true ∨ (setT ds).isSome = true := by
  unfold sortS at h
  cases h1 : setI ds with
  | some ns => exact .inl rfl
  | none =>
    rw [h1] at h
    cases h2 : setT ds with
    | some ks => exact .inr rfl
    | none => rw [h2] at h; cases h
theorem sortS_list {ds : List D} {z : D} (h : sortS ds = some z) : ∃ zs, z = .list zs := by
  unfold sortS at h
  cases h1 : setI ds with
  | some ns =>
    rw [h1] at h
    have h' : (if (dedupA ns).length < 64 then some (PyData.list ((isort leI (dedupA ns)).map .int)) else none) = some z := h
    split at h'
    · cases h'; exact ⟨_, rfl⟩
    · cases h'
  | none =>
    rw [h1] at h
    obtain ⟨ks, _, rfl⟩ := Option.map_eq_some_iff.mp h
    exact ⟨_, rfl⟩
theorem lenS_set {ds : List D} {n : Nat} (h : lenS ds = some n) : (setI ds).isSome = true ∨ (setT ds).isSome = true := by
  unfold lenS at h
  cases h1 : setI ds with
  | some ns => exact .inl rfl
  | none =>
    rw [h1] at h
    cases h2 : setT ds with
    | some ks => exact .inr rfl
    | none => rw [h2] at h; cases h
variable {e : Expr} {p pos : Pos}
theorem f_sortC {gen : Tau → Option (List D)} (hc : X.calm = true) (hg : Gl X "sorted") (hm : X.mg "sorted" = none) (he : PE X e (tSC (kw X) cs gen)) (hp : Plain e) : PE X (.Call (.Name "sorted" p) [e] [] pos) (tF (kw X) cs fun τ => (gen τ).bind sortS) := by
  refine pe_imp (pe_callB (cr_sortS hc) hg hm PyProof.Rows.boot_sorted (pa_cons he pa_nil (hp _ _)) (he := hp _ _)) fun σ H Q ⟨G, τ, r, st, tb, e, q⟩ => ?_
  obtain ⟨ds, e1, e2⟩ := Option.bind_eq_some_iff.mp e
  obtain ⟨zs, rfl⟩ := sortS_list e2
  refine ⟨G, τ, ds, st, tb, e1, sortS_set e2, fun a o G' H' x ha sv => ⟨G', a, o, ds, zs, rfl, ha, sv, x.inn, e2, fun vs p rs hn => ?_⟩⟩
  exact lay_list x.inn rs (fun w G5 H5 x5 f => q w G5 H5 (x.trans x5) (f.back x)) p hn
theorem p_lenC {gen : Tau → Option (List D)} (hg : Gl X "len") (hm : X.mg "len" = none) (he : PE X e (tSC (kw X) cs gen)) (hp : Plain e) : PE X (.Call (.Name "len" p) [e] [] pos) (tP (kw X) cs fun τ => (gen τ).bind fun ds => (lenS ds).map fun n => .int (n : Nat)) := by
  refine pe_imp (pe_callB cr_lenS hg hm boot_len (pa_cons he pa_nil (hp _ _)) (he := hp _ _)) fun σ H Q ⟨G, τ, r, st, tb, e, q⟩ => ?_
  obtain ⟨ds, e1, e2⟩ := Option.bind_eq_some_iff.mp e
  obtain ⟨n, e3, rfl⟩ := Option.map_eq_some_iff.mp e2
  exact ⟨G, τ, ds, st, tb, e1, lenS_set e3, fun a o G' H' x ha sv => ⟨G', a, o, ds, n, rfl, ha, sv, x.inn, e3, q _ G' H' x (.int _)⟩⟩
/-- set(x) -/
theorem pe_setX {d : Tau → Option D} (hc : X.calm = true) (hu : X.A.units + 64 < cLine) (hg : Gl X "set") (hm : X.mg "set" = none) (he : PE X e (tB (kw X) cs d)) (hp : Plain e) : PE X (.Call (.Name "set" p) [e] [] pos) (tSC (kw X) cs fun τ => (d τ).bind setDs) := by
  refine pe_imp (pe_callTy (cr_setX hc hu) hg hm PyProof.Rows.boot_set (pa_cons he pa_nil (hp _ _)) (he := hp _ _)) fun σ H Q ⟨G, τ, ds, st, tb, e, hs, q⟩ => ?_
  obtain ⟨x, e1, e2⟩ := Option.bind_eq_some_iff.mp e
  refine ⟨G, τ, x, st, tb, e1, fun v G' H' x' b => ⟨G', Ow σ τ, x, v, ds, x'.inn, rfl, b, e2, fun a o hn sv => ?_⟩⟩
  exact q a o G' _ (x'.trans (Ext.lay x'.inn hn)) upd_same sv
theorem setDs_sort {x : D} : ((setDs x).bind sortS) = bltD .sortset [x] := by
  cases x with
  | list ds =>
    show ((if (setI ds).isSome || (setT ds).isSome then some ds else none).bind sortS) = sortS ds
    cases h : sortS ds with
    | some z =>
      have := sortS_set h
      rw [if_pos (by rw [Bool.or_eq_true]; exact this)]
      exact h
    | none =>
      split
      · exact h
      · rfl
  | tuple ds =>
    show ((if (setI ds).isSome then some ds else none).bind sortS) = (setI ds).bind sortI
    cases h : setI ds with
    | none => rfl
    | some ns =>
      show sortS ds = sortI ns
      unfold sortS
      rw [h]
  | _ => rfl
theorem setDs_len {x : D} : ((setDs x).bind fun ds => (lenS ds).map fun n => PyData.int (n : Nat)) = bltD .lenset [x] := by
  cases x with
  | list ds =>
    show ((if (setI ds).isSome || (setT ds).isSome then some ds else none).bind _) = (lenS ds).map _
    cases h : lenS ds with
    | some z =>
      have := lenS_set h
      rw [if_pos (by rw [Bool.or_eq_true]; exact this)]
      show (lenS ds).map _ = _
      rw [h]
    | none =>
      split
      · show (lenS ds).map _ = _
        rw [h]
      · rfl
  | tuple ds =>
    show ((if (setI ds).isSome then some ds else none).bind _) = (setI ds).map _
    cases h : setI ds with
    | none => rfl
    | some ns =>
      show (lenS ds).map _ = _
      unfold lenS
      rw [h]
      rfl
  | _ => rfl
theorem f_sortset {d : Tau → Option D} {p2 pos2 : Pos} (hc : X.calm = true) (hu : X.A.units + 64 < cLine) (hg : Gl X "sorted") (hm : X.mg "sorted" = none) (hg2 : Gl X "set") (hm2 : X.mg "set" = none) (he : PE X e (tB (kw X) cs d)) (hp : Plain e) :
    PE X (.Call (.Name "sorted" p) [.Call (.Name "set" p2) [e] [] pos2] [] pos) (tF (kw X) cs fun τ => (d τ).bind fun x => bltD .sortset [x]) := by
  refine pe_imp (f_sortC hc hg hm (pe_setX hc hu hg2 hm2 he hp) fun _ _ => rfl) fun σ H Q ⟨G, τ, r, st, tb, e, q⟩ => ⟨G, τ, r, st, tb, ?_, q⟩
  obtain ⟨x, e1, e2⟩ := Option.bind_eq_some_iff.mp e
  show ((d τ).bind setDs).bind sortS = some r
  rw [e1]
  exact setDs_sort.trans e2
theorem p_lenset {d : Tau → Option D} {p2 pos2 : Pos} (hc : X.calm = true) (hu : X.A.units + 64 < cLine) (hg : Gl X "len") (hm : X.mg "len" = none) (hg2 : Gl X "set") (hm2 : X.mg "set" = none) (he : PE X e (tB (kw X) cs d)) (hp : Plain e) :
    PE X (.Call (.Name "len" p) [.Call (.Name "set" p2) [e] [] pos2] [] pos) (tP (kw X) cs fun τ => (d τ).bind fun x => bltD .lenset [x]) := by
  refine pe_imp (p_lenC hg hm (pe_setX hc hu hg2 hm2 he hp) fun _ _ => rfl) fun σ H Q ⟨G, τ, r, st, tb, e, q⟩ => ⟨G, τ, r, st, tb, ?_, q⟩
  obtain ⟨x, e1, e2⟩ := Option.bind_eq_some_iff.mp e
  show ((d τ).bind setDs).bind (fun ds => (lenS ds).map fun n => PyData.int (n : Nat)) = some r
  rw [e1]
  exact setDs_len.trans e2
end
end Fw
end
section
set_option Elab.async false
set_option linter.all false
set_option maxRecDepth 100000
set_option maxHeartbeats 800000
namespace Fw
open PySem PySem.Spec L2 GenW
open PyProof.Rows (AllBare)
/-! ### generator expressions: the run -/
/-- the items handed out, up to where no more is wanted -/
inductive GoR (R : D → List D → Bool → Prop) : List D → List D → Bool → Prop
  | nil : GoR R [] [] true
  | stop {x : D} {xs l : List D} : R x l false → GoR R (x :: xs) l false
  | cons {x : D} {xs l l' : List D} {b : Bool} : R x l true → GoR R xs l' b → GoR R (x :: xs) (l ++ l') b
theorem gor_nil {R : D → List D → Bool → Prop} (h : ∀ x l, R x l false → l ≠ []) : ∀ {xs : List D} {b : Bool}, GoR R xs [] b → b = true := by
  intro xs
  induction xs with
  | nil => intro b g; cases g; rfl
  | cons x xs ih =>
    intro b g
    generalize hl : ([] : List D) = l at g
    cases g with
    | stop r => exact absurd hl.symm (h _ _ r)
    | cons r g =>
      obtain ⟨_, e⟩ := List.append_eq_nil_iff.mp hl.symm
      rw [e] at g
      exact ih g
def clR (vs : List Nat) (tg : Tg) (ifs : List Dn) (rest : Tau → List D → Bool → Prop) (τ : Tau) (x : D) (l : List D) (b : Bool) : Prop :=
  ∃ τ' k, bindTg tg x (wipeT τ vs) = some τ' ∧ tstsL ifs τ' = some k ∧ ((k = true ∧ rest τ' l b) ∨ (k = false ∧ l = [] ∧ b = true))
def yR (dv : Tau → Option D) (P : D → Bool → Prop) (τ : Tau) (l : List D) (b : Bool) : Prop := ∃ y, dv τ = some y ∧ l = [y] ∧ P y b
/-- what the consumer does while the generator sleeps -/
structure KeptBut (S : List Addr) (s s' : Shared) : Prop where
  os : s'.os = s.os
  bare : AllBare s'.gens
  keep : ∀ b o, b ∉ S → s.heap.get? b = some o → s'.heap.get? b = some o
  here : ∀ b ∈ S, ∃ o, s'.heap.get? b = some o ∧ ∀ v, o.data ≠ .cell v
def SOk (X : Cx) (pl : List (Addr × Obj)) (S : List Addr) : Prop := ∀ b ∈ S, X.s_0.heap.objs.size ≤ b ∧ b ≠ X.env.locals ∧ b ∉ X.fs ∧ (∀ x c, X.env.cells.lookup x = some c → c ≠ b) ∧ ∀ p ∈ X.pn ++ pl, p.1 ≠ b
def SHere (S : List Addr) (s : Shared) : Prop := ∀ b ∈ S, ∃ o, s.heap.get? b = some o
section
variable {X : Cx} {S : List Addr} {pl : List (Addr × Obj)} {h0 : Heap} {σ : St} {H : Hp} {s s' : Shared}
theorem pinS {s₀ : Shared} {pl : List (Addr × Obj)} (hs : SHere S s₀) (I : Inv X (pinsAt S s₀.heap ++ pl) σ H s) : ∀ b ∈ S, s.heap.get? b = s₀.heap.get? b ∧ H b = none := fun b hb => by
  obtain ⟨o, e⟩ := hs b hb
  have p := I.pin (b, o) (List.mem_append_right _ (List.mem_append_left _ (mem_pinsAt hb e)))
  exact ⟨p.1.trans e.symm, p.2.1⟩
/-- woken again -/
theorem woken (hS : SOk X [] S) (hH : ∀ b ∈ S, H b = none) (I0 : Inv X [] σ H s) (k : KeptBut S s s') : Inv X (pinsAt S s'.heap) σ H s' := by
  obtain ⟨z1, z2, z3, z4⟩ := k
  obtain ⟨hh, g, d, t, o⟩ := s'
  have ho : o = s.os := z1
  subst ho
  have nt : ∀ b u, H b = some u → b ∉ S := fun b u q hb => by rw [hH b hb] at q; cases q
  have J : Inv X [] σ H { s with heap := hh, gens := g, drawn := d, toks := t } := by
    refine I0.step (g' := g) (t' := t) (d' := d) (ch := S) (fun b hb => ?_)
      (fun b ob _ _ hc q _ => z3 b ob hc q) (fun b ob _ _ hc q _ => ⟨ob.slots, z3 b ob hc q⟩) (fun _ _ _ _ n => n) (fun b ob hc q => ⟨ob, z3 b ob hc q⟩)
      (fun _ _ q => q) (fun _ _ _ q => q) (fun b ps q => ⟨#[], by rw [q]; simp⟩) (fun m hm => ?_) (fun b u q => ?_) z2
    · obtain ⟨h1, h2, h3, h4, h5⟩ := hS b hb
      exact ⟨.inr h1, h2, h4, h5⟩
    · obtain ⟨ob, es, ep, ho, r⟩ := hm
      exact ⟨ob, es, ep, z3 _ ob (fun z => (hS _ z).2.1 rfl) ho, r⟩
    · refine (I0.hok b u q).stay (fun c v hc y => z3 c v ?_ y) (fun _ y => y) fun _ _ y => y
      rcases hc with y | y
      · rw [y]; exact nt b u q
      · exact nt c _ y
  exact J.pinned (pins := []) (fun b hb => by
    obtain ⟨h1, h2, h3, h4, h5⟩ := hS b hb
    exact ⟨hH b hb, h2, h3, .inr h1, h4, h5⟩) z4
end
section
variable {X : Cx} {cs : List (Addr × Addr)} {elt t0 i0 : Expr} {ifs0 : List Expr} {scope : Scope} {pos : Pos} {A0 : Around} {R : GenEnd} {Y : Protocol} {S : List Addr} {L : List D} {F : Bool} {vs : List Nat} {C : Heap → List Value → Prop}
theorem seg_gloop (hxe : X.xe = NoE) (hc : X.calm = true) (hN : X.N.Nodup) (hco : X.env.scope.isCoroutine = false) {it : Addr} (hA : A0.over (.compLoop (.GeneratorExp elt [⟨t0, i0, ifs0, 0⟩] scope pos) 0 (.ref it) .none X.env) [] = X.A)
    {tg : Tg} {ifsD : List Dn} {dv : Tau → Option D} {P : D → Bool → Prop} (ht : TgE X t0 tg) (hi : TsE X cs ifs0 ifsD) (he : PE X elt (tP (kw X) cs dv)) {G1 H1 : Hp} {σ : St} {τ : Tau} {xs : List D} {J : It} {fp : List Addr} {tn : Nat → Heap → Prop}
    (T : Turn X.prog X.w X.K t0 J fp it tn) (W : Wk (kw X) J xs (fun G' H' => Ext G1 H1 G' H')) (st : StR (kw X) G1 H1 σ τ) (tb : TabOk cs G1 H1) (hvs : vs = tg.own) (hS : SOk X [] S)
    (hfp : ∀ b ∈ fp, b ∉ S ∧ b ≠ X.env.locals ∧ b ∉ X.fs ∧ (b ∈ X.ex ∨ X.s_0.heap.objs.size ≤ b) ∧ (∀ x c, X.env.cells.lookup x = some c → c ≠ b) ∧ ∀ p ∈ X.pn, p.1 ≠ b)
    (hY : ∀ n s₀ v s kap σ' G' H' x y b us zs, Inv X (pinsAt S s₀.heap) σ' H' s → SHere S s₀ → C s₀.heap us → Vals zs us → RDs (kw X) G' zs (L.take (L.length - 1 - n)) → RelV x v → RD (kw X) G' x y → Ext G1 H1 G' H' → L[L.length - 1 - n]? = some y → P y b → (b = false → n = 0 ∧ F = false) → (b = true → n = 0 → F = true) → (b = true → ∀ s'', KeptBut S s s'' → C s''.heap (us ++ [v]) → kap (.send .none) s'') → Y n s₀ v s kap)
    (hR : ∀ s₀ s σ' G' H' us zs, Inv X (pinsAt S s₀.heap) σ' H' s → SHere S s₀ → C s₀.heap us → Vals zs us → RDs (kw X) G' zs L → Ext G1 H1 G' H' → F = true → R 0 s₀ (.ok .next) s) :
    ∀ (k i n : Nat) (s₀ s : Shared) (G H : Hp) (l pre : List D) (us : List Value) (zs : List V), C s₀.heap us → Vals zs us → RDs (kw X) G zs pre → xs.length - i = k → i ≤ xs.length → Inv X (pinsAt S s₀.heap) (wipe σ vs) H s → SHere S s₀ → tn i s.heap → (∀ b ∈ fp, H b = none) → Ext G1 H1 G H → GoR (clR vs tg ifsD (yR dv P) τ) (xs.drop i) l F → L = pre ++ l → n = l.length →
      Seg (model X.prog X.w) A0 R Y n s₀ (.compLoop (.GeneratorExp elt [⟨t0, i0, ifs0, 0⟩] scope pos) 0 (.ref it) .none X.env) ((model X.prog X.w).den (.compLoop (.GeneratorExp elt [⟨t0, i0, ifs0, 0⟩] scope pos) 0 (.ref it) .none X.env)) [] s := by
  intro k
  induction k with
  | zero =>
    intro i n s₀ s G H l pre us zs hC hV hZ hk hi' I hs0 st0 hn x1 hg hL hn'
    have e : i = xs.length := by omega
    subst e
    rw [List.drop_length] at hg
    cases hg
    subst hn'
    show Seg _ A0 _ _ _ s₀ _ ((compTurn (.GeneratorExp elt [⟨t0, i0, ifs0, 0⟩] scope pos) 0 (.ref it) .none X.env).onRaise (leaving X.env)) [] s
    rw [compTurn_gen, Sem.onRaise_eq_wrap]
    refine seg_bind_wrap (wpAny_standAt ?_)
    refine seg_bind_wrap ?_
    rw [hA]
    have fo : ∀ b ∈ fp, FpOk X (pinsAt S s₀.heap) H b := fun b hb => by
      obtain ⟨f0, f1, f2, f3, f4, f5⟩ := hfp b hb
      refine ⟨hn b hb, f1, f2, f3, f4, fun p hp => ?_⟩
      rcases List.mem_append.mp hp with z | z
      · exact f5 p z
      · exact fun e => f0 (e ▸ (of_pinsAt z).1)
    refine wpAny_mono (T.done X rfl rfl rfl hc _ _ s _ H NoE I fo st0 (W.st G H x1)) (fun r s6 ⟨hr', I6⟩ => ?_) fun _ _ z => z.elim
    subst hr'
    exact seg_end (.ok .next) (hR s₀ s6 _ G H us zs I6 hs0 hC hV (by rw [hL, List.append_nil]; exact hZ) x1 rfl)
  | succ k ih =>
    intro i n s₀ s G5 H5 l pre us zs hC hV hZ hk hi' I5 hs0 st5 hn5 x5 hg5 hL hn'
    have hlt : i < xs.length := by omega
    have fo : ∀ {H : Hp}, (∀ b ∈ fp, H b = none) → ∀ b ∈ fp, FpOk X (pinsAt S s₀.heap) H b := fun {H} hn b hb => by
      obtain ⟨f0, f1, f2, f3, f4, f5⟩ := hfp b hb
      refine ⟨hn b hb, f1, f2, f3, f4, fun p hp => ?_⟩
      rcases List.mem_append.mp hp with z | z
      · exact f5 p z
      · exact fun e => f0 (e ▸ (of_pinsAt z).1)
    show Seg _ A0 _ _ _ s₀ _ ((compTurn (.GeneratorExp elt [⟨t0, i0, ifs0, 0⟩] scope pos) 0 (.ref it) .none X.env).onRaise (leaving X.env)) [] s
    rw [compTurn_gen, Sem.onRaise_eq_wrap]
    refine seg_bind_wrap (wpAny_standAt ?_)
    refine seg_bind_wrap ?_
    rw [hA]
    refine wpAny_mono (T.item X rfl rfl rfl hc i _ s _ H5 NoE I5 (fo hn5) st5 (W.go i G5 H5 hlt x5)) (fun r s6 ⟨u, hr', h6⟩ => ?_) fun _ _ z => z.elim
    subst hr'
    refine seg_bind_wrap ?_
    rw [hA]
    refine wpAny_mono h6 (fun _ s7 ⟨x, H7, I7, r7, y7, st7, n7⟩ => ?_) fun _ _ z => z.elim
    have hx : xs[i]? = some xs[i] := List.getElem?_eq_getElem hlt
    obtain ⟨G7, x7, rd7⟩ := W.yl i xs[i] G5 H5 x H7 hx x5 y7
    have x7' := x5.trans x7
    have I7' := I7.pinned (fo n7) (T.obj _ _ st7)
    rw [List.drop_eq_getElem_cons hlt] at hg5
    obtain ⟨τ', kk, b1, b2, l1, b0, l2, hrest, hgo⟩ : ∃ τ' kk, bindTg tg xs[i] (wipeT τ vs) = some τ' ∧ tstsL ifsD τ' = some kk ∧ ∃ l1 b0 l2, ((kk = true ∧ yR dv P τ' l1 b0) ∨ (kk = false ∧ l1 = [] ∧ b0 = true)) ∧ ((b0 = false ∧ l = l1 ∧ F = false) ∨ (b0 = true ∧ l = l1 ++ l2 ∧ GoR (clR vs tg ifsD (yR dv P) τ) (xs.drop (i + 1)) l2 F)) := by
      generalize xs[i] = x0 at hg5
      generalize xs.drop (i + 1) = xr at hg5 ⊢
      cases hg5 with
      | stop h => obtain ⟨τ', kk, h1, h2, h3⟩ := h; exact ⟨τ', kk, h1, h2, _, _, [], h3, .inl ⟨rfl, rfl, rfl⟩⟩
      | cons h h' => obtain ⟨τ', kk, h1, h2, h3⟩ := h; exact ⟨τ', kk, h1, h2, _, _, _, h3, .inr ⟨rfl, rfl, h'⟩⟩
    have stw : StR (kw X) G7 H7 (wipe σ vs) (wipeT τ vs) := (st.wipe vs fun i h => h).ext x7'
    have pg := (pg_tg hc hN ht).run _ s7 _ H7 x u (fun σ8 H8 => H8 = H7 ∧ StR (kw X) G7 H7 σ8 τ' ∧ σ8.length = (wipe σ vs).length ∧ wipe σ8 tg.own = wipe (wipe σ vs) tg.own) I7' r7
      ⟨G7, H7, _, _, _, stw, rd7, x7.inn, b1, fun σ8 s8 l8 w8 => ⟨rfl, s8, l8, w8 _ fun _ h => h⟩⟩
    rw [hxe] at pg
    refine seg_bind_wrap ?_
    rw [hA]
    refine wpAny_mono pg (fun _ s8 ⟨σ8, H8, I8, hH8, st8, l8, w8⟩ => ?_) fun _ _ z => z.elim
    subst hH8
    have pt := (pts_ts hi).run _ s8 σ8 H8 (fun k1 H9 => k1 = kk ∧ ∃ G9, Ext G7 H8 G9 H9) I8 ⟨G7, τ', kk, st8, tb.ext x7', b2, fun G9 H9 x9 => ⟨rfl, G9, x9⟩⟩
    rw [hxe] at pt
    refine seg_bind_wrap ?_
    rw [hA]
    refine wpAny_mono pt (fun k1 s9 ⟨H9, I9, ek, G9, x9⟩ => ?_) fun _ _ z => z.elim
    subst ek
    -- the rest of the walk
    have go : ∀ (n' : Nat) (s₁ s' : Shared) (σ' : St) (G' H' : Hp), Inv X (pinsAt S s₁.heap) σ' H' s' → SHere S s₁ → σ'.length = σ8.length → (∀ (j : Nat) (v : V), σ8[j]? = some (some v) → σ'[j]? = some (some v)) → Ext G9 H9 G' H' → (∀ b ∈ fp, ∀ o, s7.heap.get? b = some o → s'.heap.get? b = some o ∧ H' b = none) →
        ∀ (pre' : List D) (us' : List Value) (zs' : List V), C s₁.heap us' → Vals zs' us' → RDs (kw X) G' zs' pre' → L = pre' ++ l2 → n' = l2.length → GoR (clR vs tg ifsD (yR dv P) τ) (xs.drop (i + 1)) l2 F →
        Seg (model X.prog X.w) A0 R Y n' s₁ (.compLoop (.GeneratorExp elt [⟨t0, i0, ifs0, 0⟩] scope pos) 0 (.ref it) .none X.env) ((model X.prog X.w).den (.compLoop (.GeneratorExp elt [⟨t0, i0, ifs0, 0⟩] scope pos) 0 (.ref it) .none X.env)) [] s' := by
      intro n' s₁ s' σ' G' H' I' hs1 el ew x' hf pre' us' zs' hC' hV' hZ' hL' hn2 hgo'
      refine ih (i + 1) n' s₁ s' G' H' l2 pre' us' zs' hC' hV' hZ' (by omega) hlt (I'.weak ?_ ?_) hs1 (T.keep _ _ _ st7 fun b hb o e => (hf b hb o e).1) (fun b hb => ?_) ((x7'.trans x9).trans x') hgo' hL' hn2
      · rw [el, l8]
      · intro j v hj
        have hj0 := (wipe_some hj).2
        refine ew j v ?_
        have e1 : (wipe σ8 tg.own)[j]? = (wipe (wipe σ vs) tg.own)[j]? := by rw [w8]
        rw [wipe_out (by rw [← hvs]; exact hj0), wipe_out (by rw [← hvs]; exact hj0)] at e1
        rw [e1]; exact hj
      · obtain ⟨o, e, _⟩ := T.obj _ _ st7 b hb
        exact (hf b hb o e).2
    rcases hrest with ⟨rfl, y, ey, rfl, hP⟩ | ⟨rfl, rfl, rfl⟩
    · simp only [if_true]
      have hy : ∀ v, yieldOut X.env v = yieldValue v := fun v => by simp only [yieldOut, hco, Bool.false_eq_true, if_false]
      simp only [hy]
      rw [Sem.bind_eq_wrap', Sem.bind_eq_wrap', Sem.wrap_wrap, Sem.wrap_wrap]
      have hrun := he.run _ s9 σ8 H9 (fun v H10 => ∃ G10, Ext G9 H9 G10 H10 ∧ RD (kw X) G10 v y) I9 ⟨G9, τ', y, st8.ext x9, (tb.ext x7').ext x9, ey, fun v G10 H10 x10 r => ⟨G10, x10, r⟩⟩
      rw [hxe] at hrun
      refine seg_wrap ?_
      rw [hA]
      refine wpAny_mono hrun (fun w s10 ⟨v, H10, I10, r10, G10, x10, rd10⟩ => ?_) fun _ _ z => z.elim
      obtain ⟨m, hm⟩ : ∃ m, n = m + 1 ∧ (L[L.length - 1 - m]? = some y ∧ L.take (L.length - 1 - m) = pre) ∧ (b0 = false → m = 0) ∧ (b0 = true → m = l2.length ∧ L = (pre ++ [y]) ++ l2) := by
        rcases hgo with ⟨rfl, rfl, _⟩ | ⟨rfl, rfl, _⟩
        · refine ⟨0, hn', ?_, fun _ => rfl, fun z => nomatch z⟩
          rw [hL]
          exact ⟨by simp, by simp⟩
        · refine ⟨l2.length, by rw [hn']; simp, ?_, (fun z => nomatch z), fun _ => ⟨rfl, by rw [hL]; simp⟩⟩
          rw [hL]
          have e1 : (pre ++ ([y] ++ l2)).length - 1 - l2.length = pre.length := by simp
          rw [e1, List.getElem?_append_right (Nat.le_refl _), Nat.sub_self]
          exact ⟨rfl, by simp⟩
      obtain ⟨rfl, ⟨hm1, hm0⟩, hm2, hm3⟩ := hm
      have hZ10 : RDs (kw X) G10 zs pre := RDs.mono ((x7.trans x9).trans x10).sub hZ
      have hpS := pinS hs0 I10
      refine seg_at (seg_yield rfl rfl rfl (hY m s₀ w s10 _ σ8 G10 H10 v y b0 us zs (I10.unpinned) hs0 hC hV (by rw [hm0]; exact hZ10) r10 rd10 ((x7'.trans x9).trans x10) hm1 hP (fun z => ⟨hm2 z, ?_⟩) (fun z zn => ?_) fun z s'' kb hC'' => ?_))
      · rcases hgo with ⟨_, _, q⟩ | ⟨q, _, _⟩
        · exact q
        · rw [z] at q; cases q
      · rcases hgo with ⟨q, _, _⟩ | ⟨_, _, q⟩
        · rw [z] at q; cases q
        · obtain ⟨q1, _⟩ := hm3 z
          rw [zn] at q1
          rw [List.length_eq_zero_iff.mp q1.symm] at q
          exact gor_nil (fun x l h => by
            obtain ⟨_, _, _, _, ⟨_, _, _, e, _⟩ | ⟨_, _, e⟩⟩ := h
            · rw [e]; simp
            · cases e) q
      · obtain ⟨q1, q2⟩ := hm3 z
        rcases hgo with ⟨q, _, _⟩ | ⟨_, _, hgo'⟩
        · rw [z] at q; cases q
        · have I11 := woken hS (fun b hb => (hpS b hb).2) ((I10.unpinned).unpinned (pins := [])) kb
          refine seg_again rfl (go m s'' s'' σ8 G10 H10 I11 (fun b hb => let ⟨o, e, _⟩ := kb.here b hb; ⟨o, e⟩) rfl (fun _ _ h => h) x10 (fun b hb o e => ?_) (pre ++ [y]) (us ++ [w]) (zs ++ [v]) hC'' (hV.append (.cons r10 .nil)) (RDs.append hZ10 (RDs.one rd10)) q2 q1 hgo')
          have p := I10.pin (b, o) (List.mem_append_right _ (List.mem_append_right _ (mem_pinsAt hb e)))
          exact ⟨kb.keep b o (hfp b hb).1 p.1, p.2.1⟩
    · simp only [Bool.false_eq_true, if_false]
      rcases hgo with ⟨q, _, _⟩ | ⟨_, rfl, hgo'⟩
      · cases q
      · refine seg_again rfl (go n s₀ s9 σ8 G9 H9 (I9.unpinned) hs0 rfl (fun _ _ h => h) (Ext.refl x9.inn) (fun b hb o e => ?_) pre us zs hC hV (RDs.mono (x7.trans x9).sub hZ) (by simpa using hL) (by simpa using hn') hgo')
        have p := I9.pin (b, o) (List.mem_append_right _ (List.mem_append_right _ (mem_pinsAt hb e)))
        exact ⟨p.1, p.2.1⟩
end
end Fw
end
section
set_option Elab.async false
set_option linter.all false
set_option maxRecDepth 100000
set_option maxHeartbeats 800000
namespace Fw
open PySem PySem.Spec L2 GenW
open PyProof.Rows (AllBare)
/-! ### generator expressions: made -/
/-- about as deep as A -/
structure NearA (A A0 : Around) : Prop where
  hd : A0.handled = none
  fr : A0.frames = A.frames
  dp : A0.depth = A.depth
  un : A0.units ≤ A.units + 12
abbrev _root_.L2.Cx.gx (X : Cx) (A0 : Around) (s : Shared) (H : Hp) (cenv : Env) (fp : List Addr) : Cx := { X with A := A0.deeper cenv, s_0 := s, H_0 := H, env := cenv, outer := X.stack, stack := cenv :: X.stack, ex := fp, fn := fun _ => false, calm := true, pn := [], xe := NoE }
inductive GxB (X : Cx) (scope : Scope) : Cx → Prop
  | mk (A0 : Around) (hA : NearA X.A A0) (s : Shared) (H : Hp) (C : Addr) (code : Value) (fp : List Addr) : GxB X scope (X.gx A0 s H (genEnv scope (cloFrom X.env.cells scope.names []) C code builtinsNs X.env) fp)
section
variable {X : Cx} {pins : List (Addr × Obj)} {σ : St} {H : Hp} {s : Shared}
theorem gx_start {scope : Scope} {own : List (Str × Nat)} {fp : List Addr} {A0 : Around} {code it : Value} {h' : Heap} {go : Obj} {gn : GenState} {tk : Nat} (hA : NearA X.A A0) (I : Inv X pins σ H s) (ok : BlkOk X.N X.env.scope scope own) (hcell : ∀ y ∈ scope.names, y.2 ≠ .cell) (hN : X.N.Nodup)
    (hfp : ∀ b ∈ fp, FpOk X pins H b ∧ b < s.heap.objs.size)
    (hn : h'.Ns s.heap.objs.size (fun y => if y = (".0" : Str) then some it else none)) (sb : Heap.SameBut s.heap.objs.size (s.heap.push { cls := .type "frame", data := .dict #[] }) h') (hg : gn.bare = true) :
    Inv (X.gx A0 s H (genEnv scope (cloFrom X.env.cells scope.names []) s.heap.objs.size code builtinsNs X.env) fp) [] (wipe σ (own.map (·.2))) H { s with gens := s.gens.push gn, toks := tk, heap := h'.push go } := by
  have hfree : ∀ y ∈ scope.names, y.2 = .free → ∃ c, X.env.cells.lookup y.1 = some c := fun y hy e => by
    rcases ok.free y hy e with k | k
    · exact I.ok.has _ (.inl k)
    · exact I.ok.has _ (.inr k)
  have kp : ∀ b o, s.heap.get? b = some o → (h'.push go).get? b = some o := fun b o e => Heap.get?_push_of_some _ (sb.extBut b o (Nat.ne_of_lt (Heap.lt_size e)) (Heap.get?_push_of_some _ e))
  generalize hcenv : genEnv scope (cloFrom X.env.cells scope.names []) s.heap.objs.size code builtinsNs X.env = cenv
  have hL : cenv.locals = s.heap.objs.size := by rw [← hcenv]; rfl
  have hcl : cenv.cells = cloFrom X.env.cells scope.names [] := by rw [← hcenv]; rfl
  have hsc : cenv.scope = scope := by rw [← hcenv]; rfl
  have hkd : ∀ y, cenv.kindOf y = scope.names.lookup y := fun y => by unfold Env.kindOf; rw [hsc]
  have cm : ∀ {y c}, cenv.cells.lookup y = some c → X.env.cells.lookup y = some c ∧ c < s.heap.objs.size := fun {y c} e => by
    rw [hcl] at e
    rcases cloFrom_mem (PySem.mem_of_lookup e) with hm | ⟨h1, rfl⟩
    · cases hm
    · obtain ⟨c, hc⟩ := hfree _ h1 rfl
      rw [hc]
      obtain ⟨w, z⟩ := I.cell _ _ hc
      exact ⟨rfl, z.lt⟩
  have look : ∀ {y}, scope.names.lookup y = some .free → ∃ c, cenv.cells.lookup y = some c ∧ X.env.cells.lookup y = some c := fun {y} hl => by
    have hy : (y, NameKind.free) ∈ scope.names := PySem.mem_of_lookup hl
    obtain ⟨c', e'⟩ := mem_lookup (cloFrom_has (cells := X.env.cells) (acc := []) hy)
    rw [← hcl] at e'
    exact ⟨c', e', (cm e').1⟩
  have okB : (X.gx A0 s H cenv fp).Ok := by
    refine ⟨I.ok.mod, by show cenv.scope.kind = _; rw [hsc]; exact ok.kind, by show cenv.globals = _; rw [← hcenv]; exact I.ok.glob, by show cenv.builtins = _; rw [← hcenv]; rfl, by show s.heap.objs.size ≤ cenv.locals; rw [hL]; exact Nat.le_refl _,
      fun y z c e1 e2 => I.ok.inj y z c (cm e1).1 (cm e2).1, fun y hy => ?_, (fun y c z e => nomatch z), fun _ => hA.hd, Around.frames_deeper (hA.fr.trans I.ok.frames), .inr ⟨rfl, by rw [← hcenv]; rfl⟩, fun b hb => ⟨?_, fun y c e z => ?_⟩, I.bs, Nat.le_trans I.ok.bsz I.sz, fun b o e hb => ?_, fun b hb z => ?_, I.stack, I.stkFree⟩
    · have hy : cenv.kindOf y = some .cell ∨ cenv.kindOf y = some .free := hy
      rw [hkd] at hy
      rcases hy with hy | hy
      · exact absurd rfl (hcell _ (PySem.mem_of_lookup hy))
      · obtain ⟨c, h1, _⟩ := look hy
        exact ⟨c, h1⟩
    · show b ≠ cenv.locals
      rw [hL]; exact Nat.ne_of_lt (hfp b hb).2
    · exact (hfp b hb).1.2.2.2.2.1 y c (cm e).1 z
    · rcases (hfp b hb).1.2.2.2.1 with z | z
      · exact I.ok.noex b o e z
      · exact absurd (Nat.lt_of_lt_of_le (Heap.lt_size e) (Nat.le_trans I.ok.bsz z)) (Nat.lt_irrefl _)
    · rcases List.mem_cons.mp (I.stkSub b z) with z | z
      · exact (hfp b hb).1.2.1 z
      · exact (hfp b hb).1.2.2.1 z
  refine ⟨okB, rfl, I.bare.push hg, Un.kept kp, ⟨fun y => if y = (".0" : Str) then some it else none, ?_, fun i y av e1 e2 e3 => ?_⟩, fun y c e => ?_, ?_, fun y c e => ?_, fun p hp => ?_, I.hok.kept kp, by rw [wipe_length]; exact I.len⟩
  · show Heap.Ns _ cenv.locals _
    rw [hL]
    exact hn.keeps fun b o e => Heap.get?_push_of_some _ e
  · obtain ⟨e2, hne⟩ := wipe_some e2
    have hfr : scope.names.lookup y = some .free := by
      have no : ∀ k', scope.names.lookup y = some k' → ¬ (k' = .local ∨ k' = .cell) := fun k' e hh => by
        rcases ok.own _ (PySem.mem_of_lookup e) hh with e' | e'
        · obtain ⟨p, hp, hpy⟩ := List.mem_map.mp e'
          have e3 := ok.ix p hp
          have : p.1 = y := hpy
          rw [this] at e3
          exact hne (List.mem_map.mpr ⟨p, hp, nodup_ix hN e3 e1⟩)
        · exact e' (List.mem_of_getElem? e1)
      have e3 : Vis cenv.scope y := e3
      rw [hsc] at e3
      rcases e3 with e3 | e3 | e3
      · exact absurd (.inl rfl) (no _ e3)
      · exact absurd (.inr rfl) (no _ e3)
      · exact e3
    obtain ⟨m, hn, hl⟩ := I.loc
    have hvis : Vis X.env.scope y := (ok.free _ (PySem.mem_of_lookup hfr) rfl).elim (fun k => .inr (.inl k)) (fun k => .inr (.inr k))
    obtain ⟨w, r, q⟩ := hl i y av e1 e2 hvis
    refine ⟨w, r, .inr ⟨.inr (by show cenv.kindOf y = _; rw [hkd]; exact hfr), ?_⟩⟩
    obtain ⟨c, h1, h2⟩ := look hfr
    rcases q with ⟨k, _⟩ | ⟨_, c', e', z⟩
    · have k : X.env.scope.names.lookup y = some .local := k
      rcases ok.free _ (PySem.mem_of_lookup hfr) rfl with k' | k' <;> rw [show X.env.scope.names.lookup y = _ from k'] at k <;> cases k
    · rw [h2] at e'; cases e'
      exact ⟨c, h1, z.keeps kp⟩
  · obtain ⟨w, z⟩ := I.cell y c (cm e).1
    exact ⟨w, z.keeps kp⟩
  · show H cenv.locals = none
    rw [hL]; exact I.hok.fresh (Nat.le_refl _)
  · exact I.freeC y c (cm e).1
  · exact absurd (show p ∈ ([] : List (Addr × Obj)) ++ [] from hp) (by simp)
end
section
variable {X : Cx} {cs : List (Addr × Addr)} {elt t0 i0 : Expr} {ifs0 : List Expr} {scope : Scope} {pos : Pos} {A0 : Around} {R : GenEnd} {Y : Protocol} {S : List Addr} {L : List D} {F : Bool} {vs : List Nat}
theorem over_gx {A : Around} {env : Env} {it acc : Value} : A.over (.compLoop (.GeneratorExp elt [⟨t0, i0, ifs0, 0⟩] scope pos) 0 it acc env) [] = A.deeper env := by
  first
    | rfl
    | (obtain ⟨hd, d, fr, gs, u⟩ := A; simp [Around.over, Around.deeper, marksOver, frameCount, unitsOf, envsOf, guardsOf, pushEnvs, pushGuards, Code.envs, Code.env?, Code.isFrame, Code.guards, Code.isGuard, Code.weight, Code.frames, Code.isCreation, Code.isCaller, Code.cUnits])
theorem over_gx0 {A : Around} {env : Env} {it acc : Value} : A.over (.compStart (.GeneratorExp elt [⟨t0, i0, ifs0, 0⟩] scope pos) 0 it acc env) [] = A.deeper env := by
  first
    | rfl
    | (obtain ⟨hd, d, fr, gs, u⟩ := A; simp [Around.over, Around.deeper, marksOver, frameCount, unitsOf, envsOf, guardsOf, pushEnvs, pushGuards, Code.envs, Code.env?, Code.isFrame, Code.guards, Code.isGuard, Code.weight, Code.frames, Code.isCreation, Code.isCaller, Code.cUnits])
theorem seg_gstart {env : Env} {it : Addr} {n : Nat} {s₀ s : Shared} {prog : Program} {w : World} {K : PySem.W.Frag} {J : It} {fp : List Addr} {tn : Nat → Heap → Prop} (T : Turn prog w K t0 J fp it tn) (st : tn 0 s.heap)
    (loop : Seg (model prog w) A0 R Y n s₀ (.compLoop (.GeneratorExp elt [⟨t0, i0, ifs0, 0⟩] scope pos) 0 (.ref it) .none env) ((model prog w).den (.compLoop (.GeneratorExp elt [⟨t0, i0, ifs0, 0⟩] scope pos) 0 (.ref it) .none env)) [] s) :
    Seg (model prog w) A0 R Y n s₀ (.compStart (.GeneratorExp elt [⟨t0, i0, ifs0, 0⟩] scope pos) 0 (.ref it) .none env) ((model prog w).den (.compStart (.GeneratorExp elt [⟨t0, i0, ifs0, 0⟩] scope pos) 0 (.ref it) .none env)) [] s := by
  show Seg _ A0 _ _ _ s₀ _ ((compStart (.GeneratorExp elt [⟨t0, i0, ifs0, 0⟩] scope pos) 0 (.ref it) .none env).onRaise (leaving env)) [] s
  unfold compStart
  rw [Sem.onRaise_eq_wrap]
  show Seg _ A0 _ _ _ s₀ _ ((ask >>= _).wrap _ _ _ _) [] s
  refine seg_bind_wrap (wpAny_askSetting ?_)
  split
  · exact seg_again rfl loop
  · first
      | exact seg_bind_wrap (wpAny_rule (seg_bind_wrap (wpAny_standAt (seg_bind_wrap (T.self _ 0 s _ _ st (seg_again rfl loop))))))
      | (refine seg_bind_wrap (wpAny_rule ?_); show Seg _ A0 _ _ _ s₀ _ ((standAt i0.pos >>= _).wrap _ _ _ _) [] s; exact seg_bind_wrap (wpAny_standAt (seg_bind_wrap (T.self _ 0 s _ _ st (seg_again rfl loop)))))
end
end Fw
end
section
set_option Elab.async false
set_option linter.all false
set_option maxRecDepth 100000
set_option maxHeartbeats 800000
namespace Fw
open PySem PySem.Spec L2 GenW
open PyProof.Rows (AllBare)
def RX (X : Cx) (pins : List (Addr × Obj)) (σ : St) (G2 H2 : Hp) (S : List Addr) (C : Heap → List Value → Prop) (L : List D) (F : Bool) : GenEnd := fun n s₀ r s =>
  r = .ok .next ∧ n = 0 ∧ F = true ∧ ∃ G' H' us zs, Inv X pins σ H' s ∧ Ext G2 H2 G' H' ∧ C s₀.heap us ∧ Vals zs us ∧ RDs (kw X) G' zs L ∧ ∀ b ∈ S, s.heap.get? b = s₀.heap.get? b ∧ H' b = none
def YX (X : Cx) (pins : List (Addr × Obj)) (σ : St) (G2 H2 : Hp) (S : List Addr) (C : Heap → List Value → Prop) (L : List D) (F : Bool) (P : D → Bool → Prop) : Protocol := fun n s₀ v s kap =>
  ∃ x y b G' H' us zs, RelV x v ∧ RD (kw X) G' x y ∧ L[L.length - 1 - n]? = some y ∧ P y b ∧ (b = false → n = 0 ∧ F = false) ∧ (b = true → n = 0 → F = true) ∧ Inv X pins σ H' s ∧ Ext G2 H2 G' H' ∧ (C s₀.heap us ∧ Vals zs us ∧ RDs (kw X) G' zs (L.take (L.length - 1 - n))) ∧ (∀ b ∈ S, s.heap.get? b = s₀.heap.get? b ∧ H' b = none) ∧
    (b = true → ∀ s'', KeptBut S s s'' → C s''.heap (us ++ [v]) → kap (.send .none) s'')
/-- a generator that has not begun; Rel: what it will hand out -/
structure GReady (X : Cx) (pins : List (Addr × Obj)) (σ : St) (G H : Hp) (Rel : (D → Bool → Prop) → List D → Bool → Prop) (a : Addr) (g : Nat) (s : Shared) : Prop where
  isgen : s.heap.IsGen a g
  fp : FpOk X pins H a
  lt : a < s.heap.objs.size
  wake : ∃ gs, s.gens[g]? = some gs ∧ ∀ A0, NearA X.A A0 → ∀ S, (∀ b ∈ S, s.heap.objs.size ≤ b) → ∀ C P L F, Rel P L F → ∀ s'', KeptBut (a :: S) s s'' → C s''.heap [] →
    gs.Goes (model X.prog X.w) A0 (RX X pins σ G H (a :: S) C L F) (YX X pins σ G H (a :: S) C L F P) L.length (.send .none) s''
theorem Ext.tab {G H : Hp} {P : Addr} {ps more : Array Value} (i : ∀ a o, G a = some o → H a = some o) (hP : H P = some (.tbl ps)) (g : G P = none) (ht : TriplesOk (ps ++ more).toList) : Ext G H G (upd H P (.tbl (ps ++ more))) where
  same := fun a o e => by
    by_cases q : a = P
    · subst q
      rw [hP] at e
      cases e
      rw [upd_same]
      exact ⟨_, rfl, fun _ => ht⟩
    · rw [upd_ne q, e]; exact Kp.refl o
  sub := fun _ _ e => e
  inn := fun a o e => by rw [upd_ne (ne_of_none e g)]; exact i a o e
  new := fun _ _ _ e => e
section
variable {X : Cx} {cs : List (Addr × Addr)} {elt t0 i0 : Expr} {ifs0 : List Expr} {scope : Scope} {pos : Pos} {G H : Hp} {σ : St} {τ : Tau}
/-- what is shown of a generator expression -/
structure GxOk (X : Cx) (cs : List (Addr × Addr)) (elt t0 i0 : Expr) (ifs0 : List Expr) (scope : Scope) (tg : Tg) (itd : Tau → Option D) (ifsD : List Dn) (dv : Tau → Option D) : Prop where
  src : PI X t0 i0 (tI (kw X) cs Ow itd)
  code : ∃ c P, (c, P) ∈ cs ∧ GxR.TabB X.base X.mg c P ∧ X.env.code = .ref c
  ok : ∃ own, BlkOk X.N X.env.scope scope own ∧ ∀ i ∈ own.map (·.2), i ∈ tg.own
  co : scope.isCoroutine = false
  cell : ∀ y ∈ scope.names, y.2 ≠ .cell
  dot : scope.names.lookup (".0" : Str) = some NameKind.local
  fold : ∀ v, genFold i0 X.env v = pure v
  tg : ∀ B, GxB X scope B → TgE B t0 tg
  ifs : ∀ B, GxB X scope B → TsE B cs ifs0 ifsD
  elt : ∀ B, GxB X scope B → PE B elt (tP (kw B) cs dv)
theorem gx_make {tg : Tg} {itd : Tau → Option D} {ifsD : List Dn} {dv : Tau → Option D} {pins : List (Addr × Obj)} {s : Shared} {x : D} {xs : List D} (hd : X.A.handled = none) (hdp : X.A.depth < recursionLimit) (hN : X.N.Nodup) (ok : GxOk X cs elt t0 i0 ifs0 scope tg itd ifsD dv)
    (I : Inv X pins σ H s) (st : StR (kw X) G H σ τ) (tb : TabOk cs G H) (e1 : itd τ = some x) (e2 : itemsD x = some xs) :
    wpAny (model X.prog X.w) X.A (eval (.GeneratorExp elt [⟨t0, i0, ifs0, 0⟩] scope pos) X.env)
      (fun u s' => ∃ a g G2 H2, u = .ref a ∧ Inv X pins σ H2 s' ∧ Ext G H G2 H2 ∧ GReady X pins σ G2 H2 (fun P L F => GoR (clR tg.own tg ifsD (yR dv P) τ) xs L F) a g s') X.xe s := by
  obtain ⟨c, P, hcs, TB, hcode⟩ := ok.code
  obtain ⟨own, okb, hown⟩ := ok.ok
  have hfree : ∀ y ∈ scope.names, y.2 = .free → ∃ c, X.env.cells.lookup y.1 = some c := fun y hy e => by
    rcases okb.free y hy e with k | k
    · exact I.ok.has _ (.inl k)
    · exact I.ok.has _ (.inr k)
  refine wpAny_GeneratorExp_make ok.co (closure_ok hfree) ok.cell ok.dot okb.kind hdp ?_ ok.fold
  refine thn (ok.src.run pins s σ H (fun J H1 => ∃ G1, Ext G H G1 H1 ∧ ∀ P, Good G1 H1 (Ow σ τ) P → Wk (kw X) J xs P) I ⟨G, τ, x, xs, st, tb, e1, e2, fun J G1 H1 x1 w => ⟨G1, x1, w⟩⟩) fun xv s1 h1 => thn h1 fun itv s2 h2 => ?_
  obtain ⟨it, fp, tn, J, H2, rfl, I2, T, st2, f2, G2, x2, W⟩ := h2
  have tb2 := tb.ext x2
  obtain ⟨⟨ps, hP, htr⟩, gP⟩ := tb2 _ hcs
  have hPs : s2.heap.get? P = some { cls := .none, data := .fields ps } := I2.hok P _ hP
  have cd : PySem.W.CodeHd s2.heap c P := TB.code.keeps fun b u e => I2.bk b u e
  have hcP : cStatics ≠ P := fun e => by
    obtain ⟨_, hns, _⟩ := I2.nolimit
    obtain ⟨o', es, ep, ho, hd, _⟩ := hns
    rw [e, hPs] at ho
    cases ho
    cases hd
  have cont : ∀ (code : Value) (h3 : Heap) (tk : Nat) (more : Array Value), Heap.ExtBut P s2.heap h3 → h3.get? P = some { cls := .none, data := .fields (ps ++ more) } → TriplesOk (ps ++ more).toList →
      wpAny (model X.prog X.w) X.A (builtinsFor X.env.globals X.env.builtins) (fun bi s₄ =>
        ∀ h', h'.Ns s₄.heap.objs.size (fun y => if y = ".0" then some (Value.ref it) else none) → Heap.SameBut s₄.heap.objs.size (s₄.heap.push { cls := .type "frame", data := .dict #[] }) h' →
          ∃ a g G2 H2, Value.ref h'.objs.size = .ref a ∧ Inv X pins σ H2 { s₄ with
            gens := s₄.gens.push (.fresh (.compStart (.GeneratorExp elt [⟨t0, i0, ifs0, 0⟩] scope pos) 0 (.ref it) .none (genEnv scope (cloFrom X.env.cells scope.names []) s₄.heap.objs.size code bi X.env))),
            toks := s₄.toks + 1 + 1 + 1,
            heap := h'.push { cls := .type "generator", data := .fields #[.int s₄.gens.size 0, .str "<genexpr>" (s₄.toks + 1), .str (X.env.qual ++ "<genexpr>") (s₄.toks + 1 + 1)] } } ∧ Ext G H G2 H2 ∧ GReady X pins σ G2 H2 (fun P L F => GoR (clR tg.own tg ifsD (yR dv P) τ) xs L F) a g { s₄ with
            gens := s₄.gens.push (.fresh (.compStart (.GeneratorExp elt [⟨t0, i0, ifs0, 0⟩] scope pos) 0 (.ref it) .none (genEnv scope (cloFrom X.env.cells scope.names []) s₄.heap.objs.size code bi X.env))),
            toks := s₄.toks + 1 + 1 + 1,
            heap := h'.push { cls := .type "generator", data := .fields #[.int s₄.gens.size 0, .str "<genexpr>" (s₄.toks + 1), .str (X.env.qual ++ "<genexpr>") (s₄.toks + 1 + 1)] } }) X.xe { s2 with heap := h3, toks := tk } := by
    intro code h3 tk more hx hP3 ht3
    obtain ⟨bm, ob, b1, b2, b3, b4, b5, b6, b7, b8⟩ := TB.bm
    refine wpAny_builtinsFor (m := X.mg) (by rw [I2.ok.glob]; exact (I2.mod.glob.keeps I2.bk).extBut hx TB.gP) b1 b2 (hx _ _ b4 (I2.bk _ _ b5)) b6 b7 b8 ?_
    intro h' hn' sb
    have I4 : Inv X pins σ (upd H2 P (.tbl (ps ++ more))) { s2 with heap := h3, toks := tk } := GxR.inv_tab (g' := s2.gens) (d' := s2.drawn) (t' := tk) I2 hP (fun b u hb e => hx b u hb e) hP3 I2.bare
    have x4 : Ext G2 H2 G2 (upd H2 P (.tbl (ps ++ more))) := Ext.tab x2.inn hP gP ht3
    have nfp : ∀ b ∈ fp, upd H2 P (.tbl (ps ++ more)) b = none := fun b hb => by
      have q := (f2 b hb).1
      rw [upd_ne (fun z => by rw [z, hP] at q; cases q)]
      exact q
    have bP : ∀ b ∈ fp, b ≠ P := fun b hb z => by
      have q := (f2 b hb).1
      rw [z, hP] at q
      cases q
    generalize upd H2 P (.tbl (ps ++ more)) = H4 at I4 x4 nfp
    have st4 : tn 0 h3 := T.keep _ _ _ st2 fun b hb o e => hx b o (bP b hb) e
    have sz4 : ∀ b ∈ fp, b < h3.objs.size := fun b hb => by
      obtain ⟨o, e, _⟩ := T.obj _ _ st4 b hb
      exact Heap.lt_size e
    have f4 : ∀ b ∈ fp, FpOk X pins H4 b ∧ b < h3.objs.size := fun b hb => by
      obtain ⟨_, f⟩ := f2 b hb
      exact ⟨⟨nfp b hb, f⟩, sz4 b hb⟩
    generalize hs4 : ({ s2 with heap := h3, toks := tk } : Shared) = s4 at I4 hn' sb ⊢
    have h4 : s4.heap = h3 := by rw [← hs4]
    rw [← h4] at st4 sz4 f4
    have x24 := x2.trans x4
    have kp : ∀ (go : Obj), ∀ b o, s4.heap.get? b = some o → (h'.push go).get? b = some o := fun go b o e => Heap.get?_push_of_some _ (sb.extBut b o (Nat.ne_of_lt (Heap.lt_size e)) (Heap.get?_push_of_some _ e))
    have hsz : h'.objs.size = s4.heap.objs.size + 1 := by rw [sb.1, Heap.size_push]
    generalize hgo : ({ cls := .type "generator", data := .fields #[.int s4.gens.size 0, .str "<genexpr>" (s4.toks + 1), .str (X.env.qual ++ "<genexpr>") (s4.toks + 1 + 1)] } : Obj) = go
    generalize hgn : GenState.fresh (.compStart (.GeneratorExp elt [⟨t0, i0, ifs0, 0⟩] scope pos) 0 (.ref it) .none (genEnv scope (cloFrom X.env.cells scope.names []) s4.heap.objs.size code builtinsNs X.env)) = gn
    have hgb : gn.bare = true := by rw [← hgn]; rfl
    have hpush : (h'.push go).get? h'.objs.size = some go := by rw [← hgo]; exact Heap.get?_push_size _ rfl
    have I5 : Inv X pins σ H4 { s4 with gens := s4.gens.push gn, toks := s4.toks + 1 + 1 + 1, heap := h'.push go } := I4.call' (ch := []) rfl (Un.kept (kp go)) (I4.hok.kept (kp go)) (I4.bare.push hgb) fun b z => by simp at z
    have na : ∀ b, s4.heap.objs.size ≤ b → H4 b = none := fun b hb => I4.hok.fresh hb
    refine ⟨h'.objs.size, s4.gens.size, G2, H4, rfl, I5, x24, ⟨⟨go, .str "<genexpr>" (s4.toks + 1), .str (X.env.qual ++ "<genexpr>") (s4.toks + 1 + 1), hpush, by rw [← hgo], by rw [← hgo], by rw [← hgo]⟩, I4.fpOk (by omega) (na _ (by omega)), ?_, gn, Array.getElem?_push_size .., ?_⟩⟩
    · show h'.objs.size < (h'.push go).objs.size
      rw [Heap.size_push]; exact Nat.lt_succ_self _
    intro A0 hA S hS C P L F hRel s'' hk hC0
    have IB := gx_start (fp := fp) (code := code) (it := .ref it) (h' := h') (go := go) (gn := gn) (tk := s4.toks + 1 + 1 + 1) hA I4 okb ok.cell hN f4 hn' sb hgb
    have BX : GxB X scope (X.gx A0 s4 H4 (genEnv scope (cloFrom X.env.cells scope.names []) s4.heap.objs.size code builtinsNs X.env) fp) := .mk A0 hA _ _ _ _ _
    have hge : ∀ b ∈ h'.objs.size :: S, s4.heap.objs.size < b := fun b hb => by
      rcases List.mem_cons.mp hb with z | z
      · omega
      · have q : (h'.push go).objs.size ≤ b := hS b z
        rw [Heap.size_push] at q
        omega
    have nst : ∀ b, s4.heap.objs.size ≤ b → b ∉ frs X.stack := fun b hb z => by
      rcases List.mem_cons.mp (I4.stkSub b z) with z | z
      · rw [z] at hb
        exact absurd (Nat.lt_of_lt_of_le I4.lt hb) (Nat.lt_irrefl _)
      · exact I4.nofs hb z
    have cm : ∀ {y c}, (cloFrom X.env.cells scope.names []).lookup y = some c → X.env.cells.lookup y = some c ∧ c < s4.heap.objs.size := fun {y c} e => by
      rcases cloFrom_mem (PySem.mem_of_lookup e) with hm | ⟨h1, rfl⟩
      · cases hm
      · obtain ⟨c, hc⟩ := hfree _ h1 rfl
        rw [hc]
        obtain ⟨w, z⟩ := I4.cell _ _ hc
        exact ⟨rfl, z.lt⟩
    have hSO : SOk (X.gx A0 s4 H4 (genEnv scope (cloFrom X.env.cells scope.names []) s4.heap.objs.size code builtinsNs X.env) fp) [] (h'.objs.size :: S) := fun b hb =>
      ⟨Nat.le_of_lt (hge b hb), Nat.ne_of_gt (hge b hb), nst b (Nat.le_of_lt (hge b hb)), fun y c e z => by
        have := (cm (y := y) (c := c) e).2
        rw [z] at this
        exact absurd (Nat.lt_trans this (hge b hb)) (Nat.lt_irrefl _), fun p hp => by simp at hp⟩
    have IBk := woken hSO (fun b hb => na b (Nat.le_of_lt (hge b hb))) IB hk
    have conv : ∀ {σ' : St} {H' : Hp} {s' : Shared} {pl : List (Addr × Obj)}, Inv (X.gx A0 s4 H4 (genEnv scope (cloFrom X.env.cells scope.names []) s4.heap.objs.size code builtinsNs X.env) fp) pl σ' H' s' → Inv X pins σ H' s' := fun {σ' H' s' pl} I6 =>
      I4.call' (ch := fp) I6.os I6.base I6.hok I6.bare fun b hb => ⟨(f4 b hb).1.2.2.2.1, (f4 b hb).1.2.1, (f4 b hb).1.2.2.2.2.1, (f4 b hb).1.2.2.2.2.2⟩
    have kS : ∀ {b o}, s4.heap.get? b = some o → s''.heap.get? b = some o := fun {b o} e => hk.keep b o (fun z => absurd (Heap.lt_size e) (Nat.not_lt.mpr (Nat.le_of_lt (hge b z)))) (kp go b o e)
    have st'' : tn 0 s''.heap := T.keep _ _ _ st4 fun b hb o e => kS e
    have hsh : SHere (h'.objs.size :: S) s'' := fun b hb => let ⟨o, e, _⟩ := hk.here b hb; ⟨o, e⟩
    rw [← hgn]
    refine ⟨rfl, seg_gstart (K := X.K) T st'' ?_⟩
    refine seg_gloop (C := C) (X := X.gx A0 s4 H4 (genEnv scope (cloFrom X.env.cells scope.names []) s4.heap.objs.size code builtinsNs X.env) fp) (S := h'.objs.size :: S) (L := L) (F := F) (vs := tg.own) (σ := σ) (G1 := G2) (H1 := H4) (τ := τ) (xs := xs) (fp := fp) (tn := tn) (P := P) rfl rfl hN ok.co over_gx (ok.tg _ BX) (ok.ifs _ BX) (ok.elt _ BX) T
      (W _ fun G' H' x => ⟨(x4.trans x).sub, x.inn, fun a o _ e n => ((x4.trans x).same a o e).of n⟩) (st.ext x24) (tb.ext x24) rfl hSO (fun b hb => ⟨fun z => ?_, Nat.ne_of_lt (sz4 b hb), fun z => ?_, .inl hb, fun y c e => ?_, fun p hp => by simp at hp⟩)
      (fun n s₀ v s' kap σ' G' H' x' y b us zs I' hs0 hC hV hZ r rd x1 e hP hb hb2 hkk => ⟨x', y, b, G', H', us, zs, r, rd, e, hP, hb, hb2, conv I', x1, ⟨hC, hV, hZ⟩, fun b hb => pinS (pl := []) hs0 (by rw [List.append_nil]; exact I') b hb, hkk⟩)
      (fun s₀ s' σ' G' H' us zs I' hs0 hC hV hZ x1 hF => ⟨rfl, rfl, hF, G', H', us, zs, conv I', x1, hC, hV, hZ, fun b hb => pinS (pl := []) hs0 (by rw [List.append_nil]; exact I') b hb⟩)
      xs.length 0 L.length s'' s'' G2 H4 L [] [] [] hC0 .nil .nil (Nat.sub_zero _) (Nat.zero_le _) (IBk.weak ?_ ?_) hsh st'' nfp (Ext.refl x4.inn) hRel rfl rfl
    · exact absurd (sz4 b hb) (Nat.not_lt.mpr (Nat.le_of_lt (hge b z)))
    · rcases List.mem_cons.mp (I4.stkSub b z) with z | z
      · exact (f4 b hb).1.2.1 z
      · exact (f4 b hb).1.2.2.1 z
    · exact (f4 b hb).1.2.2.2.2.1 y c (cm e).1
    · rw [wipe_length, wipe_length]
    · intro j v hj
      obtain ⟨h1, h2⟩ := wipe_some hj
      rw [wipe_out fun z => h2 (hown _ z)]
      exact h1
  refine ⟨I2.nolimit, ?_⟩
  cases hf : codeAmong pos ps.toList with
  | none =>
    refine wpAny_genexprCodeX hcode (cd.code hPs htr) (cd.tab hPs) hf fun c' h' tk hx hge hlt hco' _ htab' _ => ?_
    obtain ⟨o1, vs, f1, tf, fl, tg, inF, tx, tt, op, _, _, _, _, _, _, _, _, _, htr', _⟩ := hco'
    exact cont _ h' tk _ hx htab'.2 htr'
  | some cv =>
    refine wpAny_genexprCode_hit hcode (cd.code hPs htr) hf ?_
    exact cont cv s2.heap s2.toks #[] (Heap.ExtBut.refl _ _) (by simpa using hPs) (by simpa using htr)
end
end Fw
end
section
set_option Elab.async false
set_option linter.all false
set_option maxRecDepth 100000
set_option maxHeartbeats 800000
namespace Fw
open PySem PySem.Spec L2 GenW
open PyProof.Rows (AllBare)
/-- a generator that k items have come of -/
structure GAt (X : Cx) (pins : List (Addr × Obj)) (σ : St) (A0 : Around) (G2 H2 : Hp) (S : List Addr) (C : Heap → List Value → Prop) (L : List D) (F : Bool) (P : D → Bool → Prop) (a : Addr) (g k : Nat) (us : List Value) (s : Shared) : Prop where
  isgen : s.heap.IsGen a g
  bare : AllBare s.gens
  lim : s.heap.NoLimit
  here : ∀ b ∈ S, ∃ o, s.heap.get? b = some o ∧ ∀ v, o.data ≠ .cell v
  run : ∃ gs, s.gens[g]? = some gs ∧ ∀ s'', KeptBut S s s'' → C s''.heap us → gs.Goes (model X.prog X.w) A0 (RX X pins σ G2 H2 S C L F) (YX X pins σ G2 H2 S C L F P) (L.length - k) (.send .none) s''
section
variable {X : Cx} {pins : List (Addr × Obj)} {σ : St} {G2 H2 : Hp} {S : List Addr} {C : Heap → List Value → Prop} {L : List D} {F : Bool} {P : D → Bool → Prop} {a : Addr} {g k : Nat} {us : List Value} {s : Shared}
/-- the consumer's writes to its own -/
theorem GAt.kept {A0 : Around} (h : GAt X pins σ A0 G2 H2 S C L F P a g k us s) {s' : Shared} (hk : KeptBut S s s') (ha : s'.heap.get? a = s.heap.get? a) (hl : s'.heap.NoLimit) (hg : s'.gens = s.gens) : GAt X pins σ A0 G2 H2 S C L F P a g k us s' where
  isgen := let ⟨o, nm, qn, ho, r⟩ := h.isgen; ⟨o, nm, qn, ha.trans ho, r⟩
  bare := hk.bare
  lim := hl
  here := hk.here
  run := by
    obtain ⟨gs, hgs, hgo⟩ := h.run
    exact ⟨gs, by rw [hg]; exact hgs, fun s'' k2 hC2 => hgo s'' ⟨k2.os.trans hk.os, k2.bare, fun b o hb e => k2.keep b o hb (hk.keep b o hb e), k2.here⟩ hC2⟩
theorem gx_next {A : Around} {Q : Option Value → Shared → Prop} {E : Value → Shared → Prop} (hh : A.handled = none) (hroom : A.depth < recursionLimit) (h : GAt X pins σ A.in1 G2 H2 S C L F P a g k us s) (hC : C s.heap us) (ha : a ∈ S) (hex : ∀ v us' s₁, AllBare s₁.gens → (∀ b ∈ S, s₁.heap.get? b = s.heap.get? b) → C s.heap us' → ∃ s'', KeptBut S s₁ s'' ∧ C s''.heap (us' ++ [v])) (hk : k < L.length ∨ (k = L.length ∧ F = true))
    (hY : ∀ v x y b G' H' s' us' zs, k < L.length → C s.heap us' → Vals zs us' → RDs (kw X) G' zs (L.take k) → RelV x v → RD (kw X) G' x y → L[k]? = some y → P y b → (b = false → k + 1 = L.length ∧ F = false) → (b = true → k + 1 < L.length ∨ (k + 1 = L.length ∧ F = true)) → Inv X pins σ H' s' → Ext G2 H2 G' H' → (∀ b ∈ S, s'.heap.get? b = s.heap.get? b ∧ H' b = none) →
      (b = true → GAt X pins σ A.in1 G2 H2 S C L F P a g (k + 1) (us' ++ [v]) s') → Q (some v) s')
    (hD : ∀ G' H' s' us' zs, k = L.length → C s.heap us' → Vals zs us' → RDs (kw X) G' zs L → F = true → Inv X pins σ H' s' → Ext G2 H2 G' H' → (∀ b ∈ S, s'.heap.get? b = s.heap.get? b ∧ H' b = none) → Q none s') :
    wpAny (model X.prog X.w) A (pyNext (.ref a)) Q E s := by
  obtain ⟨gs, hgs, hgo⟩ := h.run
  have hgl : g < s.gens.size := (Array.getElem?_eq_some_iff.mp hgs).1
  have hkp : ∀ (x : GenState), x.bare = true → KeptBut S s (s.setGen g x) := fun x hx => ⟨rfl, allBare_setGen h.bare hx, fun _ _ _ e => e, h.here⟩
  have go := hgo _ (hkp .running rfl) hC
  refine wpAny_gsz (n := g + 1) hgl (wpAny_pyNext_genexpQ (P := fun n s₀ s => n = 0 ∧ F = true ∧ ∃ G' H' us zs, Inv X pins σ H' s ∧ Ext G2 H2 G' H' ∧ C s₀.heap us ∧ Vals zs us ∧ RDs (kw X) G' zs L ∧ ∀ b ∈ S, s.heap.get? b = s₀.heap.get? b ∧ H' b = none) hh h.lim hroom h.isgen hgs go (fun v s₁ gs' hb hv => ?_) (fun s₁ hp h' hke => ?_))
  · intro hsz
    obtain ⟨x, y, b, G', H', us', zs, r, rd, ey, hP, hb1, hb2, I', x', ⟨hC', hV, hZ⟩, same, hkap⟩ := hv
    have hsz1 : g < s₁.gens.size := by
      have q : (s₁.setGen g gs').gens.size = s₁.gens.size := setGen_size _ _ _
      have hsz' : g + 1 ≤ (s₁.setGen g gs').gens.size := hsz
      omega
    have hlt : k < L.length := by
      rcases hk with z | ⟨z, hF⟩
      · exact z
      · exfalso
        cases b with
        | false => obtain ⟨_, q⟩ := hb1 rfl; rw [hF] at q; cases q
        | true =>
          have e0 : L.length - k = 0 := by omega
          rw [e0] at hkap
          obtain ⟨s3, k3, c3⟩ := hex v us' s₁ I'.bare (fun b hb => (same b hb).1) hC'
          exact hkap rfl s3 k3 c3
    obtain ⟨m, hm⟩ : ∃ m, L.length - k = m + 1 := ⟨L.length - k - 1, by omega⟩
    have e1 : L.length - 1 - (L.length - k - 1) = k := by omega
    rw [e1] at ey hZ
    have kpg : ∀ b o, s₁.heap.get? b = some o → (s₁.setGen g gs').heap.get? b = some o := fun _ _ e => e
    have bare' : AllBare (s₁.setGen g gs').gens := allBare_setGen I'.bare hb
    have I2 : Inv X pins σ H' (s₁.setGen g gs') := I'.call' (ch := []) rfl (Un.kept kpg) (I'.hok.kept kpg) bare' fun b z => by simp at z
    refine hY v x y b G' H' _ us' zs hlt hC' hV hZ r rd ey hP (fun z => ?_) (fun z => ?_) I2 x' same fun z => ?_
    · obtain ⟨q1, q2⟩ := hb1 z
      exact ⟨by omega, q2⟩
    · by_cases q : k + 1 < L.length
      · exact .inl q
      · exact .inr ⟨by omega, hb2 z (by omega)⟩
    · have here' : ∀ b ∈ S, ∃ o, s₁.heap.get? b = some o ∧ ∀ v, o.data ≠ .cell v := fun b hb => by
        obtain ⟨o, e, q⟩ := h.here b hb
        exact ⟨o, (same b hb).1.trans e, q⟩
      refine ⟨?_, bare', I2.nolimit, here', gs', setGen_at hsz1, fun s'' k2 hC2 => ?_⟩
      · obtain ⟨o, nm, qn, ho, r⟩ := h.isgen
        exact ⟨o, nm, qn, (same a ha).1.trans ho, r⟩
      · have q := hkap z s'' ⟨k2.os, k2.bare, k2.keep, k2.here⟩ hC2
        rw [hm] at q
        have e2 : L.length - (k + 1) = m := by omega
        rw [e2]
        exact q
  · intro _
    obtain ⟨h0, hF, G', H', us', zs, I', x', hC', hV, hZ, same⟩ := hp
    have kpg : ∀ b o, s₁.heap.get? b = some o → h'.get? b = some o := hke
    have hkl : k = L.length := by
      rcases hk with z | ⟨z, _⟩
      · omega
      · exact z
    have I2 : Inv X pins σ H' { s₁.setGen g .finished with heap := h' } := I'.call' (ch := []) rfl (Un.kept kpg) (I'.hok.kept kpg) (allBare_setGen I'.bare rfl) fun b z => by simp at z
    refine hD G' H' _ us' zs hkl hC' hV hZ hF I2 x' fun b hb => ⟨?_, (same b hb).2⟩
    obtain ⟨o, e, _⟩ := h.here b hb
    have e2 : s₁.heap.get? b = some o := (same b hb).1.trans e
    show h'.get? b = _
    rw [e]
    exact hke b o e2
end
end Fw
end
section
set_option Elab.async false
set_option linter.all false
set_option maxRecDepth 100000
set_option maxHeartbeats 800000
namespace Fw
open PySem PySem.Spec L2 GenW
open PyProof.Rows (AllBare)
/-! all, any -/
def PAll (c : Bool) (y : D) (b : Bool) : Prop := y = .bool (b == c)
theorem nearA2 {A : Around} (h : A.handled = none) : NearA A A.in1.in1 := ⟨h, rfl, rfl, by show A.units + 1 + 1 ≤ _; omega⟩
def AllHere (S : List Addr) (s : Shared) : Prop := ∀ b ∈ S, ∃ o, s.heap.get? b = some o ∧ ∀ v, o.data ≠ .cell v
section
variable {X : Cx} {pins : List (Addr × Obj)} {σ : St} {G2 H2 : Hp} {S : List Addr} {L : List D} {F : Bool} {a : Addr} {g : Nat}
theorem all_loop {A : Around} {R : Result → Shared → Prop} (hh : A.handled = none) (hroom : A.depth < recursionLimit) (ha : a ∈ S)
    (hR : ∀ G' H' s', Inv X pins σ H' s' → Ext G2 H2 G' H' → R (.ok (.ret (.bool F))) s') :
    ∀ (n k : Nat) (us : List Value) (s : Shared), L.length - k = n → AllHere S s → GAt X pins σ A.in1.in1 G2 H2 S (fun _ _ => True) L F (PAll true) a g k us s → (k < L.length ∨ (k = L.length ∧ F = true)) →
      codeAny (model X.prog X.w) A (.builtin "all.loop" ⟨[.ref a], []⟩) R s := by
  intro n
  induction n with
  | zero =>
    intro k us s hn hS h hk
    refine codeAny_builtin PySem.F.entry_all_loop ?_
    rw [Around.under_plainId PySem.F.plain_all_loop _]
    show wpAny _ A.in1 (pyNext (.ref a) >>= _) _ _ s
    refine wpAny_bind (gx_next hh hroom h trivial ha (fun v us' s₁ hb same _ => ⟨s₁, ⟨rfl, hb, fun _ _ _ e => e, fun b hb => let ⟨o, e, q⟩ := hS b hb; ⟨o, (same b hb).trans e, q⟩⟩, trivial⟩) hk (fun v x y b G' H' s' us' zs hlt _ _ _ => by omega) fun G' H' s' us' zs hkl _ _ _ hF I' x' same => ?_)
    refine wpAny_bind (wpAny_rule (wpAny_pure ?_))
    have q := hR G' H' s' I' x'
    rw [hF] at q
    exact q
  | succ n ih =>
    intro k us s hn hS h hk
    refine codeAny_builtin PySem.F.entry_all_loop ?_
    rw [Around.under_plainId PySem.F.plain_all_loop _]
    show wpAny _ A.in1 (pyNext (.ref a) >>= _) _ _ s
    refine wpAny_bind (gx_next hh hroom h trivial ha (fun v us' s₁ hb same _ => ⟨s₁, ⟨rfl, hb, fun _ _ _ e => e, fun b hb => let ⟨o, e, q⟩ := hS b hb; ⟨o, (same b hb).trans e, q⟩⟩, trivial⟩) hk (fun v x y b G' H' s' us' zs hlt _ _ _ r rd ey hP hb1 hb2 I' x' same hat => ?_) fun G' H' s' us' zs hkl _ _ _ => by omega)
    have hy : y = .bool (b == true) := hP
    subst hy
    cases rd
    have r : v = Value.bool (b == true) := r
    subst r
    refine wpAny_bind (wpAny_holding (wpAny_truthy_bool ?_))
    refine wpAny_bind (wpAny_letGo ?_)
    cases b with
    | true =>
      show wpAny _ A.in1 (if true = true then _ else _) _ _ _
      simp only [if_true]
      refine wpAny_pure ⟨plainId_quiet PySem.F.plain_all_loop _, ih (k + 1) _ s' (by omega) (fun b hb => let ⟨o, e, q⟩ := hS b hb; ⟨o, (same b hb).1.trans e, q⟩) (hat rfl) (hb2 rfl)⟩
    | false =>
      show wpAny _ A.in1 (if false = true then _ else _) _ _ _
      simp only [Bool.false_eq_true, if_false]
      refine wpAny_bind (wpAny_rule (wpAny_pure ?_))
      have q := hR G' H' s' I' x'
      rw [(hb1 rfl).2] at q
      exact q
theorem any_loop {A : Around} {R : Result → Shared → Prop} (hh : A.handled = none) (hroom : A.depth < recursionLimit) (ha : a ∈ S)
    (hR : ∀ G' H' s', Inv X pins σ H' s' → Ext G2 H2 G' H' → R (.ok (.ret (.bool (!F)))) s') :
    ∀ (n k : Nat) (us : List Value) (s : Shared), L.length - k = n → AllHere S s → GAt X pins σ A.in1.in1 G2 H2 S (fun _ _ => True) L F (PAll false) a g k us s → (k < L.length ∨ (k = L.length ∧ F = true)) →
      codeAny (model X.prog X.w) A (.builtin "any.loop" ⟨[.ref a], []⟩) R s := by
  intro n
  induction n with
  | zero =>
    intro k us s hn hS h hk
    refine codeAny_builtin PySem.F.entry_any_loop ?_
    rw [Around.under_plainId PySem.F.plain_any_loop _]
    show wpAny _ A.in1 (pyNext (.ref a) >>= _) _ _ s
    refine wpAny_bind (gx_next hh hroom h trivial ha (fun v us' s₁ hb same _ => ⟨s₁, ⟨rfl, hb, fun _ _ _ e => e, fun b hb => let ⟨o, e, q⟩ := hS b hb; ⟨o, (same b hb).trans e, q⟩⟩, trivial⟩) hk (fun v x y b G' H' s' us' zs hlt _ _ _ => by omega) fun G' H' s' us' zs hkl _ _ _ hF I' x' same => ?_)
    refine wpAny_bind (wpAny_rule (wpAny_pure ?_))
    have q := hR G' H' s' I' x'
    rw [hF] at q
    exact q
  | succ n ih =>
    intro k us s hn hS h hk
    refine codeAny_builtin PySem.F.entry_any_loop ?_
    rw [Around.under_plainId PySem.F.plain_any_loop _]
    show wpAny _ A.in1 (pyNext (.ref a) >>= _) _ _ s
    refine wpAny_bind (gx_next hh hroom h trivial ha (fun v us' s₁ hb same _ => ⟨s₁, ⟨rfl, hb, fun _ _ _ e => e, fun b hb => let ⟨o, e, q⟩ := hS b hb; ⟨o, (same b hb).trans e, q⟩⟩, trivial⟩) hk (fun v x y b G' H' s' us' zs hlt _ _ _ r rd ey hP hb1 hb2 I' x' same hat => ?_) fun G' H' s' us' zs hkl _ _ _ => by omega)
    have hy : y = .bool (b == false) := hP
    subst hy
    cases rd
    have r : v = Value.bool (b == false) := r
    subst r
    refine wpAny_bind (wpAny_holding (wpAny_truthy_bool ?_))
    refine wpAny_bind (wpAny_letGo ?_)
    cases b with
    | true =>
      show wpAny _ A.in1 (if false = true then _ else _) _ _ _
      simp only [Bool.false_eq_true, if_false]
      refine wpAny_pure ⟨plainId_quiet PySem.F.plain_any_loop _, ih (k + 1) _ s' (by omega) (fun b hb => let ⟨o, e, q⟩ := hS b hb; ⟨o, (same b hb).1.trans e, q⟩) (hat rfl) (hb2 rfl)⟩
    | false =>
      show wpAny _ A.in1 (if true = true then _ else _) _ _ _
      simp only [if_true]
      refine wpAny_bind (wpAny_rule (wpAny_pure ?_))
      have q := hR G' H' s' I' x'
      rw [(hb1 rfl).2] at q
      exact q
end
/-! the evaluator's all, any as runs -/
theorem all_gor {ow : List Nat} {tg : Tg} {ifs : List Dn} {dv : Tau → Option D} {τ : Tau} : ∀ {xs : List D} {b : Bool}, allGo (clause ow tg ifs true (fun τ => (dv τ).bind asB) τ) xs = some b → ∃ L, GoR (clR ow tg ifs (yR dv (PAll true)) τ) xs L b
  | [], b, h => by cases h; exact ⟨[], .nil⟩
  | x :: xs, b, h => by
    obtain ⟨k, h1, h2⟩ := Option.bind_eq_some_iff.mp (show (clause ow tg ifs true (fun τ => (dv τ).bind asB) τ x).bind (fun b => if b then allGo _ xs else some false) = some b from h)
    obtain ⟨τ', q, b1, b2, b3⟩ := clause_some h1
    rcases b3 with ⟨rfl, b3⟩ | ⟨rfl, rfl⟩
    · obtain ⟨y, e1, e2⟩ := Option.bind_eq_some_iff.mp b3
      have hy : y = .bool k := by cases y <;> first | (cases e2; rfl) | cases e2
      have cl : clR ow tg ifs (yR dv (PAll true)) τ x [y] k := ⟨τ', true, b1, b2, .inl ⟨rfl, y, e1, rfl, by unfold PAll; rw [hy]; cases k <;> rfl⟩⟩
      cases k with
      | false => cases h2; exact ⟨_, .stop cl⟩
      | true =>
        obtain ⟨L, hL⟩ := all_gor h2
        exact ⟨_, .cons cl hL⟩
    · obtain ⟨L, hL⟩ := all_gor h2
      exact ⟨_, .cons ⟨τ', false, b1, b2, .inr ⟨rfl, rfl, rfl⟩⟩ hL⟩
theorem any_gor {ow : List Nat} {tg : Tg} {ifs : List Dn} {dv : Tau → Option D} {τ : Tau} : ∀ {xs : List D} {b : Bool}, anyGo (clause ow tg ifs false (fun τ => (dv τ).bind asB) τ) xs = some b → ∃ L, GoR (clR ow tg ifs (yR dv (PAll false)) τ) xs L (!b)
  | [], b, h => by cases h; exact ⟨[], .nil⟩
  | x :: xs, b, h => by
    obtain ⟨k, h1, h2⟩ := Option.bind_eq_some_iff.mp (show (clause ow tg ifs false (fun τ => (dv τ).bind asB) τ x).bind (fun b => if b then some true else anyGo _ xs) = some b from h)
    obtain ⟨τ', q, b1, b2, b3⟩ := clause_some h1
    rcases b3 with ⟨rfl, b3⟩ | ⟨rfl, rfl⟩
    · obtain ⟨y, e1, e2⟩ := Option.bind_eq_some_iff.mp b3
      have hy : y = .bool k := by cases y <;> first | (cases e2; rfl) | cases e2
      have cl : clR ow tg ifs (yR dv (PAll false)) τ x [y] (!k) := ⟨τ', true, b1, b2, .inl ⟨rfl, y, e1, rfl, by unfold PAll; rw [hy]; cases k <;> rfl⟩⟩
      cases k with
      | true => cases h2; exact ⟨_, .stop cl⟩
      | false =>
        obtain ⟨L, hL⟩ := any_gor h2
        exact ⟨_, .cons cl hL⟩
    · obtain ⟨L, hL⟩ := any_gor h2
      exact ⟨_, .cons ⟨τ', false, b1, b2, .inr ⟨rfl, rfl, rfl⟩⟩ hL⟩
theorem gen_gor {ow : List Nat} {tg : Tg} {ifs : List Dn} {dv : Tau → Option D} {τ : Tau} : ∀ {xs ds : List D}, genGo (clause ow tg ifs [] (fun τ => (dv τ).map ([·])) τ) xs = some ds → GoR (clR ow tg ifs (yR dv fun _ b => b = true) τ) xs ds true
  | [], ds, h => by cases h; exact .nil
  | x :: xs, ds, h => by
    obtain ⟨l, h1, h2⟩ := Option.bind_eq_some_iff.mp (show (clause ow tg ifs [] (fun τ => (dv τ).map ([·])) τ x).bind (fun l => (genGo _ xs).map (l ++ ·)) = some ds from h)
    obtain ⟨l', h3, rfl⟩ := Option.map_eq_some_iff.mp h2
    obtain ⟨τ', q, b1, b2, b3⟩ := clause_some h1
    rcases b3 with ⟨rfl, b3⟩ | ⟨rfl, rfl⟩
    · obtain ⟨y, e1, rfl⟩ := Option.map_eq_some_iff.mp b3
      exact .cons ⟨τ', true, b1, b2, .inl ⟨rfl, y, e1, rfl, rfl⟩⟩ (gen_gor h3)
    · exact .cons ⟨τ', false, b1, b2, .inr ⟨rfl, rfl, rfl⟩⟩ (gen_gor h3)
end Fw
end
section
set_option Elab.async false
set_option linter.all false
set_option maxRecDepth 100000
set_option maxHeartbeats 800000
namespace Fw
open PySem PySem.Spec L2 GenW
open PyProof.Rows (AllBare)
section
variable {X : Cx} {cs : List (Addr × Addr)} {elt t0 i0 : Expr} {ifs0 : List Expr} {scope : Scope} {pos gpos p : Pos} {tg : Tg} {itd : Tau → Option D} {ifsD : List Dn} {dv : Tau → Option D} {k : Nat}
theorem gready_at {pins : List (Addr × Obj)} {σ : St} {G2 H2 : Hp} {Rel : (D → Bool → Prop) → List D → Bool → Prop} {a : Addr} {g : Nat} {s s' : Shared} {A0 : Around} {S : List Addr} {C : Heap → List Value → Prop} {L : List D} {F : Bool} {P : D → Bool → Prop} (h : GReady X pins σ G2 H2 Rel a g s) (hA : NearA X.A A0) (hS : ∀ b ∈ S, s.heap.objs.size ≤ b)
    (hR : Rel P L F) (hk : KeptBut (a :: S) s s') (ha : s'.heap.get? a = s.heap.get? a) (hl : s'.heap.NoLimit) (hg : s'.gens = s.gens) : GAt X pins σ A0 G2 H2 (a :: S) C L F P a g 0 [] s' := by
  obtain ⟨gs, hgs, hgo⟩ := h.wake
  refine ⟨?_, hk.bare, hl, hk.here, gs, by rw [hg]; exact hgs, fun s'' k2 hC => hgo A0 hA S hS C P L F hR s'' ⟨k2.os.trans hk.os, k2.bare, fun b o hb e => k2.keep b o hb (hk.keep b o hb e), k2.here⟩ hC⟩
  obtain ⟨o, nm, qn, ho, r⟩ := h.isgen
  exact ⟨o, nm, qn, ha.trans ho, r⟩
theorem gx_here {h : Heap} {a : Addr} {g : Nat} (x : h.IsGen a g) : ∃ o, h.get? a = some o ∧ ∀ v, o.data ≠ .cell v := by
  obtain ⟨o, nm, qn, ho, _, hd, _⟩ := x
  exact ⟨o, ho, fun v e => by rw [hd] at e; cases e⟩
theorem kept_self {s : Shared} {a : Addr} {g : Nat} (hb : AllBare s.gens) (x : s.heap.IsGen a g) : KeptBut [a] s s := ⟨rfl, hb, fun _ _ _ e => e, fun b hb => by rw [List.mem_singleton.mp hb]; exact gx_here x⟩
/-- all(.. for .. in ..) -/
theorem p_all (hN : X.N.Nodup) (hr : Room k X.A) (hg : Gl X "all") (hm : X.mg "all" = none) (ok : GxOk X cs elt t0 i0 ifs0 scope tg itd ifsD dv)
    (he : starEach [.GeneratorExp elt [⟨t0, i0, ifs0, 0⟩] scope gpos] X.env = (false, eval (.GeneratorExp elt [⟨t0, i0, ifs0, 0⟩] scope gpos) X.env) :: starEach [] X.env := by rfl) :
    PE X (.Call (.Name "all" p) [.GeneratorExp elt [⟨t0, i0, ifs0, 0⟩] scope gpos] [] pos) (tP (kw X) cs fun τ => ((itd τ).bind fun x => (itemsD x).bind fun ds => allGo (clause tg.own tg ifsD true (fun τ => (dv τ).bind asB) τ) ds).map .bool) := by
  refine ⟨fun pins s σ H Q I ⟨G, τ, r, st, tb, e, q⟩ => ?_⟩
  obtain ⟨F, e', rfl⟩ := Option.map_eq_some_iff.mp e
  obtain ⟨x, e1, e''⟩ := Option.bind_eq_some_iff.mp e'
  obtain ⟨xs, e2, e3⟩ := Option.bind_eq_some_iff.mp e''
  obtain ⟨L, hL⟩ := all_gor e3
  refine wpAny_Call_Name_kw (ld_blt I hg hm (by rfl) ?_)
  refine PyProof.Rows.callWith_builtin1 ?_ he (by rfl)
  rw [he]
  show wpAny _ _ (spliced ((false, eval (.GeneratorExp elt [⟨t0, i0, ifs0, 0⟩] scope gpos) X.env) :: backTo pos (starEach [] X.env))) _ _ s
  refine Calls.spliced_cons (thn (gx_make hr.hd (by have := hr.dp; omega) hN ok I st tb e1 e2) fun u s5 ⟨a, g, G2, H2, hu, I5, x2, hG⟩ => ?_)
  subst hu
  refine Calls.spliced_nil ?_
  refine call_function_tree PySem.F.kind_all PySem.F.plain_all PySem.F.entry_all (PySem.F.args_all1 _) ?_
  unfold Builtin.«all»
  refine wpAny_bind (m := oneArg "all" _) (wpAny_pure ?_)
  refine wpAny_bind (wpAny_pyIter_gen hG.isgen ?_)
  have hk := kept_self I5.bare hG.isgen
  refine wpAny_pure ⟨plainId_quiet PySem.F.plain_all_loop _, all_loop (S := [a]) (L := L) (F := F) hr.hd (by have := hr.dp; omega) (by simp) (fun G' H' s' I' x' => ?_) L.length 0 [] s5 rfl hk.here
    (gready_at hG (nearA2 hr.hd) (fun b z => by simp at z) hL hk rfl I5.nolimit rfl) ?_⟩
  · exact ⟨.bl F, H', I', rfl, q _ G' H' (x2.trans x') (.bl F)⟩
  · cases L with
    | nil => exact .inr ⟨rfl, gor_nil (fun x l h => by
        obtain ⟨_, _, _, _, ⟨_, _, _, e, _⟩ | ⟨_, _, e⟩⟩ := h
        · rw [e]; simp
        · cases e) hL⟩
    | cons y L => exact .inl (by simp)
theorem p_any (hN : X.N.Nodup) (hr : Room k X.A) (hg : Gl X "any") (hm : X.mg "any" = none) (ok : GxOk X cs elt t0 i0 ifs0 scope tg itd ifsD dv)
    (he : starEach [.GeneratorExp elt [⟨t0, i0, ifs0, 0⟩] scope gpos] X.env = (false, eval (.GeneratorExp elt [⟨t0, i0, ifs0, 0⟩] scope gpos) X.env) :: starEach [] X.env := by rfl) :
    PE X (.Call (.Name "any" p) [.GeneratorExp elt [⟨t0, i0, ifs0, 0⟩] scope gpos] [] pos) (tP (kw X) cs fun τ => ((itd τ).bind fun x => (itemsD x).bind fun ds => anyGo (clause tg.own tg ifsD false (fun τ => (dv τ).bind asB) τ) ds).map .bool) := by
  refine ⟨fun pins s σ H Q I ⟨G, τ, r, st, tb, e, q⟩ => ?_⟩
  obtain ⟨F, e', rfl⟩ := Option.map_eq_some_iff.mp e
  obtain ⟨x, e1, e''⟩ := Option.bind_eq_some_iff.mp e'
  obtain ⟨xs, e2, e3⟩ := Option.bind_eq_some_iff.mp e''
  obtain ⟨L, hL⟩ := any_gor e3
  refine wpAny_Call_Name_kw (ld_blt I hg hm (by rfl) ?_)
  refine PyProof.Rows.callWith_builtin1 ?_ he (by rfl)
  rw [he]
  show wpAny _ _ (spliced ((false, eval (.GeneratorExp elt [⟨t0, i0, ifs0, 0⟩] scope gpos) X.env) :: backTo pos (starEach [] X.env))) _ _ s
  refine Calls.spliced_cons (thn (gx_make hr.hd (by have := hr.dp; omega) hN ok I st tb e1 e2) fun u s5 ⟨a, g, G2, H2, hu, I5, x2, hG⟩ => ?_)
  subst hu
  refine Calls.spliced_nil ?_
  refine call_function_tree PySem.F.kind_any PySem.F.plain_any PySem.F.entry_any (PySem.F.args_any1 _) ?_
  unfold Builtin.«any»
  refine wpAny_bind (m := oneArg "any" _) (wpAny_pure ?_)
  refine wpAny_bind (wpAny_pyIter_gen hG.isgen ?_)
  have hk := kept_self I5.bare hG.isgen
  refine wpAny_pure ⟨plainId_quiet PySem.F.plain_any_loop _, any_loop (S := [a]) (L := L) (F := !F) hr.hd (by have := hr.dp; omega) (by simp) (fun G' H' s' I' x' => ?_) L.length 0 [] s5 rfl hk.here
    (gready_at hG (nearA2 hr.hd) (fun b z => by simp at z) hL hk rfl I5.nolimit rfl) ?_⟩
  · rw [Bool.not_not]
    exact ⟨.bl F, H', I', rfl, q _ G' H' (x2.trans x') (.bl F)⟩
  · cases L with
    | nil => exact .inr ⟨rfl, gor_nil (fun x l h => by
        obtain ⟨_, _, _, _, ⟨_, _, _, e, _⟩ | ⟨_, _, e⟩⟩ := h
        · rw [e]; simp
        · cases e) hL⟩
    | cons y L => exact .inl (by simp)
end
end Fw
end
section
set_option Elab.async false
set_option linter.all false
set_option maxRecDepth 100000
set_option maxHeartbeats 800000
namespace Fw
open PySem PySem.Spec L2 GenW
open PyProof.Rows (AllBare)
/-! tuple(.. for .. in ..) -/
theorem nearA4 {A : Around} (h : A.handled = none) : NearA A A.in1.in1.in1.in1 := ⟨h, rfl, rfl, by show A.units + 1 + 1 + 1 + 1 ≤ _; omega⟩
/-- the consumer's list -/
def CL (S : Addr) (h : Heap) (us : List Value) : Prop := ∃ acc c, h.get? S = some (lstObj acc c) ∧ us = acc.toList
section
variable {X : Cx} {pins : List (Addr × Obj)} {σ : St} {G2 H2 : Hp} {S a : Addr} {L : List D} {P : D → Bool → Prop} {g : Nat} {res : Value}
theorem cl_push {s : Shared} {acc : Array Value} {c : Nat} {v : Value} (hSa : S ≠ a) (hb : AllBare s.gens) (e : s.heap.get? S = some (lstObj acc c)) (ha : ∃ o, s.heap.get? a = some o ∧ ∀ v, o.data ≠ .cell v) :
    KeptBut [a, S] s { s with heap := s.heap.update S (Obj.mapSeq (·.push v)) } ∧ CL S (s.heap.update S (Obj.mapSeq (·.push v))) (acc.toList ++ [v]) := by
  have e2 := Heap.get?_update_self (Obj.mapSeq (·.push v)) e rfl
  have oth : ∀ b, b ≠ S → (s.heap.update S (Obj.mapSeq (·.push v))).get? b = s.heap.get? b := fun b hb => Heap.get?_update_other _ _ (Ne.symm hb)
  refine ⟨⟨rfl, hb, fun b o hb e => ?_, fun b hb => ?_⟩, _, _, e2, by simp⟩
  · exact (oth b (fun z => hb (by simp [z]))).trans e
  · rcases List.mem_cons.mp hb with rfl | hb
    · obtain ⟨o, e, q⟩ := ha
      exact ⟨o, (oth _ (Ne.symm hSa)).trans e, q⟩
    · rw [List.mem_singleton.mp hb]
      exact ⟨_, e2, fun v z => by cases z⟩
theorem ext_loop {A : Around} {R : Result → Shared → Prop} (hh : A.handled = none) (hroom : A.depth < recursionLimit) (hSa : S ≠ a) (hSc : S ≠ cStatics) (hl : L.length ≤ sizeLine) (hSf : ∀ H', H' S = none → FpOk X pins H' S)
    (hR : ∀ G' H' s' acc c vs, Inv X pins σ H' s' → Ext G2 H2 G' H' → s'.heap.get? S = some (lstObj acc c) → Vals vs acc.toList → RDs (kw X) G' vs L → H' S = none → R (.ok (.ret res)) s') :
    ∀ (n k : Nat) (us : List Value) (s : Shared) (acc : Array Value) (c : Nat), L.length - k = n → k ≤ L.length → AllHere [a, S] s → GAt X pins σ A.in1.in1 G2 H2 [a, S] (CL S) L true P a g k us s → s.heap.get? S = some (lstObj acc c) → us = acc.toList →
      codeAny (model X.prog X.w) A (.builtin "list.extend.loop" ⟨[.ref S, .ref a, res], []⟩) R s := by
  intro n
  induction n with
  | zero =>
    intro k us s acc c hn hkl hS h e hus
    refine codeAny_builtin PySem.F.entry_extend_loop ?_
    rw [Around.under_plainId PySem.F.plain_extend_loop _]
    show wpAny _ A.in1 (pyNext (.ref a) >>= _) _ _ s
    refine wpAny_bind (gx_next hh hroom h ⟨acc, c, e, hus⟩ (by simp) (fun v us' s₁ hb same ⟨acc', c', e', hu'⟩ => ?_) (.inr ⟨by omega, rfl⟩) (fun v x y b G' H' s' us' zs hlt => by omega) fun G' H' s' us' zs hkl ⟨acc', c', e', hu'⟩ hV hZ hF I' x' same => ?_)
    · have e1 : s₁.heap.get? S = some (lstObj acc' c') := (same S (by simp)).trans e'
      obtain ⟨k1, k2⟩ := cl_push (v := v) hSa hb e1 (by obtain ⟨o, e, q⟩ := hS a (by simp); exact ⟨o, (same a (by simp)).trans e, q⟩)
      exact ⟨_, k1, by rw [hu']; exact k2⟩
    · have e1 : s'.heap.get? S = some (lstObj acc' c') := (same S (by simp)).1.trans e'
      rw [hu'] at hV
      exact wpAny_pure (hR G' H' s' acc' c' zs I' x' e1 hV hZ (same S (by simp)).2)
  | succ n ih =>
    intro k us s acc c hn hkl hS h e hus
    refine codeAny_builtin PySem.F.entry_extend_loop ?_
    rw [Around.under_plainId PySem.F.plain_extend_loop _]
    show wpAny _ A.in1 (pyNext (.ref a) >>= _) _ _ s
    refine wpAny_bind (gx_next hh hroom h ⟨acc, c, e, hus⟩ (by simp) (fun v us' s₁ hb same ⟨acc', c', e', hu'⟩ => ?_) (.inl (by omega)) (fun v x y b G' H' s' us' zs hlt ⟨acc', c', e', hu'⟩ hV hZ r rd ey hP hb1 hb2 I' x' same hat => ?_) fun G' H' s' us' zs hkl => by omega)
    · have e1 : s₁.heap.get? S = some (lstObj acc' c') := (same S (by simp)).trans e'
      obtain ⟨k1, k2⟩ := cl_push (v := v) hSa hb e1 (by obtain ⟨o, e, q⟩ := hS a (by simp); exact ⟨o, (same a (by simp)).trans e, q⟩)
      exact ⟨_, k1, by rw [hu']; exact k2⟩
    · have hb : b = true := by
        cases b with
        | true => rfl
        | false => have := (hb1 rfl).2; cases this
      have e1 : s'.heap.get? S = some (lstObj acc' c') := (same S (by simp)).1.trans e'
      have ha' : ∃ o, s'.heap.get? a = some o ∧ ∀ v, o.data ≠ .cell v := by obtain ⟨o, e, q⟩ := hS a (by simp); exact ⟨o, (same a (by simp)).1.trans e, q⟩
      have hasz : acc'.size < sizeLine := by
        have h1 := hV.length
        have h2 := RDs.length hZ
        rw [hu'] at h1
        have h3 : acc'.toList.length = acc'.size := by simp
        rw [List.length_take] at h2
        omega
      show wpAny _ A.in1 (updateSeq S (·.push v) >>= _) _ _ _
      refine wpAny_bind ?_
      have hat := hat hb
      obtain ⟨k1, acc2, c2, e2, hu2⟩ := cl_push (v := v) hSa hat.bare e1 ha'
      refine wpAny_updateSeq e1 rfl (wpAny_pure ⟨plainId_quiet PySem.F.plain_extend_loop _, ?_⟩) (Nat.le_of_lt hasz) (by show (acc'.push v).size ≤ sizeLine + 1; rw [Array.size_push]; omega)
      refine ih (k + 1) (us' ++ [v]) _ acc2 c2 (by omega) (by omega) k1.here (hat.kept k1 ?_ ?_ rfl) e2 (by rw [← hu2, hu'])
      · exact Heap.get?_update_other _ _ hSa
      · obtain ⟨mc, hns, hnn⟩ := hat.lim
        exact ⟨mc, hns.at' fun o e => (Heap.get?_update_other _ _ hSc).trans e, hnn⟩
theorem fp_new {H : Hp} {s : Shared} (I : Inv X pins σ H s) (h : s.heap.objs.size ≤ S) : ∀ H', H' S = none → FpOk X pins H' S := fun H' n => I.fpOk h n
/-- what is collected -/
theorem collect_gx {A : Around} {Rel : (D → Bool → Prop) → List D → Bool → Prop} {Q : List Value → Shared → Prop} {E : Value → Shared → Prop} {s : Shared} {G H : Hp} (hA : NearA X.A A.in1.in1) (hh : A.handled = none) (hroom : A.depth < recursionLimit) (I : Inv X pins σ H s) (hG : GReady X pins σ G H Rel a g s) (hRel : Rel P L true) (hl : L.length ≤ sizeLine)
    (hQ : ∀ G' H' s' acc vs, Inv X pins σ H' s' → Ext G H G' H' → Vals vs acc → RDs (kw X) G' vs L → Q acc s') : wpAny (model X.prog X.w) A (collect (.ref a)) Q E s := by
  have ty : ∀ {h : Heap}, (∀ b o, s.heap.get? b = some o → h.get? b = some o) → h.IsGen a g := fun {h} q => hG.isgen.keeps q
  have hSI : s.heap.objs.size ≠ a := Nat.ne_of_gt hG.lt
  have hSc : s.heap.objs.size ≠ cStatics := by
    obtain ⟨_, hn, _⟩ := I.nolimit
    exact Nat.ne_of_gt hn.lt
  unfold collect
  refine wpAny_bind (wpAny_runValue (codeAny_builtin PySem.F.entry_proto_collect ?_))
  rw [Around.under_plainId PySem.F.plain_proto_collect _]
  show wpAny _ A.in1 (newList [] >>= fun l => again (.builtin "list.__iadd__" ⟨[l, .ref a], []⟩)) _ _ s
  refine wpAny_bind (wpAny_newObj_type ?_)
  refine wpAny_pure ⟨plainId_quiet PySem.F.plain_list_iadd _, codeAny_builtin PySem.F.entry_list_iadd ?_⟩
  rw [Around.under_plainId PySem.F.plain_list_iadd _]
  have k1 : ∀ b o, s.heap.get? b = some o → (s.heap.push { cls := .type "list", data := .seq ([] : List Value).toArray }).get? b = some o := fun b o e => Heap.get?_push_of_some _ e
  show wpAny _ A.in1 (Builtin.List.listExtendWith (.ref s.heap.objs.size) (.ref a) (.ref s.heap.objs.size)) _ _ _
  unfold Builtin.List.listExtendWith
  refine wpAny_bind (wpAny_typeOf (Heap.IsGen.typeIs (s := { s with heap := _ }) (ty k1)) ?_)
  have h1 : Builtin.List.listSameRef (.ref s.heap.objs.size) (.ref a) = false := by simp [Builtin.List.listSameRef, hSI]
  have h2 : (Value.type "generator" == Value.type "list") = false := by decide
  have h3 : (Value.type "generator" == Value.type "tuple") = false := by decide
  simp only [h1, h2, h3, Bool.or_false, Bool.false_eq_true, if_false]
  refine wpAny_bind (wpAny_pyIter_gen (s := { s with heap := _ }) (ty k1) ?_)
  refine wpAny_bind (wpAny_holding ?_)
  unfold Builtin.List.listLengthHint
  refine wpAny_bind (wpAny_specialOf (Heap.IsGen.typeIs (s := { s with heap := _ }) (ty k1)) PySem.F.gen_no_len ?_)
  show wpAny _ A.in1 (specialOf (Value.ref a) (Str.ofString "__length_hint__") >>= _) _ _ _
  refine wpAny_bind (wpAny_specialOf (Heap.IsGen.typeIs (s := { s with heap := _ }) (ty k1)) PySem.F.gen_no_hint ?_)
  refine wpAny_pure ?_
  show wpAny _ A.in1 (rule "list.extend.makes-room" >>= fun _ => Builtin.List.listTouch (.ref s.heap.objs.size) >>= fun _ =>
    again (.builtin "list.extend.loop" ⟨[.ref s.heap.objs.size, .ref a, .ref s.heap.objs.size], []⟩)) _ _ _
  refine wpAny_bind (wpAny_rule ?_)
  have hS₁ : (s.heap.push { cls := .type "list", data := .seq ([] : List Value).toArray }).get? s.heap.objs.size = some { cls := .type "list", data := .seq ([] : List Value).toArray } := Heap.get?_push_size _ rfl
  refine wpAny_bind ?_
  show wpAny _ A.in1 (updateSeq s.heap.objs.size (·.push .none) >>= fun _ => updateSeq s.heap.objs.size (·.pop)) _ _ _
  refine wpAny_bind (wpAny_updateSeq hS₁ rfl ?_)
  have hS₂ := Heap.get?_update_self (Obj.mapSeq (·.push Value.none)) hS₁ rfl
  refine wpAny_updateSeq hS₂ rfl ?_
  have hS₃ := Heap.get?_update_self (Obj.mapSeq (·.pop)) hS₂ rfl
  have oth : ∀ b o, s.heap.get? b = some o →
      (((s.heap.push { cls := .type "list", data := .seq ([] : List Value).toArray }).update s.heap.objs.size (Obj.mapSeq (·.push Value.none))).update s.heap.objs.size (Obj.mapSeq (·.pop))).get? b = some o :=
    fun b o e => (Heap.get?_update_other _ _ (Nat.ne_of_gt (Heap.lt_size e))).trans ((Heap.get?_update_other _ _ (Nat.ne_of_gt (Heap.lt_size e))).trans (k1 b o e))
  have kb : KeptBut [a, s.heap.objs.size] s { s with heap := (((s.heap.push { cls := .type "list", data := .seq ([] : List Value).toArray }).update s.heap.objs.size (Obj.mapSeq (·.push Value.none))).update s.heap.objs.size (Obj.mapSeq (·.pop))) } :=
    ⟨rfl, I.bare, fun b o _ e => oth b o e, fun b hb => by
      rcases List.mem_cons.mp hb with rfl | hb
      · exact gx_here (ty oth)
      · rw [List.mem_singleton.mp hb]
        exact ⟨_, hS₃, fun v z => by cases z⟩⟩
  have ea : (((s.heap.push { cls := .type "list", data := .seq ([] : List Value).toArray }).update s.heap.objs.size (Obj.mapSeq (·.push Value.none))).update s.heap.objs.size (Obj.mapSeq (·.pop))).get? a = s.heap.get? a := by
    obtain ⟨o, nm, qn, ho, _⟩ := hG.isgen
    rw [ho]; exact oth a o ho
  refine wpAny_pure ⟨plainId_quiet PySem.F.plain_extend_loop _, ext_loop (X := X) (pins := pins) (σ := σ) (G2 := G) (H2 := H) (P := P) (g := g) hh hroom hSI hSc hl (fp_new I (Nat.le_refl _)) (fun G' H' s' acc c vs I' x' e hV hZ n => ?_) L.length 0 [] _ #[] _ rfl (Nat.zero_le _) kb.here
    (gready_at (C := CL s.heap.objs.size) hG hA (fun b z => by rw [List.mem_singleton.mp z]; exact Nat.le_refl _) hRel kb ea (I.nolimit.keeps oth) rfl) hS₃ rfl⟩
  show wpAny _ A (load s.heap.objs.size >>= _) _ _ s'
  refine wpAny_bind (wpAny_load e ?_)
  exact wpAny_pure (hQ G' H' s' acc.toList vs I' x' hV hZ)
end
end Fw
end
section
set_option Elab.async false
set_option linter.all false
set_option maxRecDepth 100000
set_option maxHeartbeats 800000
namespace Fw
open PySem PySem.Spec L2 GenW
open PyProof.Rows (AllBare)
section
variable {X : Cx} {pins : List (Addr × Obj)} {σ : St} {a : Addr} {L : List D} {P : D → Bool → Prop} {g : Nat}
theorem code_tuple_gx {A : Around} {Rel : (D → Bool → Prop) → List D → Bool → Prop} {Q₁ : Value → Shared → Prop} {E : Value → Shared → Prop} {s : Shared} {G H : Hp} (hA : NearA X.A A.in1.in1.in1) (hh : A.handled = none) (hroom : A.depth < recursionLimit) (I : Inv X pins σ H s) (hG : GReady X pins σ G H Rel a g s) (hRel : Rel P L true) (hl : L.length ≤ sizeLine)
    (h : ∀ G' H' s' acc vs, Inv X pins σ H' s' → Ext G H G' H' → Vals vs acc → RDs (kw X) G' vs L → Q₁ (.ref s'.heap.objs.size) { s' with heap := s'.heap.push (tupObj acc.toArray) }) :
    codeAny (model X.prog X.w) A (.call (.builtin "tuple.__new__") ⟨[.type "tuple", .ref a], []⟩) (wants Q₁ E) s := by
  refine codeAny_of_tree ?_
  show wpAny _ A.in1 (do checkBuiltinCall "tuple.__new__" ⟨[.type "tuple", .ref a], []⟩; again (.builtin "tuple.__new__" ⟨[.type "tuple", .ref a], []⟩)) _ _ s
  refine wpAny_bind (wpAny_of_eq (PySem.F.newCall_tuple_1 _) (wpAny_pure ⟨plainId_quiet PySem.F.plain_tuple_new _, codeAny_builtin PySem.F.entry_tuple_new ?_⟩))
  rw [Around.under_plainId PySem.F.plain_tuple_new _]
  have hsub := sub_tuple_self
  have hinit := init_tuple_lookup
  have hmh := madeHere_tuple
  have hTI := hG.isgen.typeIs
  wp_walk using wpAny_typeOf hTI, collect_gx hA hh hroom I hG hRel hl
  intro G' H' s' acc vs I' x' hV hZ
  show wpAny _ _ (Builtin.Tuple.tupleExact acc.toArray >>= fun v => ret v) _ _ _
  unfold Builtin.Tuple.tupleExact
  refine wpAny_bind (wpAny_newObj_type ?_ (by show acc.toArray.size ≤ sizeLine; rw [List.size_toArray, ← hV.length, RDs.length hZ]; exact hl))
  exact wpAny_pure (h G' H' s' acc vs I' x' hV hZ)
theorem call_tuple_gx {A : Around} {Rel : (D → Bool → Prop) → List D → Bool → Prop} {Q : Value → Shared → Prop} {E : Value → Shared → Prop} {s : Shared} {G H : Hp} (hA : NearA X.A A.in1.in1.in1.in1) (hh : A.handled = none) (hroom : A.depth < recursionLimit) (I : Inv X pins σ H s) (hG : GReady X pins σ G H Rel a g s) (hRel : Rel P L true) (hl : L.length ≤ sizeLine)
    (h : ∀ G' H' s' acc vs, Inv X pins σ H' s' → Ext G H G' H' → Vals vs acc → RDs (kw X) G' vs L → Q (.ref s'.heap.objs.size) { s' with heap := s'.heap.push (tupObj acc.toArray) }) :
    wpAny (model X.prog X.w) A (call (.type "tuple") [.ref a]) Q E s := by
  refine callType_codes (Q₁ := fun obj s₁ => s₁.TypeIs obj "tuple" ∧ Q obj s₁) PySem.F.called_tuple (PySem.F.typeCall_tuple_1 _) PySem.F.entry_object_init
    (code_tuple_gx (A := A.in1) hA hh hroom I hG hRel hl fun G' H' s' acc vs I' x' hV hZ => ⟨⟨_, Heap.get?_push_size _ rfl, rfl⟩, h G' H' s' acc vs I' x' hV hZ⟩) fun obj s₁ h₁ => ?_
  exact ⟨h₁.1, PySem.F.args_object_init_2 obj _, object_init_meets PySem.F.called_tuple.init.lookup PySem.F.called_tuple.made (by decide) X.prog X.w A.in1 _ s₁ ⟨h₁.1, rfl, h₁.2⟩⟩
end
section
variable {X : Cx} {cs : List (Addr × Addr)} {elt t0 i0 : Expr} {ifs0 : List Expr} {scope : Scope} {pos gpos p : Pos} {tg : Tg} {itd : Tau → Option D} {ifsD : List Dn} {dv : Tau → Option D} {k : Nat}
/-- tuple(.. for .. in ..) -/
theorem p_tupg (hN : X.N.Nodup) (hr : Room k X.A) (hg : Gl X "tuple") (hm : X.mg "tuple" = none) (ok : GxOk X cs elt t0 i0 ifs0 scope tg itd ifsD dv)
    (he : starEach [.GeneratorExp elt [⟨t0, i0, ifs0, 0⟩] scope gpos] X.env = (false, eval (.GeneratorExp elt [⟨t0, i0, ifs0, 0⟩] scope gpos) X.env) :: starEach [] X.env := by rfl) :
    PE X (.Call (.Name "tuple" p) [.GeneratorExp elt [⟨t0, i0, ifs0, 0⟩] scope gpos] [] pos) (tP (kw X) cs fun τ => ((itd τ).bind fun x => (itemsD x).bind fun ds => genGo (clause tg.own tg ifsD [] (fun τ => (dv τ).map ([·])) τ) ds).bind (ckD .tup)) := by
  refine ⟨fun pins s σ H Q I ⟨G, τ, r, st, tb, e, q⟩ => ?_⟩
  obtain ⟨L, e', e4⟩ := Option.bind_eq_some_iff.mp e
  obtain ⟨x, e1, e''⟩ := Option.bind_eq_some_iff.mp e'
  obtain ⟨xs, e2, e3⟩ := Option.bind_eq_some_iff.mp e''
  have hL := gen_gor e3
  have e4' : (if L.length ≤ lim then some (PyData.tuple L) else none) = some r := e4
  by_cases hl : L.length ≤ lim
  · rw [if_pos hl] at e4'
    cases e4'
    refine wpAny_Call_Name_kw (ld_blt I hg hm (by rfl) ?_)
    refine PyProof.Rows.callWith_type1 ?_ he rfl
    rw [he]
    show wpAny _ _ (spliced ((false, eval (.GeneratorExp elt [⟨t0, i0, ifs0, 0⟩] scope gpos) X.env) :: backTo pos (starEach [] X.env))) _ _ s
    refine Calls.spliced_cons (thn (gx_make hr.hd (by have := hr.dp; omega) hN ok I st tb e1 e2) fun u s5 ⟨a, g, G2, H2, hu, I5, x2, hG⟩ => ?_)
    subst hu
    refine Calls.spliced_nil ?_
    refine call_tuple_gx (X := X) (P := fun _ b => b = true) (nearA4 hr.hd) hr.hd (by have := hr.dp; omega) I5 hG hL (by rw [lim_eq]; exact hl) fun G' H' s' acc vs I' x' hV hZ => ?_
    refine laidT (s := s') (h := s'.heap) (tk := s'.toks) I' hV (by rw [RDs.length hZ, lim_eq]; exact hl) (lay_tup x'.inn hZ fun w G3 H3 x3 rd => q w G3 H3 ((x2.trans x').trans x3) rd)
  · rw [if_neg hl] at e4'; cases e4'
end
end Fw
end
section
set_option Elab.async false
set_option linter.all false
set_option maxRecDepth 100000
set_option maxHeartbeats 800000
namespace Fw
open PySem PySem.Spec PyProof.Rows L2
section
variable {X : Cx} {cs : List (Addr × Addr)} {K : Fz} {G H : Hp}
theorem rds_rg {K : Fz} {G : Hp} (a : Int) : ∀ (l : List Nat), RDs K G (l.map fun i => V.int (a + (i : Nat))) (l.map fun i => PyData.int (a + (i : Nat)))
  | [] => .nil
  | i :: r => .cons (.int _) (rds_rg a r)
theorem rgD_ok {a b : Int} (h : rngOk a = true) (h' : rngOk b = true) (hl : (b - a).toNat ≤ lim) : RgOk a b := by
  obtain ⟨k1, k2⟩ := rngOk_of h
  obtain ⟨k3, k4⟩ := rngOk_of h'
  have : lim = 2 ^ 24 := rfl
  exact ⟨by omega, by omega, by omega, by omega, by omega⟩
theorem rngL_len (a : Int) (n : Nat) : (rngL a n).length = n := by unfold rngL; rw [List.length_map, List.length_range]
def lrgV (k : Bool) (da : Tau → Option (List D)) (τ : Tau) : Option D := (da τ).bind fun vs => (rangeD vs).bind (lrgD k)
theorem lrg_some {k : Bool} {l : List D} {r : D} (h : lrgD k l = some r) : l.length ≤ lim ∧ r = if k then .tuple l else .list l := by
  unfold lrgD at h
  split at h
  · cases h; exact ⟨‹_›, rfl⟩
  · cases h
/-- list(range(b)) -/
theorem f_lrg1 {a : Expr} {d : Dn} {p p1 p2 pos pos2 : Pos} (hc : X.calm = true) (hg : Gl X "list") (hm : X.mg "list" = none) (hg2 : Gl X "range") (hm2 : X.mg "range" = none) (ha : PE X a (tB (kw X) cs d.bor)) (hp : Plain a)
    (na : starEach [.Call (.Name "range" p1) [a] [] pos2] X.env = (false, eval (.Call (.Name "range" p1) [a] [] pos2) X.env) :: starEach [] X.env := by rfl) :
    PE X (.Call (.Name "list" p) [.Call (.Name "range" p1) [a] [] pos2] [] pos) (tF (kw X) cs (lrgV false (borsL [d]))) := by
  refine pe_imp (pe_listRg hc hg hm (prg_1 hg2 hm2 ha (hp _ _)) na) fun σ H Q ⟨G, τ, r, st, tb, e, q⟩ => ?_
  obtain ⟨vs, e1, e2⟩ := Option.bind_eq_some_iff.mp e
  obtain ⟨x, e3, e4⟩ := Option.bind_eq_some_iff.mp (show (d.bor τ).bind (fun x => (some []).map (x :: ·)) = some vs from e1)
  cases e4
  obtain ⟨l, e5, e6⟩ := Option.bind_eq_some_iff.mp e2
  obtain ⟨hl, rfl⟩ := lrg_some e6
  cases x with
  | int b =>
    have e5' : (if rngOk b then some (rngL 0 b.toNat) else none) = some l := e5
    by_cases ok : rngOk b = true
    · rw [if_pos ok] at e5'
      cases e5'
      rw [rngL_len] at hl
      refine ⟨G, τ, .int b, st, tb, e3, fun v G1 H1 x1 hb => ⟨b, hb.int, rgD_ok (by decide) ok (by simpa using hl), ?_⟩⟩
      have z : rgV 0 b = (List.range b.toNat).map fun i => V.int (0 + (i : Nat)) := by unfold rgV; rw [Int.sub_zero]
      rw [z]
      exact lay_list (K := kw X) x1.inn (rds_rg 0 (List.range b.toNat)) fun w G2 H2 x2 f => q w G2 H2 (x1.trans x2) (f.back x1)
    · rw [if_neg ok] at e5'; cases e5'
  | _ => cases e5
/-- tuple(range(b)) -/
theorem f_lrgT1 {a : Expr} {d : Dn} {p p1 p2 pos pos2 : Pos} (hc : X.calm = true) (hg : Gl X "tuple") (hm : X.mg "tuple" = none) (hg2 : Gl X "range") (hm2 : X.mg "range" = none) (ha : PE X a (tB (kw X) cs d.bor)) (hp : Plain a)
    (na : starEach [.Call (.Name "range" p1) [a] [] pos2] X.env = (false, eval (.Call (.Name "range" p1) [a] [] pos2) X.env) :: starEach [] X.env := by rfl) :
    PE X (.Call (.Name "tuple" p) [.Call (.Name "range" p1) [a] [] pos2] [] pos) (tP (kw X) cs (lrgV true (borsL [d]))) := by
  refine ⟨fun pins s σ H Q I ⟨G, τ, r, st, tb, e, q⟩ => ?_⟩
  obtain ⟨vs, e1, e2⟩ := Option.bind_eq_some_iff.mp e
  obtain ⟨x, e3, e4⟩ := Option.bind_eq_some_iff.mp (show (d.bor τ).bind (fun x => (some []).map (x :: ·)) = some vs from e1)
  cases e4
  obtain ⟨l, e5, e6⟩ := Option.bind_eq_some_iff.mp e2
  obtain ⟨hl, rfl⟩ := lrg_some e6
  cases x with
  | int b =>
    have e5' : (if rngOk b then some (rngL 0 b.toNat) else none) = some l := e5
    by_cases ok : rngOk b = true
    · rw [if_pos ok] at e5'
      cases e5'
      rw [rngL_len] at hl
      have he := prg_1 (p := p1) (pos := pos2) hg2 hm2 ha (hp _ _)
      refine Call_ (ld_blt I hg hm boot_tuple (PyProof.Rows.callWith_type1 (args_cons (thn (he pins s σ H (fun a' b' H1 => a' = 0 ∧ b' = b ∧ ∃ G1, Ext G H G1 H1) I ⟨G, τ, .int b, st, tb, e3, fun v G1 H1 x1 hb => ⟨b, hb.int, rfl, rfl, G1, x1⟩⟩) fun x s1 ⟨r, a', b', t, u, v, H1, ex, hr, I1, ea, eb, G1, x1⟩ => args_nil ?_) na) na))
      subst ex ea eb
      obtain ⟨b1, b2, b3, b4, b5⟩ := rgD_ok (a := 0) (b := b') (by decide) ok (by simpa using hl)
      refine call_tuple_range (n := (b' - 0).toNat) (I1.ok.hd hc) hr (small_one b1 b2 b3 b4) (rangeSize_nat 0 b') b5 fun h' tk acc hk hi => ?_
      have I2 : Inv X pins σ H1 { s1 with heap := h', toks := tk } := I1.kept hk
      have z : rgV 0 b' = (List.range b'.toNat).map fun i => V.int (0 + (i : Nat)) := by unfold rgV; rw [Int.sub_zero]
      have rv := vals_rg hi
      have e9 : acc = acc.toList.toArray := by simp
      rw [e9]
      refine laidT (s := s1) (h := h') (tk := tk) I2 rv (by rw [rgV_length, sizeLine_eq]; omega) ?_
      rw [z]
      exact lay_tup (K := kw X) x1.inn (rds_rg 0 (List.range b'.toNat)) fun w G2 H2 x2 f => q w G2 H2 (x1.trans x2) f
    · rw [if_neg ok] at e5'; cases e5'
  | _ => cases e5
/-- list(range(a, b)) -/
theorem f_lrg2 {a b : Expr} {d d2 : Dn} {p p1 p2 pos pos2 : Pos} (hc : X.calm = true) (hg : Gl X "list") (hm : X.mg "list" = none) (hg2 : Gl X "range") (hm2 : X.mg "range" = none) (ha : PE X a (tB (kw X) cs d.bor)) (hp : Plain a) (hb : PE X b (tB (kw X) cs d2.bor)) (hpb : Plain b)
    (na : starEach [.Call (.Name "range" p1) [a, b] [] pos2] X.env = (false, eval (.Call (.Name "range" p1) [a, b] [] pos2) X.env) :: starEach [] X.env := by rfl) :
    PE X (.Call (.Name "list" p) [.Call (.Name "range" p1) [a, b] [] pos2] [] pos) (tF (kw X) cs (lrgV false (borsL [d, d2]))) := by
  refine pe_imp (pe_listRg hc hg hm (prg_2 hg2 hm2 ha hb (hp _ _) (hpb _ _) (by rw [hpb]; rfl)) na) fun σ H Q ⟨G, τ, r, st, tb, e, q⟩ => ?_
  obtain ⟨vs, e1, e2⟩ := Option.bind_eq_some_iff.mp e
  obtain ⟨x, e3, e4⟩ := Option.bind_eq_some_iff.mp (show (d.bor τ).bind (fun x => ((d2.bor τ).bind fun y => (some []).map (y :: ·)).map (x :: ·)) = some vs from e1)
  obtain ⟨vs', e7, rfl⟩ := Option.map_eq_some_iff.mp e4
  obtain ⟨y, e8, e9⟩ := Option.bind_eq_some_iff.mp e7
  cases e9
  obtain ⟨l, e5, e6⟩ := Option.bind_eq_some_iff.mp e2
  obtain ⟨hl, rfl⟩ := lrg_some e6
  match x, y, e5 with
  | .int i, .int j, e5 =>
    have e5' : (if rngOk i && rngOk j then some (rngL i (j - i).toNat) else none) = some l := e5
    by_cases ok : (rngOk i && rngOk j) = true
    · rw [if_pos ok] at e5'
      cases e5'
      rw [rngL_len] at hl
      obtain ⟨ok1, ok2⟩ := Bool.and_eq_true_iff.mp ok
      refine ⟨G, τ, .int i, st, tb, e3, fun v G1 H1 x1 hb1 => ⟨G1, τ, .int j, st.ext x1, tb.ext x1, e8, fun w G2 H2 x2 hb2 => ⟨i, j, hb1.int, hb2.int, rgD_ok ok1 ok2 hl, ?_⟩⟩⟩
      unfold rgV
      exact lay_list (K := kw X) x2.inn (rds_rg i (List.range (j - i).toNat)) fun w G3 H3 x3 f => q w G3 H3 ((x1.trans x2).trans x3) (f.back (x1.trans x2))
    · rw [if_neg ok] at e5'; cases e5'
end
end Fw
end
section
set_option Elab.async false
set_option linter.all false
set_option maxRecDepth 100000
set_option maxHeartbeats 800000
namespace Fw
open PySem PySem.Spec L2
section
variable {X : Cx} {cs : List (Addr × Addr)}
theorem SDs.plain : ∀ {es : List Expr} {ds : List Dn}, SDs X cs es ds → ∀ pos, (backTo pos (starEach es X.env)).any (·.1) = false
  | _, _, .nil, pos => rfl
  | _, _, .cons (e := e) (es := es) a r, pos => by
    have h := r.plain pos
    rw [a.plain]
    unfold backTo at h ⊢
    simp only [List.map_cons, List.any_cons]
    simpa using h
def bName : Blt → Option Str
  | .len => some "len" | .abs => some "abs" | .int => some "int" | .list => some "list" | .tuple => some "tuple" | .sorted => some "sorted"
  | .sum => some "sum" | .min => some "min" | .max => some "max" | .all => some "all" | .any => some "any" | _ => none
theorem blt_ok {b : Blt} {x : Str} (hb : bName b = some x) (hu : X.A.units + 66 < cLine) (hc : X.calm = true) (hg : Gl X x) (hm : X.mg x = none) {e : Expr} {es : List Expr} {ds : List Dn} {p pos : Pos} (h : SDs X cs (e :: es) ds) :
    PE X (.Call (.Name x p) (e :: es) [] pos) (tF (kw X) cs fun τ => (borsL ds τ).bind (bltD b)) := by
  have hpl : (backTo pos (starEach es X.env)).any (·.1) = false := by cases h with | cons a r => exact r.plain pos
  have he : starEach (e :: es) X.env = (false, eval e X.env) :: starEach es X.env := by cases h with | cons a r => exact a.plain _ _
  cases b with
  | len => cases hb; exact f_call (pe_callB cr_lenA hg hm (by rfl) (a_bors h) (by decide) (by decide) he hpl) (fun _ _ _ h => h) o_len
  | abs => cases hb; exact f_call (pe_callB call_abs hg hm (by rfl) (a_bors h) (by decide) (by decide) he hpl) (fun _ _ _ h => h) o_abs
  | int => cases hb; exact f_call (pe_callTy call_int1 hg hm (by rfl) (a_bors h) (by decide) (by decide) he hpl) (fun _ _ _ h => h) o_int
  | str => cases hb
  | list => cases hb; exact f_call (pe_callTy call_list_of hg hm (by rfl) (a_bors h) (by decide) (by decide) he hpl) (fun _ _ _ h => h) o_list
  | tuple => cases hb; exact f_call (pe_callTy cr_tupleZ hg hm (by rfl) (a_bors h) (by decide) (by decide) he hpl) (fun _ _ _ h => h) o_tuple
  | sorted => cases hb; exact f_call (pe_callB (cr_sortD hu) hg hm (by rfl) (a_bors h) (by decide) (by decide) he hpl) (fun _ _ _ h => h) o_sorted
  | sum => cases hb; exact f_call (pe_callB (cr_sum hc) hg hm (by rfl) (a_bors h) (by decide) (by decide) he hpl) (fun _ _ _ h => h) o_sum
  | min => cases hb; exact f_call (pe_callB ((call_min2 hc).or (cr_minD hu hc)) hg hm (by rfl) (a_bors h) (by decide) (by decide) he hpl) (fun _ _ _ h => h) o_min
  | max => cases hb; exact f_call (pe_callB ((call_max2 hc).or (cr_maxD hu hc)) hg hm (by rfl) (a_bors h) (by decide) (by decide) he hpl) (fun _ _ _ h => h) o_max
  | all => cases hb; exact f_call (pe_callB (cr_all hc) hg hm (by rfl) (a_bors h) (by decide) (by decide) he hpl) (fun _ _ _ h => h) o_all
  | any => cases hb; exact f_call (pe_callB (cr_any hc) hg hm (by rfl) (a_bors h) (by decide) (by decide) he hpl) (fun _ _ _ h => h) o_any
  | lenset => cases hb
  | sortset => cases hb
end
/-! ### the checker's context -/
structure Cc where
  N : List Str
  sc : Scope
  fc : Str → Bool
  fns : List (Str × List Bool)
  gls : List Str
  code : Bool
  lvl : Nat
def Cc.blk (c : Cc) (scope : Scope) : Cc := { c with sc := relS scope c.sc, fc := fun x => scope.names.lookup x == some .cell }
def Cc.gx (c : Cc) (scope : Scope) : Cc := { c with sc := scope, fc := fun _ => false, code := false, lvl := c.lvl - 1 }
def bltN : List Str := ["len", "abs", "int", "str", "bool", "list", "tuple", "sorted", "sum", "min", "max", "all", "any", "set", "range", "isinstance", "enumerate", "zip", "reversed"]
structure CcOk (G0 : Nat → Option D) (F : FT) (lv : Nat) (cs : List (Addr × Addr)) (c : Cc) (X : Cx) : Prop where
  N : X.N = c.N
  sc : X.env.scope = c.sc
  nd : X.N.Nodup
  calm : X.calm = true
  fc : ∀ x, c.fc x = true → X.fn x = true
  room : Room (lv + 3 * c.lvl) X.A
  blt : ∀ x ∈ bltN, X.mg x = none
  fn : ∀ (i : Nat) (nm : Str) (kf : List Bool), c.fns[i]? = some (nm, kf) → ∃ f fd ps, X.mg nm = some (.ref f) ∧ PySem.W.keepIn X.K (.ref f) = true ∧ Binds X.K fd ps [] ∧ FnOk X.prog X.w X.K X.mg X.base CX0 lv f fd ps (spF (kw X) cs kf (F i))
  gl : ∀ (k : Nat) (x : Str), c.gls[k]? = some x → ∃ v u, X.mg x = some u ∧ RelV v u ∧ ∀ d, G0 k = some d → ∀ G, L2.Dp X.K G v d
  code : c.code = true → ∃ cd P, (cd, P) ∈ cs ∧ GxR.TabB X.base X.mg cd P ∧ X.env.code = .ref cd
section
variable {G0 : Nat → Option D} {F : FT} {lv : Nat} {cs : List (Addr × Addr)} {c : Cc} {X B : Cx} {scope : Scope}
theorem CcOk.blk (h : CcOk G0 F lv cs c X) (b : BlkX X scope B) : CcOk G0 F lv cs (c.blk scope) B := by
  cases b with
  | mk s H C cl fp => exact ⟨h.N, by show relS scope X.env.scope = _; rw [h.sc]; rfl, h.nd, h.calm, fun x hx => hx, h.room, h.blt, h.fn, h.gl, h.code⟩
theorem CcOk.gx (h : CcOk G0 F lv cs c X) (hl : c.lvl ≠ 0) (b : GxB X scope B) : CcOk G0 F lv cs (c.gx scope) B := by
  cases b with
  | mk A0 hA s H C code fp =>
    refine ⟨h.N, rfl, h.nd, rfl, (fun x hx => nomatch hx), ?_, h.blt, h.fn, h.gl, fun hx => nomatch hx⟩
    have hr := h.room
    refine ⟨hA.hd, ?_, ?_⟩
    · have h1 := hr.dp
      have h2 := hA.dp
      show A0.depth + 1 + 3 * (lv + 3 * (c.lvl - 1)) + 5 < recursionLimit
      omega
    · have h1 := hr.un
      have h2 := hA.un
      show A0.units + 3 + 16 * (lv + 3 * (c.lvl - 1)) + 200 < cLine
      omega
theorem CcOk.un (h : CcOk G0 F lv cs c X) : X.A.units + 66 < cLine := by have := h.room.un; omega
end
def glB (sc : Scope) (x : Str) : Bool := sc.names.lookup x == some .globalImplicit
theorem glB_ok {c : Cc} {X : Cx} (hs : X.env.scope = c.sc) {x : Str} (h : glB c.sc x = true) : Gl X x := by
  unfold Gl Env.kindOf
  rw [hs]
  exact eq_of_beq h
def visB (sc : Scope) (x : Str) : Bool := sc.names.lookup x == some .local || (sc.names.lookup x == some .cell || sc.names.lookup x == some .free)
theorem visB_ok {sc : Scope} {x : Str} (h : visB sc x = true) : Vis sc x := by
  unfold visB at h
  simp only [Bool.or_eq_true, beq_iff_eq] at h
  exact h
def locB (c : Cc) (x : Str) : Bool := c.sc.names.lookup x == some .local || (c.sc.names.lookup x == some .cell && c.fc x)
def nmB (c : Cc) (i : Nat) (x : Str) : Bool := c.N[i]? == some x && locB c x
section
variable {G0 : Nat → Option D} {F : FT} {lv : Nat} {cs : List (Addr × Addr)} {c : Cc} {X B : Cx} {scope : Scope}
theorem nmB_ok (h : CcOk G0 F lv cs c X) {i : Nat} {x : Str} (e : nmB c i x = true) : NmOk X i x := by
  unfold nmB locB at e
  simp only [Bool.and_eq_true, Bool.or_eq_true, beq_iff_eq] at e
  obtain ⟨e1, e2 | ⟨e2, e3⟩⟩ := e
  · exact ⟨by rw [h.N]; exact e1, by rw [h.sc]; exact .inl e2, .inr (by rw [h.sc]; exact e2)⟩
  · exact ⟨by rw [h.N]; exact e1, by rw [h.sc]; exact .inr e2, .inl (h.fc x e3)⟩
def nmsB (c : Cc) : List Expr → List Nat → Bool
  | [], [] => true
  | .Name x _ :: es, i :: is => nmB c i x && nmsB c es is
  | _, _ => false
theorem nmsB_ok (h : CcOk G0 F lv cs c X) : ∀ {es : List Expr} {is : List Nat}, nmsB c es is = true → Paired (NmE X) es is
  | [], [], _ => .nil
  | .Name x p :: es, i :: is, e => by
    obtain ⟨e1, e2⟩ := Bool.and_eq_true_iff.mp (show (nmB c i x && nmsB c es is) = true from e)
    exact .cons (.mk (nmB_ok h e1)) (nmsB_ok h e2)
def tgB (c : Cc) : Expr → Tg → Bool
  | .Name x _, .n i => nmB c i x
  | .Tuple es _ _, .t is => nmsB c es is
  | _, _ => false
theorem tgB_ok (h : CcOk G0 F lv cs c X) {e : Expr} {t : Tg} (q : tgB c e t = true) : TgE X e t := by
  unfold tgB at q
  split at q
  · exact .n (.mk (nmB_ok h q))
  · exact .t (nmsB_ok h q)
  · cases q
end
/-- the names of a block, with their places -/
def ownOf (N : List Str) (scope : Scope) : List (Str × Nat) := scope.names.filterMap fun y => if y.2 == .local || y.2 == .cell then (N.findIdx? (· == y.1)).map fun i => (y.1, i) else none
def blkB (N : List Str) (sc scope : Scope) : Bool := scope.kind == .function && (scope.names.all (fun y => scope.names.lookup y.1 == some y.2) && scope.names.all fun y => !(y.2 == .free) || (sc.names.lookup y.1 == some .cell || sc.names.lookup y.1 == some .free))
theorem blkB_ok {N : List Str} {sc scope : Scope} (h : blkB N sc scope = true) : BlkOk N sc scope (ownOf N scope) := by
  unfold blkB at h
  simp only [Bool.and_eq_true, beq_iff_eq, List.all_eq_true, Bool.or_eq_true, Bool.not_eq_true'] at h
  obtain ⟨h1, h2, h3⟩ := h
  refine ⟨h1, fun y hy => h2 y hy, fun p hp => ?_, fun y hy e => ?_, fun y hy e => ?_⟩
  · obtain ⟨y, hy, e⟩ := List.mem_filterMap.mp hp
    split at e
    · obtain ⟨i, hi, rfl⟩ := Option.map_eq_some_iff.mp e
      obtain ⟨hlt, q, _⟩ := List.findIdx?_eq_some_iff_getElem.mp hi
      rw [List.getElem?_eq_getElem hlt]
      simpa using q
    · cases e
  · rcases h3 y hy with z | z
    · rw [e] at z; cases z
    · exact z
  · by_cases hm : y.1 ∈ N
    · refine .inl (List.mem_map.mpr ?_)
      cases hi : N.findIdx? (· == y.1) with
      | none =>
        rw [List.findIdx?_eq_none_iff] at hi
        have := hi _ hm
        simp at this
      | some i =>
        refine ⟨(y.1, i), List.mem_filterMap.mpr ⟨y, hy, ?_⟩, rfl⟩
        rw [if_pos (by rcases e with e | e <;> rw [e] <;> rfl), hi]
        rfl
    · exact .inr hm
end Fw
end
section
set_option Elab.async false
set_option linter.all false
set_option maxRecDepth 100000
set_option maxHeartbeats 800000
namespace Fw
open PySem PySem.Spec L2
/-! ### the checker of expressions -/
def constB : D → Const → Bool
  | .none, .none => true
  | .bool b, .bool b' => b == b'
  | .int i, .int j => i == j
  | .str x, .str y => x == y
  | _, _ => false
def dunB (x : Str) : Bool := !(x == ("__debug__" : Str)) && !(x == ("__classdict__" : Str))
/-- neither a slice nor a display that is folded -/
def ixB : Expr → Bool
  | .Slice _ _ _ _ => false
  | .Tuple _ _ _ => false
  | .Name _ _ => true
  | .Constant _ _ _ => true
  | .BinOp _ _ _ _ => true
  | .UnaryOp _ _ _ => true
  | .Call _ _ _ _ => true
  | .Subscript _ _ _ => true
  | .IfExp _ _ _ _ => true
  | _ => false
/-- no display -/
def noDis : Expr → Bool
  | .Set _ _ _ => false
  | .List _ _ => false
  | _ => true
def abB : Expr → Bool
  | .Call _ _ _ _ => false
  | _ => true
def tyB (c : Cc) : Expr → Ty → Bool
  | .Name x _, t => x == Str.ofString (tyS t) && glB c.sc x
  | _, _ => false
def tysB (c : Cc) : List Expr → List Ty → Bool
  | [], [] => true
  | e :: es, t :: ts => tyB c e t && tysB c es ts
  | _, _ => false
def bltB (c : Cc) (x : Str) : Bool := glB c.sc x && bltN.contains x
def setty : Blt → Bool
  | .lenset => true
  | .sortset => true
  | _ => false
def owOf : E → List Nat
  | .gen ow _ _ _ _ => ow
  | _ => []
mutual
def chk : E → Bool → Cc → Expr → Bool
  | .c d, _, _, ex => match ex with
    | .Constant k _ _ => constB d k
    | _ => false
  | .v i, _, c, ex => match ex with
    | .Name x _ => c.N[i]? == some x && (visB c.sc x && dunB x)
    | _ => false
  | .glob k, _, c, ex => match ex with
    | .Name x _ => c.gls[k]? == some x && (glB c.sc x && dunB x)
    | _ => false
  | .bin o a b, _, c, ex => match ex with
    | .BinOp l op r _ => decide (op = opOf o) && (chk a false c l && chk b false c r)
    | _ => false
  | .neg a, _, c, ex => match ex with
    | .UnaryOp .USub l _ => chk a false c l
    | _ => false
  | .not a, _, c, ex => match ex with
    | .UnaryOp .Not l _ => chk a false c l
    | _ => false
  | .bo k es, _, c, ex => match ex with
    | .BoolOp .And vs _ => k && (!vs.isEmpty && chks es c vs)
    | .BoolOp .Or vs _ => !k && (!vs.isEmpty && chks es c vs)
    | _ => false
  | .cmp o a b, _, c, ex => match ex with
    | .Compare l [op] [r] _ => decide (op = cOf o) && (!(behindInMarks op r) && (chk a false c l && chk b false c r))
    | _ => false
  | .chn o o' a b d, _, c, ex => match ex with
    | .Compare l [op, op'] [r, r'] _ => (decide (op = cOf o) && decide (op' = cOf o')) && (!(lastMarks [op, op'] [r, r']) && (chk a false c l && (chk b false c r && chk d false c r')))
    | _ => false
  | .ife k a b, _, c, ex => match ex with
    | .IfExp t l r _ => chk k false c t && (chk a false c l && chk b false c r)
    | _ => false
  | .tup es, _, c, ex => match ex with
    | .Tuple l _ _ => chks es c l
    | _ => false
  | .lst es, _, c, ex => match ex with
    | .List l _ => chks es c l
    | _ => false
  | .idx a i, _, c, ex => match ex with
    | .Subscript l r _ => ixB r && (chk a false c l && chk i false c r)
    | _ => false
  | .cut hl hh a lo hi, _, c, ex => match ex with
    | .Subscript l (.Slice x y none _) _ => chk a false c l && ((match x with
      | some e => hl && chk lo false c e
      | none => !hl) && (match y with
      | some e => hh && chk hi false c e
      | none => !hh))
    | _ => false
  | .rev a, _, c, ex => match ex with
    | .Subscript l (.Slice none none (some (.UnaryOp .USub (.Constant (.int n) _ _) _)) _) _ => n == 1 && chk a false c l
    | _ => false
  | .call f kf es, _, c, ex => match ex with
    | .Call (.Name x _) l [] _ => (c.fns[f]? == some (x, kf) && (glB c.sc x && dunB x)) && (kf.length == l.length && chks es c l)
    | _ => false
  | .blt b es, _, c, ex => match ex with
    | .Call (.Name x _) (e :: l) [] _ => if setty b then (match es, e with
      | [a], .Call (.Name y _) [z] [] _ => (l.isEmpty && x == (if b = .lenset then "len" else "sorted")) && (y == "set" && (bltB c x && (bltB c y && chk a false c z)))
      | _, _ => false) else bName b == some x && (bltB c x && chks es c (e :: l))
    | _ => false
  | .isi a ts, _, c, ex => match ex with
    | .Call (.Name x _) [l, .Tuple es _ _] [] _ => x == "isinstance" && (bltB c x && (chk a false c l && (tysB c es ts && decide (ts.length ≤ 5))))
    | .Call (.Name x _) [l, t] [] _ => x == "isinstance" && (bltB c x && (chk a false c l && tysB c [t] ts))
    | _ => false
  | .mth m o es, _, c, ex => match ex with
    | .Call (.Attribute l nm ap) (e :: r) [] cp => nm == mName m && (abB l && (decide (r.length ≤ 3) && ((ap.endLine == cp.line) && (chk o false c l && chks es c (e :: r)))))
    | _ => false
  | .cmpn k g, _, c, ex => match k, ex with
    | .lst, .ListComp elt gens scope _ => blkB c.N c.sc scope && chkH g c (c.blk scope) gens elt scope
    | .sset, .Call (.Name x _) [.SetComp elt gens scope _] [] _ => x == "sorted" && (bltB c x && (blkB c.N c.sc scope && chkH g c (c.blk scope) gens elt scope))
    | .lset, .Call (.Name x _) [.SetComp elt gens scope _] [] _ => x == "len" && (bltB c x && (blkB c.N c.sc scope && chkH g c (c.blk scope) gens elt scope))
    | .all, .Call (.Name x _) [.GeneratorExp elt [⟨t, i, fs, as⟩] scope _] [] _ => x == "all" && (bltB c x && (as == 0 && chkX g c t i fs elt scope))
    | .any, .Call (.Name x _) [.GeneratorExp elt [⟨t, i, fs, as⟩] scope _] [] _ => x == "any" && (bltB c x && (as == 0 && chkX g c t i fs elt scope))
    | .tup, .Call (.Name x _) [.GeneratorExp elt [⟨t, i, fs, as⟩] scope _] [] _ => x == "tuple" && (bltB c x && (as == 0 && chkX g c t i fs elt scope))
    | _, _ => false
  | .lrg k es, _, c, ex => match ex with
    | .Call (.Name x _) [.Call (.Name y _) l [] _] [] _ => y == "range" && (bltB c x && (bltB c y && (chks es c l && (if k then x == "tuple" && l.length == 1 else x == "list" && (l.length == 1 || l.length == 2)))))
    | _ => false
  | .rng es, k, c, ex => k && (match ex with
    | .Call (.Name x _) l [] _ => x == "range" && (bltB c x && ((l.length == 1 || (l.length == 2 || l.length == 3)) && chks es c l))
    | _ => false)
  | _, _, _, _ => false
def chks : List E → Cc → List Expr → Bool
  | [], _, ex => ex.isEmpty
  | e :: es, c, ex => match ex with
    | x :: xs => chk e false c x && chks es c xs
    | [] => false
/-- the first clause of a comprehension -/
def chkH : E → Cc → Cc → List Comprehension → Expr → Scope → Bool
  | .gen ow tg it ifs rest, c, cb, gens, elt, scope => match gens with
    | ⟨t, i, fs, as⟩ :: gs => (as == 0 && (noDis i && chk it true c i)) && ((tgB cb t tg && (decide (fs.length ≤ 1) && chks ifs cb fs)) && ((ow == tg.own ++ owOf rest && (ownOf c.N scope).all fun p => ow.contains p.2) && chkR rest cb gs elt))
    | [] => false
  | _, _, _, _, _, _ => false
/-- .. the rest -/
def chkR : E → Cc → List Comprehension → Expr → Bool
  | .yld e, c, gens, elt => gens.isEmpty && chk e false c elt
  | .gen ow tg it ifs rest, c, gens, elt => match gens with
    | ⟨t, i, fs, as⟩ :: gs => (as == 0 && (noDis i && chk it true c i)) && ((tgB c t tg && (decide (fs.length ≤ 1) && chks ifs c fs)) && (ow == tg.own ++ owOf rest && chkR rest c gs elt))
    | [] => false
  | _, _, _, _ => false
/-- a generator expression -/
def chkX : E → Cc → Expr → Expr → List Expr → Expr → Scope → Bool
  | .gen ow tg it ifs rest, c, t, i, fs, elt, scope => match rest with
    | .yld e => ((c.code && (c.lvl != 0 && blkB c.N c.sc scope)) && ((ownOf c.N scope).all (fun p => tg.own.contains p.2) && (!scope.isCoroutine && (scope.names.all (fun y => !(y.2 == .cell)) && scope.names.lookup (".0" : Str) == some NameKind.local)))) &&
      ((ow == tg.own && (noDis i && chk it true c i)) && (tgB (c.gx scope) t tg && ((decide (fs.length ≤ 1) && chks ifs (c.gx scope) fs) && chk e false (c.gx scope) elt)))
    | _ => false
  | _, _, _, _, _, _, _ => false
end
end Fw
end
section
set_option Elab.async false
set_option linter.all false
set_option maxRecDepth 100000
set_option maxHeartbeats 800000
namespace Fw
open PySem PySem.Spec L2
def isRng : E → Bool
  | .rng _ => true
  | _ => false
section
variable (G0 : Nat → Option D) (F : FT) (cs : List (Addr × Addr))
/-- what is shown of an expression -/
structure SDF (X : Cx) (e : E) (ex : Expr) : Prop where
  sd : SD X cs ex (den G0 F e)
  fr : fresh e = true → PE X ex (tF (kw X) cs (den G0 F e).val)
structure OkE (X : Cx) (e : E) (ex : Expr) : Prop where
  sd : isRng e = false → SDF G0 F cs X e ex
  pi : noDis ex = true → ∀ t, PI X t ex (tI (kw X) cs Ow (den G0 F e).bor)
  pv : noDis ex = true → ∀ t, PI X t ex (tI (kw X) cs (fun _ _ _ => False) (den G0 F e).val)
end
section
variable {G0 : Nat → Option D} {F : FT} {cs : List (Addr × Addr)} {X : Cx} {e : E} {ex : Expr} {lv : Nat} {c : Cc}
theorem okE_of (h : SDF G0 F cs X e ex) : OkE G0 F cs X e ex := ⟨fun _ => h, fun _ t => pi_src h.sd.bor, fun _ t => pi_src (bo_of_p h.sd.val)⟩
theorem okP (h : SD X cs ex (den G0 F e)) (n : fresh e = false) : OkE G0 F cs X e ex := okE_of ⟨h, fun z => by rw [n] at z; cases z⟩
theorem okF {d : Tau → Option D} (h : PE X ex (tF (kw X) cs d)) (ht : Tst ex) (hp : Plain ex) (hd : den G0 F e = Dn.of d) : OkE G0 F cs X e ex := okE_of ⟨by rw [hd]; exact sd_of (p_of_f h) ht hp, fun _ => by rw [hd]; exact h⟩
theorem constB_ok {d : D} {k : Const} {j : Nat} {pos : Pos} (h : constB d k = true) : SD X cs (.Constant k j pos) (den G0 F (.c d)) := by
  unfold constB at h
  split at h
  · exact sd_of (p_const pe_non fun _ => .non) (fun _ _ => rfl) fun _ _ => rfl
  · cases eq_of_beq h; exact sd_of (p_const pe_bl fun _ => .bl _) (fun _ _ => rfl) fun _ _ => rfl
  · cases eq_of_beq h; exact sd_of (p_const pe_int fun _ => .int _) (fun _ _ => rfl) fun _ _ => rfl
  · cases eq_of_beq h; exact sd_of (p_const pe_str fun _ => .str _) (fun _ _ => rfl) fun _ _ => rfl
  · cases h
theorem dunB_ok {x : Str} (h : dunB x = true) : (x == ("__debug__" : Str)) = false ∧ (x == ("__classdict__" : Str)) = false := by
  unfold dunB at h
  simp only [Bool.and_eq_true, Bool.not_eq_true'] at h
  exact h
theorem bltB_ok (h : CcOk G0 F lv cs c X) {x : Str} (e : bltB c x = true) : Gl X x ∧ X.mg x = none := by
  unfold bltB at e
  obtain ⟨e1, e2⟩ := Bool.and_eq_true_iff.mp e
  exact ⟨glB_ok h.sc e1, h.blt x (List.contains_iff_mem.mp e2)⟩
theorem ixB_ok {ex : Expr} (h : ixB ex = true) : PlainIx ex := by
  intro o i
  cases ex <;> first | rfl | (cases h; done)
theorem rng_no {e : E} {ex : Expr} (h : chk e false c ex = true) : isRng e = false := by
  cases e <;> first | rfl | exact nomatch (show false = true from h)
theorem SDs.one {ex : Expr} {d : Dn} (h : SD X cs ex d) : SDs X cs [ex] [d] := .cons h .nil
theorem noSet {ex : Expr} {env : Env} (h : noDis ex = true) : ∀ x, foldedSetIterable ex env x = pure x := by
  intro x
  cases ex <;> first | rfl | (cases h; done)
theorem noFold {ex : Expr} {env : Env} (h : noDis ex = true) : ∀ x, genFold ex env x = pure x := by
  intro x
  cases ex <;> first | rfl | (cases h; done)
theorem abB_ok {ex : Expr} {nm : Str} {env : Env} {w : Sem Value} (h : abB ex = true) : attributeBase ex nm env w = w := by
  cases ex <;> first | rfl | (cases h; done)
theorem tyB_ok (h : CcOk G0 F lv cs c X) {ex : Expr} {t : Ty} (q : tyB c ex t = true) : TyE ex t ∧ TyG X t := by
  unfold tyB at q
  split at q
  · obtain ⟨q1, q2⟩ := Bool.and_eq_true_iff.mp q
    cases eq_of_beq q1
    exact ⟨.mk t _, glB_ok h.sc q2, h.blt _ (by cases t <;> decide)⟩
  · cases q
theorem tysB_ok (h : CcOk G0 F lv cs c X) : ∀ {es : List Expr} {ts : List Ty}, tysB c es ts = true → Paired TyE es ts ∧ ∀ t ∈ ts, TyG X t
  | [], [], _ => ⟨.nil, fun t h => by cases h⟩
  | e :: es, t :: ts, q => by
    obtain ⟨q1, q2⟩ := Bool.and_eq_true_iff.mp (show (tyB c e t && tysB c es ts) = true from q)
    obtain ⟨a1, a2⟩ := tyB_ok h q1
    obtain ⟨b1, b2⟩ := tysB_ok h q2
    exact ⟨.cons a1 b1, fun t' ht => by
      rcases List.mem_cons.mp ht with rfl | ht
      · exact a2
      · exact b2 t' ht⟩
/-- a clause's tests -/
theorem tsE_of {es : List Expr} {ds : List Dn} (h : SDs X cs es ds) (hl : es.length ≤ 1) : TsE X cs es ds := by
  cases h with
  | nil => exact .no
  | cons a r =>
    cases r with
    | nil => exact .one a
    | cons b r => simp at hl
end
end Fw
end
section
set_option Elab.async false
set_option linter.all false
set_option maxRecDepth 100000
set_option maxHeartbeats 1600000
namespace Fw
open PySem PySem.Spec L2
def YieldOk (A : AccK) (e0 : Expr) (gens : List Comprehension) (elt : Expr) (cs : List (Addr × Addr)) : Prop := ∀ (B : Cx) (DD : Addr) (emit : Sem Unit) (d : Nat) (dv : Tau → Option D), B.A.units + 1 < cLine → B.xe = NoE → CmpE (.ref DD) B.env e0 gens emit → gens[d]? = none → PE B elt (tP (kw B) cs dv) →
  StageP B cs A e0 gens emit DD [] d (fun τ => (dv τ).map ([·]))
section
variable {G0 : Nat → Option D} {F : FT} {cs : List (Addr × Addr)} {X : Cx} {lv : Nat} {c : Cc}
theorem yieldL {elt : Expr} {gens : List Comprehension} {scope : Scope} {pos : Pos} : YieldOk accL (.ListComp elt gens scope pos) gens elt cs := fun B DD emit d dv _ hxe ce hg he => stage_yldL hxe ce hg he
theorem yieldI {elt : Expr} {gens : List Comprehension} {scope : Scope} {pos : Pos} : YieldOk accI (.SetComp elt gens scope pos) gens elt cs := fun B DD emit d dv hu hxe ce hg he => stage_yldS add_ints hu hxe ce hg he
theorem yieldT {elt : Expr} {gens : List Comprehension} {scope : Scope} {pos : Pos} : YieldOk accT (.SetComp elt gens scope pos) gens elt cs := fun B DD emit d dv hu hxe ce hg he => stage_yldS add_tups hu hxe ce hg he
theorem drop_cons {α : Type} {l : List α} {d : Nat} {g : α} {gs : List α} (h : l.drop d = g :: gs) : l[d]? = some g ∧ l.drop (d + 1) = gs := by
  constructor
  · have := congrArg (·[0]?) h
    simpa using this
  · rw [← List.drop_drop, h]; rfl
theorem drop_nil {α : Type} {l : List α} {d : Nat} (h : l.drop d = []) : l[d]? = none := by
  rw [List.drop_eq_nil_iff] at h
  exact List.getElem?_eq_none h
/-- the next clause is of the plain kind -/
theorem chkR_next {e : E} {c : Cc} {gs : List Comprehension} {elt : Expr} (h : chkR e c gs elt = true) : ∀ g, gs[0]? = some g → g.is_async = 0 ∧ noDis g.iter = true := by
  intro g hg
  cases e with
  | yld e =>
    obtain ⟨h1, _⟩ := Bool.and_eq_true_iff.mp (show (gs.isEmpty && chk e false c elt) = true from h)
    cases gs with
    | nil => cases hg
    | cons => cases h1
  | gen ow tg it ifs rest =>
    cases gs with
    | nil => cases hg
    | cons g' gs =>
      obtain ⟨t, i, fs, as⟩ := g'
      cases hg
      have h : ((as == 0 && (noDis i && chk it true c i)) && ((tgB c t tg && (decide (fs.length ≤ 1) && chks ifs c fs)) && (ow == tg.own ++ owOf rest && chkR rest c gs elt))) = true := h
      simp only [Bool.and_eq_true, beq_iff_eq] at h
      exact ⟨h.1.1, h.1.2.1⟩
  | _ => exact nomatch (show false = true from h)
theorem borsL1 {d : Dn} {f : List D → Option D} : (fun τ => (borsL [d] τ).bind f) = fun τ => (d.bor τ).bind fun x => f [x] := by
  funext τ
  show ((d.bor τ).bind fun x => (some []).map (x :: ·)).bind f = _
  cases d.bor τ <;> rfl
theorem few_ok {args : List Expr} {ds : List Dn} {pos : Pos} (h : SDs X cs args ds) (hl : args.length ≤ 4) : ((backTo pos (starEach args X.env)).all (fun x => !x.1) && (backToKw pos (keywordEach [] X.env)).all (fun x => x.1.isSome)
      && decide (args.length + ([] : List Keyword).length + (if ([] : List Keyword).isEmpty then 0 else 1) < 30)) = true := by
  have h1 := h.plain pos
  rw [Bool.and_eq_true_iff, Bool.and_eq_true_iff]
  refine ⟨⟨?_, rfl⟩, ?_⟩
  · rw [List.all_eq_true]
    rw [List.any_eq_false] at h1
    intro x hx
    have := h1 x hx
    simpa using this
  · simp
    omega
end
end Fw
end
section
set_option Elab.async false
set_option linter.all false
set_option maxRecDepth 100000
set_option maxHeartbeats 1600000
namespace Fw
open PySem PySem.Spec L2
section
variable {G0 : Nat → Option D} {F : FT} {cs : List (Addr × Addr)} {lv : Nat}
theorem borsL_len : ∀ {ds : List Dn} {τ : Tau} {vs : List D}, borsL ds τ = some vs → vs.length = ds.length
  | [], _, _, e => by cases e; rfl
  | d :: ds, τ, vs, e => by
    obtain ⟨x, _, e⟩ := Option.bind_eq_some_iff.mp (show (d.bor τ).bind (fun x => (borsL ds τ).map (x :: ·)) = some vs from e)
    obtain ⟨r, e2, rfl⟩ := Option.map_eq_some_iff.mp e
    rw [List.length_cons, List.length_cons, borsL_len e2]
mutual
theorem chk_ok : ∀ (e : E) (k : Bool) (c : Cc) (X : Cx) (ex : Expr), CcOk G0 F lv cs c X → chk e k c ex = true → OkE G0 F cs X e ex
  | .c d, _, c, X, ex, hc, h => by
    unfold chk at h
    split at h
    · exact okP (constB_ok h) rfl
    · cases h
  | .v i, _, c, X, ex, hc, h => by
    unfold chk at h
    split at h
    · simp only [Bool.and_eq_true, beq_iff_eq] at h
      obtain ⟨h1, h2, h3⟩ := h
      obtain ⟨d1, d2⟩ := dunB_ok h3
      exact okP (s_var (by rw [hc.N]; exact h1) (by rw [hc.sc]; exact visB_ok h2) d1 d2 G0 F) rfl
    · cases h
  | .glob k, _, c, X, ex, hc, h => by
    unfold chk at h
    split at h
    · simp only [Bool.and_eq_true, beq_iff_eq] at h
      obtain ⟨h1, h2, h3⟩ := h
      obtain ⟨d1, d2⟩ := dunB_ok h3
      obtain ⟨v, u, g1, g2, g3⟩ := hc.gl _ _ h1
      exact okP (s_glob (glB_ok hc.sc h2) g1 g2 d1 F g3) rfl
    · cases h
  | .bin o a b, _, c, X, ex, hc, h => by
    unfold chk at h
    split at h
    · simp only [Bool.and_eq_true, decide_eq_true_eq] at h
      obtain ⟨rfl, h1, h2⟩ := h
      have ia := ((chk_ok a false c X _ hc h1).sd (rng_no h1)).sd
      have ib := ((chk_ok b false c X _ hc h2).sd (rng_no h2)).sd
      refine okE_of ⟨sd_of (p_bin (op_all o) (s_all o) ia.bor ib.bor) (fun _ _ => rfl) fun _ _ => rfl, fun hf => ?_⟩
      cases o <;> first | (exact nomatch (show false = true from hf)) | exact f_bin op_plus f_plus ia.bor ib.bor | exact f_bin op_times f_times ia.bor ib.bor
    · cases h
  | .neg a, _, c, X, ex, hc, h => by
    unfold chk at h
    split at h
    · have ia := ((chk_ok a false c X _ hc h).sd (rng_no h)).sd
      exact okP (sd_of (p_neg ia.bor) (fun _ _ => rfl) fun _ _ => rfl) rfl
    · cases h
  | .not a, _, c, X, ex, hc, h => by
    unfold chk at h
    split at h
    · have ia := ((chk_ok a false c X _ hc h).sd (rng_no h)).sd
      exact okP (sd_of2 (p_not ia.bor) (t_not ia.tst) fun _ _ => rfl) rfl
    · cases h
  | .bo k es, _, c, X, ex, hc, h => by
    unfold chk at h
    split at h
    · simp only [Bool.and_eq_true, Bool.not_eq_true'] at h
      obtain ⟨rfl, h1, h2⟩ := h
      have i := chks_ok es c X _ hc h2
      have n : ‹List Expr› ≠ [] := fun z => by rw [z] at h1; cases h1
      exact okP (sd_of2 (p_and i n) (w_and i n).pt fun _ _ => rfl) rfl
    · simp only [Bool.and_eq_true, Bool.not_eq_true'] at h
      obtain ⟨rfl, h1, h2⟩ := h
      have i := chks_ok es c X _ hc h2
      have n : ‹List Expr› ≠ [] := fun z => by rw [z] at h1; cases h1
      exact okP (sd_of2 (p_or i n) (w_or i n).pt fun _ _ => rfl) rfl
    · cases h
  | .cmp o a b, _, c, X, ex, hc, h => by
    unfold chk at h
    split at h
    · simp only [Bool.and_eq_true, decide_eq_true_eq, Bool.not_eq_true'] at h
      obtain ⟨rfl, h0, h1, h2⟩ := h
      have ia := ((chk_ok a false c X _ hc h1).sd (rng_no h1)).sd
      have ib := ((chk_ok b false c X _ hc h2).sd (rng_no h2)).sd
      have hu : X.A.units + 65 < cLine := by have := hc.un; omega
      exact okP (sd_of2 (p_cmp hu ia ib h0) (t_cmp hu ia ib h0) fun _ _ => rfl) rfl
    · cases h
  | .chn o o' a b d, _, c, X, ex, hc, h => by
    unfold chk at h
    split at h
    · simp only [Bool.and_eq_true, decide_eq_true_eq, Bool.not_eq_true'] at h
      obtain ⟨⟨rfl, rfl⟩, h0, h1, h2, h3⟩ := h
      have ia := ((chk_ok a false c X _ hc h1).sd (rng_no h1)).sd
      have ib := ((chk_ok b false c X _ hc h2).sd (rng_no h2)).sd
      have id := ((chk_ok d false c X _ hc h3).sd (rng_no h3)).sd
      have hu : X.A.units + 65 < cLine := by have := hc.un; omega
      exact okP (sd_of2 (p_chn hu ia ib id h0) (t_chn hu ia ib id h0) fun _ _ => rfl) rfl
    · cases h
  | .ife k a b, _, c, X, ex, hc, h => by
    unfold chk at h
    split at h
    · simp only [Bool.and_eq_true] at h
      obtain ⟨h0, h1, h2⟩ := h
      have ik := ((chk_ok k false c X _ hc h0).sd (rng_no h0)).sd
      have ia := ((chk_ok a false c X _ hc h1).sd (rng_no h1)).sd
      have ib := ((chk_ok b false c X _ hc h2).sd (rng_no h2)).sd
      exact okP (sd_of2 (p_ife ik ia ib) (t_ife ik ia ib) fun _ _ => rfl) rfl
    · cases h
  | .tup es, _, c, X, ex, hc, h => by
    unfold chk at h
    split at h
    · exact okP (sd_of (p_tup (chks_ok es c X _ hc h)) (fun _ _ => rfl) fun _ _ => rfl) rfl
    · cases h
  | .lst es, _, c, X, ex, hc, h => by
    unfold chk at h
    split at h
    · exact okF (f_lst (chks_ok es c X _ hc h)) (fun _ _ => rfl) (fun _ _ => rfl) rfl
    · cases h
  | .idx a i, _, c, X, ex, hc, h => by
    unfold chk at h
    split at h
    · simp only [Bool.and_eq_true] at h
      obtain ⟨h0, h1, h2⟩ := h
      have ia := ((chk_ok a false c X _ hc h1).sd (rng_no h1)).sd
      have ii := ((chk_ok i false c X _ hc h2).sd (rng_no h2)).sd
      exact okP (sd_of (p_idx (by have := hc.un; omega) ia.bor ii.bor (ixB_ok h0)) (fun _ _ => rfl) fun _ _ => rfl) rfl
    · cases h
  | .cut hl hh a lo hi, _, c, X, ex, hc, h => by
    unfold chk at h
    split at h
    · rename_i l x y p1 p2
      simp only [Bool.and_eq_true] at h
      obtain ⟨h0, h1, h2⟩ := h
      have ia := ((chk_ok a false c X _ hc h0).sd (rng_no h0)).sd
      have r1 : PartR X cs hl x (den G0 F lo) := by
        cases x with
        | none =>
          have h1 : (!hl) = true := h1
          rw [Bool.not_eq_true'] at h1
          subst h1
          exact .no
        | some e =>
          obtain ⟨q1, q2⟩ := Bool.and_eq_true_iff.mp (show (hl && chk lo false c e) = true from h1)
          subst q1
          exact .ex ((chk_ok lo false c X _ hc q2).sd (rng_no q2)).sd
      have r2 : PartR X cs hh y (den G0 F hi) := by
        cases y with
        | none =>
          have h2 : (!hh) = true := h2
          rw [Bool.not_eq_true'] at h2
          subst h2
          exact .no
        | some e =>
          obtain ⟨q1, q2⟩ := Bool.and_eq_true_iff.mp (show (hh && chk hi false c e) = true from h2)
          subst q1
          exact .ex ((chk_ok hi false c X _ hc q2).sd (rng_no q2)).sd
      exact okF (f_cut ia.bor r1 r2) (fun _ _ => rfl) (fun _ _ => rfl) rfl
    · cases h
  | .rev a, _, c, X, ex, hc, h => by
    unfold chk at h
    split at h
    · simp only [Bool.and_eq_true, beq_iff_eq] at h
      obtain ⟨rfl, h1⟩ := h
      have ia := ((chk_ok a false c X _ hc h1).sd (rng_no h1)).sd
      exact okF (f_rev ia.bor) (fun _ _ => rfl) (fun _ _ => rfl) rfl
    · cases h
  | .call f kf es, _, c, X, ex, hc, h => by
    unfold chk at h
    split at h
    · rename_i x p1 l p2
      simp only [Bool.and_eq_true, beq_iff_eq] at h
      obtain ⟨⟨h0, h1, h2⟩, h3, h4⟩ := h
      obtain ⟨fa, fd, ps, g1, g2, g3, g4⟩ := hc.fn _ _ _ h0
      obtain ⟨d1, d2⟩ := dunB_ok h2
      have i := chks_ok es c X _ hc h4
      have hr : Room lv X.A := hc.room.mono (by omega)
      cases es with
      | nil =>
        have hl : l.isEmpty = true := h4
        rw [List.isEmpty_iff] at hl
        subst hl
        have ek : kf = [] := List.length_eq_zero_iff.mp h3
        subst ek
        exact okP (sd_of (p_call0 g4 hr (glB_ok hc.sc h1) g1 g2 g3 d1) (fun _ _ => rfl) fun _ _ => rfl) rfl
      | cons e es =>
        cases l with
        | nil => exact nomatch (show false = true from h4)
        | cons x1 xs =>
          have hp : ∀ pos, (backTo pos (starEach xs X.env)).any (·.1) = false := by
            cases (show SDs X cs (x1 :: xs) (den G0 F e :: dens G0 F es) from i) with
            | cons a r => exact r.plain
          exact okP (sd_of (p_call g4 hr (glB_ok hc.sc h1) g1 g2 g3 i h3 d1 (hp _)) (fun _ _ => rfl) fun _ _ => rfl) rfl
    · cases h
  | .blt b es, _, c, X, ex, hc, h => by
    unfold chk at h
    split at h
    · split at h
      · rename_i hb
        split at h
        · rename_i a y p3 z p4
          simp only [Bool.and_eq_true, beq_iff_eq, List.isEmpty_iff] at h
          obtain ⟨⟨rfl, hx⟩, rfl, h1, h2, h3⟩ := h
          obtain ⟨g1, m1⟩ := bltB_ok hc h1
          obtain ⟨g2, m2⟩ := bltB_ok hc h2
          have ia := ((chk_ok a false c X _ hc h3).sd (rng_no h3)).sd
          have hu : X.A.units + 64 < cLine := by have := hc.un; omega
          have hd : ∀ b', den G0 F (.blt b' [a]) = Dn.of fun τ => ((den G0 F a).bor τ).bind fun x => bltD b' [x] := fun b' => by
            show Dn.of (fun τ => (borsL [den G0 F a] τ).bind (bltD b')) = _
            rw [borsL1]
          cases b <;> first | (exact nomatch (show false = true from hb)) | skip
          · have hx : _ = ("len" : Str) := hx
            subst hx
            exact okP (by rw [hd]; exact sd_of (p_lenset hc.calm hu g1 m1 g2 m2 ia.bor ia.plain) (fun _ _ => rfl) fun _ _ => rfl) rfl
          · have hx : _ = ("sorted" : Str) := hx
            subst hx
            exact okF (f_sortset hc.calm hu g1 m1 g2 m2 ia.bor ia.plain) (fun _ _ => rfl) (fun _ _ => rfl) (hd _)
        · cases h
      · simp only [Bool.and_eq_true, beq_iff_eq] at h
        obtain ⟨h0, h1, h2⟩ := h
        obtain ⟨g1, m1⟩ := bltB_ok hc h1
        exact okF (blt_ok h0 hc.un hc.calm g1 m1 (chks_ok es c X _ hc h2)) (fun _ _ => rfl) (fun _ _ => rfl) rfl
    · cases h
  | .isi a ts, _, c, X, ex, hc, h => by
    unfold chk at h
    split at h
    · simp only [Bool.and_eq_true, beq_iff_eq, decide_eq_true_eq] at h
      obtain ⟨rfl, h1, h2, h3, h4⟩ := h
      obtain ⟨g1, m1⟩ := bltB_ok hc h1
      have ia := ((chk_ok a false c X _ hc h2).sd (rng_no h2)).sd
      obtain ⟨t1, t2⟩ := tysB_ok hc h3
      exact okP (sd_of (p_isiT g1 m1 ia.bor ia.plain t1 t2 h4) (fun _ _ => rfl) fun _ _ => rfl) rfl
    · simp only [Bool.and_eq_true, beq_iff_eq] at h
      obtain ⟨rfl, h1, h2, h3⟩ := h
      obtain ⟨g1, m1⟩ := bltB_ok hc h1
      have ia := ((chk_ok a false c X _ hc h2).sd (rng_no h2)).sd
      obtain ⟨t1, t2⟩ := tysB_ok hc h3
      cases t1 with
      | cons t1 r =>
        cases r
        exact okP (sd_of (p_isi1 g1 m1 ia.bor ia.plain t1 (t2 _ List.mem_cons_self)) (fun _ _ => rfl) fun _ _ => rfl) rfl
    · cases h
  | .mth m o es, _, c, X, ex, hc, h => by
    unfold chk at h
    split at h
    · rename_i l nm ap x1 xs cp
      simp only [Bool.and_eq_true, beq_iff_eq, decide_eq_true_eq] at h
      obtain ⟨rfl, h1, h2, h3, h4, h5⟩ := h
      have ia := ((chk_ok o false c X _ hc h4).sd (rng_no h4)).sd
      have i := chks_ok es c X _ hc h5
      have hs : starEach (x1 :: xs) X.env = (false, eval x1 X.env) :: starEach xs X.env := by
        generalize dens G0 F es = ds at i
        cases i with
        | cons a r => exact a.plain _ _
      have hp : (backTo cp (starEach xs X.env)).any (·.1) = false := by
        generalize dens G0 F es = ds at i
        cases i with
        | cons a r => exact r.plain _
      exact okP (sd_of (p_mth (by have := hc.un; omega) ia.bor (a_vals i) (abB_ok h1) (few_ok i (by simp; omega)) (by rw [h3]; exact beq_self_eq_true _) hs hp) (fun _ _ => rfl) fun _ _ => rfl) rfl
    · cases h
  | .cmpn k g, _, c, X, ex, hc, h => by
    unfold chk at h
    split at h
    · simp only [Bool.and_eq_true] at h
      exact okF (f_lc hc.calm hc.nd (chkH_ok g c X _ _ _ accL _ hc h.1 h.2 yieldL)) (fun _ _ => rfl) (fun _ _ => rfl) rfl
    · simp only [Bool.and_eq_true, beq_iff_eq] at h
      obtain ⟨rfl, h1, h2, h3⟩ := h
      obtain ⟨g1, m1⟩ := bltB_ok hc h1
      exact okP (sd_of (p_of_f (f_sortC hc.calm g1 m1 (pe_sc hc.calm hc.nd (chkH_ok g c X _ _ _ accI _ hc h2 h3 yieldI) (chkH_ok g c X _ _ _ accT _ hc h2 h3 yieldT)) fun _ _ => rfl)) (fun _ _ => rfl) fun _ _ => rfl) rfl
    · simp only [Bool.and_eq_true, beq_iff_eq] at h
      obtain ⟨rfl, h1, h2, h3⟩ := h
      obtain ⟨g1, m1⟩ := bltB_ok hc h1
      exact okP (sd_of (p_lenC g1 m1 (pe_sc hc.calm hc.nd (chkH_ok g c X _ _ _ accI _ hc h2 h3 yieldI) (chkH_ok g c X _ _ _ accT _ hc h2 h3 yieldT)) fun _ _ => rfl) (fun _ _ => rfl) fun _ _ => rfl) rfl
    · simp only [Bool.and_eq_true, beq_iff_eq] at h
      obtain ⟨rfl, h1, rfl, h3⟩ := h
      obtain ⟨g1, m1⟩ := bltB_ok hc h1
      obtain ⟨tg, it, ifs, e, rfl, ok⟩ := chkX_ok g c X _ _ _ _ _ hc h3
      exact okP (sd_of (p_all hc.nd hc.room g1 m1 ok) (fun _ _ => rfl) fun _ _ => rfl) rfl
    · simp only [Bool.and_eq_true, beq_iff_eq] at h
      obtain ⟨rfl, h1, rfl, h3⟩ := h
      obtain ⟨g1, m1⟩ := bltB_ok hc h1
      obtain ⟨tg, it, ifs, e, rfl, ok⟩ := chkX_ok g c X _ _ _ _ _ hc h3
      exact okP (sd_of (p_any hc.nd hc.room g1 m1 ok) (fun _ _ => rfl) fun _ _ => rfl) rfl
    · simp only [Bool.and_eq_true, beq_iff_eq] at h
      obtain ⟨rfl, h1, rfl, h3⟩ := h
      obtain ⟨g1, m1⟩ := bltB_ok hc h1
      obtain ⟨tg, it, ifs, e, rfl, ok⟩ := chkX_ok g c X _ _ _ _ _ hc h3
      exact okP (sd_of (p_tupg hc.nd hc.room g1 m1 ok) (fun _ _ => rfl) fun _ _ => rfl) rfl
    · cases h
  | .lrg k es, _, c, X, ex, hc, h => by
    unfold chk at h
    split at h
    · rename_i x p1 y p2 l p3 p4
      simp only [Bool.and_eq_true, beq_iff_eq] at h
      obtain ⟨rfl, h1, h2, h3, h4⟩ := h
      obtain ⟨g1, m1⟩ := bltB_ok hc h1
      obtain ⟨g2, m2⟩ := bltB_ok hc h2
      have i := chks_ok es c X _ hc h3
      cases k with
      | true =>
        simp only [if_true, Bool.and_eq_true, beq_iff_eq] at h4
        obtain ⟨rfl, hl⟩ := h4
        generalize hds : dens G0 F es = ds at i
        have hd : den G0 F (.lrg true es) = Dn.of (lrgV true (borsL ds)) := by rw [← hds]; rfl
        match l, hl, i with
        | [a], _, i =>
          cases i with
          | cons a r =>
            cases r
            refine okP ?_ rfl
            rw [hd]
            exact sd_of (f_lrgT1 (p2 := p1) hc.calm g1 m1 g2 m2 a.bor a.plain) (fun _ _ => rfl) fun _ _ => rfl
      | false =>
        simp only [Bool.false_eq_true, if_false, Bool.and_eq_true, beq_iff_eq, Bool.or_eq_true] at h4
        obtain ⟨rfl, hl⟩ := h4
        generalize hds : dens G0 F es = ds at i
        have hd : den G0 F (.lrg false es) = Dn.of (lrgV false (borsL ds)) := by rw [← hds]; rfl
        match l, hl, i with
        | [a], _, i =>
          cases i with
          | cons a r =>
            cases r
            exact okF (f_lrg1 (p2 := p1) hc.calm g1 m1 g2 m2 a.bor a.plain) (fun _ _ => rfl) (fun _ _ => rfl) hd
        | [a, b], _, i =>
          cases i with
          | cons a r =>
            cases r with
            | cons b r =>
              cases r
              exact okF (f_lrg2 (p2 := p1) hc.calm g1 m1 g2 m2 a.bor a.plain b.bor b.plain) (fun _ _ => rfl) (fun _ _ => rfl) hd
    · cases h
  | .rng es, k, c, X, ex, hc, h => by
    unfold chk at h
    obtain ⟨hk, h⟩ := Bool.and_eq_true_iff.mp h
    split at h
    · rename_i x p1 l p2 hx
      simp only [Bool.and_eq_true, beq_iff_eq, Bool.or_eq_true] at h
      obtain ⟨rfl, h1, hl, h3⟩ := h
      obtain ⟨g1, m1⟩ := bltB_ok hc h1
      have i := chks_ok es c X _ hc h3
      have key : ∀ O3 : TO3, ∀ t, PI X t (.Call (.Name "range" p1) l [] p2) (tI (kw X) cs O3 (rngV (borsL (dens G0 F es)))) := by
        intro O3 t
        have hn : ∀ τ vs, borsL (dens G0 F es) τ = some vs → vs.length = l.length := fun τ vs e => (borsL_len e).trans i.length.symm
        generalize dens G0 F es = ds at i hn ⊢
        match l, hl, i, hn with
        | [a], _, i, hn => exact pi_rng1 g1 m1 (a_bors i) hn (by cases i with | cons a r => exact a.plain)
        | [a, b], _, i, hn => exact pi_rng2 g1 m1 (a_bors i) hn (by cases i with | cons a r => exact a.plain) (by cases i with | cons a r => cases r with | cons b r => exact b.plain)
        | [a, b, d], _, i, hn => exact pi_rng3 g1 m1 (a_bors i) hn (by cases i with | cons a r => exact a.plain) (by cases i with | cons a r => cases r with | cons b r => exact b.plain) (by cases i with | cons a r => cases r with | cons b r => cases r with | cons d r => exact d.plain)
      exact ⟨(fun z => nomatch z), fun _ t => key Ow t, fun _ t => key _ t⟩
    · cases h
  | .gen _ _ _ _ _, _, _, _, _, _, h => nomatch (show false = true from h)
  | .yld _, _, _, _, _, _, h => nomatch (show false = true from h)
  | .enm _, _, _, _, _, _, h => nomatch (show false = true from h)
  | .zp _ _, _, _, _, _, _, h => nomatch (show false = true from h)
  | .rvd _, _, _, _, _, _, h => nomatch (show false = true from h)
theorem chks_ok : ∀ (es : List E) (c : Cc) (X : Cx) (l : List Expr), CcOk G0 F lv cs c X → chks es c l = true → SDs X cs l (dens G0 F es)
  | [], c, X, l, hc, h => by
    have h : l.isEmpty = true := h
    rw [List.isEmpty_iff] at h
    subst h
    exact .nil
  | e :: es, c, X, l, hc, h => by
    cases l with
    | nil => exact nomatch (show false = true from h)
    | cons x xs =>
      obtain ⟨h1, h2⟩ := Bool.and_eq_true_iff.mp (show (chk e false c x && chks es c xs) = true from h)
      exact .cons ((chk_ok e false c X x hc h1).sd (rng_no h1)).sd (chks_ok es c X xs hc h2)
theorem chkR_ok : ∀ (r : E) (c : Cc) (B : Cx) (gens : List Comprehension) (d : Nat) (gs : List Comprehension) (elt : Expr) (A : AccK) (e0 : Expr) (DD : Addr) (emit : Sem Unit), CcOk G0 F lv cs c B → B.xe = NoE → gens.drop d = gs → chkR r c gs elt = true → YieldOk A e0 gens elt cs → CmpE (.ref DD) B.env e0 gens emit →
    StageP B cs A e0 gens emit DD (owOf r) d (den G0 F r).gen
  | .yld e, c, B, gens, d, gs, elt, A, e0, DD, emit, hc, hxe, hd, h, hy, ce => by
    obtain ⟨h1, h2⟩ := Bool.and_eq_true_iff.mp (show (gs.isEmpty && chk e false c elt) = true from h)
    rw [List.isEmpty_iff] at h1
    rw [h1] at hd
    exact hy B DD emit d _ (by have := hc.un; omega) hxe ce (drop_nil hd) ((chk_ok e false c B elt hc h2).sd (rng_no h2)).sd.val
  | .gen ow tg it ifs rest, c, B, gens, d, gs, elt, A, e0, DD, emit, hc, hxe, hd, h, hy, ce => by
    cases gs with
    | nil => exact nomatch (show false = true from h)
    | cons g gs =>
      obtain ⟨t, i, fs, as⟩ := g
      have h : ((as == 0 && (noDis i && chk it true c i)) && ((tgB c t tg && (decide (fs.length ≤ 1) && chks ifs c fs)) && (ow == tg.own ++ owOf rest && chkR rest c gs elt))) = true := h
      simp only [Bool.and_eq_true, beq_iff_eq, decide_eq_true_eq] at h
      obtain ⟨⟨rfl, h1, h2⟩, ⟨h3, h4, h5⟩, h6, h7⟩ := h
      obtain ⟨d1, d2⟩ := drop_cons hd
      have hs1 : ∀ g, gens[d + 1]? = some g → g.is_async = 0 ∧ ∀ x, foldedSetIterable g.iter B.env x = pure x := fun g hg => by
        have q : gs[0]? = some g := by rw [← d2]; simpa using hg
        obtain ⟨q1, q2⟩ := chkR_next h7 g q
        exact ⟨q1, noSet q2⟩
      exact stage_gen hxe hc.calm hc.nd ce d1 hs1 ((chk_ok it true c B i hc h2).pi h1 t) (tgB_ok hc h3) (tsE_of (chks_ok ifs c B fs hc h5) h4) (chkR_ok rest c B gens (d + 1) gs elt A e0 DD emit hc hxe d2 h7 hy ce) h6
  | .c _, _, _, _, _, _, _, _, _, _, _, _, _, _, h, _, _ => nomatch (show false = true from h)
  | .v _, _, _, _, _, _, _, _, _, _, _, _, _, _, h, _, _ => nomatch (show false = true from h)
  | .glob _, _, _, _, _, _, _, _, _, _, _, _, _, _, h, _, _ => nomatch (show false = true from h)
  | .bin _ _ _, _, _, _, _, _, _, _, _, _, _, _, _, _, h, _, _ => nomatch (show false = true from h)
  | .neg _, _, _, _, _, _, _, _, _, _, _, _, _, _, h, _, _ => nomatch (show false = true from h)
  | .not _, _, _, _, _, _, _, _, _, _, _, _, _, _, h, _, _ => nomatch (show false = true from h)
  | .bo _ _, _, _, _, _, _, _, _, _, _, _, _, _, _, h, _, _ => nomatch (show false = true from h)
  | .cmp _ _ _, _, _, _, _, _, _, _, _, _, _, _, _, _, h, _, _ => nomatch (show false = true from h)
  | .chn _ _ _ _ _, _, _, _, _, _, _, _, _, _, _, _, _, _, h, _, _ => nomatch (show false = true from h)
  | .ife _ _ _, _, _, _, _, _, _, _, _, _, _, _, _, _, h, _, _ => nomatch (show false = true from h)
  | .tup _, _, _, _, _, _, _, _, _, _, _, _, _, _, h, _, _ => nomatch (show false = true from h)
  | .lst _, _, _, _, _, _, _, _, _, _, _, _, _, _, h, _, _ => nomatch (show false = true from h)
  | .idx _ _, _, _, _, _, _, _, _, _, _, _, _, _, _, h, _, _ => nomatch (show false = true from h)
  | .cut _ _ _ _ _, _, _, _, _, _, _, _, _, _, _, _, _, _, h, _, _ => nomatch (show false = true from h)
  | .rev _, _, _, _, _, _, _, _, _, _, _, _, _, _, h, _, _ => nomatch (show false = true from h)
  | .call _ _ _, _, _, _, _, _, _, _, _, _, _, _, _, _, h, _, _ => nomatch (show false = true from h)
  | .blt _ _, _, _, _, _, _, _, _, _, _, _, _, _, _, h, _, _ => nomatch (show false = true from h)
  | .isi _ _, _, _, _, _, _, _, _, _, _, _, _, _, _, h, _, _ => nomatch (show false = true from h)
  | .mth _ _ _, _, _, _, _, _, _, _, _, _, _, _, _, _, h, _, _ => nomatch (show false = true from h)
  | .cmpn _ _, _, _, _, _, _, _, _, _, _, _, _, _, _, h, _, _ => nomatch (show false = true from h)
  | .lrg _ _, _, _, _, _, _, _, _, _, _, _, _, _, _, h, _, _ => nomatch (show false = true from h)
  | .rng _, _, _, _, _, _, _, _, _, _, _, _, _, _, h, _, _ => nomatch (show false = true from h)
  | .enm _, _, _, _, _, _, _, _, _, _, _, _, _, _, h, _, _ => nomatch (show false = true from h)
  | .zp _ _, _, _, _, _, _, _, _, _, _, _, _, _, _, h, _, _ => nomatch (show false = true from h)
  | .rvd _, _, _, _, _, _, _, _, _, _, _, _, _, _, h, _, _ => nomatch (show false = true from h)
theorem chkH_ok (g : E) (c : Cc) (X : Cx) (gens : List Comprehension) (elt : Expr) (scope : Scope) (A : AccK) (e0 : Expr) (hc : CcOk G0 F lv cs c X) (hb : blkB c.N c.sc scope = true) (h : chkH g c (c.blk scope) gens elt scope = true) (hy : YieldOk A e0 gens elt cs) :
    GenOk X cs A e0 gens scope (den G0 F g).gen := by
  match g, h with
  | .gen ow tg it ifs rest, h =>
    match gens, h with
    | ⟨t, i, fs, as⟩ :: gs, h =>
      have h : ((as == 0 && (noDis i && chk it true c i)) && ((tgB (c.blk scope) t tg && (decide (fs.length ≤ 1) && chks ifs (c.blk scope) fs)) && ((ow == tg.own ++ owOf rest && (ownOf c.N scope).all fun p => ow.contains p.2) && chkR rest (c.blk scope) gs elt))) = true := h
      simp only [Bool.and_eq_true, beq_iff_eq, decide_eq_true_eq] at h
      obtain ⟨⟨rfl, h1, h2⟩, ⟨h3, h4, h5⟩, ⟨h6, h7⟩, h8⟩ := h
      have xe : ∀ B, BlkX X scope B → B.xe = NoE := fun B b => by cases b; rfl
      refine .mk rfl ((chk_ok it true c X i hc h2).pi h1 t) (own := ownOf c.N scope) (by rw [hc.N, hc.sc]; exact blkB_ok hb) (noSet h1) (fun B b g hg => ?_) (fun B b => tgB_ok (hc.blk b) h3) (fun B b => tsE_of (chks_ok ifs _ B fs (hc.blk b) h5) h4)
        (fun B b DD emit ce => chkR_ok rest (c.blk scope) B _ 1 gs elt A e0 DD emit (hc.blk b) (xe B b) rfl h8 hy ce) h6 (fun i hi => ?_) fun τ => rfl
      · obtain ⟨q1, q2⟩ := chkR_next h8 g (by simpa using hg)
        exact ⟨q1, noSet q2⟩
      · obtain ⟨p, hp, rfl⟩ := List.mem_map.mp hi
        rw [List.all_eq_true] at h7
        exact List.contains_iff_mem.mp (h7 p hp)
theorem chkX_ok (g : E) (c : Cc) (X : Cx) (t i : Expr) (fs : List Expr) (elt : Expr) (scope : Scope) (hc : CcOk G0 F lv cs c X) (h : chkX g c t i fs elt scope = true) :
    ∃ tg it ifs e, g = .gen tg.own tg it ifs (.yld e) ∧ GxOk X cs elt t i fs scope tg (den G0 F it).bor (dens G0 F ifs) (den G0 F e).val := by
  match g, h with
  | .gen ow tg it ifs (.yld e), h =>
    have h : (((c.code && (c.lvl != 0 && blkB c.N c.sc scope)) && ((ownOf c.N scope).all (fun p => tg.own.contains p.2) && (!scope.isCoroutine && (scope.names.all (fun y => !(y.2 == .cell)) && scope.names.lookup (".0" : Str) == some NameKind.local)))) &&
      ((ow == tg.own && (noDis i && chk it true c i)) && (tgB (c.gx scope) t tg && ((decide (fs.length ≤ 1) && chks ifs (c.gx scope) fs) && chk e false (c.gx scope) elt)))) = true := h
    simp only [Bool.and_eq_true, beq_iff_eq, decide_eq_true_eq, bne_iff_ne, Bool.not_eq_true'] at h
    obtain ⟨⟨⟨k1, k2, k3⟩, k4, k5, k6, k7⟩, ⟨rfl, h1, h2⟩, h3, ⟨h4, h5⟩, h6⟩ := h
    refine ⟨tg, it, ifs, e, rfl, (chk_ok it true c X i hc h2).pi h1 t, hc.code k1, ⟨ownOf c.N scope, by rw [hc.N, hc.sc]; exact blkB_ok k3, fun i hi => ?_⟩, k5, fun y hy e => ?_, k7, noFold h1, fun B b => tgB_ok (hc.gx k2 b) h3, fun B b => tsE_of (chks_ok ifs _ B fs (hc.gx k2 b) h5) h4, fun B b => ((chk_ok e false _ B elt (hc.gx k2 b) h6).sd (rng_no h6)).sd.val⟩
    · obtain ⟨p, hp, rfl⟩ := List.mem_map.mp hi
      rw [List.all_eq_true] at k4
      exact List.contains_iff_mem.mp (k4 p hp)
    · rw [List.all_eq_true] at k6
      have q := k6 y hy
      rw [e] at q
      cases q
end
end
end Fw
end
section
set_option Elab.async false
set_option linter.all false
set_option maxRecDepth 100000
set_option maxHeartbeats 1600000
namespace Fw
open PySem PySem.Spec L2
/-! ### the checker of statements -/
def noComp : Expr → Bool
  | .ListComp _ _ _ _ => false
  | .SetComp _ _ _ _ => false
  | .DictComp _ _ _ _ _ => false
  | _ => true
def noComp2 : Expr → Bool
  | .SetComp _ _ _ _ => false
  | .DictComp _ _ _ _ _ => false
  | _ => true
def notTup : Expr → Bool
  | .Tuple _ _ _ => false
  | .List _ _ => false
  | _ => true
def somes : List (Option Expr) → Option (List Expr)
  | [] => some []
  | some e :: r => (somes r).map (e :: ·)
  | none :: _ => none
def isStar : Expr → Bool
  | .Starred _ _ => true
  | _ => false
def lstE : E → Bool
  | .cmpn .lst _ => true
  | _ => false
def isFrz : S → Bool
  | .frz _ => true
  | _ => false
def localB (sc : Scope) (x : Str) : Bool := sc.names.lookup x == some .local
/-- two names, not both of them plain locals -/
def nonLoc (sc : Scope) : List Expr → Bool
  | [.Name x _, .Name y _] => !(localB sc x && localB sc y)
  | _ => false
mutual
def chkS : S → Cc → Stmt → Bool
  | .set i own e, c, st => match st with
    | .Assign [.Name y _] v _ => nmB c i y && ((noComp v || lstE e) && (noComp2 v && chk e false c v))
    | _ => false
  | .asg is e, c, st => match st with
    | .Assign [.Tuple ts k p] v _ => nmsB c ts is && (noComp v && ((notTup v || nonLoc c.sc ts) && chk e false c v))
    | _ => false
  | .par i j a b, c, st => match st with
    | .Assign [.Tuple [.Name x px, .Name y py] _ _] (.Tuple [u, v] _ _) _ => ((nmB c i x && nmB c j y) && (i != j && (localB c.sc x && localB c.sc y))) && ((px.line == py.line && (x != y && (!([u, v].all (foldedForSure 8)) && !([u, v].all (constantsAlone 8))))) && (((c.sc.kind == .function && !isStar u) && !isStar v) && (chk a false c u && chk b false c v)))
    | _ => false
  | .newD i tk ks vs, c, st => match st with
    | .Assign [.Name y _] (.Dict kl vl _) _ => nmB c i y && ((match somes kl with
      | some l => l.length == vl.length && chks ks c l
      | none => false) && chks vs c vl)
    | _ => false
  | .app i e, c, st => match st with
    | .Expr (.Call (.Attribute (.Name y _) nm ap) [v] [] cp) _ => (nm == "append" && (ap.endLine == cp.line)) && ((c.N[i]? == some y && (visB c.sc y && dunB y)) && chk e false c v)
    | _ => false
  | .put i k e, c, st => match st with
    | .Assign [.Subscript (.Name y _) kx _] v _ => (c.N[i]? == some y && (visB c.sc y && dunB y)) && ((ixB kx && (noComp v && chk e false c v)) && chk k false c kx)
    | _ => false
  | .aug i e, c, st => match st with
    | .AugAssign (.Name y _) .Add v _ => nmB c i y && chk e false c v
    | _ => false
  | .ex e, c, st => match st with
    | .Expr v _ => noComp v && chk e false c v
    | _ => false
  | .ife t a b, c, st => match st with
    | .If x l r _ => chk t false c x && (chkL a c l && chkL b c r)
    | _ => false
  | .for_ tg it b, c, st => match st with
    | .For t i l [] _ => tgB c t tg && (noDis i && (chk it true c i && chkL b c l))
    | _ => false
  | .whl _ t b, c, st => match st with
    | .While x l [] _ => chk t false c x && chkL b c l
    | _ => false
  | .ret e, c, st => match st with
    | .Return (some v) _ => chk e false c v
    | _ => false
  | .retN, _, st => match st with
    | .Return none _ => true
    | _ => false
  | .brk, _, st => match st with
    | .Break _ => true
    | _ => false
  | .cnt, _, st => match st with
    | .Continue _ => true
    | _ => false
  | .pass, _, st => match st with
    | .Pass _ => true
    | _ => false
  | .never, _, _ => true
  | _, _, _ => false
def chkL : List S → Cc → List Stmt → Bool
  | [], _, l => l.isEmpty
  | s :: r, c, l => if isFrz s then chkL r c l else match l with
      | x :: xs => chkS s c x && chkL r c xs
      | [] => false
end
end Fw
end
section
set_option Elab.async false
set_option linter.all false
set_option maxRecDepth 100000
set_option maxHeartbeats 1600000
namespace Fw
open PySem PySem.Spec L2
theorem noSw {v : Expr} {t : Option Expr} {l : Nat} {env : Env} (h : noComp v = true) : swapsWith v t l env = pure false := by
  cases v <;> first | rfl | exact nomatch (show false = true from h)
theorem noSwS {v t : Expr} {l : Nat} {env : Env} (h : noComp v = true) : swapsWithSole [t] v l env = pure false := noSw h
theorem noSwT {v t : Expr} {env : Env} (h : notTup v = true) : swappedStores [t] v env = pure none := by
  cases v <;> first | exact nomatch (show false = true from h) | (cases t <;> rfl)
theorem noSwC {ts : List Expr} {k : Nat} {p : Pos} {v : Expr} {env : Env} (h : nonLoc env.scope ts = true) : swappedStores [.Tuple ts k p] v env = pure none := by
  unfold nonLoc at h
  split at h
  · rename_i x px y py
    simp only [Bool.not_eq_true', Bool.and_eq_false_iff, localB, beq_eq_false_iff_ne, ne_eq] at h
    cases v with
    | Tuple vs k2 p2 =>
      unfold swappedStores
      have hn : ([Expr.Name x px, Expr.Name y py].filterMap fun e => match e with
        | .Name id pos => if env.kindOf id == some .local && pos.line == px.line then some id else none
        | _ => none).length ≠ 2 := by
        rcases h with h | h
        · have : (env.kindOf x == some NameKind.local) = false := by simpa [Env.kindOf] using h
          simp only [List.filterMap_cons, List.filterMap_nil, this, Bool.false_and]
          simp only [Bool.false_eq_true, if_false]
          split <;> simp
        · have : (env.kindOf y == some NameKind.local) = false := by simpa [Env.kindOf] using h
          simp only [List.filterMap_cons, List.filterMap_nil, this, Bool.false_and]
          simp only [Bool.false_eq_true, if_false]
          split <;> simp
      simp only [List.head?_cons, Option.map_some, Option.getD_some, Expr.pos]
      simp only [List.length_cons, List.length_nil]
      split
      · rfl
      · split
        · rfl
        · simp only [bind_pure_comp, pure_bind]
          refine if_pos ?_
          rw [Bool.or_eq_true]
          left
          exact bne_iff_ne.mpr hn
    | _ => rfl
  · cases h
theorem noSwSub {v a b : Expr} {p : Pos} {env : Env} : swappedStores [.Subscript a b p] v env = pure none := by
  cases v <;> rfl
theorem somes_ok : ∀ {l : List (Option Expr)} {r : List Expr}, somes l = some r → l = r.map some
  | [], _, h => by cases h; rfl
  | some e :: l, _, h => by
    obtain ⟨r, h1, rfl⟩ := Option.map_eq_some_iff.mp (show (somes l).map (e :: ·) = some _ from h)
    rw [somes_ok h1]; rfl
  | none :: _, _, h => nomatch h
theorem swap_ok {x y : Str} {px py pt pt2 : Pos} {kt k2 : Nat} {a b : Expr} {env : Env} (hk : env.scope.kind = .function) (hx : env.kindOf x = some .local) (hy : env.kindOf y = some .local) (hl : (px.line == py.line) = true) (hxy : (x != y) = true)
    (hf : ([a, b].all (foldedForSure 8)) = false) (hc : ([a, b].all (constantsAlone 8)) = false) (hsa : isStar a = false) (hsb : isStar b = false) :
    swappedStores [.Tuple [.Name x px, .Name y py] kt pt] (.Tuple [a, b] k2 pt2) env = pure (some [x, y]) := by
  have hbk : env.blockKind = .function := by unfold Env.blockKind; rw [hk]; rfl
  have hl2 : py.line = px.line := by rw [beq_iff_eq] at hl; exact hl.symm
  have hxy2 : x ≠ y := by simpa using hxy
  have hs : ([a, b].any fun | .Starred .. => true | _ => false) = false := by
    cases a <;> first | (exact nomatch (show true = false from hsa)) | (cases b <;> first | (exact nomatch (show true = false from hsb)) | rfl)
  have he : [x, y].eraseDups.length = 2 := by
    have : (y == x) = false := by simpa using fun z => hxy2 z.symm
    simp [List.eraseDups_cons, this]
  unfold swappedStores
  simp only [List.length_cons, List.length_nil, hbk, hf, hc, hs]
  simp [hx, hy, hl2, Expr.pos, he]
  intro h
  exfalso
  rcases h with h | h
  · cases a <;> first | (exact nomatch (show true = false from hsa)) | cases h
  · cases b <;> first | (exact nomatch (show true = false from hsb)) | cases h
section
variable {G0 : Nat → Option D} {F : FT} {cs : List (Addr × Addr)} {lv : Nat}
theorem set_ok {i : Nat} {own : Bool} {e : E} {c : Cc} {X : Cx} {y : Str} {py pos : Pos} {v : Expr} (hc : CcOk G0 F lv cs c X) (h1 : nmB c i y = true) (h2 : noComp v = true ∨ lstE e = true) (h3 : noComp2 v = true) (h4 : chk e false c v = true) :
    SS X cs (.Assign [.Name y py] v pos) (exS G0 F (.set i own e)) := by
  have ok := nmB_ok hc h1
  have ie := (chk_ok e false c X v hc h4).sd (rng_no h4)
  have std : swapsWith v (some (.Name y py)) pos.line X.env = pure false → SS X cs (.Assign [.Name y py] v pos) (exS G0 F (.set i own e)) := fun hs => by
    cases hf : own && fresh e with
    | true =>
      have q := (Bool.and_eq_true_iff.mp hf).2
      have r := ss_set (own := own && fresh e) (pos := pos) (py := py) hc.nd ok (ie.fr q) hs
      exact r
    | false =>
      have r := ss_setP (pos := pos) (py := py) hc.nd ok ie.sd.val hs
      have e2 : exS G0 F (.set i own e) = fun τ => ((den G0 F e).val τ).map fun d => .nx (τ.set i (.fz d)) := by
        funext τ
        show (((den G0 F e).val τ).map fun d => Out.nx (τ.set i (mkSlot (own && fresh e) d))) = _
        rw [hf]
        rfl
      rw [e2]
      exact r
  cases hn : noComp v with
  | true => exact std (noSw hn)
  | false =>
    have hl : lstE e = true := by rcases h2 with z | z; rw [hn] at z; cases z; exact z
    cases v with
    | ListComp elt gens scope p =>
      cases e with
      | cmpn k g =>
        cases k with
        | lst =>
          have h4 : (blkB c.N c.sc scope && chkH g c (c.blk scope) gens elt scope) = true := h4
          obtain ⟨k1, k2⟩ := Bool.and_eq_true_iff.mp h4
          have gk := chkH_ok (F := F) (G0 := G0) (cs := cs) (lv := lv) g c X gens elt scope accL (.ListComp elt gens scope p) hc k1 k2 yieldL
          have hs : swapsWith (.ListComp elt gens scope p) (some (.Name y py)) pos.line X.env = pure (X.env.blockKind == .function && X.env.kindOf y == some .local && py.line == p.line && !(scope.names.any fun (n, k) => n == y && (k == .local || k == .cell))) := rfl
          cases hb : (X.env.blockKind == .function && X.env.kindOf y == some .local && py.line == p.line && !(scope.names.any fun (n, k) => n == y && (k == .local || k == .cell))) with
          | false => exact std (by rw [hs, hb])
          | true =>
            have hyl : X.env.scope.names.lookup y = some .local := by
              simp only [Bool.and_eq_true, beq_iff_eq] at hb
              exact hb.1.1.2
            exact ss_setLc (own := own && fresh (.cmpn .lst g)) hc.calm hc.nd ok hyl (by rw [hs, hb]) gk
        | _ => exact nomatch (show false = true from hl)
      | _ => exact nomatch (show false = true from hl)
    | SetComp => exact nomatch (show false = true from h3)
    | DictComp => exact nomatch (show false = true from h3)
    | _ => exact nomatch (show true = false from hn)
end
end Fw
end
section
set_option Elab.async false
set_option linter.all false
set_option maxRecDepth 100000
set_option maxHeartbeats 1600000
namespace Fw
open PySem PySem.Spec L2
section
variable {G0 : Nat → Option D} {F : FT} {cs : List (Addr × Addr)} {lv : Nat}
abbrev Own (X : Cx) : Prop := PassesOwn (model X.prog X.w) X.A X.env X.xe
mutual
theorem chkS_ok : ∀ (s : S) (c : Cc) (X : Cx) (st : Stmt), CcOk G0 F lv cs c X → Own X → chkS s c st = true → SS X cs st (exS G0 F s)
  | .set i own e, c, X, st, hc, ho, h => by
    unfold chkS at h
    split at h
    · simp only [Bool.and_eq_true, Bool.or_eq_true] at h
      exact set_ok hc h.1 h.2.1 h.2.2.1 h.2.2.2
    · cases h
  | .asg is e, c, X, st, hc, ho, h => by
    unfold chkS at h
    split at h
    · simp only [Bool.and_eq_true] at h
      obtain ⟨h1, h2, h3, h4⟩ := h
      have ie := ((chk_ok e false c X _ hc h4).sd (rng_no h4)).sd
      exact ss_asg hc.calm hc.nd (.t (nmsB_ok hc h1)) ie.bor (noSwS h2) (by
        rcases Bool.or_eq_true_iff.mp h3 with h3 | h3
        · exact noSwT h3
        · exact noSwC (by rw [hc.sc]; exact h3)) rfl
    · cases h
  | .par i j a b, c, X, st, hc, ho, h => by
    unfold chkS at h
    split at h
    · rename_i x px y py _ _ u v _ _ _
      simp only [Bool.and_eq_true, Bool.not_eq_true'] at h
      obtain ⟨⟨⟨h1, h2⟩, h3, h4, h5⟩, ⟨h6, h7, h8, h9⟩, ⟨⟨h14, h10⟩, h11⟩, h12, h13⟩ := h
      have ia := ((chk_ok a false c X _ hc h12).sd (rng_no h12)).sd
      have ib := ((chk_ok b false c X _ hc h13).sd (rng_no h13)).sd
      have lx : X.env.scope.names.lookup x = some .local := by rw [hc.sc]; exact eq_of_beq h4
      have ly : X.env.scope.names.lookup y = some .local := by rw [hc.sc]; exact eq_of_beq h5
      exact ss_par hc.calm hc.nd (nmB_ok hc h1) (nmB_ok hc h2) (by simpa using h3) lx ly ia.val ib.val ia.plain ib.plain (swap_ok (by rw [hc.sc]; exact eq_of_beq h14) lx ly h6 h7 h8 h9 h10 h11) rfl
    · cases h
  | .newD i tk ks vs, c, X, st, hc, ho, h => by
    unfold chkS at h
    split at h
    · simp only [Bool.and_eq_true] at h
      obtain ⟨h1, h2, h3⟩ := h
      split at h2
      · rename_i l hl
        simp only [Bool.and_eq_true, beq_iff_eq] at h2
        rw [somes_ok hl]
        exact ss_newD (by have := hc.un; omega) hc.nd (nmB_ok hc h1) (chks_ok ks c X _ hc h2.2) (chks_ok vs c X _ hc h3) h2.1
      · cases h2
    · cases h
  | .app i e, c, X, st, hc, ho, h => by
    unfold chkS at h
    split at h
    · simp only [Bool.and_eq_true, beq_iff_eq] at h
      obtain ⟨⟨rfl, h1⟩, ⟨h2, h3, h4⟩, h5⟩ := h
      obtain ⟨d1, d2⟩ := dunB_ok h4
      have ie := ((chk_ok e false c X _ hc h5).sd (rng_no h5)).sd
      exact ss_app (by rw [hc.N]; exact h2) (by rw [hc.sc]; exact visB_ok h3) d1 d2 ie.val ie.plain rfl (by rw [h1]; exact beq_self_eq_true _)
    · cases h
  | .put i k e, c, X, st, hc, ho, h => by
    unfold chkS at h
    split at h
    · rename_i y py kx p' v pos
      simp only [Bool.and_eq_true, beq_iff_eq] at h
      obtain ⟨⟨h2, h3, h4⟩, ⟨h5, h6, h7⟩, h8⟩ := h
      obtain ⟨d1, d2⟩ := dunB_ok h4
      have ie := ((chk_ok e false c X _ hc h7).sd (rng_no h7)).sd
      have ik := ((chk_ok k false c X _ hc h8).sd (rng_no h8)).sd
      exact ss_put (by have := hc.un; omega) (by rw [hc.N]; exact h2) (by rw [hc.sc]; exact visB_ok h3) d1 d2 ik.val ie.val (fun v => by cases kx <;> first | rfl | exact nomatch (show false = true from h5)) (noSwS h6) noSwSub rfl
    · cases h
  | .aug i e, c, X, st, hc, ho, h => by
    unfold chkS at h
    split at h
    · simp only [Bool.and_eq_true] at h
      exact ss_aug hc.nd (nmB_ok hc h.1) ((chk_ok e false c X _ hc h.2).sd (rng_no h.2)).sd.val
    · cases h
  | .ex e, c, X, st, hc, ho, h => by
    unfold chkS at h
    split at h
    · simp only [Bool.and_eq_true] at h
      exact ss_ex ((chk_ok e false c X _ hc h.2).sd (rng_no h.2)).sd.val (noSw h.1)
    · cases h
  | .ife t a b, c, X, st, hc, ho, h => by
    unfold chkS at h
    split at h
    · simp only [Bool.and_eq_true] at h
      exact ss_ife ((chk_ok t false c X _ hc h.1).sd (rng_no h.1)).sd.tst (chkL_ok a c X _ hc ho h.2.1) (chkL_ok b c X _ hc ho h.2.2)
    · cases h
  | .for_ tg it b, c, X, st, hc, ho, h => by
    unfold chkS at h
    split at h
    · simp only [Bool.and_eq_true] at h
      obtain ⟨h1, h2, h3, h4⟩ := h
      exact ss_for ho hc.calm hc.nd (tgB_ok hc h1) ((chk_ok it true c X _ hc h3).pv h2 _) (chkL_ok b c X _ hc ho h4) (noSet h2)
    · cases h
  | .whl n t b, c, X, st, hc, ho, h => by
    unfold chkS at h
    split at h
    · simp only [Bool.and_eq_true] at h
      exact ss_whl ho ((chk_ok t false c X _ hc h.1).sd (rng_no h.1)).sd.tst (chkL_ok b c X _ hc ho h.2)
    · cases h
  | .ret e, c, X, st, hc, ho, h => by
    unfold chkS at h
    split at h
    · exact ss_ret ((chk_ok e false c X _ hc h).sd (rng_no h)).sd.val
    · cases h
  | .retN, c, X, st, hc, ho, h => by
    unfold chkS at h
    split at h
    · exact ss_retN
    · cases h
  | .brk, c, X, st, hc, ho, h => by
    unfold chkS at h
    split at h
    · exact ss_brk
    · cases h
  | .cnt, c, X, st, hc, ho, h => by
    unfold chkS at h
    split at h
    · exact ss_cnt
    · cases h
  | .pass, c, X, st, hc, ho, h => by
    unfold chkS at h
    split at h
    · exact ss_pass
    · cases h
  | .never, c, X, st, hc, ho, h => ss_never
  | .newS _, _, _, _, _, _, h => nomatch (show false = true from h)
  | .add _ _, _, _, _, _, _, h => nomatch (show false = true from h)
  | .frz _, _, _, _, _, _, h => nomatch (show false = true from h)
theorem chkL_ok : ∀ (l : List S) (c : Cc) (X : Cx) (st : List Stmt), CcOk G0 F lv cs c X → Own X → chkL l c st = true → SSs X cs st (exL G0 F l)
  | [], c, X, st, hc, ho, h => by
    have h : st.isEmpty = true := h
    rw [List.isEmpty_iff] at h
    subst h
    exact ss_nil
  | s :: r, c, X, st, hc, ho, h => by
    unfold chkL at h
    split at h
    · rename_i hf
      cases s <;> first | exact nomatch (show false = true from hf) | exact ss_frz (chkL_ok r c X st hc ho h)
    · cases st with
      | nil => cases h
      | cons x xs =>
        obtain ⟨h1, h2⟩ := Bool.and_eq_true_iff.mp (show (chkS s c x && chkL r c xs) = true from h)
        exact ss_cons (chkS_ok s c X x hc ho h1) (chkL_ok r c X xs hc ho h2)
end
end
end Fw
end
section
set_option Elab.async false
set_option linter.all false
set_option maxRecDepth 100000
set_option maxHeartbeats 1600000
namespace Fw
open PySem PySem.Spec L2
/-! ### how a plain def binds -/
theorem lookup_zip {n : Str} : ∀ {ps : List Str} {us : List Value}, us.length = ps.length → n ∈ ps → ((ps.zip us).lookup n).isSome = true
  | [], _, _, h => nomatch h
  | p :: ps, [], e, _ => nomatch e
  | p :: ps, u :: us, e, h => by
    rw [List.zip_cons_cons, List.lookup_cons]
    by_cases q : n = p
    · subst q; simp
    · have : (n == p) = false := by simpa using q
      rw [this]
      exact lookup_zip (by simpa using e) ((List.mem_cons.mp h).resolve_left q)
theorem lookup_skip {p : Str} {u : Value} : ∀ {ns : List Str} {l : List (Str × Value)}, p ∉ ns → (ns.filterMap fun n => (((p, u) :: l).lookup n).map (n, ·)) = ns.filterMap fun n => (l.lookup n).map (n, ·)
  | [], _, _ => rfl
  | n :: ns, l, h => by
    have q : n ≠ p := fun z => h (by rw [z]; exact List.mem_cons_self)
    have : (n == p) = false := by simpa using q
    rw [List.filterMap_cons, List.filterMap_cons, lookup_skip fun z => h (List.mem_cons_of_mem _ z), List.lookup_cons, this]
theorem zip_back : ∀ {ps : List Str} {us : List Value}, us.length = ps.length → ps.Nodup → (ps.filterMap fun n => ((ps.zip us).lookup n).map (n, ·)) = ps.zip us
  | [], us, e, _ => by cases us <;> rfl
  | p :: ps, [], e, _ => nomatch e
  | p :: ps, u :: us, e, h => by
    obtain ⟨h1, h2⟩ := List.nodup_cons.mp h
    rw [List.zip_cons_cons, List.filterMap_cons, List.lookup_cons]
    simp only [beq_self_eq_true, Option.map_some]
    rw [lookup_skip h1, zip_back (by simpa using e) h2]
def plainB (p : Arguments) (ps : List Str) : Bool := match p with
  | ⟨[], args, none, [], [], none, []⟩ => args.map (·.arg) == ps
  | _ => false
theorem bind_plain {x qual : Str} {p : Arguments} {body : List Stmt} {scope : Scope} {kV doc pm : Value} {an : Option Addr} {cdv ct : Value} {ps : List Str} {us : List Value} (h : plainB p ps = true) (nd : ps.Nodup) (hl : us.length = ps.length) :
    bindArgs (PySem.W.fnOf x qual p body scope .none kV doc pm an cdv ct) ⟨us, []⟩ = pure (ps.zip us) := by
  unfold plainB at h
  split at h
  · rename_i args
    have e : args.map (·.arg) = ps := eq_of_beq h
    have hm : (ps.filter fun n => ((ps.zip us).lookup n).isNone) = [] := List.filter_eq_nil_iff.mpr fun n hn => by
      have := lookup_zip hl hn
      cases q : (ps.zip us).lookup n with
      | none => rw [q] at this; cases this
      | some _ => simp
    have hm2 : (ps.take ps.length).filter (fun n => ((ps.zip us).lookup n).isNone) = [] := by rw [List.take_length]; exact hm
    have z := zip_back hl nd
    unfold bindArgs
    simp only [PySem.W.fnOf, e, hl, List.map_nil, List.nil_append, List.append_nil, List.forIn_nil, seqItems?, notAStandIn, pure_bind, bind_pure_comp, Option.getD_none, List.length_nil]
    simp [hm2, hm, z, List.drop_length]
  · cases h
end Fw
end
section
set_option Elab.async false
set_option linter.all false
set_option maxRecDepth 100000
set_option maxHeartbeats 1600000
namespace Fw
open PySem PySem.Spec L2
/-! ### a def of the text, its checker -/
structure DefI where
  nm : Str
  params : Arguments
  body : List Stmt
  scope : Scope
  N : List Str
  ps : List Str
  df : Df
  code : Bool
def scopeB (N ps : List Str) (sc : Scope) : Bool :=
  (sc.kind == .function && (!sc.isCoroutine && !sc.isGenerator)) && (decide N.Nodup && (N.take ps.length == ps && (ps.all (fun x => sc.names.lookup x == some .local || sc.names.lookup x == some .cell) && sc.names.all fun y => !(y.2 == .free))))
theorem scopeB_ok {N ps : List Str} {sc : Scope} (h : scopeB N ps sc = true) : FnScope N ps sc := by
  unfold scopeB at h
  simp only [Bool.and_eq_true, Bool.not_eq_true', decide_eq_true_eq, List.all_eq_true, Bool.or_eq_true, beq_iff_eq] at h
  obtain ⟨⟨h1, h2, h3⟩, h4, h5, h6, h7⟩ := h
  exact ⟨h1, h2, h3, h4, h5, h6, fun y hy z => by have := h7 y hy; rw [z] at this; cases this⟩
def DefI.cc (d : DefI) (fns : List (Str × List Bool)) (gls : List Str) : Cc := ⟨d.N, d.scope, fun _ => true, fns, gls, d.code, 2⟩
def chkD (fns : List (Str × List Bool)) (gls : List Str) (d : DefI) : Bool :=
  scopeB d.N d.ps d.scope && (d.df.kf.length == d.ps.length && (d.df.nv == d.N.length && (plainB d.params d.ps && chkL d.df.body (d.cc fns gls) d.body)))
/-! ### at the entry -/
theorem entA_get {K : Fz} {G : Hp} : ∀ {ks : List Bool} {vs : List V} {ds : List D}, ArgsR K G ks vs ds → (entA ks ds).length = vs.length ∧ ds.length = vs.length ∧
    ∀ (i : Nat) (s : Slot), (entA ks ds)[i]? = some s → ∃ v, vs[i]? = some v ∧ ((∃ d, s = .fz d ∧ RD K G v d) ∨ ∃ d, s = .fk d ∧ L2.Dp K.K G v d)
  | _, _, _, .nil => ⟨rfl, rfl, fun i s e => by simp [entA] at e⟩
  | _, _, _, .cons (k := k) (ks := ks) (v := v) (vs := vs) (d := d) (ds := ds) a r => by
    obtain ⟨h1, h2, h3⟩ := entA_get r
    refine ⟨by simp [entA, h1], by simp [h2], fun i s e => ?_⟩
    have e : ((if k then Slot.fk d else .fz d) :: entA ks ds)[i]? = some s := e
    cases i with
    | zero =>
      simp only [List.getElem?_cons_zero, Option.some.injEq] at e
      refine ⟨v, rfl, ?_⟩
      cases a with
      | rd q => exact .inl ⟨d, e.symm, q⟩
      | lk q => exact .inr ⟨d, e.symm, q⟩
    | succ j =>
      rw [List.getElem?_cons_succ] at e ⊢
      exact h3 j s e
theorem entry_get {K : Fz} {G : Hp} {ks : List Bool} {vs : List V} {ds : List D} {n : Nat} {i : Nat} {s : Slot} (a : ArgsR K G ks vs ds) (e : (entry ks n ds)[i]? = some s) :
    s = .un ∨ ∃ v, vs[i]? = some v ∧ ((∃ d, s = .fz d ∧ RD K G v d) ∨ ∃ d, s = .fk d ∧ L2.Dp K.K G v d) := by
  obtain ⟨h1, h2, h3⟩ := entA_get a
  unfold entry at e
  by_cases hi : i < (entA ks ds).length
  · rw [List.getElem?_append_left hi] at e
    exact .inr (h3 i s e)
  · rw [List.getElem?_append_right (by omega), List.getElem?_replicate] at e
    split at e
    · exact .inl (Option.some.inj e).symm
    · cases e
theorem start_get {N : List Str} {vs : List V} {i : Nat} {v : V} (e : vs[i]? = some v) : (L2.start N vs)[i]? = some (some v) := by
  unfold L2.start
  have hi : i < vs.length := (List.getElem?_eq_some_iff.mp e).1
  rw [List.getElem?_append_left (by simpa using hi), List.getElem?_map, e]
  rfl
theorem entry_stR {K : Fz} {G H : Hp} {ks : List Bool} {vs : List V} {ds : List D} {N : List Str} (i : Inn G H) (a : ArgsR K G ks vs ds) : StR K G H (L2.start N vs) (entry ks N.length ds) where
  inn := i
  len := by
    obtain ⟨h1, h2, _⟩ := entA_get a
    unfold L2.start entry
    simp [h1, h2]
  fz := fun j d e => by
    rcases entry_get a e with h | ⟨v, h1, ⟨d', h2, h3⟩ | ⟨d', h2, h3⟩⟩
    · cases h
    · cases h2; exact ⟨v, start_get h1, h3⟩
    · cases h2
  fk := fun j d e => by
    rcases entry_get a e with h | ⟨v, h1, ⟨d', h2, h3⟩ | ⟨d', h2, h3⟩⟩
    · cases h
    · cases h2
    · cases h2; exact ⟨v, start_get h1, h3⟩
  ow := fun j s e ho => by
    rcases entry_get a e with h | ⟨v, h1, ⟨d', h2, h3⟩ | ⟨d', h2, h3⟩⟩ <;> (subst_vars; cases ho)
  sep := fun j k s t b e o => by
    rcases entry_get a e with h | ⟨v, h1, ⟨d', h2, h3⟩ | ⟨d', h2, h3⟩⟩ <;> (subst_vars; cases o)
theorem entry_own {K : Fz} {G H H0 : Hp} {ks : List Bool} {vs : List V} {ds : List D} {N : List Str} (a : ArgsR K G ks vs ds) : OwnNew H0 (L2.start N vs) (entry ks N.length ds) := fun b ⟨j, s, e, o, _⟩ => by
  rcases entry_get a e with h | ⟨v, h1, ⟨d', h2, h3⟩ | ⟨d', h2, h3⟩⟩ <;> (subst_vars; cases o)
/-! ### what the module gives -/
structure ModOk (P : Program) (w : World) (K : PySem.W.Frag) (mg : Str → Option Value) (base : Heap) (G0 : Nat → Option D) (cs : List (Addr × Addr)) (defs : List DefI) (gls : List Str) : Prop where
  blt : ∀ x ∈ bltN, mg x = none
  gl : ∀ (k : Nat) (x : Str), gls[k]? = some x → ∃ v u, mg x = some u ∧ RelV v u ∧ ∀ d, G0 k = some d → ∀ G, L2.Dp K G v d
  fn : ∀ (i : Nat) (d : DefI), defs[i]? = some d → ∃ f fd, mg d.nm = some (.ref f) ∧ FunD K d.nm d.nm d.params d.body d.scope [] [] f fd ∧ (d.code = true → ∃ cd Pt, (cd, Pt) ∈ cs ∧ GxR.TabB base mg cd Pt ∧ fd.code = .ref cd)
def fnsOf (defs : List DefI) : List (Str × List Bool) := defs.map fun d => (d.nm, d.df.kf)
/-- the defs at a level: none, then each by those of the level below; the one at jt as told -/
def FTab (G0 : Nat → Option D) (defs : List DefI) (jt : Nat) (g : List D → Option D) : Nat → FT
  | 0 => fun _ _ => none
  | n + 1 => fun i args => if i = jt then g args else match defs[i]? with
    | some d => d.df.run G0 (FTab G0 defs jt g n) args
    | none => none
section
variable {P : Program} {w : World} {K : PySem.W.Frag} {mg : Str → Option Value} {base : Heap} {G0 : Nat → Option D} {cs : List (Addr × Addr)} {defs : List DefI} {gls : List Str} {F : FT} {lv : Nat}
theorem spF_len {K : Fz} {kf : List Bool} {F : List D → Option D} {ps : List Str} (hl : kf.length = ps.length) : ∀ vs H Q E, spF K cs kf F vs H Q E → vs.length = ps.length := fun vs H Q E ⟨G, ds, r, _, a, _⟩ => by rw [ArgsR.len a, hl]
theorem def_binds {d : DefI} (h : chkD (fnsOf defs) gls d = true) {f : Addr} {fd : FuncData} (D : FunD K d.nm d.nm d.params d.body d.scope [] [] f fd) : Binds K fd d.ps [] := by
  unfold chkD at h
  simp only [Bool.and_eq_true, beq_iff_eq] at h
  obtain ⟨h1, h2, h3, h4, h5⟩ := h
  have sc := scopeB_ok h1
  exact D.bindsN fun kV doc pm an cdv ct us hl => bind_plain h4 (by have := sc.nd; rw [← sc.pre]; exact this.sublist (List.take_sublist _ _)) hl
theorem def_ok (M : ModOk P w K mg base G0 cs defs gls) (hF : ∀ (i : Nat) (d : DefI), defs[i]? = some d → ∃ f fd ps, mg d.nm = some (.ref f) ∧ PySem.W.keepIn K (.ref f) = true ∧ Binds K fd ps [] ∧ FnOk P w K mg base CX0 lv f fd ps (spF ⟨K, P, w⟩ cs d.df.kf (F i)))
    {d : DefI} (h : chkD (fnsOf defs) gls d = true) {f : Addr} {fd : FuncData} (D : FunD K d.nm d.nm d.params d.body d.scope [] [] f fd) (hc : d.code = true → ∃ cd Pt, (cd, Pt) ∈ cs ∧ GxR.TabB base mg cd Pt ∧ fd.code = .ref cd) :
    FnOk P w K mg base CX0 (lv + 8) f fd d.ps (spF ⟨K, P, w⟩ cs d.df.kf (d.df.run G0 F)) := by
  unfold chkD at h
  simp only [Bool.and_eq_true, beq_iff_eq] at h
  obtain ⟨h1, h2, h3, h4, h5⟩ := h
  have sc := scopeB_ok h1
  obtain ⟨oc, od, dV, kV, doc, pm, an, cdv, ct, osl, rfl, lk, hcd, _, _⟩ := D.ex
  have main := fn_of (CX := CX0) (P := P) (w := w) (mg := mg) (base := base) (k := lv + 6) (sp := spF ⟨K, P, w⟩ cs d.df.kf (d.df.run G0 F)) lk hcd sc (spF_len h2) fun A outer s H vs Q E hr hsp => by
    obtain ⟨G, ds, r, inn, a, tb, e, q⟩ := hsp
    let X := cxOf CX0 P w K mg base d.N d.nm d.scope f cdv A outer s H E
    have cc : CcOk G0 F lv cs (d.cc (fnsOf defs) gls) X.nox := by
      refine ⟨rfl, rfl, sc.nd, rfl, fun _ _ => rfl, hr, M.blt, fun i nm kf e => ?_, M.gl, hc⟩
      have e : (fnsOf defs)[i]? = some (nm, kf) := e
      unfold fnsOf at e
      rw [List.getElem?_map] at e
      cases hd : defs[i]? with
      | none => rw [hd] at e; cases e
      | some d' =>
        rw [hd] at e
        cases e
        exact hF i d' hd
    have ss := chkL_ok d.df.body (d.cc (fnsOf defs) gls) X.nox d.body cc PassesOwn.never h5
    refine ⟨_, PSs.nox (ss G H), ?_⟩
    unfold Df.run at e
    by_cases hl : ds.length = d.df.kf.length
    · rw [if_pos hl] at e
      obtain ⟨o, e1, e2⟩ := Option.bind_eq_some_iff.mp e
      rw [h3] at e1
      refine ⟨G, entry d.df.kf d.N.length ds, o, entry_stR inn a, tb, Ext.refl inn, entry_own (G := G) (H := H) a, e1, ?_⟩
      cases o with
      | nx τ' =>
        cases e2
        exact fun σ' G' H' st' tb' x' _ => q .non G' H' x' .non
      | rt v =>
        cases e2
        exact fun v G' H' rd x' => q v G' H' x' rd
      | bk _ => cases e2
      | ct _ => cases e2
    · rw [if_neg hl] at e; cases e
  exact main.mono (by omega)
theorem all_ok (M : ModOk P w K mg base G0 cs defs gls) {jt b0 : Nat} {g : List D → Option D} (hchk : ∀ (i : Nat) (d : DefI), defs[i]? = some d → i ≠ jt → chkD (fnsOf defs) gls d = true)
    (ht : ∀ d, defs[jt]? = some d → ∀ f fd, mg d.nm = some (.ref f) → FunD K d.nm d.nm d.params d.body d.scope [] [] f fd → Binds K fd d.ps [] ∧ FnOk P w K mg base CX0 (8 + b0) f fd d.ps (spF ⟨K, P, w⟩ cs d.df.kf g)) (hl : ∀ d, defs[jt]? = some d → d.df.kf.length = d.ps.length) :
    ∀ (n i : Nat) (d : DefI), defs[i]? = some d → ∃ f fd, mg d.nm = some (.ref f) ∧ FunD K d.nm d.nm d.params d.body d.scope [] [] f fd ∧ Binds K fd d.ps [] ∧ FnOk P w K mg base CX0 (8 * n + b0) f fd d.ps (spF ⟨K, P, w⟩ cs d.df.kf (FTab G0 defs jt g n i))
  | 0, i, d, hd => by
    obtain ⟨f, fd, h1, h2, h3⟩ := M.fn i d hd
    by_cases hi : i = jt
    · subst hi
      obtain ⟨b, k⟩ := ht d hd f fd h1 h2
      exact ⟨f, fd, h1, h2, b, spF_len (hl d hd), fun A outer s H args us vs Q E hr he hb hv ⟨G, ds, r, _, _, _, e, _⟩ => by cases e⟩
    · have hk := hchk i d hd hi
      have hk2 := hk
      unfold chkD at hk2
      simp only [Bool.and_eq_true, beq_iff_eq] at hk2
      exact ⟨f, fd, h1, h2, def_binds hk h2, spF_len hk2.2.1, fun A outer s H args us vs Q E hr he hb hv ⟨G, ds, r, _, _, _, e, _⟩ => by cases e⟩
  | n + 1, i, d, hd => by
    obtain ⟨f, fd, h1, h2, h3⟩ := M.fn i d hd
    by_cases hi : i = jt
    · subst hi
      obtain ⟨b, k⟩ := ht d hd f fd h1 h2
      refine ⟨f, fd, h1, h2, b, ?_⟩
      have e : FTab G0 defs i g (n + 1) i = g := by funext args; show (if i = i then g args else _) = _; rw [if_pos rfl]
      rw [e]
      exact k.mono (by omega)
    · have hk := hchk i d hd hi
      refine ⟨f, fd, h1, h2, def_binds hk h2, ?_⟩
      have e : FTab G0 defs jt g (n + 1) i = d.df.run G0 (FTab G0 defs jt g n) := by funext args; show (if i = jt then g args else match defs[i]? with | some d => d.df.run G0 (FTab G0 defs jt g n) args | none => none) = _; rw [if_neg hi, hd]
      rw [e]
      refine (def_ok (lv := 8 * n + b0) M (fun j d' hd' => ?_) hk h2 h3).mono (by omega)
      obtain ⟨f', fd', k1, k2, k3, k4⟩ := all_ok M hchk ht hl n j d' hd'
      exact ⟨f', fd', d'.ps, k1, k2.kp, k3, k4⟩
end
end Fw
end
section
set_option Elab.async false
set_option linter.all false
set_option maxRecDepth 100000
set_option maxHeartbeats 1600000
namespace Fw
open PySem PySem.Spec PyProof.Rows L2
/-! ### what is known behind the top -/
def isLst (o : Obj) : Bool := match o.cls with
  | .type c => decide (c = "list")
  | _ => false
def codeAt (K : PySem.W.Frag) (x : Str) : Option Addr := match K.lookup (He.ga K x) with
  | some ⟨_, _, .func fd, _⟩ => (match fd.code with
    | .ref c => some c
    | _ => none)
  | _ => none
def tabAt (K : PySem.W.Frag) (c : Addr) : Option Addr := match K.lookup c with
  | some ⟨_, _, .fields vs, _⟩ => (match (vs[11]? : Option Value) with
    | some (.ref P) => some P
    | _ => none)
  | _ => none
def csOf (K : PySem.W.Frag) (xs : List Str) : List (Addr × Addr) := xs.filterMap fun x => (codeAt K x).bind fun c => (tabAt K c).map fun P => (c, P)
def cutF (K : PySem.W.Frag) (cs : List (Addr × Addr)) : PySem.W.Frag := K.filter fun q => !(cs.any fun c => c.2 == q.1) && !isLst q.2
mutual
def datB (K : PySem.W.Frag) : D → Value → Bool
  | .none, .none => true
  | .bool b, .bool c => b == c
  | .int i, .int j _ => decide (i = j)
  | .str x, .str y _ => decide (x = y)
  | .tuple ds, .ref a => (match K.lookup a with
    | some ⟨.type c, _, .seq its _, _⟩ => decide (c = "tuple") && (decide (its.size ≤ sizeLine) && datsB K ds its.toList)
    | _ => false)
  | _, _ => false
def datsB (K : PySem.W.Frag) : List D → List Value → Bool
  | [], [] => true
  | d :: ds, v :: vs => datB K d v && datsB K ds vs
  | _, _ => false
end
mutual
theorem datB_ok {K : PySem.W.Frag} : ∀ (d : D) (u : Value), datB K d u = true → ∃ v, RelV v u ∧ ∀ G, L2.Dp K G v d
  | .none, u, h => by
    cases u with
    | none => exact ⟨.non, rfl, fun _ => .non⟩
    | _ => cases h
  | .bool b, u, h => by
    cases u with
    | bool c =>
      have e : b = c := eq_of_beq h
      exact ⟨.bl b, by rw [e]; rfl, fun _ => .bl b⟩
    | _ => cases h
  | .int i, u, h => by
    cases u with
    | int j t =>
      have e : i = j := of_decide_eq_true h
      exact ⟨.int i, ⟨t, by rw [e]⟩, fun _ => .int i⟩
    | _ => cases h
  | .str x, u, h => by
    cases u with
    | str y t =>
      have e : x = y := of_decide_eq_true h
      exact ⟨.str x, ⟨t, by rw [e]⟩, fun _ => .str x⟩
    | _ => cases h
  | .tuple ds, u, h => by
    cases u with
    | ref a =>
      have h : (match K.lookup a with
        | some ⟨.type c, _, .seq its _, _⟩ => decide (c = "tuple") && (decide (its.size ≤ sizeLine) && datsB K ds its.toList)
        | _ => false) = true := h
      split at h
      · rename_i c od its n osl hk
        simp only [Bool.and_eq_true, decide_eq_true_eq] at h
        obtain ⟨h1, h2, h3⟩ := h
        obtain ⟨vs, r, a2⟩ := datsB_ok ds its.toList h3
        exact ⟨.ref a, rfl, fun G => .tup (.inr ⟨_, its, n, hk, congrArg Value.type h1, rfl, h2, r⟩) (a2 G)⟩
      · cases h
    | _ => cases h
  | .list ds, u, h => by cases u <;> cases h
  | .dict ds, u, h => by cases u <;> cases h
theorem datsB_ok {K : PySem.W.Frag} : ∀ (ds : List D) (us : List Value), datsB K ds us = true → ∃ vs, Vals vs us ∧ ∀ G, L2.DpAll K G vs ds
  | [], [], _ => ⟨[], .nil, fun _ => .nil⟩
  | [], _ :: _, h => by cases h
  | _ :: _, [], h => by cases h
  | d :: ds, u :: us, h => by
    obtain ⟨h1, h2⟩ := Bool.and_eq_true_iff.mp (show (datB K d u && datsB K ds us) = true from h)
    obtain ⟨v, r, a⟩ := datB_ok d u h1
    obtain ⟨vs, rs, as⟩ := datsB_ok ds us h2
    exact ⟨v :: vs, .cons r rs, fun G => .cons (a G) (as G)⟩
end
def glB2 (K : PySem.W.Frag) (p : Str × D) : Bool := match PySem.W.nsIn K mainGlobals p.1 with
  | some (some u) => datB K p.2 u
  | _ => false
def tabIs (K : PySem.W.Frag) (P : Addr) : Bool := match K.lookup P with
  | some ⟨.none, none, .fields vs, osl⟩ => vs.isEmpty && osl.isEmpty
  | _ => false
theorem tabIs_ok {K : PySem.W.Frag} {P : Addr} (h : tabIs K P = true) : K.lookup P = some { cls := .none, data := .fields #[] } := by
  unfold tabIs at h
  split at h
  · rename_i vs osl hk
    simp only [Bool.and_eq_true, Array.isEmpty_iff] at h
    rw [hk, h.1, h.2]
  · cases h
def obsT (fa : List He.Fa) (fn : List He.DefD) (xs : List Str) (gl : List (Str × D)) (K : PySem.W.Frag) : He.AlD :=
  (fun cs => (fun K2 => ((He.obsD fa fn K2).1 && (xs.all (fun x => (codeAt K2 x).any fun c => cs.any fun q => q.1 == c) && (cs.all (fun q => PySem.W.codeHdIn K2 q.1 q.2 && tabIs K q.2) && gl.all (glB2 K2))), (He.obsD fa fn K2).2)) (cutF K cs)) (csOf K xs)
def obsTG (n : List Addr) (fa : List He.Fa) (fn : List He.DefD) (xs : List Str) (gl : List (Str × D)) (g : Addr → Option Obj) : He.AlD := obsT fa fn xs gl (He.frG g n)
theorem frG_all {g : Addr → Option Obj} {as : List Addr} : ∀ p ∈ He.frG g as, g p.1 = some p.2 := fun p hp => by
  unfold He.frG at hp
  obtain ⟨a, _, e⟩ := List.mem_filterMap.mp hp
  obtain ⟨o, e1, rfl⟩ := Option.map_eq_some_iff.mp e
  exact e1
def hookT (n : List Addr) (fa : List He.Fa) (fn : List He.DefD) (xs : List Str) (gl : List (Str × D)) : PySem.W.Hook where
  α := He.AlD
  obs := fun s => obsTG n fa fn xs gl s.heap.get?
  val := fun _ => He.valD fn
  says := fun _ h => ∃ K : PySem.W.Frag, (∀ p ∈ K, h.get? p.1 = some p.2) ∧ obsT fa fn xs gl K = He.valD fn
  of := fun _ _ e => ⟨_, frG_all, e⟩
  keeps := fun _ _ _ ⟨K, hK, c⟩ k => ⟨K, fun p hp => k _ _ (hK p hp), c⟩
theorem obsTG_eq {n : List Addr} {fa : List He.Fa} {fn : List He.DefD} {xs : List Str} {gl : List (Str × D)} {g : Addr → Option Obj} {s : Shared} (h : ∀ a, g a = s.heap.get? a) : obsTG n fa fn xs gl g = (hookT n fa fn xs gl).obs s := by
  have e : g = s.heap.get? := funext h
  rw [e] <;> rfl
theorem lookup_mem' {α : Type} [BEq α] [LawfulBEq α] {β : Type} {a : α} {o : β} : ∀ {K : List (α × β)}, K.lookup a = some o → (a, o) ∈ K
  | [], h => nomatch h
  | (b, u) :: r, h => by
    rw [List.lookup_cons] at h
    split at h
    · rename_i q
      cases h
      rw [eq_of_beq q]
      exact List.mem_cons_self
    · exact List.mem_cons_of_mem _ (lookup_mem' h)
/-- what the hook says, by parts -/
theorem says_parts {fa : List He.Fa} {fn : List He.DefD} {xs : List Str} {gl : List (Str × D)} {K : PySem.W.Frag} {h : Heap} (X : ∀ p ∈ K, h.get? p.1 = some p.2) (e : obsT fa fn xs gl K = He.valD fn) :
    ∃ (K2 : PySem.W.Frag) (cs : List (Addr × Addr)), K2.In h ∧ He.SaysD fa fn K2 ∧ (∀ a o, K2.lookup a = some o → isLst o = false) ∧ (∀ x ∈ xs, ∃ c Pt, codeAt K2 x = some c ∧ (c, Pt) ∈ cs) ∧
      (∀ q ∈ cs, h.get? q.2 = some { cls := .none, data := .fields #[] }) ∧ (∀ q ∈ cs, K2.lookup q.2 = none) ∧ (∀ q ∈ cs, PySem.W.CodeHd h q.1 q.2) ∧ ∀ p ∈ gl, glB2 K2 p = true := by
  let cs := csOf K xs
  let K2 := cutF K cs
  have e : ((He.obsD fa fn K2).1 && (xs.all (fun x => (codeAt K2 x).any fun c => cs.any fun q => q.1 == c) && (cs.all (fun q => PySem.W.codeHdIn K2 q.1 q.2 && tabIs K q.2) && gl.all (glB2 K2))), (He.obsD fa fn K2).2) = (true, fn.map He.DefD.val) := e
  simp only [Prod.mk.injEq, Bool.and_eq_true, List.all_eq_true] at e
  obtain ⟨⟨e1, e2, e3, e4⟩, e5⟩ := e
  have inn : K2.In h := fun a o hk => X _ (List.mem_filter.mp (lookup_mem' hk)).1
  refine ⟨K2, cs, inn, ?_, fun a o hk => ?_, fun x hx => ?_, fun q hq => ?_, fun q hq => ?_, fun q hq => ?_, fun p hp => e4 p hp⟩
  · show He.obsD fa fn K2 = (true, fn.map He.DefD.val)
    rw [← e1, ← e5]
  · have := (List.mem_filter.mp (lookup_mem' hk)).2
    simp only [Bool.and_eq_true, Bool.not_eq_true'] at this
    exact this.2
  · have := e2 x hx
    cases hc : codeAt K2 x with
    | none => rw [hc] at this; cases this
    | some c =>
      rw [hc] at this
      have this : (cs.any fun q => q.1 == c) = true := this
      obtain ⟨q, hq, z⟩ := List.any_eq_true.mp this
      have z : q.1 = c := eq_of_beq z
      exact ⟨c, q.2, rfl, by rw [← z]; exact hq⟩
  · exact X _ (lookup_mem' (tabIs_ok (e3 q hq).2))
  · cases hk : K2.lookup q.2 with
    | none => rfl
    | some o =>
      have := (List.mem_filter.mp (lookup_mem' hk)).2
      simp only [Bool.and_eq_true, Bool.not_eq_true', List.any_eq_false, beq_iff_eq] at this
      exact absurd rfl (this.1 q hq)
  · exact PySem.W.codeHd_of_K inn (e3 q hq).1
/-! ### the end -/
theorem walk_fw {l : PySem.W.OpenLaw} {n k : Nat} {q : Program} {loose : List Str} {XP : (Str → Option Value) → Heap → Prop} {YP : World → Heap → Prop} {d : DefRec} {CX : World → CXT} {x : Str}
    (hn : l.most = some n) (hn2 : n ≤ sizeLine) (hdf : d.params.defaults = []) (hr : Room k callerA)
    (F : ∀ (w : World) (mg : Str → Option Value) (fa : Addr) (h : Heap), YP w h → h.Ns mainGlobals mg → mg d.name = some (.ref fa) → ∃ K : PySem.W.Frag, K.In h ∧ LamX.LawAtS l w K (CX w) k n x mg fa h)
    (hCX : ∀ (w : World) (H : Hp) (s : Shared) (e : Value) (s' : Shared), CX w [] H s (fun _ _ _ => False) e s' → False) :
    PySem.W.WalkO q loose XP YP l.row.toRowW d [] (fun f vs => PySem.call f vs) := by
  refine Att.attach_callB hn hdf fun w s₀ s₁ mg mb fa o pm cd doc a vs ns G Y ho hd hcd hmg hobj hints hlen hbits hg => ?_
  obtain ⟨K, KX, fd, cs, sp, hT, nT, C, hb, hsp, hF⟩ := F w mg fa _ Y G.T.g hmg
  exact LamX.law_callTs KX G.T.g G.T.b G.T.builtins G.T.nolimit hg hT nT C G.T.bmain hobj hints (Nat.le_trans hlen hn2) hr hF hb (fun H hH hS => hsp H a ns hlen hbits hH hS) fun H e s' => hCX w H s₁ e s'
/-- the law's def at its call: it answers True at every script -/
theorem law_spec {K : PySem.W.Frag} {P : Program} {w : World} {cs : List (Addr × Addr)} {F : List D → Option D} {H : Hp} {a : Addr} {ns : List Int} (nl : ∀ a o, K.lookup a = some o → isLst o = false) (hT : ∀ p ∈ cs, H p.2 = some (.tbl #[])) (hS : SqL K H a (ns.map V.int))
    (hF : F [.list (ns.map .int)] = some (.bool true)) : spF ⟨K, P, w⟩ cs [false] F [.ref a] H (fun v _ => v = .bl true) fun _ _ _ => False := by
  have rd : Rd H a (.lst (ns.map V.int)) := by
    rcases hS with h | ⟨o, its, n, hk, hc, h3, _⟩
    · exact h
    · have := nl a o hk
      unfold isLst at this
      rw [hc] at this
      simp at this
  have nt : ∀ ps, H a ≠ some (.tbl ps) := fun ps e => by
    rcases rd with h | ⟨o, h⟩ <;> (rw [h] at e; cases e)
  refine ⟨fun b => if b = a then H b else none, [.list (ns.map .int)], .bool true, fun b o e => ?_, .cons (.rd (.lst ?_ (RDs.ints ns))) .nil, fun p hp => ⟨⟨#[], hT p hp, ?_⟩, ?_⟩, hF, fun v G' H' x rd => ?_⟩
  · dsimp only at e
    split at e
    · exact e
    · cases e
  · rcases rd with h | ⟨o, h⟩
    · exact .inl ((if_pos rfl).trans h)
    · exact .inr ⟨o, (if_pos rfl).trans h⟩
  · trivial
  · refine if_neg fun z => ?_
    exact nt _ (by rw [← z]; exact hT p hp)
  · cases rd; rfl
end Fw
end
section
set_option Elab.async false
set_option linter.all false
set_option maxRecDepth 100000
set_option maxHeartbeats 1600000
/-! `tupled`, the plain part: what the stack does -/
namespace Fw
open PySem
theorem tups_map : ∀ xs, tups xs = xs.map tup
  | [] => rfl
  | x :: r => by rw [tups, tups_map r]; rfl
theorem tup_seq {d : D} {ds : List D} (h : seqD d = some ds) : tup d = .tuple (tups ds) := by
  cases d <;> first | (cases h; rfl) | cases h
theorem tup_atom {d : D} (h : seqD d = none) : tup d = d := by
  cases d <;> first | rfl | cases h
theorem sz_seq {d : D} {ds : List D} (h : seqD d = some ds) : sz d = 2 + szs ds := by
  cases d <;> first | (cases h; rfl) | cases h
theorem dpt_seq {d : D} {ds : List D} (h : seqD d = some ds) : dpt d = 1 + dpts ds := by
  cases d <;> first | (cases h; rfl) | cases h
theorem sz_pos (d : D) : 1 ≤ sz d := by cases d <;> simp [sz] <;> omega
theorem szs_get : ∀ {ds : List D} {j : Nat} {d : D}, ds[j]? = some d → szs (ds.drop j) = sz d + szs (ds.drop (j + 1))
  | [], _, _, h => by simp at h
  | x :: r, 0, d, h => by simp at h; subst h; rfl
  | x :: r, j + 1, d, h => by
    rw [List.drop_succ_cons, List.drop_succ_cons]
    exact szs_get (by simpa using h)
theorem szs_mem : ∀ {ds : List D} {d : D}, d ∈ ds → sz d ≤ szs ds
  | x :: r, d, h => by
    rcases List.mem_cons.mp h with rfl | h
    · rw [szs]; omega
    · have := szs_mem h; rw [szs]; omega
theorem dpts_mem : ∀ {ds : List D} {d : D}, d ∈ ds → dpt d ≤ dpts ds
  | x :: r, d, h => by
    rcases List.mem_cons.mp h with rfl | h
    · rw [dpts]; omega
    · have := dpts_mem h; rw [dpts]; omega
theorem len_szs : ∀ ds : List D, ds.length ≤ szs ds
  | [] => Nat.le_refl _
  | x :: r => by have := len_szs r; have := sz_pos x; rw [szs, List.length_cons]; omega
abbrev SFr := List D × Nat
inductive Ch (root : D) : List SFr → Prop
  | one {ds : List D} {j : Nat} : seqD root = some ds → j ≤ ds.length → Ch root [(ds, j)]
  | cons {ds es : List D} {j k : Nat} {s : D} {r : List SFr} : Ch root ((ds, j) :: r) → ds[j]? = some s → seqD s = some es → k ≤ es.length → Ch root ((es, k) :: (ds, j) :: r)
theorem Ch.le {root : D} {ds : List D} {j : Nat} {r : List SFr} (h : Ch root ((ds, j) :: r)) : j ≤ ds.length := by cases h <;> assumption
theorem Ch.step {root : D} {ds : List D} {j : Nat} {r : List SFr} (h : Ch root ((ds, j) :: r)) (hl : j + 1 ≤ ds.length) : Ch root ((ds, j + 1) :: r) := by
  cases h with
  | one a b => exact .one a hl
  | cons a b c d => exact .cons a b c hl
theorem Ch.szs {root : D} : ∀ {st : List SFr}, Ch root st → ∀ f ∈ st, szs f.1 ≤ sz root
  | _, .one a b, f, h => by
    simp at h; subst h
    rw [sz_seq a]; dsimp only; omega
  | _, .cons a b c d, f, h => by
    rcases List.mem_cons.mp h with rfl | h
    · have h1 := szs_mem (List.mem_of_getElem? b)
      have h2 := Ch.szs a _ List.mem_cons_self
      have h3 := sz_seq c
      dsimp only at *; omega
    · exact Ch.szs a f h
theorem Ch.dep {root : D} : ∀ {ds : List D} {j : Nat} {r : List SFr}, Ch root ((ds, j) :: r) → r.length + 1 + dpts ds ≤ dpt root
  | _, _, _, .one a b => by have := dpt_seq a; simp; omega
  | _, _, _, .cons a b c d => by
    have h1 := Ch.dep a
    have h2 := dpts_mem (List.mem_of_getElem? b)
    have h3 := dpt_seq c
    rw [List.length_cons]; omega
def ms : List SFr → Nat
  | [] => 0
  | f :: r => 1 + szs (f.1.drop f.2) + (r.map fun f => 1 + szs (f.1.drop (f.2 + 1))).sum
theorem ms_pop2 {ds es : List D} {j : Nat} {r : List SFr} : ms ((es, es.length) :: (ds, j) :: r) = ms ((ds, j + 1) :: r) + 1 := by
  simp only [ms, List.drop_length, szs, List.map_cons, List.sum_cons]; omega
theorem ms_pop1 {es : List D} : ms [(es, es.length)] = 1 := by simp [ms, szs]
theorem ms_atom {ds : List D} {j : Nat} {r : List SFr} {s : D} (h : ds[j]? = some s) (ha : seqD s = none) : ms ((ds, j) :: r) = ms ((ds, j + 1) :: r) + 1 := by
  have h2 : sz s = 1 := by cases s <;> first | rfl | cases ha
  simp only [ms]
  rw [szs_get h, h2]; omega
theorem ms_push {ds es : List D} {j : Nat} {r : List SFr} {s : D} (h : ds[j]? = some s) (hs : seqD s = some es) : ms ((ds, j) :: r) = ms ((es, 0) :: (ds, j) :: r) + 1 := by
  simp only [ms, List.map_cons, List.sum_cons, List.drop_zero]
  rw [szs_get h, sz_seq hs]; omega
theorem tups_snoc {ds : List D} {j : Nat} {s : D} (h : ds[j]? = some s) : tups (ds.take (j + 1)) = tups (ds.take j) ++ [tup s] := by
  rw [tups_map, tups_map, List.take_add_one, h, List.map_append]; rfl
theorem tups_len (ds : List D) : (tups ds).length = ds.length := by rw [tups_map, List.length_map]
end Fw
end
section
set_option Elab.async false
set_option linter.all false
set_option maxRecDepth 100000
set_option maxHeartbeats 1600000
/-! `tupled`: the walk -/
namespace Fw
open PySem PySem.Spec L2
def isN (x : Str) : Expr → Bool
  | .Name y _ => y == x
  | _ => false
theorem isN_ok {x : Str} {e : Expr} (h : isN x e = true) : ∃ p, e = .Name x p := by
  unfold isN at h
  split at h
  · exact ⟨_, by rw [eq_of_beq h]⟩
  · cases h
def tupN : List Str := ["value", "waiting", "told", "count", "source", "made"]
def eIsq (ks : Nat) (e : E) : E := .call ks [false] [e]
def eItem : E := .idx (.v 4) (.blt .len [.v 5])
def b1 (ks : Nat) (c : Cc) : Stmt → Bool
  | .If (.UnaryOp .Not q _) [.Return (some r) _] [] _ => chk (eIsq ks (.v 0)) false c q && isN "value" r
  | _ => false
def b2 : Stmt → Bool
  | .Assign [w] (.List [.Tuple [v, .List [] _] _ _] _) _ => isN "waiting" w && isN "value" v
  | _ => false
def b3 (x : Str) (e : E) (c : Cc) : Stmt → Bool
  | .Assign [t] v _ => isN x t && (noComp v && chk e false c v)
  | _ => false
def b4 (c : Cc) : Stmt → Bool
  | .Assign [.Tuple [s, m] _ _] (.Subscript w i _) _ => (isN "source" s && isN "made" m) && (isN "waiting" w && (chk (.neg (.c (.int 1))) false c i && ixB i))
  | _ => false
def b5 : Stmt → Bool
  | .Expr (.Call (.Attribute w nm ap) [] [] cp) _ => isN "waiting" w && (nm == "pop" && ap.endLine == cp.line)
  | _ => false
def b6 (c : Cc) : Stmt → Bool
  | .If w [.Expr (.Call (.Attribute (.Subscript (.Subscript u i _) j _) nm ap) [t] [] cp) _] [] _ => (isN "waiting" w && isN "waiting" u) && ((chk (.neg (.c (.int 1))) false c i && ixB i) && ((chk (.c (.int 1)) false c j && ixB j) && (isN "told" t && (nm == "append" && ap.endLine == cp.line))))
  | _ => false
def b7 (c : Cc) : Stmt → Bool
  | .Expr (.Call (.Attribute m nm ap) [e] [] cp) _ => isN "made" m && (chk eItem false c e && (nm == "append" && ap.endLine == cp.line))
  | _ => false
def b8 (kd km : Nat) (c : Cc) : Expr → Bool
  | .BoolOp .Or [.Compare (.Call l [w] [] _) [.GtE] [d] _, y] _ => (isN "len" l && (isN "waiting" w && (chk (.glob kd) false c d && (!(behindInMarks .GtE d) && glB c.sc "len")))) && chk (.cmp .ge (.v 3) (.glob km)) false c y
  | _ => false
def b9 (c : Cc) : Stmt → Bool
  | .Expr (.Call (.Attribute w nm ap) [.Tuple [e, .List [] _] _ _] [] cp) _ => isN "waiting" w && (chk eItem false c e && (nm == "append" && ap.endLine == cp.line))
  | _ => false
def tupB (ks kd km : Nat) (c : Cc) : List Stmt → Bool
  | [s1, s2, s3, s4, .While w [a1, .If k [a2, a3, a4] [.If (.UnaryOp .Not q _) [a5] [.If o [dd] [a6, a7] _] _] _] [] _, .Return (some r) _] =>
    (b1 ks c s1 && (b2 s2 && (b3 "told" (.tup []) c s3 && b3 "count" (.c (.int 0)) c s4))) && ((isN "waiting" w && (b4 c a1 && chk (.cmp .eq (.blt .len [.v 5]) (.blt .len [.v 4])) false c k)) &&
    ((b5 a2 && (b3 "told" (.blt .tuple [.v 5]) c a3 && b6 c a4)) && ((chk (eIsq ks eItem) false c q && b7 c a5) && (b8 kd km c o && (b3 "count" (.bin .add (.v 3) (.c (.int 1))) c a6 && (b9 c a7 && isN "told" r))))))
  | _ => false
/-! ### the heap's frames -/
section
variable {K : Fz} {cs : List (Addr × Addr)} {G0 H0 G H G' H' : Hp}
structure FrOk (K : Fz) (H0 G H : Hp) (p : Addr × Addr) (f : SFr) : Prop where
  ex : ∃ sv src mv, H p.1 = some (.tup [sv, .ref p.2]) ∧ RD K G sv src ∧ seqD src = some f.1 ∧ H p.2 = some (.lst mv) ∧ RDs K G mv (tups (f.1.take f.2))
  g : G p.2 = none
  h : H0 p.2 = none
theorem FrOk.ext {p : Addr × Addr} {f : SFr} (o : FrOk K H0 G H p f) (x : Ext G H G' H') : FrOk K H0 G' H' p f := by
  obtain ⟨⟨sv, src, mv, h1, h2, h3, h4, h5⟩, g, h⟩ := o
  exact ⟨⟨sv, src, mv, (x.same _ _ h1).of (fun _ z => by cases z), RD.mono x.sub h2, h3, (x.same _ _ h4).of (fun _ z => by cases z), RDs.mono x.sub h5⟩, x.new _ _ h4 g, h⟩
/-- another list is changed -/
theorem FrOk.poke {p : Addr × Addr} {f : SFr} {a : Addr} {xs : List V} {o' : HO} (o : FrOk K H0 G H p f) (ha : H a = some (.lst xs)) (n : p.2 ≠ a) : FrOk K H0 G (upd H a o') p f := by
  obtain ⟨⟨sv, src, mv, h1, h2, h3, h4, h5⟩, g, h⟩ := o
  refine ⟨⟨sv, src, mv, ?_, h2, h3, ?_, h5⟩, g, h⟩
  · rw [upd_ne]
    · exact h1
    · intro z; rw [z, ha] at h1; cases h1
  · rw [upd_ne n]; exact h4
abbrev Frs (K : Fz) (H0 G H : Hp) (ls : List (Addr × Addr)) (st : List SFr) : Prop := Paired (FrOk K H0 G H) ls st
theorem frs_poke {a : Addr} {xs : List V} {o' : HO} (ha : H a = some (.lst xs)) : ∀ {ls : List (Addr × Addr)} {st : List SFr}, Frs K H0 G H ls st → a ∉ ls.map (·.2) → Frs K H0 G (upd H a o') ls st
  | _, _, .nil, _ => .nil
  | _, _, .cons o r, n => by
    simp only [List.map_cons, List.mem_cons, not_or] at n
    exact .cons (o.poke ha (fun z => n.1 z.symm)) (frs_poke ha r n.2)
theorem frs_ext {ls : List (Addr × Addr)} {st : List SFr} (f : Frs K H0 G H ls st) (x : Ext G H G' H') : Frs K H0 G' H' ls st := L2.Paired.mapP f fun _ _ o => o.ext x
/-- what holds at each turn -/
structure LI (K : Fz) (cs : List (Addr × Addr)) (G0 H0 G : Hp) (root told : D) (v0 tv : V) (aw : Addr) (c : Nat) (st : List SFr) (ls : List (Addr × Addr)) (H : Hp) : Prop where
  v : RD K G v0 root
  t : RD K G tv told
  x : Ext G0 H0 G H
  tb : TabOk cs G H
  w : H aw = some (.lst (ls.reverse.map fun p => .ref p.1))
  gw : G aw = none
  hw : H0 aw = none
  nd : (aw :: ls.map (·.2)).Nodup
  fr : Frs K H0 G H ls st
  ch : st ≠ [] → Ch root st
theorem LI.ext {root told : D} {v0 tv : V} {aw : Addr} {c : Nat} {st : List SFr} {ls : List (Addr × Addr)} (l : LI K cs G0 H0 G root told v0 tv aw c st ls H) (x : Ext G H G' H') : LI K cs G0 H0 G' root told v0 tv aw c st ls H' :=
  ⟨RD.mono x.sub l.v, RD.mono x.sub l.t, l.x.trans x, l.tb.ext x, (x.same _ _ l.w).of (fun _ z => by cases z), x.new _ _ l.w l.gw, l.hw, l.nd, frs_ext l.fr x, l.ch⟩
end
end Fw
end
section
set_option Elab.async false
set_option linter.all false
set_option maxRecDepth 100000
set_option maxHeartbeats 3200000
/-! `tupled`: the walk of a turn -/
namespace Fw
open PySem PySem.Spec L2
/-! ### what its expressions tell -/
section
variable {G0 : Nat → Option D} {F : FT} {root src told : D} {ds made : List D} {c : Nat} {s4 s5 : Slot}
abbrev tauA (root told : D) (c : Nat) : Tau := [.fz root, .un, .fz told, .fz (.int c), .un, .un]
abbrev tauB (root told : D) (c : Nat) (src : D) (made : List D) : Tau := [.fz root, .un, .fz told, .fz (.int c), .fz src, .ol made]
theorem lenD_seq (h : seqD src = some ds) : lenD src = some ds.length := by cases src <;> first | (cases h; rfl) | cases h
theorem isD_seq (h : seqD src = some ds) : isDict src = false := by cases src <;> first | rfl | cases h
theorem d_len : (den G0 F (.blt .len [.v 5])).val (tauB root told c src made) = some (.int (made.length : Nat)) := rfl
theorem d_len4 (h : seqD src = some ds) : (den G0 F (.blt .len [.v 4])).val (tauB root told c src made) = some (.int (ds.length : Nat)) := by
  show (lenD src).map _ = _
  rw [lenD_seq h]; rfl
theorem d_eq (h : seqD src = some ds) : (den G0 F (.cmp .eq (.blt .len [.v 5]) (.blt .len [.v 4]))).tst (tauB root told c src made) = some (decide (made.length = ds.length)) := by
  show ((den G0 F (.blt .len [.v 5])).val (tauB root told c src made)).bind (fun x => ((den G0 F (.blt .len [.v 4])).val (tauB root told c src made)).bind fun y => cmpD .eq x y) = _
  rw [d_len, d_len4 h]
  show some (PyData.eqv (.int (made.length : Nat)) (.int (ds.length : Nat))) = _
  simp only [PyData.eqv, Option.some.injEq]
  by_cases e : made.length = ds.length
  · simp [e]
  · simp [e]; omega
theorem d_item (h : seqD src = some ds) {s : D} (hs : ds[made.length]? = some s) : (den G0 F eItem).val (tauB root told c src made) = some s := by
  show idxD src (.int (made.length : Nat)) = _
  have : atD ds (made.length : Nat) = some s := by
    unfold atD ixOf
    have hl : made.length < ds.length := (List.getElem?_eq_some_iff.mp hs).1
    rw [if_pos (by omega), if_pos (by omega)]
    simpa using hs
  cases src <;> first | (cases h; exact this) | cases h
theorem d_tup : (den G0 F (.blt .tuple [.v 5])).val (tauB root told c src made) = some (.tuple made) := rfl
theorem d_ge {km : Nat} {n : Int} (h : G0 km = some (.int n)) : (den G0 F (.cmp .ge (.v 3) (.glob km))).tst (tauB root told c src made) = some (decide (n ≤ (c : Nat))) := by
  have h2 : (den G0 F (.glob km)).bok (tauB root told c src made) = some (.int n) := by
    show (match (G0 km) with | some x => some x | none => _) = _
    rw [h]
  have h1 : (den G0 F (.v 3)).bok (tauB root told c src made) = some (.int (c : Nat)) := rfl
  show ((den G0 F (.v 3)).bok (tauB root told c src made)).bind (fun x => ((den G0 F (.glob km)).bok (tauB root told c src made)).bind fun y => cmpD .ge x y) = _
  rw [h1, h2]; rfl
theorem d_glob {kd : Nat} {n : Int} {τ : Tau} (h : G0 kd = some (.int n)) : (den G0 F (.glob kd)).val τ = some (.int n) := by
  show (G0 kd).bind (fun d => if flatD d then some d else none) = _
  rw [h]; rfl
theorem d_inc : (den G0 F (.bin .add (.v 3) (.c (.int 1)))).val (tauB root told c src made) = some (.int ((c + 1 : Nat) : Int)) := by
  show some (PyData.int ((c : Int) + 1)) = _
  simp
def isSeq (d : D) : Bool := (seqD d).isSome
theorem d_isq {ks : Nat} (hF : ∀ d, isDict d = false → F ks [d] = some (.bool (isSeq d))) {e : E} {τ : Tau} {d : D} (h : (den G0 F e).val τ = some d) (hb : (den G0 F e).bor τ = some d) (ho : (den G0 F e).owns τ = false) (hd : isDict d = false) :
    (den G0 F (eIsq ks e)).tst τ = some (isSeq d) := by
  show ((argsL [false] [den G0 F e] τ).bind fun vs => (F ks vs).bind fun r => if [den G0 F e].any (·.owns τ) && !noList r then none else some r).bind truth = _
  have : argsL [false] [den G0 F e] τ = some [d] := by
    show ((den G0 F e).bor τ).bind (fun x => if isDict x then none else _) = _
    rw [hb]
    show (if isDict d then none else _) = _
    rw [hd]; rfl
  rw [this]
  show ((F ks [d]).bind fun r => _).bind truth = _
  rw [hF d hd]
  show (if [den G0 F e].any (·.owns τ) && !noList (.bool (isSeq d)) then none else some (PyData.bool (isSeq d))).bind truth = _
  have : ([den G0 F e].any (·.owns τ)) = false := by simp [ho]
  rw [this]; rfl
end
/-! ### the slots -/
section
variable {K : Fz} {G H : Hp} {root told src : D} {v0 tv sv : V} {x1 x4 x5 : Option V} {c : Nat} {m : Addr} {mv : List V} {made : List D}
theorem str_a (i : Inn G H) (h0 : RD K G v0 root) (h2 : RD K G tv told) : StR K G H [some v0, x1, some tv, some (.int c), x4, x5] (tauA root told c) where
  inn := i
  len := rfl
  fz := fun j d e => by
    rcases j with _ | _ | _ | _ | _ | _ | j <;> simp at e
    · subst e; exact ⟨_, rfl, h0⟩
    · subst e; exact ⟨_, rfl, h2⟩
    · subst e; exact ⟨_, rfl, .int _⟩
  fk := fun j d e => by
    rcases j with _ | _ | _ | _ | _ | _ | j <;> simp at e
  ow := fun j s e ho => by
    rcases j with _ | _ | _ | _ | _ | _ | j <;> simp at e <;> (subst e; cases ho)
  sep := fun j k s t a e ho => by
    rcases j with _ | _ | _ | _ | _ | _ | j <;> simp at e <;> (subst e; cases ho)
theorem str_b (i : Inn G H) (h0 : RD K G v0 root) (h2 : RD K G tv told) (h4 : RD K G sv src) (hm : H m = some (.lst mv)) (gm : G m = none) (hr : RDs K G mv made) : StR K G H [some v0, x1, some tv, some (.int c), some sv, some (.ref m)] (tauB root told c src made) where
  inn := i
  len := rfl
  fz := fun j d e => by
    rcases j with _ | _ | _ | _ | _ | _ | j <;> simp at e
    · subst e; exact ⟨_, rfl, h0⟩
    · subst e; exact ⟨_, rfl, h2⟩
    · subst e; exact ⟨_, rfl, .int _⟩
    · subst e; exact ⟨_, rfl, h4⟩
  fk := fun j d e => by
    rcases j with _ | _ | _ | _ | _ | _ | j <;> simp at e
  ow := fun j s e ho => by
    rcases j with _ | _ | _ | _ | _ | _ | j <;> simp at e
    · subst e; cases ho
    · subst e; cases ho
    · subst e; cases ho
    · subst e; cases ho
    · subst e; cases ho
    · subst e; exact ⟨m, _, rfl, hm, gm, .ol hr⟩
  sep := fun j k s t a e ho e2 ho2 _ _ => by
    rcases j with _ | _ | _ | _ | _ | _ | j <;> simp at e
    · subst e; cases ho
    · subst e; cases ho
    · subst e; cases ho
    · subst e; cases ho
    · subst e; cases ho
    · rcases k with _ | _ | _ | _ | _ | _ | k <;> simp at e2
      · subst e2; cases ho2
      · subst e2; cases ho2
      · subst e2; cases ho2
      · subst e2; cases ho2
      · subst e2; cases ho2
      · rfl
theorem rd_ndict {v : V} {d : D} (h : RD K G v d) : isDict d = false := by cases h <;> rfl
theorem rds_ndict {vs : List V} {ds : List D} (h : RDs K G vs ds) {j : Nat} {s : D} (e : ds[j]? = some s) : isDict s = false := (RDs.get h e).elim fun _ z => rd_ndict z.2
theorem rd_items {v : V} {d : D} {ds : List D} (h : RD K G v d) (e : seqD d = some ds) : ∃ vs, RDs K G vs ds := by
  cases h <;> first | (cases e; exact ⟨_, by assumption⟩) | cases e
end
end Fw
end
section
set_option Elab.async false
set_option linter.all false
set_option maxRecDepth 100000
set_option maxHeartbeats 3200000
namespace Fw
open PySem PySem.Spec L2
section
variable {X : Cx} {cs : List (Addr × Addr)} {c : Cc} {Gc : Nat → Option D} {F : FT} {lv ks kd km : Nat}
theorem nm6 (hc : CcOk Gc F lv cs c X) (hN : c.N = tupN) (hL : tupN.all (localB c.sc) = true) {i : Nat} {x : Str} (h : tupN[i]? = some x) : X.N[i]? = some x ∧ X.env.scope.names.lookup x = some .local := by
  refine ⟨by rw [hc.N, hN]; exact h, ?_⟩
  rw [hc.sc]
  have := List.all_eq_true.mp hL x (List.mem_of_getElem? h)
  exact eq_of_beq this
theorem pe6 (hc : CcOk Gc F lv cs c X) (hN : c.N = tupN) (hL : tupN.all (localB c.sc) = true) (i : Nat) {x : Str} {p : Pos} (h : tupN[i]? = some x := by rfl) (hd : (x == ("__debug__" : Str)) = false := by decide) (hcd : (x == ("__classdict__" : Str)) = false := by decide) : PE X (.Name x p) (tVar i) :=
  pe_var (nm6 hc hN hL h).1 (.inl (nm6 hc hN hL h).2) hd hcd
theorem pg6 (hc : CcOk Gc F lv cs c X) (hN : c.N = tupN) (hL : tupN.all (localB c.sc) = true) (i : Nat) {x : Str} {p : Pos} (h : tupN[i]? = some x := by rfl) : PG X (.Name x p) (gName i) :=
  pg_name hc.nd (nm6 hc hN hL h).1 (.inl (nm6 hc hN hL h).2) (.inr (nm6 hc hN hL h).2)
theorem ps6 (hc : CcOk Gc F lv cs c X) (hN : c.N = tupN) (hL : tupN.all (localB c.sc) = true) (i : Nat) {x : Str} {p pos : Pos} {e : Expr} {te : TE} (he : PE X e te) (hn : noComp e = true) (h : tupN[i]? = some x := by rfl) : PS X (.Assign [.Name x p] e pos) (tAsg te (gName i)) :=
  ps_set hc.nd (nm6 hc hN hL h).1 (.inl (nm6 hc hN hL h).2) he (noSw hn) (.inr (nm6 hc hN hL h).2)
theorem sdE (hc : CcOk Gc F lv cs c X) {e : E} {ex : Expr} (h : chk e false c ex = true) : SD X cs ex (den Gc F e) := ((chk_ok e false c X ex hc h).sd (rng_no h)).sd
/-- the statement name = e -/
theorem s3 (hc : CcOk Gc F lv cs c X) (hN : c.N = tupN) (hL : tupN.all (localB c.sc) = true) (i : Nat) {x : Str} {e : E} {st : Stmt} (h : b3 x e c st = true) (hi : tupN[i]? = some x := by rfl) : PS X st (tAsg (tP (kw X) cs (den Gc F e).val) (gName i)) := by
  unfold b3 at h
  split at h
  · simp only [Bool.and_eq_true] at h
    obtain ⟨h1, h2, h3⟩ := h
    obtain ⟨p, rfl⟩ := isN_ok h1
    exact ps6 hc hN hL i (sdE hc h3).val h2 hi
  · cases h
abbrev tM1 (X : Cx) (cs : List (Addr × Addr)) (Gc : Nat → Option D) (F : FT) : TE := tP (kw X) cs (den Gc F (.neg (.c (.int 1)))).val
theorem s4 (hc : CcOk Gc F lv cs c X) (hN : c.N = tupN) (hL : tupN.all (localB c.sc) = true) {st : Stmt} (h : b4 c st = true) :
    PS X st (tAsg (tOp (rIx X.K) (tVar 1) (tM1 X cs Gc F)) (gTup X.K 2 (gCons (gName 4) (gCons (gName 5) gNil)))) := by
  unfold b4 at h
  split at h
  · simp only [Bool.and_eq_true] at h
    obtain ⟨⟨h1, h2⟩, h3, h4, h5⟩ := h
    obtain ⟨p, rfl⟩ := isN_ok h1
    obtain ⟨p, rfl⟩ := isN_ok h2
    obtain ⟨p, rfl⟩ := isN_ok h3
    exact ps_asg (pe_ix ix_seq (pe6 hc hN hL 1) (sdE hc h4).val (ixB_ok h5)) (pg_tup hc.calm (pgs_cons (pg6 hc hN hL 4) (pgs_cons (pg6 hc hN hL 5) pgs_nil))) (noSwS rfl) (noSwT rfl) rfl
  · cases h
theorem s5 (hc : CcOk Gc F lv cs c X) (hN : c.N = tupN) (hL : tupN.all (localB c.sc) = true) {st : Stmt} (h : b5 st = true) : PS X st (tDrop (tBM0 X.K "list" rPop (tVar 1))) := by
  unfold b5 at h
  split at h
  · simp only [Bool.and_eq_true, beq_iff_eq] at h
    obtain ⟨h1, rfl, h3⟩ := h
    obtain ⟨p, rfl⟩ := isN_ok h1
    exact ps_expr (pe_bm0 PySem.F.plainAttrs_list PySem.F.slot_list_pop PySem.F.type_list_pop mt_pop (pe6 hc hN hL 1) rfl (by rw [h3]; exact beq_self_eq_true _)) rfl
  · cases h
theorem s6 (hc : CcOk Gc F lv cs c X) (hN : c.N = tupN) (hL : tupN.all (localB c.sc) = true) {st : Stmt} (h : b6 c st = true) :
    PS X st (tIfS (fun σ H Q => tVar 1 σ H fun x H' => ∃ k, TruV X.K x H' k ∧ Q k H') (tDrop (tBM X.K "list" rAppend (tOp (rIx X.K) (tOp (rIx X.K) (tVar 1) (tM1 X cs Gc F)) (tP (kw X) cs (den Gc F (.c (.int 1))).val)) (tCons (tVar 2) tNil))) fun D σ H => D.nx σ H) := by
  unfold b6 at h
  split at h
  · simp only [Bool.and_eq_true, beq_iff_eq] at h
    obtain ⟨⟨h1, h2⟩, ⟨h3, h4⟩, ⟨h5, h6⟩, h7, rfl, h8⟩ := h
    obtain ⟨p, rfl⟩ := isN_ok h1
    obtain ⟨p, rfl⟩ := isN_ok h2
    obtain ⟨p, rfl⟩ := isN_ok h7
    exact ps_if (pt_truth (pe6 hc hN hL 1) fun _ => rfl) (pss_one (ps_expr (pe_bm PySem.F.plainAttrs_list PySem.F.slot_list_append PySem.F.type_list_append mt_append (pe_ix ix_seq (pe_ix ix_seq (pe6 hc hN hL 1) (sdE hc h3).val (ixB_ok h4)) (sdE hc h5).val (ixB_ok h6))
      (pa_cons (pe6 hc hN hL 2) pa_nil) rfl rfl (by rw [h8]; exact beq_self_eq_true _)) rfl)) pss_nil
  · cases h
theorem s7 (hc : CcOk Gc F lv cs c X) (hN : c.N = tupN) (hL : tupN.all (localB c.sc) = true) {st : Stmt} (h : b7 c st = true) : PS X st (tDrop (tBM X.K "list" rAppend (tVar 5) (tCons (tP (kw X) cs (den Gc F eItem).val) tNil))) := by
  unfold b7 at h
  split at h
  · simp only [Bool.and_eq_true, beq_iff_eq] at h
    obtain ⟨h1, h2, rfl, h8⟩ := h
    obtain ⟨p, rfl⟩ := isN_ok h1
    have sd := sdE hc h2
    have hp := sd.plain
    exact ps_expr (pe_bm PySem.F.plainAttrs_list PySem.F.slot_list_append PySem.F.type_list_append mt_append (pe6 hc hN hL 5) (pa_cons sd.val pa_nil (hp _ _)) rfl (by rw [hp]; rfl) (by rw [h8]; exact beq_self_eq_true _) (hp _ _) rfl) rfl
  · cases h
theorem s8 (hc : CcOk Gc F lv cs c X) (hN : c.N = tupN) (hL : tupN.all (localB c.sc) = true) {e : Expr} (h : b8 kd km c e = true) :
    PT X e (tOr (tTest (tOp (rI0 fun i j => .bl (decide (j ≤ i))) (tCB (fun xs H Q => ∃ x n, xs = [x] ∧ LenV X.K x H n ∧ Q (.int n) H) (tCons (tVar 1) tNil)) (tP (kw X) cs (den Gc F (.glob kd)).val))) (tT (kw X) cs (den Gc F (.cmp .ge (.v 3) (.glob km))).tst)) := by
  unfold b8 at h
  split at h
  · simp only [Bool.and_eq_true, Bool.not_eq_true'] at h
    obtain ⟨⟨h1, h2, h3, h4, h5⟩, h6⟩ := h
    obtain ⟨p, rfl⟩ := isN_ok h1
    obtain ⟨p, rfl⟩ := isN_ok h2
    exact (pw_or (pt_cmpR op_ge (pe_callB call_len (glB_ok hc.sc h5) (hc.blt _ (by decide)) (by rfl) (pa_cons (pe6 hc hN hL 1) pa_nil)) (sdE hc h3).val h4) (pw_or1 (sdE hc h6).tst)).pt
  · cases h
theorem s9 (hc : CcOk Gc F lv cs c X) (hN : c.N = tupN) (hL : tupN.all (localB c.sc) = true) {st : Stmt} (h : b9 c st = true) :
    PS X st (tDrop (tBM X.K "list" rAppend (tVar 1) (tCons (tTup (tCons (tP (kw X) cs (den Gc F eItem).val) (tCons (tLst tNil) tNil))) tNil))) := by
  unfold b9 at h
  split at h
  · simp only [Bool.and_eq_true, beq_iff_eq] at h
    obtain ⟨h1, h2, rfl, h8⟩ := h
    obtain ⟨p, rfl⟩ := isN_ok h1
    have sd := sdE hc h2
    exact ps_expr (pe_bm PySem.F.plainAttrs_list PySem.F.slot_list_append PySem.F.type_list_append mt_append (pe6 hc hN hL 1) (pa_cons (pe_tup (pa_cons sd.val (pa_cons (pe_lst pa_nil) pa_nil) (sd.plain _ _))) pa_nil) rfl rfl (by rw [h8]; exact beq_self_eq_true _)) rfl
  · cases h
end
end Fw
end
section
set_option Elab.async false
set_option linter.all false
set_option maxRecDepth 100000
set_option maxHeartbeats 3200000
namespace Fw
open PySem PySem.Spec L2
section
variable {K : Fz} {cs : List (Addr × Addr)} {Gc : Nat → Option D} {F : FT} {G0 H0 G H G' H' : Hp} {root told : D} {v0 tv : V} {aw : Addr} {n : Nat} {st : List SFr} {ls : List (Addr × Addr)}
theorem LI.inn (l : LI K cs G0 H0 G root told v0 tv aw n st ls H) : Inn G H := l.x.inn
/-- the list of the frames is changed -/
theorem LI.poke (l : LI K cs G0 H0 G root told v0 tv aw n st ls H) {ls' : List (Addr × Addr)} {st' : List SFr} (hs : (ls'.map (·.2)).Sublist (ls.map (·.2))) (hf : Frs K H0 G H ls' st') (hc : st' ≠ [] → Ch root st') :
    LI K cs G0 H0 G root told v0 tv aw n st' ls' (upd H aw (.lst (ls'.reverse.map fun p => .ref p.1))) where
  v := l.v
  t := l.t
  x := l.x.poke l.hw l.gw
  tb := l.tb.poke l.w fun _ z => by cases z
  w := upd_same
  gw := l.gw
  hw := l.hw
  nd := l.nd.sublist (.cons₂ _ hs)
  fr := frs_poke l.w hf fun z => (List.nodup_cons.mp l.nd).1 (hs.subset z)
  ch := hc
/-- told anew -/
theorem LI.tell {told' : D} {tv' : V} (l : LI K cs G0 H0 G root told v0 tv aw n st ls H) (h : RD K G tv' told') : LI K cs G0 H0 G root told' v0 tv' aw n st ls H :=
  ⟨l.v, h, l.x, l.tb, l.w, l.gw, l.hw, l.nd, l.fr, l.ch⟩
theorem LI.cnt {n' : Nat} (l : LI K cs G0 H0 G root told v0 tv aw n st ls H) : LI K cs G0 H0 G root told v0 tv aw n' st ls H := ⟨l.v, l.t, l.x, l.tb, l.w, l.gw, l.hw, l.nd, l.fr, l.ch⟩
theorem at_last {α : Type} {xs : List α} {x : α} : L2.atI (xs ++ [x]) (-1) = some x := by
  unfold L2.atI L2.ixN
  simp only [List.length_append, List.length_cons, List.length_nil]
  have h1 : ¬ (0 : Int) ≤ -1 := by omega
  have h2 : -((xs.length + (0 + 1) : Nat) : Int) ≤ -1 := by omega
  rw [if_neg h1, if_pos h2]
  have h3 : (-1 + ((xs.length + (0 + 1) : Nat) : Int)).toNat = xs.length := by omega
  rw [Option.bind_some, h3]
  simp
/-- an item is put behind the top frame's -/
theorem LI.app {t m : Addr} {ds : List D} {j : Nat} {r : List SFr} {lr : List (Addr × Addr)} {s : D} {u : V} {mv : List V} (l : LI K cs G0 H0 G root told v0 tv aw n ((ds, j) :: r) ((t, m) :: lr) H) (hs : ds[j]? = some s) (hu : RD K G u (tup s)) (hm : H m = some (.lst mv)) :
    LI K cs G0 H0 G root told v0 tv aw n ((ds, j + 1) :: r) ((t, m) :: lr) (upd H m (.lst (mv ++ [u]))) := by
  cases l.fr with
  | cons o fr =>
    obtain ⟨⟨sv, src, mv2, h1, h2, h3, h4, h5⟩, g, h⟩ := o
    dsimp only at h1 h3 h4 h5 g h
    rw [hm] at h4
    cases h4
    have hne : aw ≠ m := fun z => (List.nodup_cons.mp l.nd).1 (by rw [z]; exact List.mem_cons_self)
    have nd2 : m ∉ lr.map (·.2) := (List.nodup_cons.mp (List.nodup_cons.mp l.nd).2).1
    have hj : j < ds.length := (List.getElem?_eq_some_iff.mp hs).1
    refine ⟨l.v, l.t, l.x.poke h g, l.tb.poke hm fun _ z => (by cases z), by rw [upd_ne hne]; exact l.w, l.gw, l.hw, l.nd, .cons ⟨⟨sv, src, mv ++ [u], ?_, h2, h3, upd_same, ?_⟩, g, h⟩ (frs_poke hm fr nd2), fun _ => (l.ch (by simp)).step hj⟩
    · rw [upd_ne]
      · exact h1
      · intro z; dsimp only at z; rw [z, hm] at h1; cases h1
    · dsimp only
      rw [tups_snoc hs]
      exact RDs.append h5 (RDs.one hu)
/-- what the top frame gives -/
theorem LI.top {t m : Addr} {ds : List D} {j : Nat} {r : List SFr} {lr : List (Addr × Addr)} (l : LI K cs G0 H0 G root told v0 tv aw n ((ds, j) :: r) ((t, m) :: lr) H) :
    ∃ sv src mv, H t = some (.tup [sv, .ref m]) ∧ RD K G sv src ∧ seqD src = some ds ∧ H m = some (.lst mv) ∧ RDs K G mv (tups (ds.take j)) ∧ G m = none ∧ (tups (ds.take j)).length = j ∧ j ≤ ds.length ∧ aw ≠ m := by
  have hj := (l.ch (by simp)).le
  have hne : aw ≠ m := fun z => (List.nodup_cons.mp l.nd).1 (by rw [z]; exact List.mem_cons_self)
  cases l.fr with
  | cons o fr =>
    obtain ⟨⟨sv, src, mv2, h1, h2, h3, h4, h5⟩, g, h⟩ := o
    exact ⟨sv, src, mv2, h1, h2, h3, h4, h5, g, by rw [tups_len, List.length_take]; omega, hj, hne⟩
theorem m1_at {X : Cx} {σ : St} {Q : VK} {τ : Tau} (st : StR (kw X) G H σ τ) (tb : TabOk cs G H) (q : ∀ G' H', Ext G H G' H' → Q (.int (-1)) H') : tM1 X cs Gc F σ H Q :=
  ⟨G, τ, .int (-1), st, tb, rfl, fun v G' H' x rd => by cases rd; exact q G' H' x⟩
theorem c1_at {X : Cx} {σ : St} {Q : VK} {τ : Tau} {i : Int} (st : StR (kw X) G H σ τ) (tb : TabOk cs G H) (q : ∀ G' H', Ext G H G' H' → Q (.int i) H') : tP (kw X) cs (den Gc F (.c (.int i))).val σ H Q :=
  ⟨G, τ, .int i, st, tb, rfl, fun v G' H' x rd => by cases rd; exact q G' H' x⟩
end
end Fw
end
section
set_option Elab.async false
set_option linter.all false
set_option maxRecDepth 100000
set_option maxHeartbeats 3200000
namespace Fw
open PySem PySem.Spec L2
abbrev tPe (X : Cx) (cs : List (Addr × Addr)) (Gc : Nat → Option D) (F : FT) (e : E) : TE := tP (kw X) cs (den Gc F e).val
abbrev tW1 (X : Cx) : TT := fun σ H Q => tVar 1 σ H fun x H' => ∃ k, TruV X.K x H' k ∧ Q k H'
abbrev tU4 (X : Cx) (cs : List (Addr × Addr)) (Gc : Nat → Option D) (F : FT) : TS := tAsg (tOp (rIx X.K) (tVar 1) (tM1 X cs Gc F)) (gTup X.K 2 (gCons (gName 4) (gCons (gName 5) gNil)))
abbrev tU6 (X : Cx) (cs : List (Addr × Addr)) (Gc : Nat → Option D) (F : FT) : TS := tIfS (tW1 X) (tDrop (tBM X.K "list" rAppend (tOp (rIx X.K) (tOp (rIx X.K) (tVar 1) (tM1 X cs Gc F)) (tPe X cs Gc F (.c (.int 1)))) (tCons (tVar 2) tNil))) fun D σ H => D.nx σ H
abbrev tU7 (X : Cx) (cs : List (Addr × Addr)) (Gc : Nat → Option D) (F : FT) : TS := tDrop (tBM X.K "list" rAppend (tVar 5) (tCons (tPe X cs Gc F eItem) tNil))
abbrev tU8 (X : Cx) (cs : List (Addr × Addr)) (Gc : Nat → Option D) (F : FT) (kd km : Nat) : TT := tOr (tTest (tOp (rI0 fun i j => .bl (decide (j ≤ i))) (tCB (fun xs H Q => ∃ x n, xs = [x] ∧ LenV X.K x H n ∧ Q (.int n) H) (tCons (tVar 1) tNil)) (tPe X cs Gc F (.glob kd)))) (tT (kw X) cs (den Gc F (.cmp .ge (.v 3) (.glob km))).tst)
abbrev tU9 (X : Cx) (cs : List (Addr × Addr)) (Gc : Nat → Option D) (F : FT) : TS := tDrop (tBM X.K "list" rAppend (tVar 1) (tCons (tTup (tCons (tPe X cs Gc F eItem) (tCons (tLst tNil) tNil))) tNil))
abbrev tTurn (X : Cx) (cs : List (Addr × Addr)) (Gc : Nat → Option D) (F : FT) (ks kd km : Nat) : TS :=
  tSeq (tU4 X cs Gc F) (tIfS (tT (kw X) cs (den Gc F (.cmp .eq (.blt .len [.v 5]) (.blt .len [.v 4]))).tst)
    (tSeq (tDrop (tBM0 X.K "list" rPop (tVar 1))) (tSeq (tAsg (tPe X cs Gc F (.blt .tuple [.v 5])) (gName 2)) (tU6 X cs Gc F)))
    (tIfS (tNot (tT (kw X) cs (den Gc F (eIsq ks eItem)).tst)) (tU7 X cs Gc F)
      (tIfS (tU8 X cs Gc F kd km) tNever (tSeq (tAsg (tPe X cs Gc F (.bin .add (.v 3) (.c (.int 1)))) (gName 3)) (tU9 X cs Gc F)))))
section
variable {X : Cx} {cs : List (Addr × Addr)} {Gc : Nat → Option D} {F : FT} {G0 H0 G H : Hp} {root told : D} {v0 tv : V} {aw : Addr} {n ks kd km : Nat} {st : List SFr} {ls : List (Addr × Addr)} {D : Ends} {σ : St}
/-- what a turn wants behind it -/
def Nxt (X : Cx) (cs : List (Addr × Addr)) (G0 H0 : Hp) (root : PyData) (v0 : V) (aw : Addr) (k : Nat) (N : St → Hp → Prop) : Prop :=
  ∀ G told tv n st ls x4 x5 H, LI (kw X) cs G0 H0 G root told v0 tv aw n st ls H → (st = [] → told = tup root) → n + ms st ≤ sz root → ms st < k → N [some v0, some (.ref aw), some tv, some (.int (n : Nat)), x4, x5] H
/-- behind the pop -/
theorem t6_ok {x4 x5 : Option V} {k : Nat} {es : List PyData} {r : List SFr} (l : LI (kw X) cs G0 H0 G root (.tuple (tups es)) v0 tv aw n r ls H) (hb : sz root ≤ 1000000) (hch : Ch root ((es, es.length) :: r)) (hn : n + ms ((es, es.length) :: r) ≤ sz root) (hk : ms ((es, es.length) :: r) ≤ k)
    (q : Nxt X cs G0 H0 root v0 aw k D.nx) : tU6 X cs Gc F D [some v0, some (.ref aw), some tv, some (.int (n : Nat)), x4, x5] H := by
  refine ⟨_, rfl, !(ls.reverse.map fun p => V.ref p.1).isEmpty, .inl ⟨_, .inl (.inl l.w), rfl⟩, ?_⟩
  cases hr : r with
  | nil =>
    subst hr
    have fr := l.fr
    cases fr
    exact q G _ tv n [] [] x4 x5 H l (fun _ => by cases hch with | one a b => exact (tup_seq a).symm) (by rw [ms_pop1] at hn; simp [ms]; omega) (by rw [ms_pop1] at hk; simp [ms]; omega)
  | cons f r' =>
    obtain ⟨ds, j⟩ := f
    subst hr
    have fr := l.fr
    cases fr with
    | @cons p _ lr _ o fr2 =>
      obtain ⟨t, m⟩ := p
      have e1 : (!(((t, m) :: lr).reverse.map fun p => V.ref p.1).isEmpty) = true := by simp
      rw [e1, if_pos rfl]
      refine ⟨_, rfl, m1_at (str_a l.inn l.v l.t) l.tb fun G1 H1 x1 => ?_⟩
      have l1 := l.ext x1
      refine .inl ⟨aw, _, -1, .ref t, rfl, rfl, .inl (.inl l1.w), by simp only [List.reverse_cons, List.map_append, List.map_cons, List.map_nil]; exact at_last, ?_⟩
      refine c1_at (str_a l1.inn l1.v l1.t) l1.tb fun G2 H2 x2 => ?_
      have l2 := l1.ext x2
      obtain ⟨sv, src, mv, h1, h2, h3, h4, h5, h6, h7, h8, h9⟩ := l2.top
      refine .inr (.inl ⟨t, [sv, .ref m], 1, .ref m, rfl, rfl, .inl (.inl h1), rfl, ?_⟩)
      refine ⟨.inl ⟨rfl, mv, .inl (.inl h4)⟩, _, rfl, ?_⟩
      cases hch with
      | cons a b c' d' =>
        have hlen := RDs.length h5
        have hds := Ch.szs a _ List.mem_cons_self
        have hl2 := len_szs ds
        dsimp only at hds
        refine ⟨m, mv, tv, rfl, rfl, h4, by rw [hlen, h7, lim_eq]; show _ < 16777216; omega, ?_⟩
        have e2 : tup _ = .tuple (tups es) := tup_seq c'
        have l3 := LI.app l2 b (by rw [e2]; exact l2.t) h4
        rw [ms_pop2] at hn hk
        exact q _ _ tv n _ _ x4 x5 _ l3 (fun z => by cases z) (by omega) (by omega)
end
end Fw
end
section
set_option Elab.async false
set_option linter.all false
set_option maxRecDepth 100000
set_option maxHeartbeats 3200000
namespace Fw
open PySem PySem.Spec L2
section
variable {X : Cx} {cs : List (Addr × Addr)} {Gc : Nat → Option D} {F : FT} {G0 H0 G H : Hp} {root told : D} {v0 tv : V} {aw : Addr} {n ks kd km : Nat} {st : List SFr} {ls : List (Addr × Addr)} {D : Ends} {σ : St}
theorem Ext.old {G1 H1 : Hp} (x : Ext G0 H0 G1 H1) {p : Addr} (n : H1 p = none) : H0 p = none := by
  cases h : H0 p with
  | none => rfl
  | some o =>
    have k := x.same p o h
    rw [n] at k
    cases o <;> first | exact nomatch (show (none : Option HO) = some _ from k) | exact k.elim fun _ z => nomatch z.1
theorem Ext.none_of {G1 H1 : Hp} (x : Ext G0 H0 G1 H1) {p : Addr} (n : H1 p = none) (i : Inn G1 H1) : G1 p = none := by
  cases h : G1 p with
  | none => rfl
  | some o => have := i p o h; rw [n] at this; cases this
theorem frs_mem {K : Fz} : ∀ {ls : List (Addr × Addr)} {st : List SFr}, Frs K H0 G H ls st → ∀ a ∈ ls.map (·.2), ∃ xs, H a = some (.lst xs)
  | _, _, .nil, a, h => by cases h
  | _, _, .cons o r, a, h => by
    rcases List.mem_cons.mp (show a ∈ _ :: _ from h) with rfl | h
    · obtain ⟨_, _, mv, _, _, _, h4, _⟩ := o.ex; exact ⟨mv, h4⟩
    · exact frs_mem r a h
theorem LI.push {K : Fz} {t' m' : Addr} {es : List PyData} {u : V} {s : PyData} (l : LI K cs G0 H0 G root told v0 tv aw n st ls H) (ht : H t' = some (.tup [u, .ref m'])) (hu : RD K G u s) (he : seqD s = some es) (hm : H m' = some (.lst [])) (gm : G m' = none) (hm0 : H0 m' = none)
    (nm : m' ∉ aw :: ls.map (·.2)) (hc : Ch root ((es, 0) :: st)) : LI K cs G0 H0 G root told v0 tv aw n ((es, 0) :: st) ((t', m') :: ls) (upd H aw (.lst (((t', m') :: ls).reverse.map fun p => .ref p.1))) := by
  simp only [List.mem_cons, not_or] at nm
  have nd := List.nodup_cons.mp l.nd
  refine ⟨l.v, l.t, l.x.poke l.hw l.gw, l.tb.poke l.w fun _ z => (by cases z), upd_same, l.gw, l.hw, ?_, .cons ⟨⟨u, s, [], ?_, hu, he, ?_, ?_⟩, gm, hm0⟩ (frs_poke l.w l.fr nd.1), fun _ => hc⟩
  · simp only [List.map_cons, List.nodup_cons, List.mem_cons, not_or]
    exact ⟨⟨fun z => nm.1 z.symm, nd.1⟩, nm.2, nd.2⟩
  · dsimp only
    rw [upd_ne]
    · exact ht
    · intro z; rw [z, l.w] at ht; cases ht
  · dsimp only
    rw [upd_ne nm.1]; exact hm
  · exact .nil
theorem turn_ok {x4 x5 : Option V} {f : SFr} {r : List SFr} (hF : ∀ d, isDict d = false → F ks [d] = some (.bool (isSeq d))) (hkd : Gc kd = some (.int 2000)) (hkm : Gc km = some (.int 1000000)) (hb : sz root ≤ 1000000) (hdp : dpt root ≤ 1999)
    (l : LI (kw X) cs G0 H0 G root told v0 tv aw n (f :: r) ls H) (hn : n + ms (f :: r) ≤ sz root) (q : Nxt X cs G0 H0 root v0 aw (ms (f :: r)) D.nx) : tTurn X cs Gc F ks kd km D [some v0, some (.ref aw), some tv, some (.int (n : Nat)), x4, x5] H := by
  obtain ⟨ds, j⟩ := f
  have hfr := l.fr
  cases hfr with
  | @cons p _ lr _ o fr0 =>
    obtain ⟨t, m⟩ := p
    refine ⟨_, rfl, m1_at (str_a l.inn l.v l.t) l.tb fun G1 H1 x1 => ?_⟩
    have l1 := l.ext x1
    refine .inl ⟨aw, _, -1, .ref t, rfl, rfl, .inl (.inl l1.w), by simp only [List.reverse_cons, List.map_append, List.map_cons, List.map_nil]; exact at_last, ?_⟩
    obtain ⟨sv, src, mv, h1, h2, h3, h4, h5, h6, h7, h8, h9⟩ := l1.top
    refine ⟨t, [sv, .ref m], rfl, .inl (.inl h1), rfl, sv, [.ref m], rfl, .ref m, [], rfl, rfl, ?_⟩
    refine ⟨G1, tauB root told n src (tups (ds.take j)), _, str_b l1.inn l1.v l1.t h2 h4 h6 h5, l1.tb, d_eq h3, fun G2 H2 x2 => ?_⟩
    have l2 := l1.ext x2
    by_cases hj : j = ds.length
    · -- the frame is done
      subst hj
      rw [h7, decide_eq_true rfl]
      dsimp only
      rw [if_pos rfl]
      refine ⟨_, rfl, .inl ⟨rfl, _, .inl (.inl l2.w)⟩, aw, _, .ref t, rfl, rfl, l2.w, ?_, ?_⟩
      · simp only [List.reverse_cons, List.map_append, List.map_cons, List.map_nil]
        simp
      have fr2 := l2.fr
      cases fr2 with
      | cons o2 fr2 =>
        have hch := l2.ch (by simp)
        have he : (((t, m) :: lr).reverse.map fun p => V.ref p.1).dropLast = lr.reverse.map fun p => V.ref p.1 := by
          simp only [List.reverse_cons, List.map_append, List.map_cons, List.map_nil, List.dropLast_concat]
        rw [he]
        have l3 := l2.poke (ls' := lr) (st' := r) (List.sublist_cons_self _ _) fr2 fun hr => by
          cases hch with
          | one a b => exact absurd rfl hr
          | cons a b c' d' => exact a
        obtain ⟨sv2, src2, mv2, k1, k2, k3, k4, k5, k6, k7, k8, k9⟩ := l2.top
        have hts : tups (ds.take ds.length) = tups ds := by rw [List.take_length]
        rw [hts] at k5
        have hsv : RD (kw X) G2 sv src := RD.mono x2.sub h2
        refine ⟨G2, tauB root told n src (tups ds), _, str_b (mv := mv2) l3.inn l2.v l2.t hsv (by rw [upd_ne (fun z => k9 z.symm)]; exact k4) k6 k5, l3.tb, d_tup, fun v G4 H4 x4' rd => ?_⟩
        have l4 := (l3.ext x4').tell rd
        exact t6_ok l4 hb hch hn (Nat.le_refl _) q
    · -- an item more
      have hjl : j < ds.length := by omega
      have hd0 : decide ((tups (ds.take j)).length = ds.length) = false := by rw [h7]; exact decide_eq_false hj
      rw [hd0]
      dsimp only
      rw [if_neg (by simp)]
      obtain ⟨sv2, src2, mv2, k1, k2, k3, k4, k5, k6, k7, k8, k9⟩ := l2.top
      have hsv : RD (kw X) G2 sv src := RD.mono x2.sub h2
      have hs : ds[j]? = some ds[j] := List.getElem?_eq_getElem hjl
      have hs' : ds[(tups (ds.take j)).length]? = some ds[j] := by rw [h7]; exact hs
      obtain ⟨vs, rvs⟩ := rd_items hsv h3
      have hnd : isDict ds[j] = false := rds_ndict rvs hs
      have m2 : H2 m = some (.lst mv) := (x2.same _ _ h4).of fun _ z => by cases z
      have g2 : G2 m = none := x2.new _ _ h4 h6
      have r2 : RDs (kw X) G2 mv (tups (ds.take j)) := RDs.mono x2.sub h5
      have S2 : StR (kw X) G2 H2 [some v0, some (.ref aw), some tv, some (.int (n : Nat)), some sv, some (.ref m)] (tauB root told n src (tups (ds.take j))) := str_b l2.inn l2.v l2.t hsv m2 g2 r2
      refine ⟨G2, tauB root told n src (tups (ds.take j)), _, S2, l2.tb, d_isq hF (d_item h3 hs') (d_item h3 hs') rfl hnd, fun G3 H3 x3 => ?_⟩
      have l3 := l2.ext x3
      have m3 : H3 m = some (.lst mv) := (x3.same _ _ m2).of fun _ z => by cases z
      have g3 : G3 m = none := x3.new _ _ m2 g2
      have r3 : RDs (kw X) G3 mv (tups (ds.take j)) := RDs.mono x3.sub r2
      have hsv3 : RD (kw X) G3 sv src := RD.mono x3.sub hsv
      have S3 : StR (kw X) G3 H3 [some v0, some (.ref aw), some tv, some (.int (n : Nat)), some sv, some (.ref m)] (tauB root told n src (tups (ds.take j))) := str_b l3.inn l3.v l3.t hsv3 m3 g3 r3
      have hlen := RDs.length r3
      have hds := Ch.szs (l3.ch (by simp)) _ List.mem_cons_self
      have hl2 := len_szs ds
      dsimp only at hds
      cases hq : seqD ds[j] with
      | none =>
        have e1 : (!isSeq ds[j]) = true := by unfold isSeq; rw [hq]; rfl
        dsimp only
        rw [e1]
        rw [if_pos rfl]
        refine ⟨_, rfl, .inl ⟨rfl, mv, .inl (.inl m3)⟩, G3, tauB root told n src (tups (ds.take j)), _, S3, l3.tb, d_item h3 hs', fun u G4 H4 x4' rd => ?_⟩
        have l4 := l3.ext x4'
        have m4 : H4 m = some (.lst mv) := (x4'.same _ _ m3).of fun _ z => by cases z
        refine ⟨m, mv, u, rfl, rfl, m4, by rw [hlen, h7, lim_eq]; show _ < 16777216; omega, ?_⟩
        have e2 := ms_atom (r := r) hs hq
        exact q _ _ tv n _ _ _ _ _ (LI.app l4 hs (by rw [tup_atom hq]; exact rd) m4) (fun z => by cases z) (by omega) (by omega)
      | some es =>
        have e1 : (!isSeq ds[j]) = false := by unfold isSeq; rw [hq]; rfl
        dsimp only
        rw [e1]
        rw [if_neg (by simp)]
        have e2 := ms_push (r := r) hs hq
        have hdep := Ch.dep (l3.ch (by simp))
        have hd1 := dpts_mem (List.mem_of_getElem? hs)
        have hd2 := dpt_seq hq
        have hll : ((t, m) :: lr).length = r.length + 1 := by
          have := Paired.length l3.fr
          simpa using this
        have hms : 1 ≤ ms ((ds, j) :: r) := by simp only [ms]; omega
        -- the bounds are not met
        refine ⟨_, rfl, _, ((t, m) :: lr).length, rfl, .inl ⟨_, .inl (.inl l3.w), by simp⟩, ?_⟩
        refine ⟨G3, _, .int 2000, S3, l3.tb, d_glob hkd, fun u G4 H4 x4' rd => ?_⟩
        cases rd
        refine ⟨_, _, rfl, rfl, false, ?_, ?_⟩
        · show V.bl (decide ((2000 : Int) ≤ (((t, m) :: lr).length : Nat))) = V.bl false
          rw [decide_eq_false]
          rw [hll]; omega
        dsimp only
        rw [if_neg (by simp)]
        have S4 := S3.ext x4'
        have l4 := l3.ext x4'
        refine ⟨G4, _, _, S4, l4.tb, d_ge hkm, fun G5 H5 x5' => ?_⟩
        have S5 := S4.ext x5'
        have l5 := l4.ext x5'
        have e3 : decide ((1000000 : Int) ≤ (n : Nat)) = false := decide_eq_false (by omega)
        rw [e3]
        dsimp only
        rw [if_neg (by simp)]
        refine ⟨G5, _, _, S5, l5.tb, d_inc, fun u G6 H6 x6 rd => ?_⟩
        cases rd
        have l6 := l5.ext x6
        obtain ⟨sv6, src6, mv6, w1, w2, w3, w4, w5, w6, w7, w8, w9⟩ := l6.top
        have hsv6 : RD (kw X) G6 sv src := RD.mono (fun a o e => x6.sub a o (x5'.sub a o (x4'.sub a o e))) hsv3
        have m6 : H6 m = some (.lst mv) := (((x4'.trans x5').trans x6).same _ _ m3).of fun _ z => by cases z
        have g6 : G6 m = none := ((x4'.trans x5').trans x6).new _ _ m3 g3
        have r6 : RDs (kw X) G6 mv (tups (ds.take j)) := RDs.mono ((x4'.trans x5').trans x6).sub r3
        refine ⟨_, rfl, .inl ⟨rfl, _, .inl (.inl l6.w)⟩, G6, tauB root told (n + 1) src (tups (ds.take j)), _, str_b l6.inn l6.v l6.t hsv6 m6 g6 r6, l6.tb, d_item h3 hs', fun u G7 H7 x7 rd => ?_⟩
        have l7 := l6.ext x7
        refine ⟨by decide, fun p np => ⟨show 2 ≤ sizeLine by decide, fun p2 np2 => ?_⟩⟩
        have l8 := l7.ext (Ext.lay l7.inn np (o := .lst []))
        have l9 := l8.ext (Ext.lay l8.inn np2 (o := .tup [u, .ref p]))
        have hpp : p ≠ p2 := fun z => by rw [← z, upd_same] at np2; cases np2
        have nm : p ∉ aw :: ((t, m) :: lr).map (·.2) := fun z => by
          rcases List.mem_cons.mp z with z | z
          · rw [z, l7.w] at np; cases np
          · obtain ⟨xs, e⟩ := frs_mem l7.fr _ z; rw [np] at e; cases e
        have l10 := l9.push (t' := p2) (m' := p) (u := u) upd_same rd hq (by rw [upd_ne hpp]; exact upd_same) (l7.x.none_of np l7.inn) (l7.x.old np) nm (.cons (l9.ch (by simp)) hs hq (Nat.zero_le _))
        refine ⟨aw, _, .ref p2, rfl, rfl, l9.w, by rw [lim_eq]; simp only [List.length_map, List.length_reverse]; rw [hll]; show _ < 16777216; omega, ?_⟩
        have e5 : (((t, m) :: lr).reverse.map fun p => V.ref p.1) ++ [V.ref p2] = ((p2, p) :: (t, m) :: lr).reverse.map fun p => V.ref p.1 := by simp
        rw [e5]
        exact q _ _ tv (n + 1) _ _ _ _ _ l10.cnt (fun z => by cases z) (by omega) (by omega)
end
end Fw
end
section
set_option Elab.async false
set_option linter.all false
set_option maxRecDepth 100000
set_option maxHeartbeats 3200000
namespace Fw
open PySem PySem.Spec L2
section
variable {X : Cx} {cs : List (Addr × Addr)} {c : Cc} {Gc : Nat → Option D} {F : FT} {lv ks kd km : Nat}
theorem turn_ps (hc : CcOk Gc F lv cs c X) (hN : c.N = tupN) (hL : tupN.all (localB c.sc) = true) {a1 a2 a3 a4 a5 dd a6 a7 : Stmt} {k q o : Expr} {p1 p2 p3 p4 : Pos}
    (h1 : b4 c a1 = true) (h2 : chk (.cmp .eq (.blt .len [.v 5]) (.blt .len [.v 4])) false c k = true) (h3 : b5 a2 = true) (h4 : b3 "told" (.blt .tuple [.v 5]) c a3 = true) (h5 : b6 c a4 = true) (h6 : chk (eIsq ks eItem) false c q = true) (h7 : b7 c a5 = true) (h8 : b8 kd km c o = true)
    (h9 : b3 "count" (.bin .add (.v 3) (.c (.int 1))) c a6 = true) (h10 : b9 c a7 = true) : PSs X [a1, .If k [a2, a3, a4] [.If (.UnaryOp .Not q p1) [a5] [.If o [dd] [a6, a7] p2] p3] p4] (tTurn X cs Gc F ks kd km) :=
  pss_cons (s4 hc hN hL h1) (pss_one (ps_if (sdE hc h2).tst (pss_cons (s5 hc hN hL h3) (pss_cons (s3 hc hN hL 2 h4) (pss_one (s6 hc hN hL h5))))
    (pss_one (ps_if (pt_not (sdE hc h6).tst) (pss_one (s7 hc hN hL h7)) (pss_one (ps_if (s8 hc hN hL h8) pss_never (pss_cons (s3 hc hN hL 3 h9) (pss_one (s9 hc hN hL h10)))))))))
theorem s1_ps (hc : CcOk Gc F lv cs c X) (hN : c.N = tupN) (hL : tupN.all (localB c.sc) = true) {st : Stmt} (h : b1 ks c st = true) : PS X st (tIfS (tNot (tT (kw X) cs (den Gc F (eIsq ks (.v 0))).tst)) (tRet (tVar 0)) fun D σ H => D.nx σ H) := by
  unfold b1 at h
  split at h
  · simp only [Bool.and_eq_true] at h
    obtain ⟨p, rfl⟩ := isN_ok h.2
    exact ps_if (pt_not (sdE hc h.1).tst) (pss_one (ps_ret (pe6 hc hN hL 0))) pss_nil
  · cases h
theorem s2_ps (hc : CcOk Gc F lv cs c X) (hN : c.N = tupN) (hL : tupN.all (localB c.sc) = true) {st : Stmt} (h : b2 st = true) : PS X st (tAsg (tLst (tCons (tTup (tCons (tVar 0) (tCons (tLst tNil) tNil))) tNil)) (gName 1)) := by
  unfold b2 at h
  split at h
  · simp only [Bool.and_eq_true] at h
    obtain ⟨h1, h2⟩ := h
    obtain ⟨p, rfl⟩ := isN_ok h1
    obtain ⟨p, rfl⟩ := isN_ok h2
    exact ps6 hc hN hL 1 (pe_lst (pa_cons (pe_tup (pa_cons (pe6 hc hN hL 0) (pa_cons (pe_lst pa_nil) pa_nil))) pa_nil)) rfl
  · cases h
abbrev tTupled (X : Cx) (cs : List (Addr × Addr)) (Gc : Nat → Option D) (F : FT) (ks kd km : Nat) : TS :=
  tSeq (tIfS (tNot (tT (kw X) cs (den Gc F (eIsq ks (.v 0))).tst)) (tRet (tVar 0)) fun D σ H => D.nx σ H)
    (tSeq (tAsg (tLst (tCons (tTup (tCons (tVar 0) (tCons (tLst tNil) tNil))) tNil)) (gName 1))
      (tSeq (tAsg (tPe X cs Gc F (.tup [])) (gName 2)) (tSeq (tAsg (tPe X cs Gc F (.c (.int 0))) (gName 3)) (tSeq (tWhile (tW1 X) (tTurn X cs Gc F ks kd km)) (tRet (tVar 2))))))
theorem tupled_ps (hc : CcOk Gc F lv cs c X) (hN : c.N = tupN) (hL : tupN.all (localB c.sc) = true) (ho : Own X) {body : List Stmt} (h : tupB ks kd km c body = true) : PSs X body (tTupled X cs Gc F ks kd km) := by
  unfold tupB at h
  split at h
  · simp only [Bool.and_eq_true] at h
    obtain ⟨⟨h1, h2, h3, h4⟩, ⟨h5, h6, h7⟩, ⟨h8, h9, h10⟩, ⟨h11, h12⟩, h13, h14, h15, h16⟩ := h
    obtain ⟨p, rfl⟩ := isN_ok h5
    obtain ⟨p, rfl⟩ := isN_ok h16
    exact pss_cons (s1_ps hc hN hL h1) (pss_cons (s2_ps hc hN hL h2) (pss_cons (s3 hc hN hL 2 h3) (pss_cons (s3 hc hN hL 3 h4)
      (pss_cons (ps_while ho (pt_truth (pe6 hc hN hL 1) fun _ => rfl) (turn_ps hc hN hL h6 h7 h8 h9 h10 h11 h12 h13 h14 h15)) (pss_one (ps_ret (pe6 hc hN hL 2)))))))
  · cases h
end
section
variable {X : Cx} {cs : List (Addr × Addr)} {Gc : Nat → Option D} {F : FT} {G H : Hp} {root : D} {v0 : V} {ks kd km : Nat} {Q : VK}
theorem str_0 {x1 x2 x3 x4 x5 : Option V} {K : Fz} (i : Inn G H) (h0 : RD K G v0 root) : StR K G H [some v0, x1, x2, x3, x4, x5] [.fz root, .un, .un, .un, .un, .un] where
  inn := i
  len := rfl
  fz := fun j d e => by
    rcases j with _ | _ | _ | _ | _ | _ | j <;> simp at e
    · subst e; exact ⟨_, rfl, h0⟩
  fk := fun j d e => by
    rcases j with _ | _ | _ | _ | _ | _ | j <;> simp at e
  ow := fun j s e ho => by
    rcases j with _ | _ | _ | _ | _ | _ | j <;> simp at e <;> (subst e; cases ho)
  sep := fun j k s t a e ho => by
    rcases j with _ | _ | _ | _ | _ | _ | j <;> simp at e <;> (subst e; cases ho)
theorem tupled_run (hF : ∀ d, isDict d = false → F ks [d] = some (.bool (isSeq d))) (hkd : Gc kd = some (.int 2000)) (hkm : Gc km = some (.int 1000000)) (hb : sz root ≤ 1000000) (hdp : dpt root ≤ 1999) (i : Inn G H) (rd : RD (kw X) G v0 root) (tb : TabOk cs G H)
    (q : ∀ v G' H', Ext G H G' H' → RD (kw X) G' v (tup root) → Q v H') (q2 : St → Hp → Prop) : tTupled X cs Gc F ks kd km { nx := q2, rt := Q } [some v0, none, none, none, none, none] H := by
  have hnd := rd_ndict rd
  refine ⟨G, [.fz root, .un, .un, .un, .un, .un], _, str_0 i rd, tb, d_isq hF rfl rfl rfl hnd, fun G1 H1 x1 => ?_⟩
  cases hq : seqD root with
  | none =>
    have e1 : (!isSeq root) = true := by unfold isSeq; rw [hq]; rfl
    dsimp only
    rw [e1, if_pos rfl]
    exact ⟨v0, rfl, q v0 G1 H1 x1 (by rw [tup_atom hq]; exact RD.mono x1.sub rd)⟩
  | some ds =>
    have e1 : (!isSeq root) = false := by unfold isSeq; rw [hq]; rfl
    dsimp only
    rw [e1, if_neg (by simp)]
    refine ⟨v0, rfl, by decide, fun m nm => ⟨show 2 ≤ sizeLine by decide, fun t nt => ⟨show 1 ≤ sizeLine by decide, fun aw nw => ?_⟩⟩⟩
    have x2 := x1.trans (Ext.lay x1.inn nm (o := .lst []))
    have x3 := x2.trans (Ext.lay x2.inn nt (o := .tup [v0, .ref m]))
    have x4 := x3.trans (Ext.lay x3.inn nw (o := .lst [.ref t]))
    have hmt : m ≠ t := fun z => by rw [← z, upd_same] at nt; cases nt
    have hmw : m ≠ aw := fun z => by rw [← z, upd_ne hmt, upd_same] at nw; cases nw
    have htw : t ≠ aw := fun z => by rw [← z, upd_same] at nw; cases nw
    let H4 := upd (upd (upd H1 m (.lst [])) t (.tup [v0, .ref m])) aw (.lst [.ref t])
    have rd1 : RD (kw X) G1 v0 root := RD.mono x1.sub rd
    have gm : G1 m = none := x1.none_of nm x1.inn
    have nm' : (upd H1 m (.lst [])) m = some (.lst []) := upd_same
    have nw1 : upd H1 m (.lst []) aw = none := by rw [upd_ne (fun z => htw z.symm)] at nw; exact nw
    have nwH : H1 aw = none := by rw [upd_ne (fun z => hmw z.symm)] at nw1; exact nw1
    have l : LI (kw X) cs G H G1 root .none v0 .non aw 0 [(ds, 0)] [(t, m)] H4 := by
      refine ⟨rd1, .non, x4, tb.ext x4, upd_same, x1.none_of nwH x1.inn, x1.old nwH, ?_, .cons ⟨⟨v0, root, [], ?_, rd1, hq, ?_, .nil⟩, gm, x1.old nm⟩ .nil, fun _ => .one hq (Nat.zero_le _)⟩
      · simp only [List.map_cons, List.map_nil, List.nodup_cons, List.mem_singleton, List.not_mem_nil, not_false_eq_true, List.nodup_nil, and_true]
        exact fun z => hmw z.symm
      · dsimp only
        show upd _ aw _ t = _
        rw [upd_ne htw]; exact upd_same
      · dsimp only
        show upd _ aw _ m = _
        rw [upd_ne hmw, upd_ne hmt]; exact upd_same
    refine ⟨G1, [.fz root, .un, .un, .un, .un, .un], .tuple [], str_0 l.inn l.v, l.tb, rfl, fun tv G5 H5 x5 rt => ?_⟩
    have l5 := (l.ext x5).tell rt
    refine ⟨G5, [.fz root, .un, .un, .un, .un, .un], .int 0, str_0 l5.inn l5.v, l5.tb, rfl, fun u G6 H6 x6 ru => ?_⟩
    cases ru
    have l6 := l5.ext x6
    refine ⟨fun k σ Hx => ∃ G2 told tv n st ls x4 x5, σ = [some v0, some (.ref aw), some tv, some (.int (n : Nat)), x4, x5] ∧ LI (kw X) cs G H G2 root told v0 tv aw n st ls Hx ∧ (st = [] → told = tup root) ∧ n + ms st ≤ sz root ∧ ms st = k, ?_, ?_⟩
    · refine ⟨_, G6, _, tv, 0, _, _, none, none, rfl, l6, fun z => (by cases z), ?_, rfl⟩
      have := sz_seq hq
      simp [ms]; omega
    · rintro k σ' H' ⟨G2, told, tv2, n, st, ls, y4, y5, rfl, l7, e7, n7, rfl⟩
      refine ⟨_, rfl, !(ls.reverse.map fun p => V.ref p.1).isEmpty, .inl ⟨_, .inl (.inl l7.w), rfl⟩, ?_⟩
      have fr := l7.fr
      cases fr with
      | nil =>
        dsimp only
        rw [if_neg (by simp)]
        refine ⟨tv2, rfl, q tv2 G2 H' l7.x ?_⟩
        rw [← e7 rfl]; exact l7.t
      | @cons p f lr r o fr2 =>
        have e1 : (!((p :: lr).reverse.map fun p => V.ref p.1).isEmpty) = true := by simp
        dsimp only
        rw [e1, if_pos rfl]
        refine ⟨fun σ' Hx => ∃ k' , k' < ms (f :: r) ∧ ∃ G2 told tv n st ls x4 x5, σ' = [some v0, some (.ref aw), some tv, some (.int (n : Nat)), x4, x5] ∧ LI (kw X) cs G H G2 root told v0 tv aw n st ls Hx ∧ (st = [] → told = tup root) ∧ n + ms st ≤ sz root ∧ ms st = k', fun σ' H' h => h, ?_⟩
        exact turn_ok hF hkd hkm hb hdp l7 n7 fun G3 told3 tv3 n3 st3 ls3 z4 z5 H3 l8 e8 n8 k8 => ⟨_, k8, G3, told3, tv3, n3, st3, ls3, z4, z5, rfl, l8, e8, n8, rfl⟩
end
end Fw
end
section
set_option Elab.async false
set_option linter.all false
set_option maxRecDepth 100000
set_option maxHeartbeats 3200000
namespace Fw
open PySem PySem.Spec PyProof.Rows L2
/-! ### `tupled` as a def; the law's end -/
def seqDf : Df := ⟨[false], 1, [.ret (.bo false [.isi (.v 0) [.list], .isi (.v 0) [.tuple]])]⟩
theorem seqDf_run {Gc : Nat → Option D} {F : FT} (d : D) (h : isDict d = false) : seqDf.run Gc F [d] = some (.bool (isSeq d)) := by
  cases d <;> first | rfl | cases h
def chkT (fns : List (Str × List Bool)) (gls : List Str) (ks kd km : Nat) (d : DefI) : Bool :=
  (scopeB d.N d.ps d.scope && (d.ps == [("value" : Str)] && d.N == tupN)) && ((plainB d.params d.ps && d.df.kf == [false]) && (tupN.all (localB d.scope) && tupB ks kd km (d.cc fns gls) d.body))
section
variable {P : Program} {w : World} {K : PySem.W.Frag} {mg : Str → Option Value} {base : Heap} {G0 : Nat → Option D} {cs : List (Addr × Addr)} {defs : List DefI} {gls : List Str}
theorem tupled_ok (M : ModOk P w K mg base G0 cs defs gls) {jt ks kd km : Nat} {dq : DefI} (hchk : ∀ (i : Nat) (d : DefI), defs[i]? = some d → i ≠ jt → chkD (fnsOf defs) gls d = true) (hq : defs[ks]? = some dq) (hqd : dq.df = seqDf) (hne : ks ≠ jt)
    (hkd : G0 kd = some (.int 2000)) (hkm : G0 km = some (.int 1000000)) {d : DefI} (hd : defs[jt]? = some d) (h : chkT (fnsOf defs) gls ks kd km d = true) {f : Addr} {fd : FuncData} (hm : mg d.nm = some (.ref f)) (D : FunD K d.nm d.nm d.params d.body d.scope [] [] f fd)
    (hc : d.code = true → ∃ cd Pt, (cd, Pt) ∈ cs ∧ GxR.TabB base mg cd Pt ∧ fd.code = .ref cd) :
    Binds K fd d.ps [] ∧ FnOk P w K mg base CX0 16 f fd d.ps (spF ⟨K, P, w⟩ cs d.df.kf tupF) := by
  unfold chkT at h
  simp only [Bool.and_eq_true, beq_iff_eq] at h
  obtain ⟨⟨h1, h2, h3⟩, ⟨h4, h5⟩, h6, h7⟩ := h
  have sc := scopeB_ok h1
  have hl : d.df.kf.length = d.ps.length := by rw [h5, h2]; rfl
  have bs : Binds K fd d.ps [] := D.bindsN fun kV doc pm an cdv ct us hl => bind_plain h4 (by have := sc.nd; rw [← sc.pre]; exact this.sublist (List.take_sublist _ _)) hl
  refine ⟨bs, ?_⟩
  let F : FT := FTab G0 defs jt (fun _ => none) 1
  have hF : ∀ x, isDict x = false → F ks [x] = some (.bool (isSeq x)) := fun x hx => by
    show (if ks = jt then none else match defs[ks]? with | some d => d.df.run G0 (FTab G0 defs jt (fun _ => none) 0) [x] | none => none) = _
    rw [if_neg hne, hq]
    dsimp only
    rw [hqd]
    exact seqDf_run x hx
  obtain ⟨oc, od, dV, kV, doc, pm, an, cdv, ct, osl, rfl, lk, hcd, _, _⟩ := D.ex
  have main := fn_of (CX := CX0) (P := P) (w := w) (mg := mg) (base := base) (k := 8 + 6) (sp := spF ⟨K, P, w⟩ cs d.df.kf tupF) lk hcd sc (spF_len hl) fun A outer s H vs Q E hr hsp => by
    obtain ⟨G, ds, r, inn, a, tb, e, q⟩ := hsp
    let X := cxOf CX0 P w K mg base d.N d.nm d.scope f cdv A outer s H E
    have cc : CcOk G0 F 8 cs (d.cc (fnsOf defs) gls) X.nox := by
      refine ⟨rfl, rfl, sc.nd, rfl, fun _ _ => rfl, hr, M.blt, fun i nm kf e => ?_, M.gl, hc⟩
      have e : (fnsOf defs)[i]? = some (nm, kf) := e
      unfold fnsOf at e
      rw [List.getElem?_map] at e
      cases hd' : defs[i]? with
      | none => rw [hd'] at e; cases e
      | some d' =>
        rw [hd'] at e
        cases e
        obtain ⟨f', fd', k1, k2, k3, k4⟩ := all_ok (b0 := 0) M hchk (g := fun _ => none) (fun d'' hd'' f' fd' _ D' => by
          have : d = d'' := Option.some.inj (hd.symm.trans hd'')
          subst this
          have sc' := scopeB_ok h1
          exact ⟨D'.bindsN fun kV doc pm an cdv ct us hl => bind_plain h4 (by have := sc'.nd; rw [← sc'.pre]; exact this.sublist (List.take_sublist _ _)) hl, spF_len hl, fun A outer s H args us vs Q E hr he hb hv ⟨G, ds, r, _, _, _, e, _⟩ => by cases e⟩)
          (fun d'' hd'' => by
            have : d = d'' := Option.some.inj (hd.symm.trans hd'')
            subst this; exact hl) 1 i d' hd'
        exact ⟨f', fd', d'.ps, k1, k2.kp, k3, k4⟩
    have ps := tupled_ps (X := X.nox) (ks := ks) (kd := kd) (km := km) cc h3 h6 PassesOwn.never h7
    refine ⟨_, PSs.nox ps, ?_⟩
    rw [h5] at a
    cases a with
    | @cons k ks' v vs' x xs a1 a2 =>
      cases a2
      cases a1 with
      | rd a1 =>
        have e : (if decide (sz x ≤ 1000000) && decide (dpt x ≤ 1999) then some (tup x) else none) = some r := e
        split at e
        · rename_i hb
          simp only [Bool.and_eq_true, decide_eq_true_eq] at hb
          cases e
          have hst : L2.start d.N [v] = [some v, none, none, none, none, none] := by rw [h3]; rfl
          rw [hst]
          exact tupled_run hF hkd hkm hb.1 hb.2 inn a1 tb q _
        · cases e
  exact main.mono (by omega)
/-- the facts of a head, by the list of defs -/
def dOf (d : DefI) : He.DefD := ⟨(d.nm, none), d.nm, d.nm, d.params, d.body, d.scope, [], []⟩
def fasOf (defs : List DefI) : List He.Fa := defs.map (fun d => .glo d.nm) ++ bltN.map .free
def codesOf (defs : List DefI) : List Str := (defs.filter (·.code)).map (·.nm)
theorem ftab_ti {G0 : Nat → Option D} {defs : List DefI} {irs : List Df} {jt : Nat} {g : List D → Option D} (h : defs.map (·.df) = irs) : ∀ n, FTab G0 defs jt g n = FTI G0 irs jt g n
  | 0 => rfl
  | n + 1 => by
    funext i args
    show (if i = jt then g args else match defs[i]? with | some d => d.df.run G0 (FTab G0 defs jt g n) args | none => none) = (if i = jt then g args else match irs[i]? with | some d => d.run G0 (FTI G0 irs jt g n) args | none => none)
    rw [ftab_ti h n, ← h, List.getElem?_map]
    cases defs[i]? <;> rfl
theorem law_at {l : PySem.W.OpenLaw} {gl : List (Str × D)} {jt jl ks kd km n : Nat} {dq dt dl : DefI} {fa : Addr} {h : Heap} (hch : defs.all (fun d => chkD (fnsOf defs) (gl.map (·.1)) d || d.nm == dt.nm) = true) (hnd : (defs.map (·.nm)).Nodup)
    (hq : defs[ks]? = some dq) (hqd : dq.df = seqDf) (ht : defs[jt]? = some dt) (htc : chkT (fnsOf defs) (gl.map (·.1)) ks kd km dt = true) (hl : defs[jl]? = some dl) (hlp : dl.ps = [("script" : Str)]) (hlk : dl.df.kf = [false]) (hne : ks ≠ jt) (hnl : jl ≠ jt)
    (hkd : (gl.map (·.2))[kd]? = some (.int 2000)) (hkm : (gl.map (·.2))[km]? = some (.int 1000000))
    (hLaw : ∀ ns : List Int, ns.length ≤ 63 → (∀ z ∈ ns, Builtin.Int.intBits z ≤ 1048576) → ∃ r, FTab (fun k => (gl.map (·.2))[k]?) defs jt tupF n jl [.list (ns.map .int)] = some r ∧ r = .bool true)
    (Y : ∃ K : PySem.W.Frag, (∀ p ∈ K, h.get? p.1 = some p.2) ∧ obsT (fasOf defs) (defs.map dOf) (codesOf defs) gl K = He.valD (defs.map dOf)) (G : h.Ns mainGlobals mg) (hmg : mg dl.nm = some (.ref fa)) :
    ∃ K : PySem.W.Frag, K.In h ∧ LamX.LawAtS l w K CX0 (8 * n + 8) 63 "script" mg fa h := by
  obtain ⟨K0, X0, e0⟩ := Y
  obtain ⟨K, cs, KX, says, nl, hx, hT, nT, C, hgl⟩ := says_parts X0 e0
  refine ⟨K, KX, ?_⟩
  -- the facts
  have facts : ∀ (i : Nat) (f : He.Fa), (fasOf defs)[i]? = some f → f.ok K = true := fun i f e => says.fact i e
  have gloOf : ∀ (i : Nat) (d : DefI), defs[i]? = some d → mg d.nm = some (.ref (He.ga K d.nm)) := fun i d e => by
    have hi : i < defs.length := (List.getElem?_eq_some_iff.mp e).1
    refine He.glo_ok KX G (facts i (.glo d.nm) ?_)
    unfold fasOf
    rw [List.getElem?_append_left (by simpa using hi), List.getElem?_map, e]; rfl
  have freeOf : ∀ x ∈ bltN, mg x = none := fun x hx => by
    obtain ⟨j, hj, ej⟩ := List.mem_iff_getElem.mp hx
    refine He.free_ok KX G (facts (defs.length + j) (.free x) ?_)
    unfold fasOf
    rw [List.getElem?_append_right (by simp), List.getElem?_map]
    simp [ej, List.getElem?_eq_getElem hj]
  have defOf : ∀ (i : Nat) (d : DefI), defs[i]? = some d → ∃ fd, FunD K d.nm d.nm d.params d.body d.scope [] [] (He.ga K d.nm) fd := fun i d e => by
    have := says.def_ i (d := dOf d) (by rw [List.getElem?_map, e]; rfl)
    exact this
  have mod : ∀ base : Heap, K.In base → base.Ns mainGlobals mg → (∀ p ∈ cs, LamX.TabB base mg p.1 p.2) → ModOk l.prog w K mg base (fun k => (gl.map (·.2))[k]?) cs defs (gl.map (·.1)) := fun base Kb Gb TB => by
    refine ⟨freeOf, fun k x e => ?_, fun i d e => ?_⟩
    · rw [List.getElem?_map] at e
      cases hk : gl[k]? with
      | none => rw [hk] at e; cases e
      | some p =>
        rw [hk] at e
        cases e
        have hp := hgl p (List.mem_of_getElem? hk)
        unfold glB2 at hp
        split at hp
        · rename_i u hu
          obtain ⟨v, r, q⟩ := datB_ok _ _ hp
          refine ⟨v, u, PySem.W.mg_of KX G hu, r, fun d hd Gx => ?_⟩
          have hd : (gl.map (·.2))[k]? = some d := hd
          rw [List.getElem?_map, hk] at hd
          cases hd
          exact q Gx
        · cases hp
    · obtain ⟨fd, F⟩ := defOf i d e
      refine ⟨_, fd, gloOf i d e, F, fun hc => ?_⟩
      have hmem : d.nm ∈ codesOf defs := List.mem_map.mpr ⟨d, List.mem_filter.mpr ⟨List.mem_of_getElem? e, hc⟩, rfl⟩
      obtain ⟨c, Pt, h1, h2⟩ := hx d.nm hmem
      obtain ⟨t1, t2, t3⟩ := TB _ h2
      refine ⟨c, Pt, h2, ⟨t1, t2, t3⟩, ?_⟩
      obtain ⟨oc, od, dV, kV, doc, pm, an, cdv, ct, osl, rfl, lk, hcd, _, _⟩ := F.ex
      unfold codeAt at h1
      rw [lk] at h1
      dsimp only [PySem.W.fnOf] at h1 ⊢
      split at h1
      · rename_i c' hc'
        cases h1
        rfl
      · cases h1
  have chkAll : ∀ (i : Nat) (d : DefI), defs[i]? = some d → i ≠ jt → chkD (fnsOf defs) (gl.map (·.1)) d = true := fun i d e hi => by
    have := List.all_eq_true.mp hch d (List.mem_of_getElem? e)
    rcases Bool.or_eq_true_iff.mp this with z | z
    · exact z
    · exfalso
      apply hi
      have z : d.nm = dt.nm := eq_of_beq z
      have li : i < (defs.map (·.nm)).length := by simpa using (List.getElem?_eq_some_iff.mp e).1
      have lj : jt < (defs.map (·.nm)).length := by simpa using (List.getElem?_eq_some_iff.mp ht).1
      refine (List.getElem_inj (i := i) (j := jt) (h₀ := li) (h₁ := lj) hnd).mp ?_
      have e1 : (defs.map (·.nm))[i]? = some d.nm := by rw [List.getElem?_map, e]; rfl
      have e2 : (defs.map (·.nm))[jt]? = some dt.nm := by rw [List.getElem?_map, ht]; rfl
      rw [List.getElem?_eq_getElem li] at e1
      rw [List.getElem?_eq_getElem lj] at e2
      rw [Option.some.inj e1, Option.some.inj e2, z]
  have htk : dt.df.kf.length = dt.ps.length := by
    unfold chkT at htc
    simp only [Bool.and_eq_true, beq_iff_eq] at htc
    rw [htc.2.1.2, htc.1.2.1]; rfl
  have fin : ∀ base : Heap, K.In base → base.Ns mainGlobals mg → (∀ p ∈ cs, LamX.TabB base mg p.1 p.2) → ∃ f fd, mg dl.nm = some (.ref f) ∧ FunD K dl.nm dl.nm dl.params dl.body dl.scope [] [] f fd ∧ Binds K fd dl.ps [] ∧ FnOk l.prog w K mg base CX0 (8 * n + 8) f fd dl.ps (spF ⟨K, l.prog, w⟩ cs dl.df.kf (FTab (fun k => (gl.map (·.2))[k]?) defs jt tupF n jl)) := fun base Kb Gb TB => by
    have M := mod base Kb Gb TB
    refine all_ok (b0 := 8) M chkAll (g := tupF) (fun d hd f fd hm D => ?_) (fun d hd => by
      have : dt = d := Option.some.inj (ht.symm.trans hd)
      subst this; exact htk) n jl dl hl
    have : dt = d := Option.some.inj (ht.symm.trans hd)
    subst this
    obtain ⟨f', fd', k1, k2, k3⟩ := M.fn jt dt ht
    refine tupled_ok M chkAll hq hqd hne hkd hkm ht htc hm D fun hc => ?_
    have ef : f' = f := by rw [k1] at hm; cases hm; rfl
    subst ef
    have : fd' = fd := by
      obtain ⟨oc, od, dV, kV, doc, pm, an, cdv, ct, osl, e1, lk, hcd, _, _⟩ := k2.ex
      obtain ⟨oc', od', dV', kV', doc', pm', an', cdv', ct', osl', e1', lk', hcd', _, _⟩ := D.ex
      rw [lk] at lk'
      cases lk'
      rfl
    subst this
    exact k3 hc
  obtain ⟨fdl, FD⟩ := defOf jl dl hl
  have hfa : fa = He.ga K dl.nm := by
    have := gloOf jl dl hl
    rw [hmg] at this
    cases this; rfl
  subst hfa
  have hchl := chkAll jl dl hl hnl
  refine ⟨fdl, cs, spF ⟨K, l.prog, w⟩ cs [false] (FTab (fun k => (gl.map (·.2))[k]?) defs jt tupF n jl), hT, nT, C, fun s u => ?_, fun H a ns hlen hbits hH hS => ?_, fun base Kb Gb TB => ?_⟩
  · unfold chkD at hchl
    simp only [Bool.and_eq_true, beq_iff_eq] at hchl
    have sc := scopeB_ok hchl.1
    have := FunD.bindsA (ps := dl.ps) FD (fun kV doc pm an cdv ct us hl => bind_plain hchl.2.2.2.1 (by have := sc.nd; rw [← sc.pre]; exact this.sublist (List.take_sublist _ _)) hl) s [u] (by rw [hlp]; rfl)
    rw [hlp] at this
    exact this
  · obtain ⟨r, e, rfl⟩ := hLaw ns hlen hbits
    exact law_spec nl hH hS e
  · obtain ⟨f, fd, k1, k2, k3, k4⟩ := fin base Kb Gb TB
    have ef : He.ga K dl.nm = f := by rw [hmg] at k1; cases k1; rfl
    subst ef
    have : fd = fdl := by
      obtain ⟨oc, od, dV, kV, doc, pm, an, cdv, ct, osl, e1, lk, hcd, _, _⟩ := k2.ex
      obtain ⟨oc', od', dV', kV', doc', pm', an', cdv', ct', osl', e1', lk', hcd', _, _⟩ := FD.ex
      rw [lk] at lk'
      cases lk'
      rfl
    subst this
    rw [hlp, hlk] at k4
    exact k4
end
end Fw
end
section
set_option Elab.async false
set_option linter.all false
set_option maxRecDepth 100000
set_option maxHeartbeats 0
namespace K11
open PySem Fw
def topS (i : Nat) : Stmt := PySem.Challenge.pw_leastgate_k11_diagrams_by_orders.main.body.getD i (.Pass ⟨0, 0, 0, 0⟩)
def dI (x : PySem.Str) (i : Nat) (N : List PySem.Str) (k : Nat) (f : Df) (c : Bool) : DefI := ⟨x, L2.defArgs (topS i), L2.defBody (topS i), L2.defScope (topS i), N, N.take k, f, c⟩
def defs0 : List DefI := [dI "need" 6 ["fits", "at"] 2 f_need false,
  dI "is_int" 7 ["value"] 1 f_is_int false,
  dI "is_between" 8 ["value", "low", "high"] 3 f_is_between false,
  dI "is_seq" 9 ["value"] 1 f_is_seq false,
  dI "is_row" 10 ["value", "many"] 2 f_is_row false,
  dI "is_name" 11 ["value", "sign"] 1 f_is_name true,
  dI "tupled" 12 ["value", "waiting", "told", "count", "source", "made"] 1 f_tupled false,
  dI "ascends" 13 ["items", "k"] 1 f_ascends true,
  dI "choices" 14 ["items", "count", "told", "_", "row", "item"] 2 f_choices false,
  dI "orders_of" 15 ["many", "row"] 1 f_orders_of false,
  dI "is_order" 16 ["value", "many", "place"] 2 f_is_order true,
  dI "whole" 18 ["many"] 1 f_whole false,
  dI "table_fits" 19 ["value"] 1 f_table_fits false,
  dI "bit_of" 20 ["number", "row"] 2 f_bit_of false,
  dI "from_bits" 21 ["bits", "row"] 1 f_from_bits false,
  dI "input_numbers" 22 ["many", "place"] 1 f_input_numbers false,
  dI "taker_number" 23 ["many", "place", "row"] 2 f_taker_number false,
  dI "applied" 24 ["table", "numbers", "top", "number", "low", "high", "told"] 3 f_applied false,
  dI "of_two" 25 ["number", "one", "other", "top", "told"] 4 f_of_two false,
  dI "need_two" 26 ["table", "other"] 2 f_need_two false]
def defs1 : List DefI := [dI "met" 27 ["table", "other"] 2 f_met false,
  dI "either" 28 ["table", "other"] 2 f_either false,
  dI "hangs_on" 29 ["table", "place"] 1 f_hangs_on false,
  dI "changes" 30 ["table", "place", "row"] 2 f_changes false,
  dI "held" 31 ["table", "place", "value", "sign", "row"] 3 f_held false,
  dI "gate_fits" 33 ["value"] 1 f_gate_fits false,
  dI "set_fits" 34 ["value", "gate"] 1 f_set_fits true,
  dI "gate_named" 35 ["kit", "name", "gate"] 2 f_gate_named false,
  dI "has_gate" 36 ["kit", "name", "table", "gate"] 3 f_has_gate false,
  dI "chosen" 37 [] 0 f_chosen false,
  dI "order_fits" 40 ["value"] 1 f_order_fits false,
  dI "held_tables" 41 ["table", "order", "k", "found", "place", "one", "value"] 3 f_held_tables false,
  dI "diagram_made" 42 ["table", "order", "many", "numbers", "nodes", "k", "place", "here", "one", "low", "high"] 2 f_diagram_made false,
  dI "bit_reached" 43 ["diagram", "row", "nodes", "at", "place", "low", "high"] 2 f_bit_reached false,
  dI "diagram_table" 44 ["diagram", "many", "number", "row"] 1 f_diagram_table false,
  dI "node_fits" 45 ["order", "nodes", "k", "behind", "place", "low", "high"] 3 f_node_fits false,
  dI "diagram_fits" 46 ["value", "k", "order", "nodes", "top"] 1 f_diagram_fits false,
  dI "diagram_by" 47 ["value", "order"] 2 f_diagram_by false,
  dI "diagram" 48 ["table", "order"] 2 f_diagram false,
  dI "is_diagram" 49 ["many", "value"] 2 f_is_diagram false]
def defs2 : List DefI := [dI "bit_by" 50 ["diagram", "row"] 2 f_bit_by false,
  dI "table_by" 51 ["diagram", "many"] 2 f_table_by false,
  dI "size_made" 52 ["table", "order"] 2 f_size_made false,
  dI "size" 53 ["table", "order"] 2 f_size false,
  dI "best_order" 54 ["table", "order"] 1 f_best_order false,
  dI "sizes" 55 ["table", "order"] 1 f_sizes true,
  dI "kin" 56 ["table", "order", "k"] 3 f_kin false,
  dI "met_by" 57 ["diagram", "other"] 2 f_met_by false,
  dI "either_by" 58 ["diagram", "other"] 2 f_either_by false,
  dI "line_place" 59 ["many", "at"] 2 f_line_place false,
  dI "circuit_by" 60 ["kit", "table", "order", "many", "lines", "nodes", "top", "place", "low", "high"] 3 f_circuit_by false,
  dI "rows_of_one_at" 61 ["counts", "at", "rows"] 3 f_rows_of_one_at false,
  dI "ways" 62 ["diagram", "many", "rows", "counts", "_", "low", "high"] 2 f_ways false,
  dI "swapped" 63 ["diagram", "place", "many", "order", "turned_order"] 3 f_swapped false,
  dI "place_fits" 67 ["kit", "place", "reach"] 3 f_place_fits false,
  dI "line_fits" 68 ["kit", "line", "reach", "gate", "place"] 3 f_line_fits false,
  dI "lines_fit" 69 ["kit", "lines", "reach", "k"] 3 f_lines_fit false,
  dI "circuit_fits" 70 ["kit", "value", "many", "lines", "ends", "place"] 2 f_circuit_fits false,
  dI "need_circuit" 71 ["kit", "circuit"] 2 f_need_circuit false,
  dI "place_number" 72 ["numbers", "place", "top"] 3 f_place_number false]
def defs3 : List DefI := [dI "wire_numbers" 73 ["kit", "circuit", "top", "told", "many", "lines", "ends", "name", "places", "taken", "place"] 2 f_wire_numbers false,
  dI "end_numbers" 74 ["kit", "circuit", "told", "top", "place"] 2 f_end_numbers false,
  dI "tells" 75 ["kit", "circuit", "number"] 2 f_tells false,
  dI "_law_cell" 77 ["script", "spot"] 2 f__law_cell false,
  dI "_law_listed" 78 ["value", "one"] 1 f__law_listed false,
  dI "_law_same" 79 ["one", "other", "k"] 2 f__law_same false,
  dI "_law_orders" 80 ["some", "rows", "k", "longer", "row", "one"] 1 f__law_orders false,
  dI "_law_unlike" 81 ["rows", "k"] 1 f__law_unlike false,
  dI "_law_bit" 82 ["number", "spot"] 2 f__law_bit false,
  dI "_law_of_bits" 83 ["many", "bits", "k"] 2 f__law_of_bits false,
  dI "_law_constant" 84 ["many", "value"] 2 f__law_constant false,
  dI "_law_held" 85 ["table", "place", "value", "row"] 3 f__law_held false,
  dI "_law_hangs" 86 ["table", "place"] 2 f__law_hangs false,
  dI "_law_kin" 87 ["table", "order", "k", "rows", "place", "longer", "one"] 3 f__law_kin false,
  dI "_law_diagram" 88 ["table", "order", "many", "spots", "nodes", "k", "some", "pairs", "one", "low", "high"] 2 f__law_diagram false,
  dI "_law_all" 89 ["many", "row"] 1 f__law_all false,
  dI "law" 90 ["script", "many", "table", "other", "every", "order", "due", "drawn", "row", "counts", "k", "met_v", "joint", "place", "made", "wired", "wrongs", "turned", "node", "one", "wrong", "low", "high", "line"] 1 f_law false]
def defs : List DefI := defs0 ++ defs1 ++ defs2 ++ defs3

end K11
end
section
set_option Elab.async false
set_option linter.all false
set_option maxRecDepth 100000
set_option maxHeartbeats 0
namespace K11
open PySem Fw
theorem chkAll : defs.all (fun d => chkD (fnsOf defs) (gl.map (·.1)) d || d.nm == (("tupled" : PySem.Str))) = true := by decide +kernel
theorem nodupAll : (defs.map (·.nm)).Nodup := by decide +kernel
theorem chkTup : chkT (fnsOf defs) (gl.map (·.1)) 3 0 1 (defs.getD 6 (dI "" 0 [] 0 f_law false)) = true := by decide +kernel
end K11
end
section
set_option Elab.async false
set_option linter.all false
set_option maxRecDepth 100000
set_option maxHeartbeats 0
namespace K11
open PySem Fw PySem.Spec PyProof.Rows L2
def lo0 : List PySem.Str := ["GateError", "BadValue", "DEEPEST", "MOST_INNER", "need", "is_int", "is_between", "is_seq", "is_row", "is_name", "tupled", "ascends", "choices", "orders_of", "is_order", "whole", "table_fits", "bit_of", "from_bits", "input_numbers", "taker_number", "applied", "of_two", "need_two", "met", "either", "hangs_on", "changes", "held", "gate_fits"]
def lo1 : List PySem.Str := ["set_fits", "gate_named", "has_gate", "chosen", "MUX", "order_fits", "held_tables", "diagram_made", "bit_reached", "diagram_table", "node_fits", "diagram_fits", "diagram_by", "diagram", "is_diagram", "bit_by", "table_by", "size_made", "size", "best_order", "sizes", "kin", "met_by", "either_by", "line_place", "circuit_by", "rows_of_one_at", "ways", "swapped", "MOST_LINES"]
def lo2 : List PySem.Str := ["MOST_ENDS", "place_fits", "line_fits", "lines_fit", "circuit_fits", "need_circuit", "place_number", "wire_numbers", "end_numbers", "tells", "_law_cell", "_law_listed", "_law_same", "_law_orders", "_law_unlike", "_law_bit", "_law_of_bits", "_law_constant", "_law_held", "_law_hangs", "_law_kin", "_law_diagram", "_law_all"]
def lo : List PySem.Str := lo0 ++ lo1 ++ lo2
abbrev R : PySem.W.OpenRow := PySem.W.OpenLaw.row PySem.Challenge.rw_leastgate_k11_diagrams_by_orders
def ads0 : List Addr := [3, 6, 4, 24, 46, 55, 62, 69, 76, 83, 90, 97, 104, 109, 114, 121, 128, 135, 142, 147, 152, 157, 164, 171, 178, 185, 192, 197, 202, 207, 214, 219, 226, 233, 240, 241, 248, 253, 260, 267, 274, 281, 288, 295, 302, 309, 316, 323, 330, 337, 342, 349, 356, 363, 370, 377, 384, 391, 398, 405, 412, 417, 422, 427, 434, 441, 446, 451, 456, 463, 468, 473, 478, 483, 490, 495, 502, 507, 514, 521, 526, 531, 536, 0, 23, 45, 54, 61, 68, 75, 82, 89, 96, 103, 108, 113, 120, 127, 134, 141]
def ads1 : List Addr := [146, 151, 156, 163, 170, 177, 184, 191, 196, 201, 206, 213, 218, 225, 232, 239, 247, 252, 259, 266, 273, 280, 287, 294, 301, 308, 315, 322, 329, 336, 341, 348, 355, 362, 369, 376, 383, 390, 397, 404, 411, 416, 421, 426, 433, 440, 445, 450, 455, 462, 467, 472, 477, 482, 489, 494, 501, 506, 513, 520, 525, 530, 535, 22, 25, 43, 44, 49, 50, 51, 52, 53, 56, 57, 58, 59, 60, 63, 64, 65, 66, 67, 70, 71, 72, 73, 74, 77, 78, 79, 80, 81, 84, 85, 86, 87, 88, 91, 92, 93]
def ads2 : List Addr := [94, 95, 98, 99, 100, 101, 102, 105, 106, 107, 110, 111, 112, 115, 116, 117, 118, 119, 122, 123, 124, 125, 126, 129, 130, 131, 132, 133, 136, 137, 138, 139, 140, 143, 144, 145, 148, 149, 150, 153, 154, 155, 158, 159, 160, 161, 162, 165, 166, 167, 168, 169, 172, 173, 174, 175, 176, 179, 180, 181, 182, 183, 186, 187, 188, 189, 190, 193, 194, 195, 198, 199, 200, 203, 204, 205, 208, 209, 210, 211, 212, 215, 216, 217, 220, 221, 222, 223, 224, 227, 228, 229, 230, 231, 234, 235, 236, 237, 238, 242]
def ads3 : List Addr := [243, 244, 245, 246, 249, 250, 251, 254, 255, 256, 257, 258, 261, 262, 263, 264, 265, 268, 269, 270, 271, 272, 275, 276, 277, 278, 279, 282, 283, 284, 285, 286, 289, 290, 291, 292, 293, 296, 297, 298, 299, 300, 303, 304, 305, 306, 307, 310, 311, 312, 313, 314, 317, 318, 319, 320, 321, 324, 325, 326, 327, 328, 331, 332, 333, 334, 335, 338, 339, 340, 343, 344, 345, 346, 347, 350, 351, 352, 353, 354, 357, 358, 359, 360, 361, 364, 365, 366, 367, 368, 371, 372, 373, 374, 375, 378, 379, 380, 381, 382]
def ads4 : List Addr := [385, 386, 387, 388, 389, 392, 393, 394, 395, 396, 399, 400, 401, 402, 403, 406, 407, 408, 409, 410, 413, 414, 415, 418, 419, 420, 423, 424, 425, 428, 429, 430, 431, 432, 435, 436, 437, 438, 439, 442, 443, 444, 447, 448, 449, 452, 453, 454, 457, 458, 459, 460, 461, 464, 465, 466, 469, 470, 471, 474, 475, 476, 479, 480, 481, 484, 485, 486, 487, 488, 491, 492, 493, 496, 497, 498, 499, 500, 503, 504, 505, 508, 509, 510, 511, 512, 515, 516, 517, 518, 519, 522, 523, 524, 527, 528, 529, 532, 533, 534]
def ads5 : List Addr := [42, 31]
def ads : List Addr := ads0 ++ ads1 ++ ads2 ++ ads3 ++ ads4 ++ ads5
abbrev hk : PySem.W.Hook := hookT ads (fasOf defs) (defs.map dOf) (codesOf defs) gl
def ob (s : PySem.W.SharedT) : He.AlD := obsTG ads (fasOf defs) (defs.map dOf) (codesOf defs) gl (HandSHeadRun.getT s)
theorem ob_eq (s : PySem.W.SharedT) : ob s = hk.obs s.abs := obsTG_eq (HandSHeadRun.getT_eq s)
theorem run (w : World) : HandSHeadRun.RunEq R (PySem.W.view R.prog [90]) hk ob 4000 lo w := by
  intro os
  kernel_rfl
end K11
end
set_option Elab.async false
set_option linter.all false
set_option maxRecDepth 100000
set_option maxHeartbeats 0
namespace K11
open PySem Fw
theorem irs_eq : defs.map (·.df) = irs := rfl
theorem law_true (ns : List Int) : FTab (fun k => (gl.map (·.2))[k]?) defs 6 tupF 27 76 [.list (ns.map .int)] = some (.bool true) := by
  rw [ftab_ti irs_eq]
  exact law_ok 10 ns
end K11
open PySem PySem.W PySem.Calls PyProof.Rows
theorem PySem.Challenge.cw_leastgate_k11_diagrams_by_orders_holds : PySem.Challenge.rw_leastgate_k11_diagrams_by_orders.Holds := by
  w_on; o_law
  refine HandSHeadRun.head_any (r := OpenLaw.row PySem.Challenge.rw_leastgate_k11_diagrams_by_orders) (q := view (OpenLaw.row PySem.Challenge.rw_leastgate_k11_diagrams_by_orders).prog [90]) (H := K11.hk) (ob := K11.ob) (M := 4000) (loose := K11.lo) (d := HandSHeadRun.topDef (OpenLaw.row PySem.Challenge.rw_leastgate_k11_diagrams_by_orders).prog 90) (kwd := []) K11.ob_eq
    (by kernel_rfl) (fun s => by kernel_rfl) K11.run (by kernel_rfl) (by kernel_rfl) (by kernel_rfl) (by rfl) (by first | assumption | decide +kernel) (by decide +kernel) ⟨rfl, rfl, rfl, rfl, rfl, by decide +kernel⟩ ?hw ?hc
  case hw => w_witness2
  case hc =>
    refine Fw.walk_fw (l := PySem.Challenge.rw_leastgate_k11_diagrams_by_orders) (n := 63) (k := 8 * 27 + 8) (x := "script") (CX := fun _ => L2.CX0) rfl (by decide) (by kernel_rfl) ⟨rfl, by decide, by decide⟩ ?F (fun _ _ _ _ _ z => z)
    intro w mg fa h Y G hmg0
    have hmg : mg ("law" : PySem.Str) = some (.ref fa) := by
      have e : (HandSHeadRun.topDef (OpenLaw.row PySem.Challenge.rw_leastgate_k11_diagrams_by_orders).prog 90).name = ("law" : PySem.Str) := by kernel_rfl
      rw [← e]
      exact hmg0
    exact Fw.law_at (defs := K11.defs) (gl := K11.gl) (jt := 6) (jl := 76) (ks := 3) (kd := 0) (km := 1) K11.chkAll K11.nodupAll (by rfl) (by rfl) (by rfl) K11.chkTup (by rfl) (by rfl) (by rfl) (by decide) (by decide) (by rfl) (by rfl)
      (fun ns hl _ => ⟨_, K11.law_true ns, rfl⟩) Y G hmg

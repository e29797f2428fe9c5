import PyProof.Rows.All
import Wide.All
import OpenK.AllK
import Wide.FinOn
import HandS.ClsMeth
import HandS.Codes
import HandS.Comp
import HandS.Conv
import HandS.Deep
import HandS.DictComp
import HandS.Exc
import HandS.ExcOwn
import HandS.FStr
import HandS.Flow
import HandS.ForMost
import HandS.Head0
import HandS.Head1
import HandS.Head2
import HandS.HeadEnd
import HandS.HeadHook2
import HandS.IsInst
import HandS.Iter
import HandS.More
import HandS.Property
import HandS.RaiseMore
import HandS.SortInts
import HandS.Style
import HandS.TupAny
import HandS.WordsDict
import HandS.Zip
import KE.KStateDown
import Lean
import OpenK.KMeth
import PyProof.Draws
import PyProof.EnumMake
import PyProof.PinEval
import HandS.Lambda
import HandS.ExcInit
import HandS.ExcSuper
import HandS.TryMany
import HandS.ExcField
import HandS.HeadWalk
import KE.KExcSuper
import HandS.HotCalls
import HandS.HeadHook4
import HandS.EndTab
import PySem.Challenge.RW_reparcel_k06_bundles_refused
set_option linter.all false
set_option Elab.async false
set_option maxRecDepth 100000
/-! Ev: an evaluator for the part of Python that the package uses: values, state, terms, their meaning. -/
namespace Ev
open PySem (Str)
abbrev Tx := List Nat
/-- a key of a dict: an int or a text -/
abbrev Ky := Sum Int Tx

/-- values: data in line; objects that change by place (loc: in the store; sl: in a slot of the frame) -/
inductive W where
  | non | bl (b : Bool) | int (i : Int) | str (x : Tx)
  | tup (xs : List W) | lst (xs : List W) | dct (ks : List Ky) (xs : List W)
  | obj (C : Nat) (ns : List Nat) (xs : List W)
  | loc (n : Nat) | sl (i : Nat)
  | glo (x : Nat) | scr (ns : List Int)
  deriving Inhabited, Repr

/-- an object that may be changed -/
inductive OO where
  | lst (xs : List W) | dct (ks : List Ky) (xs : List W) | ins (C : Nat) (ns : List Nat) (xs : List W)
  /-- a code object's table, where its lambdas lie -/
  | tab
  deriving Inhabited, Repr
/-- a slot of the frame -/
inductive Sl where
  | un | val (w : W) | own (o : OO)
  deriving Inhabited, Repr
structure St where
  r : List Sl
  s : List OO
  deriving Inhabited, Repr
/-- an exception: its class, its fields -/
structure Xn where
  C : Nat
  ns : List Nat
  xs : List W
  deriving Inhabited, Repr
/-- how an evaluation ends: a value, an exception, not at all (what the evaluator does not cover) -/
inductive R (α : Type) where
  | ok (a : α) (st : St) | exc (x : Xn) (st : St) | stk
  deriving Repr
instance {α} : Inhabited (R α) := ⟨.stk⟩
/-- where no exception may leave -/
def R.calm {α} : R α → R α
  | .ok a st => .ok a st
  | _ => .stk
def R.bind {α β} : R α → (α → St → R β) → R β
  | .ok a st, f => f a st
  | .exc x st, _ => .exc x st
  | .stk, _ => .stk
/-- how a call ends -/
inductive RC where
  | ok (w : W) (s : List OO) | exc (x : Xn) (s : List OO) | stk
  deriving Repr
instance : Inhabited RC := ⟨.stk⟩
def RC.at (r : List Sl) : RC → R W
  | .ok w s => .ok w ⟨r, s⟩
  | .exc x s => .exc x ⟨r, s⟩
  | .stk => .stk
def R.lift {α} (st : St) : Option α → R α
  | some a => .ok a st
  | none => .stk
/-- how a statement ends -/
inductive Fl where
  | nx | brk | cnt | ret (w : W)
  deriving Inhabited, Repr

/-! ### looking at values -/
def look (st : St) : W → Option OO
  | .loc n => st.s[n]?
  | .sl i => match st.r[i]? with
    | some (.own o) => some o
    | _ => none
  | .lst xs => some (.lst xs)
  | .dct ks xs => some (.dct ks xs)
  | .obj C ns xs => some (.ins C ns xs)
  | _ => none
/-- the items of a tuple or a list -/
def seqOf (st : St) : W → Option (List W)
  | .tup xs => some xs
  | w => match look st w with
    | some (.lst xs) => some xs
    | _ => none
/-- a list's items -/
def lstOf (st : St) (w : W) : Option (List W) := match look st w with
  | some (.lst xs) => some xs
  | _ => none
/-- an object is changed -/
def put (st : St) (o : OO) : W → Option St
  | .loc n => if n < st.s.length then some ⟨st.r, st.s.set n o⟩ else none
  | .sl i => match st.r[i]? with
    | some (.own _) => some ⟨st.r.set i (.own o), st.s⟩
    | _ => none
  | _ => none
/-- a list or a dict in line -/
def isL : W → Bool
  | .lst _ => true
  | .dct _ _ => true
  | _ => false
def oOf : W → OO
  | .dct ks xs => .dct ks xs
  | .lst xs => .lst xs
  | _ => .lst []
/-- no list or dict in line -/
def noL (r : R W) : R W := r.bind fun w st => if isL w then .stk else .ok w st
/-- what may be handed on: anything but an object of the frame -/
def okv : W → Bool
  | .sl _ => false
  | _ => true
def okvs (ws : List W) : Bool := ws.all okv

def lineMax : Nat := 16777216

/-! ### data: equality, order -/
mutual
def isD : W → Bool
  | .non | .bl _ | .int _ | .str _ => true
  | .tup xs | .lst xs => isDs xs
  | _ => false
def isDs : List W → Bool
  | [] => true
  | x :: xs => isD x && isDs xs
end
mutual
def dep : W → Nat
  | .tup xs | .lst xs => deps xs + 1
  | _ => 0
def deps : List W → Nat
  | [] => 0
  | x :: xs => max (dep x) (deps xs)
end
mutual
def eqD : W → W → Bool
  | .non, .non => true
  | .bl a, .bl b => a == b
  | .bl a, .int j => (if a then 1 else 0) == j
  | .int i, .bl b => i == (if b then 1 else 0)
  | .int i, .int j => i == j
  | .str x, .str y => x == y
  | .lst xs, .lst ys => eqDs xs ys
  | .tup xs, .tup ys => eqDs xs ys
  | _, _ => false
def eqDs : List W → List W → Bool
  | [], [] => true
  | x :: xs, y :: ys => eqD x y && eqDs xs ys
  | _, _ => false
end
/-- a list of the frame or the store as data -/
def view (st : St) (w : W) : W := match look st w with
  | some (.lst xs) => .lst xs
  | _ => w
def dOk (w : W) : Bool := isD w && decide (dep w ≤ 128)
/-- a text of code points -/
def tOk (x : Tx) : Bool := x.all fun c => decide (c < 1114112)
def memD (x : W) (xs : List W) : Bool := xs.any fun y => eqD y x

/-! ### places -/
def ixN (n : Nat) (i : Int) : Option Nat := if 0 ≤ i then (if i < n then some i.toNat else none) else if -(n : Int) ≤ i then some (i + n).toNat else none
def sIx (n d : Nat) : Option Int → Nat
  | none => d
  | some v => if v < 0 then (v + (n : Int)).toNat else min v.toNat n
def cut {α} (xs : List α) (lo hi : Option Int) : List α := (xs.drop (sIx xs.length 0 lo)).take (sIx xs.length xs.length hi - sIx xs.length 0 lo)

/-! ### texts -/
def dig (i : Int) : Tx := (toString i).toList.map Char.toNat
/-- does x stand in y -/
def subT (x : Tx) : Tx → Bool
  | [] => x.isEmpty
  | c :: y => x.isPrefixOf (c :: y) || subT x y
def joinT (sep : Tx) : List Tx → Tx
  | [] => []
  | [x] => x
  | x :: y :: r => x ++ sep ++ joinT sep (y :: r)
/-- split at a sep that is not empty -/
def splitT (sep : Tx) : Tx → Tx → List Tx
  | cur, [] => [cur]
  | cur, c :: y => if sep.isPrefixOf (c :: y) then splitT sep [] (y.drop (sep.length - 1)) else splitT sep (cur ++ [c]) y
termination_by _ y => y.length
decreasing_by all_goals simp <;> omega
def partT (sep : Tx) : Tx → Tx → Tx × Tx × Tx
  | cur, [] => (cur, [], [])
  | cur, c :: y => if sep.isPrefixOf (c :: y) then (cur, sep, (c :: y).drop sep.length) else partT sep (cur ++ [c]) y
/-- int(text) of plain digits -/
def numT (x : Tx) : Option Int := if x.isEmpty || x.any (fun c => c < 48 || 57 < c) then none else some (x.foldl (fun (a : Int) (c : Nat) => a * 10 + ((c : Int) - 48)) 0)

def strsW : List W → Option (List Tx)
  | [] => some []
  | .str x :: r => (strsW r).map (x :: ·)
  | _ => none
def intsW : List W → Option (List Int)
  | [] => some []
  | .int x :: r => (intsW r).map (x :: ·)
  | _ => none
def bls : List W → Option (List Bool)
  | [] => some []
  | .bl x :: r => (bls r).map (x :: ·)
  | _ => none

/-! ### terms -/
inductive Bop where | add | sub | mul | fdv | mod | pow
  deriving Repr, DecidableEq
inductive Cop where | eq | ne | lt | le | gt | ge | isn | ntn | inn | nin
  deriving Repr, DecidableEq
/-- built-in functions -/
inductive Bif where | len | sum | max | min | all | any | sorted | list | tuple | int | str | repr | set | dict | max2 | min2
  deriving Repr, DecidableEq
/-- methods of built-in types that leave the receiver as it is -/
inductive Bmt where | count | index | split | join | partition | get | items | values
  deriving Repr, DecidableEq
/-- .. that change it -/
inductive Cmt where | append | extend | pop | insert | clear | reverse | setdefault
  deriving Repr, DecidableEq
/-- a target -/
inductive Tg where | nam (i : Nat) | tup (ts : List Tg)
  deriving Repr, Inhabited
/-- a class that isinstance asks for -/
inductive Kd where | bool | int | str | list | tuple | none | cls (C : Nat)
  deriving Repr, DecidableEq
mutual
inductive E where
  | var (i : Nat) | cst (w : W) | glo (x : Nat) (w : W)
  | bin (op : Bop) (a b : E) | neg (a : E)
  | cmp (op : Cop) (a b : E) | chn (o1 o2 : Cop) (a b c : E)
  | bnd (a b : E) | bor (a b : E) | bnt (a : E)
  | ite (c a b : E)
  | tup (es : List E) | lst (es : List E) | dic (es : List E) (vs : List E)
  | alc (e : E) | frz (i : Nat)
  | sub (a i : E) | slc (a : E) (lo hi : Option E)
  | att (a : E) (f : Nat) | kon (C f : Nat)
  | cal (f : Nat) (es : List E) | new (C : Nat) (es : List E) | mth (a : E) (m : Nat) (es : List E)
  | bif (b : Bif) (es : List E) | isi (a : E) (ks : List Kd)
  | bmt (b : Bmt) (a : E) (es : List E) | cmt (c : Cmt) (a : E) (es : List E)
  | cpr (e : E) (t : Tg) (it : I) (ifs : Option E)
  | cp2 (e : E) (t : Tg) (it : I) (ifs : Option E) (t2 : Tg) (it2 : I) (ifs2 : Option E)
  | dcp (k v : E) (t : Tg) (it : I)
  | fst (es : List E)
  /-- the law's def that tells how a lambda ends -/
  | rfd (g : Nat) (e : E)
  | nvr
/-- what is walked -/
inductive I where
  | val (e : E) | rng (es : List E) | enu (e : E) (k : Option E) | zip (a b : E) | itm (e : E)
end
instance : Inhabited E := ⟨.cst .non⟩
inductive S where
  | ex (e : E) | set (i : Nat) (e : E) | own (i : Nat) (e : E) | unp (t : Tg) (e : E)
  | sti (o i e : E) | sta (o : E) (f : Nat) (e : E)
  | aug (i : Nat) (op : Bop) (e : E) | agi (o i : E) (op : Bop) (e : E) | aga (o : E) (f : Nat) (op : Bop) (e : E)
  | ret (e : E) | rtn
  | ife (c : E) (a b : List S)
  | for (t : Tg) (it : I) (b : List S)
  | whl (c : E) (b : List S)
  | brk | cnt | pas
  | rai (C : Nat) (es : List E)
  | dli (o i : E)
  | par (is : List Nat) (es : List E) | nvr
instance : Inhabited S := ⟨.pas⟩

/-- a def: how many parameters (defaults filled in by the callers' terms), how many slots; kind: 0 a def; 1 an __init__ whose object is let go frozen; 2 one whose object goes to the store -/
structure Fn where
  np : Nat
  nl : Nat
  body : List S
  deriving Inhabited
structure Cl where
  init : Option Nat
  frozen : Bool
  meths : List (Nat × Nat)
  props : List (Nat × Nat)
  consts : List (Nat × W)
  /-- an exception class: the parameters' and fields' names; the code's text -/
  exn : Option (List Nat × List Nat × Tx) := none
  bases : List Nat := []
  flds : List Nat := []
  deriving Inhabited
structure Pg where
  fns : List Fn
  cls : List Cl
  /-- the symbols of __eq__, __len__, __contains__, __repr__, __add__, __mul__ -/
  sEq : Nat := 0
  sLen : Nat := 1
  sIn : Nat := 2
  sRepr : Nat := 3
  sAdd : Nat := 4
  sMul : Nat := 5
  /-- the symbol of code; which field a caught exception tells: the codes' texts, the field -/
  sCode : Nat := 0
  rfd : List (List Tx × Nat) := []
  /-- the classes whose exceptions a lambda may raise -/
  rok : List Nat := []
  deriving Inhabited

/-! ### dicts -/
def kget (k : Ky) : List Ky → List W → Option W
  | g :: ks, w :: xs => if g = k then some w else kget k ks xs
  | _, _ => none
def krep (k : Ky) (v : W) : List Ky → List W → List W
  | g :: ks, w :: xs => (if g = k then v else w) :: krep k v ks xs
  | _, _ => []
def kput (k : Ky) (v : W) (ks : List Ky) (xs : List W) : List Ky × List W :=
  if ks.any (fun g => decide (g = k)) then (ks, krep k v ks xs) else (ks ++ [k], xs ++ [v])
def kyOf : W → Option Ky
  | .int i => some (.inl i)
  | .str x => some (.inr x)
  | _ => none
/-! ### meaning: values -/
def mulOk (i j : Int) : Bool := (decide (-(2 ^ 64) < i) && decide (i < 2 ^ 64)) || (decide (-(2 ^ 64) < j) && decide (j < 2 ^ 64))
/-- binary operators on values (views of lists) -/
def binW : Bop → W → W → Option W
  | .add, .int i, .int j => some (.int (i + j))
  | .sub, .int i, .int j => some (.int (i - j))
  | .mul, .int i, .int j => if mulOk i j then some (.int (i * j)) else none
  | .fdv, .int i, .int j => if 0 < j ∧ j < 1073741824 then some (.int (i / j)) else none
  | .mod, .int i, .int j => if 0 < j then some (.int (i % j)) else none
  | .pow, .int i, .int j => if 0 ≤ j ∧ j ≤ 1000000 ∧ i.natAbs < 2 ^ 64 then some (.int (i ^ j.toNat)) else none
  | .add, .str x, .str y => if x.length + y.length ≤ lineMax then some (.str (x ++ y)) else none
  | .add, .tup x, .tup y => if x.length + y.length ≤ lineMax then some (.tup (x ++ y)) else none
  | .add, .lst x, .lst y => if x.length + y.length ≤ lineMax then some (.lst (x ++ y)) else none
  | .mul, .lst x, .int k => if -(2 ^ 63) ≤ k ∧ k < 2 ^ 63 ∧ x.length * k.toNat ≤ lineMax then some (.lst (List.replicate k.toNat x).flatten) else none
  | _, _, _ => none
def cmpW : Cop → W → W → Option Bool
  | .lt, .int i, .int j => some (decide (i < j))
  | .le, .int i, .int j => some (decide (i ≤ j))
  | .gt, .int i, .int j => some (decide (j < i))
  | .ge, .int i, .int j => some (decide (j ≤ i))
  | .eq, a, b => if dOk a && dOk b then some (eqD a b) else none
  | .ne, a, b => if dOk a && dOk b then some (!eqD a b) else none
  | .inn, .str [x], .str y => some (decide (x ∈ y))
  | .nin, .str [x], .str y => some (!decide (x ∈ y))
  | .inn, x, .lst ys => if dOk x && dOk (.lst ys) then some (memD x ys) else none
  | .nin, x, .lst ys => if dOk x && dOk (.lst ys) then some (!memD x ys) else none
  | .inn, x, .tup ys => if dOk x && dOk (.tup ys) then some (memD x ys) else none
  | .nin, x, .tup ys => if dOk x && dOk (.tup ys) then some (!memD x ys) else none
  | .inn, x, .dct ks xs => (kyOf x).map fun k => (kget k ks xs).isSome
  | .nin, x, .dct ks xs => (kyOf x).map fun k => !(kget k ks xs).isSome
  | _, _, _ => none
/-- is None -/
def isnW : W → Option Bool
  | .non => some true
  | .sl _ => none
  | .glo _ => none
  | _ => some false
def truW : W → Option Bool
  | .non => some false
  | .bl b => some b
  | .int i => some (i != 0)
  | .str x => if x.length ≤ lineMax then some (!x.isEmpty) else none
  | .tup xs | .lst xs => some (!xs.isEmpty)
  | .dct ks _ => some (!ks.isEmpty)
  | _ => none
/-- a list or dict of the frame or the store in line, for a look at it -/
def vw (st : St) (w : W) : W := match w with
  | .loc _ | .sl _ => (match look st w with
    | some (.lst xs) => .lst xs
    | some (.dct ks xs) => .dct ks xs
    | _ => w)
  | w => w
/-- a list's place -/
def subW (a i : W) : Option W := match a, i with
  | .tup xs, .int k => (ixN xs.length k).bind fun j => xs[j]?
  | .lst xs, .int k => (ixN xs.length k).bind fun j => xs[j]?
  | .str x, .int k => if x.length ≤ lineMax then (ixN x.length k).bind fun j => (x[j]?).map fun c => .str [c] else none
  | .dct ks xs, k => (kyOf k).bind fun q => kget q ks xs
  | _, _ => none
def slcW (a : W) (lo hi : Option Int) : Option W := match a with
  | .tup xs => some (.tup (cut xs lo hi))
  | .lst xs => some (.lst (cut xs lo hi))
  | .str x => if x.length ≤ lineMax then some (.str (cut x lo hi)) else none
  | .scr ns => some (.lst ((cut ns lo hi).map .int))
  | _ => none
def lenW : W → Option Nat
  | .str x => if x.length ≤ lineMax then some x.length else none
  | .tup xs | .lst xs => some xs.length
  | .dct ks _ => some ks.length
  | _ => none
def maxI : List Int → Option Int
  | [] => none
  | x :: r => some (r.foldl max x)
def minI : List Int → Option Int
  | [] => none
  | x :: r => some (r.foldl min x)
def insI (x : Int) : List Int → List Int
  | [] => [x]
  | y :: r => if x ≤ y then x :: y :: r else y :: insI x r
def sortI : List Int → List Int
  | [] => []
  | x :: r => insI x (sortI r)
def leT : Tx → Tx → Bool
  | [], _ => true
  | _ :: _, [] => false
  | a :: x, b :: y => decide (a < b) || (decide (a = b) && leT x y)
def insT (x : Tx) : List Tx → List Tx
  | [] => [x]
  | y :: r => if leT x y then x :: y :: r else y :: insT x r
def sortT : List Tx → List Tx
  | [] => []
  | x :: r => insT x (sortT r)
/-- built-in functions on views -/
def bifW : Bif → List W → Option W
  | .len, [w] => (lenW w).map fun n => .int n
  | .sum, [.lst xs] => (intsW xs).map fun ns => .int ns.sum
  | .max, [.lst xs] => ((intsW xs).bind maxI).map .int
  | .min, [.lst xs] => ((intsW xs).bind minI).map .int
  | .max2, [.int i, .int j] => some (.int (if j > i then j else i))
  | .min2, [.int i, .int j] => some (.int (if j < i then j else i))
  | .all, [.lst xs] => (bls xs).map fun bs => .bl (bs.all id)
  | .any, [.lst xs] => (bls xs).map fun bs => .bl (bs.any id)
  | .list, [.lst xs] => some (.lst xs)
  | .list, [.tup xs] => some (.lst xs)
  | .tuple, [.lst xs] => some (.tup xs)
  | .tuple, [.tup xs] => some (.tup xs)
  | .int, [.int i] => some (.int i)
  | .int, [.bl b] => some (.int (if b then 1 else 0))
  | .str, [.int i] => if i.natAbs.log2 < 1920 then some (.str (dig i)) else none
  | .str, [.str x] => some (.str x)
  | .sorted, [.lst xs] => (intsW xs).map fun ns => .lst ((sortI ns).map .int)
  | _, _ => none
/-- a part of an f-string -/
def fmtW : W → Option Tx
  | .str x => if x.length ≤ lineMax then some x else none
  | .int i => if i.natAbs.log2 < 1920 then some (dig i) else none
  | _ => none
def bmtW : Bmt → W → List W → Option W
  | .count, .lst xs, [y] => if dOk y && dOk (.lst xs) then some (.int (xs.countP fun x => eqD x y)) else none
  | .count, .tup xs, [y] => if dOk y && dOk (.tup xs) then some (.int (xs.countP fun x => eqD x y)) else none
  | .index, .lst xs, [y] => if dOk y && dOk (.lst xs) then (xs.findIdx? fun x => eqD x y).map fun (j : Nat) => W.int (j : Int) else none
  | .get, .dct ks xs, [k] => (kyOf k).map fun q => (kget q ks xs).getD .non
  | _, _, _ => none
/-- what a method is asked of -/
def bmT : Bmt → W → Bool
  | .count, .lst _ => true
  | .index, .lst _ => true
  | .get, .dct _ _ => true
  | _, _ => false
def cmT : Cmt → Option OO → Bool
  | .setdefault, _ => false
  | _, some (.lst _) => true
  | _, _ => false
/-- methods that change: what is handed back, the object behind -/
def cmtW : Cmt → OO → List W → Option (W × OO)
  | .append, .lst xs, [y] => if xs.length < lineMax then some (.non, .lst (xs ++ [y])) else none
  | .extend, .lst xs, [.lst ys] => if xs.length + ys.length ≤ lineMax then some (.non, .lst (xs ++ ys)) else none
  | .pop, .lst xs, [] => (xs[xs.length - 1]?).map fun y => (y, .lst xs.dropLast)
  | .pop, .lst xs, [.int i] => if -(2 ^ 63) ≤ i ∧ i < 2 ^ 63 then (ixN xs.length i).bind fun k => (xs[k]?).map fun y => (y, .lst (xs.eraseIdx k)) else none
  | .insert, .lst xs, [.int i, y] => if xs.length < lineMax ∧ 0 ≤ i ∧ i < 2 ^ 63 then some (.non, .lst (xs.take i.toNat ++ [y] ++ xs.drop i.toNat)) else none
  | .clear, .lst _, [] => some (.non, .lst [])
  | .reverse, .lst xs, [] => some (.non, .lst xs.reverse)
  | _, _, _ => none
/-- fields by name -/
def fget (f : Nat) : List Nat → List W → Option W
  | g :: ns, w :: xs => if g = f then some w else fget f ns xs
  | _, _ => none
def fput (f : Nat) (v : W) : List Nat → List W → List Nat × List W
  | g :: ns, w :: xs => if g = f then (g :: ns, v :: xs) else let p := fput f v ns xs; (g :: p.1, w :: p.2)
  | _, _ => ([f], [v])
def stiW : OO → W → W → Option OO
  | .lst xs, .int k, v => (ixN xs.length k).map fun j => .lst (xs.set j v)
  | .dct ks xs, k, v => (kyOf k).bind fun q => if ks.length < lineMax then some (let p := kput q v ks xs; .dct p.1 p.2) else none
  | _, _, _ => none
def dliW : OO → W → Option OO
  | .lst xs, .int k => if -(2 ^ 63) ≤ k ∧ k < 2 ^ 63 then (ixN xs.length k).map fun j => .lst (xs.eraseIdx j) else none
  | _, _ => none
/-- a target takes a value -/
def tgW : Tg → W → List Sl → Option (List Sl)
  | .nam i, w, r => if i < r.length && okv w then some (r.set i (.val w)) else none
  | .tup ts, w, r => match w with
    | .tup xs => tgWs ts xs r
    | _ => none
where tgWs : List Tg → List W → List Sl → Option (List Sl)
  | [], [], r => some r
  | t :: ts, x :: xs, r => (tgW t x r).bind fun r1 => tgWs ts xs r1
  | _, _, _ => none
/-- the slots of a target's names -/
def tgIx : Tg → List Nat
  | .nam i => [i]
  | .tup ts => tgIxs ts
where tgIxs : List Tg → List Nat
  | [] => []
  | t :: ts => tgIx t ++ tgIxs ts
def clsOf (st : St) (w : W) : Option Nat := match look st w with
  | some (.ins C _ _) => some C
  | _ => none
/-- is it of the class C or one above -/
def subC (p : Pg) (C D : Nat) : Bool := C == D || (match p.cls[C]? with
  | some c => c.bases.contains D
  | none => false)
/-- a class whose instances are looked at -/
def clsG (p : Pg) (C : Nat) : Option Cl := (p.cls[C]?).bind fun c => if c.init.isSome then some c else none
/-- a value's type: a built-in one's name, or an own class -/
def tyW (st : St) : W → Option (Sum Nat Nat)
  | .non => some (.inl 0) | .bl _ => some (.inl 1) | .int _ => some (.inl 2) | .str _ => some (.inl 3) | .tup _ => some (.inl 4)
  | .scr _ => some (.inl 5) | .glo _ => none
  | w => match look st w with
    | some (.lst _) => some (.inl 5)
    | some (.dct _ _) => some (.inl 6)
    | some (.ins C _ _) => some (.inr C)
    | some .tab => none
    | none => none
def tyG (p : Pg) (st : St) (w : W) : Option (Sum Nat Nat) := (tyW st w).bind fun t => match t with
  | .inl n => some (.inl n)
  | .inr D => (clsG p D).map fun _ => .inr D
def kdN : Kd → Nat
  | .none => 0 | .bool => 1 | .int => 2 | .str => 3 | .tuple => 4 | .list => 5 | .cls _ => 9
def isK (p : Pg) (t : Sum Nat Nat) (k : Kd) : Option Bool := match k, t with
  | .none, _ => none
  | .cls D, .inl _ => (clsG p D).map fun _ => false
  | .cls D, .inr C => (clsG p C).bind fun _ => (clsG p D).map fun _ => subC p C D
  | k, .inl n => some (n == kdN k || (n == 1 && kdN k == 2))
  | k, .inr C => (clsG p C).map fun _ => false
def isKs (p : Pg) (st : St) (w : W) : List Kd → Option Bool
  | [] => some false
  | k :: ks => ((tyW st w).bind fun t => isK p t k).bind fun b => if b then some true else isKs p st w ks
/-- what is walked: fixed values; a list or tuple as it stands at each turn; its items numbered; two lists at once -/
inductive Src where
  | fix (xs : List W) | seq (w : W) | enu (w : W) | zip (a b : W)
  deriving Inhabited
/-- the items of what may be walked -/
def wkOf (st : St) (w : W) : Option (List W) := if okv w then seqOf st w else none
def wlOf (st : St) (w : W) : Option (List W) := if okv w then lstOf st w else none
/-- turn i: what comes, or the end -/
def Src.at (st : St) (i : Nat) : Src → Option (Option W)
  | .fix xs => some xs[i]?
  | .seq w => (wkOf st w).map fun xs => xs[i]?
  | .enu w => (wkOf st w).map fun xs => (xs[i]?).map fun x => .tup [.int (i : Int), x]
  | .zip a b => match a, b with
    | .tup xs, .tup ys => some (match xs[i]?, ys[i]? with | some x, some y => some (.tup [x, y]) | _, _ => none)
    | a, b => (wlOf st a).bind fun xs => (wlOf st b).map fun ys => match xs[i]?, ys[i]? with | some x, some y => some (.tup [x, y]) | _, _ => none
def Src.len (st : St) : Src → Nat
  | .fix xs => xs.length
  | .seq w => ((wkOf st w).getD []).length
  | .enu w => ((wkOf st w).getD []).length
  | .zip a _ => ((wkOf st a).getD []).length
/-- walk: m turns are left, turn i -/
def mapR (f : W → St → R (Option W)) (q : Src) : Nat → Nat → St → R (List W)
  | m, i, st => match q.at st i with
    | none => .stk
    | some none => .ok [] st
    | some (some x) => match m with
      | 0 => .stk
      | m + 1 => (f x st).bind fun o st1 => (mapR f q m (i + 1) st1).bind fun ys st2 => .ok (match o with | some y => y :: ys | none => ys) st2
def forR (tg : W → List Sl → Option (List Sl)) (b : St → R Fl) (q : Src) : Nat → Nat → St → R Fl
  | m, i, st => match q.at st i with
    | none => .stk
    | some none => .ok .nx st
    | some (some x) => match m with
      | 0 => .stk
      | m + 1 => (match tg x st.r with
        | none => .stk
        | some r => (b ⟨r, st.s⟩).bind fun f st2 => match f with
          | .nx => forR tg b q m (i + 1) st2
          | .cnt => forR tg b q m (i + 1) st2
          | .brk => .ok .nx st2
          | .ret w => .ok (.ret w) st2)
def whlR (c : St → R Bool) (b : St → R Fl) : Nat → St → R Fl
  | 0, _ => .stk
  | n + 1, st => (c st).bind fun k st1 => if k then (b st1).bind fun f st2 => (match f with
      | .nx => whlR c b n st2
      | .cnt => whlR c b n st2
      | .brk => .ok .nx st2
      | .ret w => .ok (.ret w) st2) else .ok .nx st1
/-- the slots of a comprehension's names, wiped before, restored behind -/
def wipe (r : List Sl) : List Nat → List Sl
  | [] => r
  | i :: is => (wipe r is).set i .un
/-- no own object lies under the names -/
def noOwn (r : List Sl) : List Nat → Bool
  | [] => true
  | i :: is => (match r[i]? with | some (.own _) => false | some _ => true | none => false) && noOwn r is
/-- behind a comprehension the outer slots stand again -/
def backS (is : List Nat) (r0 r1 : List Sl) : List Sl := match is with
  | [] => r1
  | i :: js => (backS js r0 r1).set i (r0.getD i .un)
def rngW : List W → Option (List W)
  | [.int j] => if -(2 ^ 62) ≤ j ∧ j < 2 ^ 62 then some ((List.range j.toNat).map fun (k : Nat) => W.int (k : Int)) else none
  | [.int i, .int j] => if -(2 ^ 62) ≤ i ∧ i < 2 ^ 62 ∧ -(2 ^ 62) ≤ j ∧ j < 2 ^ 62 then some ((List.range (j - i).toNat).map fun (k : Nat) => W.int (i + (k : Int))) else none
  | [.int i, .int j, .int (-1)] => if -(2 ^ 62) ≤ i ∧ i < 2 ^ 62 ∧ -(2 ^ 62) ≤ j ∧ j < 2 ^ 62 then some ((List.range (i - j).toNat).map fun (k : Nat) => W.int (i - (k : Int))) else none
  | _ => none
def enuW (k : Int) : List W → List W
  | [] => []
  | x :: xs => .tup [.int k, x] :: enuW (k + 1) xs
def zipW : List W → List W → List W
  | x :: xs, y :: ys => .tup [x, y] :: zipW xs ys
  | _, _ => []

def dicW (qs : List Ky) (ws : List W) : List Ky × List W := (qs.zip ws).foldl (fun a q => kput q.1 q.2 a.1 a.2) ([], [])
def prsW (ys : List W) : Option (List Ky × List W) := ys.foldl (fun a y => match a, y with
      | some a, .tup [k, v] => (kyOf k).map fun q => kput q v a.1 a.2
      | _, _ => none) (some ([], []))
/-- the field that a caught exception tells -/
def fldX : List (List Tx × Nat) → Tx → List Nat → List W → Option W
  | [], _, _, _ => some .non
  | (ts, f) :: r, c, ns, xs => if c ∈ ts then fget f ns xs else fldX r c ns xs
/-- how a lambda's end is told -/
def refR (p : Pg) : R W → R W
  | .ok _ st => .ok (.tup [.str [], .non]) st
  | .exc x st => if !p.rok.contains x.C then .stk else match fget p.sCode x.ns x.xs with
    | some (.str c) => (match fldX p.rfd c x.ns x.xs with
      | some w => .ok (.tup [.str c, w]) st
      | none => .stk)
    | _ => .stk
  | .stk => .stk
/-! ### meaning: terms -/
section
variable (p : Pg) (cal : Bool → Nat → List W → List OO → RC) (wf : Nat)
/-- a call, seen from a frame -/
def callR (k : Bool) (f : Nat) (ws : List W) (st : St) : R W := if okvs ws then (cal k f ws st.s).at st.r else .stk
def metOf (C m : Nat) : Option Nat := (clsG p C).bind fun c => c.meths.lookup m
/-- an operator by an own method -/
def ownR (m : Nat) (a : W) (ws : List W) (st : St) (els : R W) : R W := match clsOf st a with
  | some C => (match metOf p C m with
    | some f => callR cal false f (a :: ws) st
    | none => .stk)
  | none => els
def blR (r : R W) : R W := r.bind fun w st => match w with
  | .bl b => .ok (.bl b) st
  | _ => .stk
def notR (r : R W) : R W := r.bind fun w st => match w with
  | .bl b => .ok (.bl !b) st
  | _ => .stk
def binR (op : Bop) (a b : W) (st : St) : R W := match op with
  | .add => (match clsOf st a with
    | some C => if clsOf st b = some C then noL (ownR p cal p.sAdd a [b] st .stk) else .stk
    | none => .lift st (binW op (vw st a) (vw st b)))
  | .mul => (match clsOf st a with
    | some C => if clsOf st b = some C then noL (ownR p cal p.sMul a [b] st .stk) else .stk
    | none => .lift st (binW op (vw st a) (vw st b)))
  | op => .lift st (binW op (vw st a) (vw st b))
def cmpR (op : Cop) (a b : W) (st : St) : R W :=
  let plain : R W := .lift st ((cmpW op (vw st a) (vw st b)).map .bl)
  match op with
  | .eq => (match clsOf st a with
    | some _ => (match tyG p st b with
      | some _ => blR (ownR p cal p.sEq a [b] st .stk)
      | none => .stk)
    | none => plain)
  | .ne => (match clsOf st a with
    | some _ => (match tyG p st b with
      | some _ => notR (ownR p cal p.sEq a [b] st .stk)
      | none => .stk)
    | none => plain)
  | .inn => (match clsOf st b with
    | some _ => blR (ownR p cal p.sIn b [a] st .stk)
    | none => plain)
  | .nin => (match clsOf st b with
    | some _ => notR (ownR p cal p.sIn b [a] st .stk)
    | none => plain)
  | .isn => .lift st (match b with | .non => (isnW a).map .bl | _ => none)
  | .ntn => .lift st (match b with | .non => (isnW a).map fun k => .bl !k | _ => none)
  | _ => plain
def truR (w : W) (st : St) : R Bool := .lift st (truW (vw st w))
def attR (f : Nat) (a : W) (st : St) : R W := match look st a with
  | some (.ins C ns xs) => (match clsG p C with
    | none => .stk
    | some c => (match c.props.lookup f with
      | some g => (callR cal false g [a] st).calm
      | none => (match fget f ns xs with
        | some w => if c.flds.contains f then .ok w st else .stk
        | none => .lift st (c.consts.lookup f))))
  | _ => .stk
/-- a.m(..) -/
def mthF (m : Nat) (a : W) (st : St) : Option Nat := match look st a with
  | some (.ins C ns _) => if ns.contains m then none else metOf p C m
  | _ => none
def fldOk (C f : Nat) : Bool := match clsG p C with
  | some c => c.flds.contains f
  | none => false
def bifR (b : Bif) (ws : List W) (st : St) : R W := match b, ws with
  | .len, [w] => (match clsOf st w with
    | some _ => (ownR p cal p.sLen w [] st .stk).bind fun v st1 => (match v with
      | .int i => if 0 ≤ i ∧ i < 2 ^ 63 then .ok (.int i) st1 else .stk
      | _ => .stk)
    | none => .lift st (bifW .len [vw st w]))
  | .repr, [w] => (ownR p cal p.sRepr w [] st .stk).bind fun v st1 => (match v with
      | .str x => .ok (.str x) st1
      | _ => .stk)
  | b, ws => .lift st (bifW b (ws.map (vw st)))
mutual
def evE : E → St → R W
  | .var i, st => match st.r[i]? with
    | some (.val w) => .ok w st
    | some (.own _) => .ok (.sl i) st
    | _ => .stk
  | .cst w, st => .ok w st
  | .glo _ w, st => .ok w st
  | .bin op a b, st => (evE a st).bind fun x st1 => (evE b st1).bind fun y st2 => binR p cal op x y st2
  | .neg a, st => (evE a st).bind fun x st1 => match x with
    | .int i => .ok (.int (-i)) st1
    | _ => .stk
  | .cmp op a b, st => (evE a st).bind fun x st1 => (evE b st1).bind fun y st2 => cmpR p cal op x y st2
  | .chn o1 o2 a b c, st => (evE a st).bind fun x st1 => (evE b st1).bind fun y st2 => (cmpR p cal o1 x y st2).bind fun k st3 => match k with
    | .bl true => (evE c st3).bind fun z st4 => cmpR p cal o2 y z st4
    | .bl false => .ok (.bl false) st3
    | _ => .stk
  | .bnd a b, st => (evE a st).bind fun x st1 => match x with
    | .bl true => evE b st1
    | .bl false => .ok (.bl false) st1
    | _ => .stk
  | .bor a b, st => (evE a st).bind fun x st1 => match x with
    | .bl true => .ok (.bl true) st1
    | .bl false => evE b st1
    | _ => .stk
  | .bnt a, st => (evE a st).bind fun x st1 => (truR x st1).bind fun k st2 => .ok (.bl !k) st2
  | .ite c a b, st => (evE c st).bind fun x st1 => (truR x st1).bind fun k st2 => if k then evE a st2 else evE b st2
  | .tup es, st => (evEs es st).bind fun ws st1 => if okvs ws && decide (ws.length ≤ lineMax) then .ok (.tup ws) st1 else .stk
  | .lst es, st => (evEs es st).bind fun ws st1 => if okvs ws && decide (ws.length ≤ lineMax) then .ok (.lst ws) st1 else .stk
  | .dic es vs, st => (evEs es st).bind fun ks st1 => (evEs vs st1).bind fun ws st2 => if okvs ws then (match ks.mapM kyOf with
      | some qs => .ok (let q := dicW qs ws; .dct q.1 q.2) st2
      | none => .stk) else .stk
  | .alc e, st => (evE e st).bind fun w st1 => if isL w then .ok (.loc st1.s.length) ⟨st1.r, st1.s ++ [oOf w]⟩ else .stk
  | .frz i, st => match st.r[i]? with
    | some (.own (.lst xs)) => .ok (.lst xs) ⟨st.r.set i (.val (.lst xs)), st.s⟩
    | some (.own (.dct ks xs)) => .ok (.dct ks xs) ⟨st.r.set i (.val (.dct ks xs)), st.s⟩
    | some (.val w) => .ok w st
    | _ => .stk
  | .sub a i, st => (evE a st).bind fun x st1 => (evE i st1).bind fun y st2 => .lift st2 (subW (vw st2 x) y)
  | .slc a lo hi, st => (evE a st).bind fun x st1 => (evO lo st1).bind fun l st2 => (evO hi st2).bind fun h st3 => .lift st3 (slcW (vw st3 x) l h)
  | .att a f, st => (evE a st).bind fun x st1 => attR p cal f x st1
  | .kon C f, st => .lift st ((p.cls[C]?).bind fun c => c.consts.lookup f)
  | .cal f es, st => (evEs es st).bind fun ws st1 => callR cal false f ws st1
  | .new C es, st => (evEs es st).bind fun ws st1 => callR cal true C ws st1
  | .mth a m es, st => (evE a st).bind fun x st1 => match mthF p m x st1 with
    | some f => (evEs es st1).bind fun ws st2 => callR cal false f (x :: ws) st2
    | none => .stk
  | .bif b es, st => (evEs es st).bind fun ws st1 => bifR p cal b ws st1
  | .isi a ks, st => (evE a st).bind fun x st1 => .lift st1 ((isKs p st1 x ks).map .bl)
  | .bmt b a es, st => (evE a st).bind fun x st1 => if bmT b (vw st1 x) then (evEs es st1).bind fun ws st2 => if bmT b (vw st2 x) then .lift st2 (bmtW b (vw st2 x) (ws.map (vw st2))) else .stk else .stk
  | .cmt c a es, st => (evE a st).bind fun x st1 => if cmT c (look st1 x) then (evEs es st1).bind fun ws st2 => (match look st2 x with
    | some o => if okvs ws || c = .extend then (match cmtW c o (ws.map fun w => if c = .extend then vw st2 w else w) with
      | some (w, o') => (match put st2 o' x with
        | some st3 => .ok w st3
        | none => .stk)
      | none => .stk) else .stk
    | none => .stk) else .stk
  | .cpr e t it c, st => (evI it st).bind fun q st1 => let is := tgIx t
      if noOwn st1.r is then
      (mapR (fun x st2 => match (if noOwn st2.r is then tgW t x (wipe st2.r is) else none) with
        | none => .stk
        | some r => R.calm ((evT c ⟨r, st2.s⟩).bind fun k st3 => if k then (evE e st3).bind fun y st4 => if okv y then .ok (some y) st4 else .stk else .ok none st3)) q (q.len st1) 0 st1).bind fun ys st5 =>
      if decide (ys.length ≤ lineMax) && noOwn st5.r is then .ok (.lst ys) ⟨backS is st1.r st5.r, st5.s⟩ else .stk else .stk
  | .cp2 .., _ => .stk
  | .dcp k v t it, st => (evI it st).bind fun q st1 => let is := tgIx t
      if noOwn st1.r is then
      (mapR (fun x st2 => match (if noOwn st2.r is then tgW t x (wipe st2.r is) else none) with
        | none => .stk
        | some r => R.calm ((evE k ⟨r, st2.s⟩).bind fun y st3 => (evE v st3).bind fun z st4 => if okv z && (kyOf y).isSome then .ok (some (.tup [y, z])) st4 else .stk)) q (q.len st1) 0 st1).bind fun ys st5 =>
      (match prsW ys with
      | some q => if decide (ys.length ≤ lineMax) && noOwn st5.r is then .ok (.dct q.1 q.2) ⟨backS is st1.r st5.r, st5.s⟩ else .stk
      | none => .stk) else .stk
  | .fst es, st => evJ es [] st
  | .rfd _ e, st => match st.s[0]? with
    | some OO.tab => refR p (evE e st)
    | _ => .stk
  | .nvr, _ => .stk
def evJ : List E → Tx → St → R W
  | [], acc, st => .ok (.str acc) st
  | e :: es, acc, st => (evE e st).bind fun w st1 => match fmtW w with
    | some y => if acc.length + y.length ≤ lineMax then evJ es (acc ++ y) st1 else .stk
    | none => .stk
def evEs : List E → St → R (List W)
  | [], st => .ok [] st
  | e :: es, st => (evE e st).bind fun w st1 => (evEs es st1).bind fun ws st2 => .ok (w :: ws) st2
def evO : Option E → St → R (Option Int)
  | none, st => .ok none st
  | some e, st => (evE e st).bind fun w st1 => match w with
    | .int i => .ok (some i) st1
    | _ => .stk
def evT : Option E → St → R Bool
  | none, st => .ok true st
  | some e, st => (evE e st).bind fun w st1 => truR w st1
def evI : I → St → R Src
  | .val e, st => (evE e st).bind fun w st1 => match w with
    | .str x => .ok (.fix (x.map fun c => .str [c])) st1
    | w => if (wkOf st1 w).isSome then .ok (.seq w) st1 else .stk
  | .rng es, st => (evEs es st).bind fun ws st1 => .lift st1 ((rngW ws).map .fix)
  | .enu e k, st => match k with
    | some _ => .stk
    | none => (evE e st).bind fun w st1 => if (wkOf st1 w).isSome then .ok (.enu w) st1 else .stk
  | .zip a b, st => (evE a st).bind fun x st1 => (evE b st1).bind fun y st2 => if (Src.at st2 0 (.zip x y)).isSome then .ok (.zip x y) st2 else .stk
  | .itm _, _ => .stk
end
/-! ### meaning: statements -/
/-- slots take values -/
def setVs : List Nat → List W → List Sl → List Sl
  | i :: is, w :: ws, r => setVs is ws (r.set i (.val w))
  | _, _, r => r
/-- o.f = v -/
def staW (p : Pg) (f : Nat) (v : W) : OO → Option OO
  | .ins C ns xs => if ns.length < 900 && fldOk p C f then some (let q := fput f v ns xs; .ins C q.1 q.2) else none
  | _ => none
mutual
def exS : S → St → R Fl
  | .ex e, st => (evE p cal e st).bind fun _ st1 => .ok .nx st1
  | .set i e, st => (evE p cal e st).bind fun w st1 => if okv w && decide (i < st1.r.length) then .ok .nx ⟨st1.r.set i (.val w), st1.s⟩ else .stk
  | .own i e, st => (evE p cal e st).bind fun w st1 => if decide (i < st1.r.length) && isL w then .ok .nx ⟨st1.r.set i (.own (oOf w)), st1.s⟩ else .stk
  | .unp t e, st => (evE p cal e st).bind fun w st1 => match tgW t w st1.r with
    | some r => .ok .nx ⟨r, st1.s⟩
    | none => .stk
  | .sti o i e, st => (evE p cal e st).bind fun v st1 => (evE p cal o st1).bind fun x st2 => (evE p cal i st2).bind fun k st3 =>
      match (look st3 x).bind fun ob => if okv v then (stiW ob k v).bind fun ob' => put st3 ob' x else none with
      | some st4 => .ok .nx st4
      | none => .stk
  | .sta o f e, st => (evE p cal e st).bind fun v st1 => (evE p cal o st1).bind fun x st2 =>
      match (look st2 x).bind fun ob => if okv v then (staW p f v ob).bind fun ob' => put st2 ob' x else none with
      | some st3 => .ok .nx st3
      | none => .stk
  | .aug i op e, st => match st.r[i]? with
    | some (.val x) => (evE p cal e st).bind fun y st1 => match binW op x (vw st1 y) with
      | some (.int k) => .ok .nx ⟨st1.r.set i (.val (.int k)), st1.s⟩
      | _ => .stk
    | _ => .stk
  | .agi o i op e, st => (evE p cal o st).bind fun x st1 => (evE p cal i st1).bind fun k st2 => match subW (vw st2 x) k with
    | some old => (evE p cal e st2).bind fun y st3 => (match binW op old y with
      | some (.int z) => (match (look st3 x).bind fun ob => (stiW ob k (.int z)).bind fun ob' => put st3 ob' x with
        | some st4 => .ok .nx st4
        | none => .stk)
      | _ => .stk)
    | none => .stk
  | .aga o f op e, st => (evE p cal o st).bind fun x st1 => match look st1 x with
    | some (.ins C ns xs) => (match fget f ns xs with
      | some old => (evE p cal e st1).bind fun y st2 => (match binW op old y with
        | some (.int z) => (match (look st2 x).bind fun ob => (staW p f (.int z) ob).bind fun ob' => put st2 ob' x with
          | some st3 => .ok .nx st3
          | none => .stk)
        | _ => .stk)
      | none => .stk)
    | _ => .stk
  | .ret e, st => (evE p cal e st).bind fun w st1 => if okv w then .ok (.ret w) st1 else .stk
  | .rtn, st => .ok (.ret .non) st
  | .ife c a b, st => (evE p cal c st).bind fun w st1 => (truR w st1).bind fun k st2 => if k then exSs a st2 else exSs b st2
  | .for t it b, st => (evI p cal it st).bind fun xs st1 => forR (tgW t) (exSs b) xs (xs.len st1) 0 st1
  | .whl c b, st => whlR (fun st1 => (evE p cal c st1).bind fun w st2 => truR w st2) (exSs b) wf st
  | .brk, st => .ok .brk st
  | .cnt, st => .ok .cnt st
  | .pas, st => .ok .nx st
  | .rai C es, st => (evEs p cal es st).bind fun ws st1 => match p.cls[C]? with
    | some c => (match c.exn with
      | some (ps, ns, code) => if ps.length = ws.length && okvs ws then .exc ⟨C, ns, ws ++ [.str code]⟩ st1 else .stk
      | none => .stk)
    | none => .stk
  | .nvr, _ => .stk
  | .par is es, st => (evEs p cal es st).bind fun ws st1 => if okvs ws && decide (is.length = ws.length) && is.all (fun i => decide (i < st1.r.length)) then .ok .nx ⟨setVs is ws st1.r, st1.s⟩ else .stk
  | .dli o i, st => (evE p cal o st).bind fun x st1 => (evE p cal i st1).bind fun k st2 =>
      match (look st2 x).bind fun ob => (dliW ob k).bind fun ob' => put st2 ob' x with
      | some st3 => .ok .nx st3
      | none => .stk
def exSs : List S → St → R Fl
  | [], st => .ok .nx st
  | a :: b, st => (exS a st).bind fun f st1 => match f with
    | .nx => exSs b st1
    | f => .ok f st1
end
/-- a def's body run -/
def runF (f : Fn) (r0 : List Sl) (s : List OO) : R Fl := exSs p cal wf f.body ⟨r0 ++ List.replicate (f.nl - r0.length) .un, s⟩
end
def endF : R Fl → RC
  | .ok .nx st => .ok .non st.s
  | .ok (.ret w) st => .ok w st.s
  | .exc x st => .exc x st.s
  | _ => .stk
def endN (fz : Bool) : R Fl → RC
  | .ok .nx (st : St) => match (st.r[0]? : Option Sl) with
    | some (Sl.own (OO.ins C ns xs)) => if fz then .ok (.obj C ns xs) st.s else .ok (.loc st.s.length) (st.s ++ [.ins C ns xs])
    | _ => .stk
  | .exc x st => .exc x st.s
  | _ => .stk
def callN (p : Pg) (wf : Nat) : Nat → Bool → Nat → List W → List OO → RC
  | 0, _, _, _, _ => .stk
  | k + 1, false, f, ws, s => match p.fns[f]? with
    | some fn => if ws.length = fn.np then endF (runF p (callN p wf k) wf fn (ws.map .val) s) else .stk
    | none => .stk
  | k + 1, true, C, ws, s => match p.cls[C]? with
    | some c => (match c.init with
      | some g => (match p.fns[g]? with
        | some fn => if ws.length + 1 = fn.np then endN c.frozen (runF p (callN p wf k) wf fn (.own (.ins C [] []) :: ws.map .val) s) else .stk
        | none => .stk)
      | none => .stk)
    | none => .stk
end Ev

/-! M0: rules by which the evaluator is run. -/
namespace Ev
section
variable {p : Pg} {cal : Bool → Nat → List W → List OO → RC} {wf : Nat} {r : List Sl} {s : List OO} {st : St} {i j : Int} {n k : Nat} {b c : Bool} {x y : Tx} {xs ys : List W} {ks : List Ky} {w v : W} {α β : Type}
theorem callN_fn {p : Pg} {wf n f : Nat} {fn : Fn} {ws : List W} {s : List OO} (h : p.fns[f]? = some fn) (hl : ws.length = fn.np) : callN p wf (n + 1) false f ws s = endF (exSs p (callN p wf n) wf fn.body ⟨ws.map .val ++ List.replicate (fn.nl - ws.length) .un, s⟩) := by
  simp only [callN, h]
  rw [if_pos hl]
  simp [runF]
theorem r_ok {a : α} {f : α → St → R β} : (R.ok a st).bind f = f a st := id rfl
theorem r_lift {a : α} : R.lift st (some a) = .ok a st := id rfl
theorem r_lift0 : R.lift st (none : Option α) = .stk := id rfl
theorem r_calm {a : α} : (R.ok a st).calm = .ok a st := id rfl
theorem r_at {w : W} {s' : List OO} : (RC.ok w s').at r = .ok w ⟨r, s'⟩ := id rfl
theorem e_nx : endF (.ok .nx st) = .ok .non st.s := id rfl
theorem e_ret : endF (.ok (.ret w) st) = .ok w st.s := id rfl
theorem s_nil : exSs p cal wf [] st = .ok .nx st := by rw [exSs]
theorem s_cons {a : S} {b : List S} : exSs p cal wf (a :: b) st = (exS p cal wf a st).bind fun f st1 => match f with
  | .nx => exSs p cal wf b st1
  | f => .ok f st1 := by
  rw [exSs] <;> rfl
/-! looks -/
theorem lk_loc : look ⟨r, s⟩ (.loc n) = s[n]? := id rfl
theorem lk_sl : look ⟨r, s⟩ (.sl n) = match r[n]? with
  | some (.own o) => some o
  | _ => none := rfl
theorem lk_lst : look st (.lst xs) = some (.lst xs) := id rfl
theorem lk_dct : look st (.dct ks xs) = some (.dct ks xs) := id rfl
theorem lk_obj {C : Nat} {ns : List Nat} : look st (.obj C ns xs) = some (.ins C ns xs) := id rfl
theorem lk_tup : look st (.tup xs) = none := id rfl
theorem lk_int : look st (.int i) = none := id rfl
theorem lk_str : look st (.str x) = none := id rfl
theorem lk_bl : look st (.bl b) = none := id rfl
theorem lk_non : look st .non = none := id rfl
theorem vw_loc : vw ⟨r, s⟩ (.loc n) = match s[n]? with
  | some (.lst xs) => .lst xs
  | some (.dct ks xs) => .dct ks xs
  | _ => .loc n := rfl
theorem vw_sl : vw ⟨r, s⟩ (.sl n) = match (match r[n]? with
  | some (.own o) => some o
  | _ => none) with
  | some (.lst xs) => .lst xs
  | some (.dct ks xs) => .dct ks xs
  | _ => .sl n := rfl
theorem vw_lst : vw st (.lst xs) = .lst xs := id rfl
theorem vw_dct : vw st (.dct ks xs) = .dct ks xs := id rfl
theorem vw_tup : vw st (.tup xs) = .tup xs := id rfl
theorem vw_int : vw st (.int i) = .int i := id rfl
theorem vw_str : vw st (.str x) = .str x := id rfl
theorem vw_bl : vw st (.bl b) = .bl b := id rfl
theorem vw_non : vw st .non = .non := id rfl
theorem vw_scr {ns : List Int} : vw st (.scr ns) = .scr ns := id rfl
/-! operators -/
theorem b_add : binR p cal .add (.int i) (.int j) st = .ok (.int (i + j)) st := id rfl
theorem b_sub : binR p cal .sub (.int i) (.int j) st = .ok (.int (i - j)) st := id rfl
theorem b_mul (h : mulOk i j = true) : binR p cal .mul (.int i) (.int j) st = .ok (.int (i * j)) st := by
  show R.lift st (binW .mul (.int i) (.int j)) = _
  simp only [binW, h, if_true, r_lift]
theorem b_fdv (h : 0 < j ∧ j < 1073741824) : binR p cal .fdv (.int i) (.int j) st = .ok (.int (i / j)) st := by
  show R.lift st (binW .fdv (.int i) (.int j)) = _
  simp only [binW]
  rw [if_pos h]; rfl
theorem b_mod (h : 0 < j) : binR p cal .mod (.int i) (.int j) st = .ok (.int (i % j)) st := by
  show R.lift st (binW .mod (.int i) (.int j)) = _
  simp only [binW]
  rw [if_pos h]; rfl
theorem b_pow (h : 0 ≤ j ∧ j ≤ 1000000 ∧ i.natAbs < 2 ^ 64) : binR p cal .pow (.int i) (.int j) st = .ok (.int (i ^ j.toNat)) st := by
  show R.lift st (binW .pow (.int i) (.int j)) = _
  simp only [binW]
  rw [if_pos h]; rfl
theorem b_addL (h : xs.length + ys.length ≤ lineMax) : binR p cal .add (.lst xs) (.lst ys) st = .ok (.lst (xs ++ ys)) st := by
  show R.lift st (binW .add (.lst xs) (.lst ys)) = _
  simp only [binW]
  rw [if_pos h]; rfl
theorem b_addT (h : xs.length + ys.length ≤ lineMax) : binR p cal .add (.tup xs) (.tup ys) st = .ok (.tup (xs ++ ys)) st := by
  show R.lift st (binW .add (.tup xs) (.tup ys)) = _
  simp only [binW]
  rw [if_pos h]; rfl
theorem b_addS (h : x.length + y.length ≤ lineMax) : binR p cal .add (.str x) (.str y) st = .ok (.str (x ++ y)) st := by
  show R.lift st (binW .add (.str x) (.str y)) = _
  simp only [binW]
  rw [if_pos h]; rfl
theorem c_lt : cmpR p cal .lt (.int i) (.int j) st = .ok (.bl (decide (i < j))) st := id rfl
theorem c_le : cmpR p cal .le (.int i) (.int j) st = .ok (.bl (decide (i ≤ j))) st := id rfl
theorem c_gt : cmpR p cal .gt (.int i) (.int j) st = .ok (.bl (decide (j < i))) st := id rfl
theorem c_ge : cmpR p cal .ge (.int i) (.int j) st = .ok (.bl (decide (j ≤ i))) st := id rfl
theorem c_eqi : cmpR p cal .eq (.int i) (.int j) st = .ok (.bl (i == j)) st := id rfl
theorem c_nei : cmpR p cal .ne (.int i) (.int j) st = .ok (.bl (!(i == j))) st := id rfl
theorem c_eqb : cmpR p cal .eq (.bl b) (.bl c) st = .ok (.bl (b == c)) st := id rfl
theorem c_neb : cmpR p cal .ne (.bl b) (.bl c) st = .ok (.bl (!(b == c))) st := id rfl
theorem c_eqs : cmpR p cal .eq (.str x) (.str y) st = .ok (.bl (x == y)) st := id rfl
theorem c_nes : cmpR p cal .ne (.str x) (.str y) st = .ok (.bl (!(x == y))) st := id rfl
/-! truth -/
theorem t_bl : truR (.bl b) st = .ok b st := id rfl
theorem t_int : truR (.int i) st = .ok (i != 0) st := id rfl
/-! places -/
theorem sb_lst {i : Int} : subW (.lst xs) (.int i) = (ixN xs.length i).bind fun j => xs[j]? := id rfl
theorem sb_tup {i : Int} : subW (.tup xs) (.int i) = (ixN xs.length i).bind fun j => xs[j]? := id rfl
theorem ix_nat {n : Nat} {i : Int} (h : 0 ≤ i ∧ i < n) : ixN n i = some i.toNat := by
  unfold ixN
  rw [if_pos h.1, if_pos h.2]
/-! built-ins -/
theorem f_lenL : bifR p cal .len [.lst xs] st = .ok (.int xs.length) st := id rfl
theorem f_lenT : bifR p cal .len [.tup xs] st = .ok (.int xs.length) st := id rfl
theorem f_lenLoc (h : s[n]? = some (.lst xs)) : bifR p cal .len [.loc n] ⟨r, s⟩ = .ok (.int xs.length) ⟨r, s⟩ := by
  simp only [bifR, clsOf, look, h, vw, bifW, lenW, Option.map_some, R.lift]
  rfl
theorem f_lenSl (h : r[n]? = some (.own (.lst xs))) : bifR p cal .len [.sl n] ⟨r, s⟩ = .ok (.int xs.length) ⟨r, s⟩ := by
  simp only [bifR, clsOf, look, h, vw, bifW, lenW, Option.map_some, R.lift]
  rfl
theorem f_int : bifR p cal .int [.int i] st = .ok (.int i) st := id rfl
theorem o_non : okv .non = true := id rfl
theorem o_bl : okv (.bl b) = true := id rfl
theorem o_int : okv (.int i) = true := id rfl
theorem o_str : okv (.str x) = true := id rfl
theorem o_lst : okv (.lst xs) = true := id rfl
theorem o_tup : okv (.tup xs) = true := id rfl
theorem o_dct : okv (.dct ks xs) = true := id rfl
theorem o_obj {C : Nat} {ns : List Nat} : okv (.obj C ns xs) = true := id rfl
theorem o_loc : okv (.loc n) = true := id rfl
theorem o_scr {ns : List Int} : okv (.scr ns) = true := id rfl
/-! objects changed -/
theorem pt_loc {o : OO} (h : n < s.length) : Ev.put ⟨r, s⟩ o (.loc n) = some ⟨r, s.set n o⟩ := by
  simp only [Ev.put, h, if_true]
theorem st_lst {i : Int} : stiW (.lst xs) (.int i) v = (ixN xs.length i).map fun j => .lst (xs.set j v) := id rfl
end
end Ev

/-! M1: what the laws' own helpers compute. -/
namespace Ev
/-- _law_draw -/
def fDraw : Fn := ⟨2, 6, [.ife (.cmp .lt (.sub (.var 0) (.cst (.int 2))) (.cst (.int 2))) [.sti (.var 0) (.cst (.int 1)) (.bin .add (.sub (.var 0) (.cst (.int 1))) (.cst (.int 1))),
    .set 2 (.bin .add (.sub (.var 0) (.cst (.int 3))) (.bin .mul (.sub (.var 0) (.cst (.int 1))) (.cst (.int 5167)))),
    .ife (.cmp .le (.sub (.var 0) (.cst (.int 1))) (.bif .len [(.sub (.var 0) (.cst (.int 0)))])) [.set 2 (.sub (.sub (.var 0) (.cst (.int 0))) (.bin .sub (.sub (.var 0) (.cst (.int 1))) (.cst (.int 1))))] [],
    .ife (.bor (.cmp .gt (.sub (.var 0) (.cst (.int 1))) (.bif .len [(.sub (.var 0) (.cst (.int 0)))])) (.cmp .lt (.var 2) (.bin .pow (.cst (.int 10)) (.cst (.int 18))))) [.set 3 (.bin .mod (.bif .int [(.bin .add (.bin .add (.bin .mul (.var 2) (.cst (.int 48271))) (.bin .mul (.sub (.var 0) (.cst (.int 1))) (.cst (.int 40692)))) (.sub (.var 0) (.cst (.int 3))))]) (.cst (.int 2147483647))),
    .set 4 (.bin .mod (.bif .int [(.bin .add (.bin .mul (.var 3) (.var 3)) (.bin .mul (.sub (.var 0) (.cst (.int 1))) (.cst (.int 16807))))]) (.cst (.int 998244353))),
    .ret (.bin .mod (.bin .fdv (.bin .mod (.bif .int [(.bin .add (.bin .mul (.var 4) (.cst (.int 69621))) (.var 3))]) (.cst (.int 2147483629))) (.cst (.int 13))) (.var 1))] [],
    .sti (.var 0) (.cst (.int 2)) (.var 2)] [],
    .set 5 (.bin .mod (.bif .int [(.sub (.var 0) (.cst (.int 2)))]) (.var 1)),
    .sti (.var 0) (.cst (.int 2)) (.bin .fdv (.bif .int [(.sub (.var 0) (.cst (.int 2)))]) (.var 1)),
    .ret (.var 5)]⟩
/-- a feed's object -/
def feedO (cells : List Int) (a b m : Int) : OO := .lst [.lst (cells.map .int), .int a, .int b, .int m]
theorem mulOk_r {i j : Int} (h : -(2 ^ 64) < j ∧ j < 2 ^ 64) : mulOk i j = true := by
  unfold mulOk
  rw [Bool.or_eq_true]
  right
  simp only [Bool.and_eq_true, decide_eq_true_eq]
  exact h
theorem mulOk_l {i j : Int} (h : -(2 ^ 64) < i ∧ i < 2 ^ 64) : mulOk i j = true := by
  unfold mulOk
  rw [Bool.or_eq_true]
  left
  simp only [Bool.and_eq_true, decide_eq_true_eq]
  exact h
theorem ml1 {i : Int} : mulOk i 5167 = true := mulOk_r (by decide)
theorem ml2 {i : Int} : mulOk i 48271 = true := mulOk_r (by decide)
theorem ml3 {i : Int} : mulOk i 40692 = true := mulOk_r (by decide)
theorem ml4 {i : Int} : mulOk i 16807 = true := mulOk_r (by decide)
theorem ml5 {i : Int} : mulOk i 69621 = true := mulOk_r (by decide)
theorem ml6 {i : Int} : mulOk i 8117 = true := mulOk_r (by decide)
theorem ml7 {i : Int} : mulOk 61 i = true := mulOk_l (by decide)
theorem ml8 {i j : Int} : mulOk (i % 2147483647) j = true := mulOk_l (by
  have h1 := Int.emod_nonneg i (b := 2147483647) (by decide)
  have h2 := Int.emod_lt_of_pos i (b := 2147483647) (by decide)
  omega)
theorem pw18 {p : Pg} {cal : Bool → Nat → List W → List OO → RC} {st : St} : binR p cal .pow (.int 10) (.int 18) st = .ok (.int 1000000000000000000) st := rfl
theorem ix40 : ixN 4 0 = some 0 := rfl
theorem ix41 : ixN 4 1 = some 1 := rfl
theorem ix42 : ixN 4 2 = some 2 := rfl
theorem ix43 : ixN 4 3 = some 3 := rfl
theorem ix20 : ixN 2 0 = some 0 := rfl
theorem ix21 : ixN 2 1 = some 1 := rfl
def d1 (x a m : Int) : Int := (x * 48271 + a * 40692 + m) % 2147483647
def d2 (x a m : Int) : Int := (d1 x a m * d1 x a m + a * 16807) % 998244353
def dV (x a m many : Int) : Int := (d2 x a m * 69621 + d1 x a m) % 2147483629 / 13 % many
theorem draw_ok {p : Pg} {wf n f : Nat} (h : p.fns[f]? = some fDraw) {s : List OO} {k : Nat} {cells : List Int} {a b m many : Int} (hs : s[k]? = some (feedO cells a b m)) (ha : 0 ≤ a) (hm : 0 < many) (hm2 : many < 1073741824) :
    ∃ r a' b', callN p wf (n + 1) false f [.loc k, .int many] s = .ok (.int r) (s.set k (feedO cells a' b' m)) ∧ 0 ≤ r ∧ r < many ∧ 0 ≤ a' := by
  rw [callN_fn h rfl]
  have hk : k < s.length := (List.getElem?_eq_some_iff.mp hs).1
  have hfin : ∀ x : Int, 0 ≤ x % many ∧ x % many < many := fun x => ⟨Int.emod_nonneg x (by omega), Int.emod_lt_of_pos x hm⟩
  unfold feedO at hs
  by_cases hb : b < 2
  · have hs1 : (s.set k (.lst [.lst (cells.map .int), .int (a + 1), .int b, .int m]))[k]? = some (.lst [.lst (cells.map .int), .int (a + 1), .int b, .int m]) := List.getElem?_set_self hk
    have hk1 : k < (s.set k (.lst [.lst (cells.map .int), .int (a + 1), .int b, .int m])).length := by simpa using hk
    by_cases hc : a + 1 ≤ (cells.length : Int)
    · obtain ⟨x, hx⟩ : ∃ x, (cells.map W.int)[(a + 1 - 1).toNat]? = some (.int x) := by
        have : (a + 1 - 1).toNat < cells.length := by omega
        exact ⟨cells[(a + 1 - 1).toNat], by simp [this]⟩
      have hix : ixN cells.length (a + 1 - 1) = some (a + 1 - 1).toNat := ix_nat (by omega)
      have hcl : ¬ ((cells.length : Int) < a + 1) := by omega
      by_cases hx2 : x < 1000000000000000000
      · refine ⟨dV x (a + 1) m many, a + 1, b, ?_, (hfin _).1, (hfin _).2, by omega⟩
        simp only [fDraw, s_cons, s_nil, exS, evE, evEs, evO, evT, r_ok, r_lift, r_lift0, r_calm, r_at, e_nx, e_ret, List.getElem?_cons_zero, List.getElem?_cons_succ, vw_loc, vw_sl, vw_lst, vw_dct, vw_tup, vw_int, vw_str, vw_bl, vw_non, vw_scr, lk_loc, lk_sl, lk_lst, lk_dct, lk_obj, lk_tup, lk_int, lk_str, lk_bl, lk_non, sb_lst, sb_tup, List.length_cons, List.length_nil, List.length_map, ix40, ix41, ix42, ix43, ix20, ix21, Option.bind_some, Option.map_some, c_lt, c_le, c_gt, c_ge, c_eqi, c_nei, c_eqb, c_neb, c_eqs, c_nes, decide_false, decide_true, t_bl, t_int, Bool.false_eq_true, if_false, if_true, Nat.reduceAdd, Nat.reduceLT, Nat.reduceSub, f_int, f_lenL, f_lenT, b_add, b_sub, b_mul, b_mod, b_fdv, b_pow, o_non, o_bl, o_int, o_str, o_lst, o_tup, o_dct, o_obj, o_loc, o_scr, okvs, List.all_cons, List.all_nil, List.set_cons_zero, List.set_cons_succ, Bool.true_and, Bool.and_true, st_lst, List.replicate, List.map_cons, List.map_nil, List.cons_append, List.nil_append, Bool.not_true, Bool.not_false, ml1, ml2, ml3, ml4, ml5, ml6, ml7, ml8, pt_loc hk, pt_loc hk1, hs, hs1, hb, hc, hix, hx, hcl, hx2, hm, Int.reduceToNat, Int.reducePow, Int.reduceLT, Int.reduceLE, and_self, pw18]
        rfl
      · have hs2 : (s.set k (.lst [.lst (cells.map .int), .int (a + 1), .int x, .int m]))[k]? = some (.lst [.lst (cells.map .int), .int (a + 1), .int x, .int m]) := List.getElem?_set_self hk
        have hk2 : k < (s.set k (.lst [.lst (cells.map .int), .int (a + 1), .int x, .int m])).length := by simpa using hk
        refine ⟨x % many, a + 1, x / many, ?_, (hfin x).1, (hfin x).2, by omega⟩
        simp only [fDraw, s_cons, s_nil, exS, evE, evEs, evO, evT, r_ok, r_lift, r_lift0, r_calm, r_at, e_nx, e_ret, List.getElem?_cons_zero, List.getElem?_cons_succ, vw_loc, vw_sl, vw_lst, vw_dct, vw_tup, vw_int, vw_str, vw_bl, vw_non, vw_scr, lk_loc, lk_sl, lk_lst, lk_dct, lk_obj, lk_tup, lk_int, lk_str, lk_bl, lk_non, sb_lst, sb_tup, List.length_cons, List.length_nil, List.length_map, ix40, ix41, ix42, ix43, ix20, ix21, Option.bind_some, Option.map_some, c_lt, c_le, c_gt, c_ge, c_eqi, c_nei, c_eqb, c_neb, c_eqs, c_nes, decide_false, decide_true, t_bl, t_int, Bool.false_eq_true, if_false, if_true, Nat.reduceAdd, Nat.reduceLT, Nat.reduceSub, f_int, f_lenL, f_lenT, b_add, b_sub, b_mul, b_mod, b_fdv, b_pow, o_non, o_bl, o_int, o_str, o_lst, o_tup, o_dct, o_obj, o_loc, o_scr, okvs, List.all_cons, List.all_nil, List.set_cons_zero, List.set_cons_succ, Bool.true_and, Bool.and_true, st_lst, List.replicate, List.map_cons, List.map_nil, List.cons_append, List.nil_append, Bool.not_true, Bool.not_false, ml1, ml2, ml3, ml4, ml5, ml6, ml7, ml8, pt_loc hk, pt_loc hk1, pt_loc hk2, hs, hs1, hs2, hb, hc, hix, hx, hcl, hx2, pw18, List.set_set, hm, hm2, and_self]
        rfl
    · have hcl : (cells.length : Int) < a + 1 := by omega
      refine ⟨dV (m + (a + 1) * 5167) (a + 1) m many, a + 1, b, ?_, (hfin _).1, (hfin _).2, by omega⟩
      simp only [fDraw, s_cons, s_nil, exS, evE, evEs, evO, evT, r_ok, r_lift, r_lift0, r_calm, r_at, e_nx, e_ret, List.getElem?_cons_zero, List.getElem?_cons_succ, vw_loc, vw_sl, vw_lst, vw_dct, vw_tup, vw_int, vw_str, vw_bl, vw_non, vw_scr, lk_loc, lk_sl, lk_lst, lk_dct, lk_obj, lk_tup, lk_int, lk_str, lk_bl, lk_non, sb_lst, sb_tup, List.length_cons, List.length_nil, List.length_map, ix40, ix41, ix42, ix43, ix20, ix21, Option.bind_some, Option.map_some, c_lt, c_le, c_gt, c_ge, c_eqi, c_nei, c_eqb, c_neb, c_eqs, c_nes, decide_false, decide_true, t_bl, t_int, Bool.false_eq_true, if_false, if_true, Nat.reduceAdd, Nat.reduceLT, Nat.reduceSub, f_int, f_lenL, f_lenT, b_add, b_sub, b_mul, b_mod, b_fdv, b_pow, o_non, o_bl, o_int, o_str, o_lst, o_tup, o_dct, o_obj, o_loc, o_scr, okvs, List.all_cons, List.all_nil, List.set_cons_zero, List.set_cons_succ, Bool.true_and, Bool.and_true, st_lst, List.replicate, List.map_cons, List.map_nil, List.cons_append, List.nil_append, Bool.not_true, Bool.not_false, ml1, ml2, ml3, ml4, ml5, ml6, ml7, ml8, pt_loc hk, pt_loc hk1, hs, hs1, hb, hc, hcl, hm, Int.reduceToNat, Int.reducePow, Int.reduceLT, Int.reduceLE, and_self, pw18]
      rfl
  · refine ⟨b % many, a, b / many, ?_, (hfin b).1, (hfin b).2, ha⟩
    simp only [fDraw, s_cons, s_nil, exS, evE, evEs, evO, evT, r_ok, r_lift, r_lift0, r_calm, r_at, e_nx, e_ret, List.getElem?_cons_zero, List.getElem?_cons_succ, vw_loc, vw_sl, vw_lst, vw_dct, vw_tup, vw_int, vw_str, vw_bl, vw_non, vw_scr, lk_loc, lk_sl, lk_lst, lk_dct, lk_obj, lk_tup, lk_int, lk_str, lk_bl, lk_non, sb_lst, sb_tup, List.length_cons, List.length_nil, List.length_map, ix40, ix41, ix42, ix43, ix20, ix21, Option.bind_some, Option.map_some, c_lt, c_le, c_gt, c_ge, c_eqi, c_nei, c_eqb, c_neb, c_eqs, c_nes, decide_false, decide_true, t_bl, t_int, Bool.false_eq_true, if_false, if_true, Nat.reduceAdd, Nat.reduceLT, Nat.reduceSub, f_int, f_lenL, f_lenT, b_add, b_sub, b_mul, b_mod, b_fdv, b_pow, o_non, o_bl, o_int, o_str, o_lst, o_tup, o_dct, o_obj, o_loc, o_scr, okvs, List.all_cons, List.all_nil, List.set_cons_zero, List.set_cons_succ, Bool.true_and, Bool.and_true, st_lst, List.replicate, List.map_cons, List.map_nil, List.cons_append, List.nil_append, Bool.not_true, Bool.not_false, ml1, ml2, ml3, ml4, ml5, ml6, ml7, ml8, pt_loc hk, hs, hb, hm, hm2, and_self]
    rfl
end Ev

/-! M2: comprehensions and loops, run. -/
namespace Ev
theorem mw_len (r : List Sl) : ∀ is, (wipe r is).length = r.length
  | [] => rfl
  | i :: is => by simp [wipe, mw_len r is]
theorem mw_get (r : List Sl) (j : Nat) : ∀ is, (j ∉ is → (wipe r is)[j]? = r[j]?)
  | [] => fun _ => rfl
  | i :: is => fun hn => by
    simp only [List.mem_cons, not_or] at hn
    simp only [wipe]
    rw [List.getElem?_set_ne (Ne.symm hn.1)]
    exact mw_get r j is hn.2
theorem mb_len (r0 r1 : List Sl) : ∀ is, (backS is r0 r1).length = r1.length
  | [] => rfl
  | i :: is => by simp [backS, mb_len r0 r1 is]
theorem mb_get {r0 r1 : List Sl} (hl : r1.length = r0.length) (j : Nat) : ∀ {is : List Nat}, (∀ i ∈ is, i < r0.length) → (backS is r0 r1)[j]? = if j ∈ is then r0[j]? else r1[j]?
  | [], _ => by simp [backS]
  | i :: is, h => by
    have ih := mb_get hl j (is := is) fun x hx => h x (List.mem_cons_of_mem _ hx)
    simp only [backS]
    by_cases hj : i = j
    · subst hj
      have l : i < (backS is r0 r1).length := by rw [mb_len, hl]; exact h i (by simp)
      rw [List.getElem?_set_self l, if_pos (by simp)]
      have l0 := h i (by simp)
      rw [List.getD_eq_getElem?_getD, List.getElem?_eq_getElem l0]
      rfl
    · rw [List.getElem?_set_ne hj, ih]
      by_cases hm : j ∈ is
      · rw [if_pos hm, if_pos (List.mem_cons_of_mem _ hm)]
      · rw [if_neg hm, if_neg]
        intro z
        rcases List.mem_cons.mp z with z | z
        · exact hj z.symm
        · exact hm z
theorem mn_lt {r : List Sl} : ∀ {is : List Nat}, noOwn r is = true → ∀ i ∈ is, i < r.length
  | [], _, _, h => by simp at h
  | j :: is, h, i, hm => by
    simp only [noOwn, Bool.and_eq_true] at h
    rcases List.mem_cons.mp hm with z | z
    · subst z
      cases e : r[i]? with
      | none => rw [e] at h; simp at h
      | some x => exact (List.getElem?_eq_some_iff.mp e).1
    · exact mn_lt h.2 i z
theorem back_same {r r5 : List Sl} {is : List Nat} (hn : noOwn r is = true) (hw : wipe r5 is = wipe r is) : backS is r r5 = r := by
  have hl : r5.length = r.length := by
    have := congrArg List.length hw
    rwa [mw_len, mw_len] at this
  apply List.ext_getElem?
  intro j
  rw [mb_get hl j fun i hi => mn_lt hn i hi]
  by_cases hm : j ∈ is
  · rw [if_pos hm]
  · rw [if_neg hm]
    have h1 := mw_get r5 j is hm
    have h2 := mw_get r j is hm
    rw [← h1, hw, h2]
section
variable {p : Pg} {cal : Bool → Nat → List W → List OO → RC} {wf : Nat}
/-- a comprehension's turn -/
def mTurn (t : Tg) (body : St → R (Option W)) (x : W) (st2 : St) : R (Option W) := match (if noOwn st2.r (tgIx t) then tgW t x (wipe st2.r (tgIx t)) else none) with
  | none => .stk
  | some r => R.calm (body ⟨r, st2.s⟩)
def mL (p : Pg) (cal : Bool → Nat → List W → List OO → RC) (e : E) (co : Option E) (st : St) : R (Option W) := (evT p cal co st).bind fun k st3 => if k then (evE p cal e st3).bind fun y st4 => if okv y then .ok (some y) st4 else .stk else .ok none st3
def mD (p : Pg) (cal : Bool → Nat → List W → List OO → RC) (k v : E) (st : St) : R (Option W) := (evE p cal k st).bind fun y st3 => (evE p cal v st3).bind fun z st4 => if okv z && (kyOf y).isSome then .ok (some (.tup [y, z])) st4 else .stk
theorem cpr_eq {e : E} {t : Tg} {it : I} {co : Option E} {st : St} : evE p cal (.cpr e t it co) st = (evI p cal it st).bind fun q st1 => if noOwn st1.r (tgIx t) then
      (mapR (mTurn t (mL p cal e co)) q (q.len st1) 0 st1).bind fun ys st5 =>
      if decide (ys.length ≤ lineMax) && noOwn st5.r (tgIx t) then .ok (.lst ys) ⟨backS (tgIx t) st1.r st5.r, st5.s⟩ else .stk else .stk := by
  rw [evE] <;> rfl
theorem dcp_eq {k v : E} {t : Tg} {it : I} {st : St} : evE p cal (.dcp k v t it) st = (evI p cal it st).bind fun q st1 => if noOwn st1.r (tgIx t) then
      (mapR (mTurn t (mD p cal k v)) q (q.len st1) 0 st1).bind fun ys st5 =>
      (match prsW ys with
      | some q => if decide (ys.length ≤ lineMax) && noOwn st5.r (tgIx t) then .ok (.dct q.1 q.2) ⟨backS (tgIx t) st1.r st5.r, st5.s⟩ else .stk
      | none => .stk) else .stk := by
  rw [evE] <;> rfl
/-- a walk that leaves the store -/
theorem mapR_pure {t : Tg} {body : St → R (Option W)} {q : Src} {xs : List W} {s : List OO} {r : List Sl} (y : W → Option W) (hq : ∀ (st : St) i, st.s = s → q.at st i = some xs[i]?)
    (hb : ∀ x, x ∈ xs → ∃ r1 r2, tgW t x (wipe r (tgIx t)) = some r1 ∧ body ⟨r1, s⟩ = .ok (y x) ⟨r2, s⟩ ∧ wipe r2 (tgIx t) = wipe r (tgIx t) ∧ noOwn r2 (tgIx t) = true) :
    ∀ (m i : Nat) (r2 : List Sl), wipe r2 (tgIx t) = wipe r (tgIx t) → noOwn r2 (tgIx t) = true → xs.length ≤ i + m → ∃ r5, mapR (mTurn t body) q m i ⟨r2, s⟩ = .ok ((xs.drop i).filterMap y) ⟨r5, s⟩ ∧ wipe r5 (tgIx t) = wipe r (tgIx t) ∧ noOwn r5 (tgIx t) = true
  | m, i, r2, hw, hn, hl => by
    rw [mapR.eq_def]
    simp only [hq ⟨r2, s⟩ i rfl]
    cases e : xs[i]? with
    | none =>
      have : xs.length ≤ i := List.getElem?_eq_none_iff.mp e
      refine ⟨r2, ?_, hw, hn⟩
      simp [List.drop_eq_nil_of_le this]
    | some x =>
      have hi : i < xs.length := (List.getElem?_eq_some_iff.mp e).1
      cases m with
      | zero => omega
      | succ m =>
        obtain ⟨r1, r3, e1, e2, e3, e4⟩ := hb x (List.mem_of_getElem? e)
        obtain ⟨r5, e5, e6, e7⟩ := mapR_pure y hq hb m (i + 1) r3 e3 e4 (by omega)
        refine ⟨r5, ?_, e6, e7⟩
        have et : mTurn t body x ⟨r2, s⟩ = .ok (y x) ⟨r3, s⟩ := by
          unfold mTurn
          simp only [hn, if_true, hw, e1, e2, R.calm]
        have ed : xs.drop i = x :: xs.drop (i + 1) := by
          rw [← List.getElem_cons_drop hi]
          congr 1
          have := List.getElem?_eq_getElem hi
          rw [e] at this
          exact (Option.some.inj this).symm
        simp only [et, r_ok, e5]
        rw [ed, List.filterMap_cons]
        cases y x <;> rfl
/-- a list comprehension that leaves the store -/
theorem cpr_pure {e : E} {t : Tg} {it : I} {co : Option E} {r : List Sl} {s : List OO} {st0 : St} {q : Src} {xs : List W} (y : W → Option W) (hi : evI p cal it st0 = .ok q ⟨r, s⟩) (hn : noOwn r (tgIx t) = true) (hq : ∀ (st : St) i, st.s = s → q.at st i = some xs[i]?) (hl : xs.length ≤ q.len ⟨r, s⟩) (hz : xs.length ≤ lineMax)
    (hb : ∀ x, x ∈ xs → ∃ r1 r2, tgW t x (wipe r (tgIx t)) = some r1 ∧ mL p cal e co ⟨r1, s⟩ = .ok (y x) ⟨r2, s⟩ ∧ wipe r2 (tgIx t) = wipe r (tgIx t) ∧ noOwn r2 (tgIx t) = true) :
    evE p cal (.cpr e t it co) st0 = .ok (.lst (xs.filterMap y)) ⟨r, s⟩ := by
  rw [cpr_eq, hi, r_ok]
  obtain ⟨r5, e5, e6, e7⟩ := mapR_pure (r := r) (body := mL p cal e co) y hq hb (q.len ⟨r, s⟩) 0 r rfl hn (by omega)
  simp only [hn, if_true, e5, r_ok, List.drop_zero, e7, Bool.and_true]
  have hz2 : (xs.filterMap y).length ≤ lineMax := Nat.le_trans (List.length_filterMap_le ..) hz
  rw [decide_eq_true hz2, if_pos rfl, back_same hn e6]
/-- a dict comprehension that leaves the store -/
theorem dcp_pure {k v : E} {t : Tg} {it : I} {r : List Sl} {s : List OO} {st0 : St} {q : Src} {xs : List W} (y : W → W × W) {d : List Ky × List W} (hi : evI p cal it st0 = .ok q ⟨r, s⟩) (hn : noOwn r (tgIx t) = true) (hq : ∀ (st : St) i, st.s = s → q.at st i = some xs[i]?) (hl : xs.length ≤ q.len ⟨r, s⟩) (hz : xs.length ≤ lineMax)
    (hd : prsW (xs.map fun x => W.tup [(y x).1, (y x).2]) = some d)
    (hb : ∀ x, x ∈ xs → ∃ r1 r2, tgW t x (wipe r (tgIx t)) = some r1 ∧ mD p cal k v ⟨r1, s⟩ = .ok (some (W.tup [(y x).1, (y x).2])) ⟨r2, s⟩ ∧ wipe r2 (tgIx t) = wipe r (tgIx t) ∧ noOwn r2 (tgIx t) = true) :
    evE p cal (.dcp k v t it) st0 = .ok (.dct d.1 d.2) ⟨r, s⟩ := by
  rw [dcp_eq, hi, r_ok]
  obtain ⟨r5, e5, e6, e7⟩ := mapR_pure (r := r) (body := mD p cal k v) (fun x => some (W.tup [(y x).1, (y x).2])) hq hb (q.len ⟨r, s⟩) 0 r rfl hn (by omega)
  have ef : xs.filterMap (fun x => some (W.tup [(y x).1, (y x).2])) = xs.map fun x => W.tup [(y x).1, (y x).2] := by
    rw [← List.filterMap_eq_map]
    rfl
  simp only [hn, if_true, e5, r_ok, List.drop_zero, e7, Bool.and_true, ef, hd]
  rw [decide_eq_true (by simpa using hz), if_pos rfl, back_same hn e6]
/-- a for loop by an invariant -/
theorem for_inv {tg : W → List Sl → Option (List Sl)} {b : St → R Fl} {q : Src} {xs : List W} (J : Nat → St → Prop) (hq : ∀ i st, J i st → q.at st i = some xs[i]?)
    (hb : ∀ i x st, xs[i]? = some x → J i st → ∃ r st', tg x st.r = some r ∧ b ⟨r, st.s⟩ = .ok .nx st' ∧ J (i + 1) st') :
    ∀ (m i : Nat) (st : St), J i st → i ≤ xs.length → xs.length ≤ i + m → ∃ st', forR tg b q m i st = .ok .nx st' ∧ J xs.length st'
  | m, i, st, h, h1, h2 => by
    rw [forR.eq_def]
    simp only [hq i st h]
    cases e : xs[i]? with
    | none =>
      have : xs.length ≤ i := List.getElem?_eq_none_iff.mp e
      have e2 : i = xs.length := by omega
      subst e2
      exact ⟨st, rfl, h⟩
    | some x =>
      have hi : i < xs.length := (List.getElem?_eq_some_iff.mp e).1
      cases m with
      | zero => omega
      | succ m =>
        obtain ⟨r, st', e1, e2, e3⟩ := hb i x st e h
        obtain ⟨st5, e5, e6⟩ := for_inv J hq hb m (i + 1) st' e3 (by omega) (by omega)
        refine ⟨st5, ?_, e6⟩
        simp only [e1, e2, r_ok]
        exact e5
theorem at_lst {xs : List W} {st : St} {i : Nat} : (Src.seq (.lst xs)).at st i = some xs[i]? := rfl
theorem at_tup {xs : List W} {st : St} {i : Nat} : (Src.seq (.tup xs)).at st i = some xs[i]? := rfl
theorem len_lst {xs : List W} {st : St} : (Src.seq (.lst xs)).len st = xs.length := rfl
theorem len_tup {xs : List W} {st : St} : (Src.seq (.tup xs)).len st = xs.length := rfl
theorem evI_lst {e : E} {xs : List W} {st st1 : St} (h : evE p cal e st = .ok (.lst xs) st1) : evI p cal (.val e) st = .ok (.seq (.lst xs)) st1 := by
  rw [evI, h, r_ok]
  rfl
theorem evI_tup {e : E} {xs : List W} {st st1 : St} (h : evE p cal e st = .ok (.tup xs) st1) : evI p cal (.val e) st = .ok (.seq (.tup xs)) st1 := by
  rw [evI, h, r_ok]
  rfl
theorem evI_str {e : E} {x : Tx} {st st1 : St} (h : evE p cal e st = .ok (.str x) st1) : evI p cal (.val e) st = .ok (.fix (x.map fun c => .str [c])) st1 := by
  rw [evI, h, r_ok]
end
end Ev

/-! M3: the laws' helpers: any, feed, whole, same. -/
namespace Ev
section
variable {p : Pg} {cal : Bool → Nat → List W → List OO → RC} {wf : Nat} {r : List Sl} {s : List OO} {st : St} {i j : Int} {n k : Nat} {b c : Bool} {x y : Tx} {xs ys : List W}
theorem k_non_bool : isKs p st .non [.bool] = some false := id rfl
theorem k_non_int : isKs p st .non [.int] = some false := id rfl
theorem k_non_str : isKs p st .non [.str] = some false := id rfl
theorem k_non_tuple : isKs p st .non [.tuple] = some false := id rfl
theorem k_non_list : isKs p st .non [.list] = some false := id rfl
theorem k_bl_bool : isKs p st (.bl b) [.bool] = some true := id rfl
theorem k_bl_int : isKs p st (.bl b) [.int] = some true := id rfl
theorem k_bl_str : isKs p st (.bl b) [.str] = some false := id rfl
theorem k_bl_tuple : isKs p st (.bl b) [.tuple] = some false := id rfl
theorem k_bl_list : isKs p st (.bl b) [.list] = some false := id rfl
theorem k_int_bool : isKs p st (.int i) [.bool] = some false := id rfl
theorem k_int_int : isKs p st (.int i) [.int] = some true := id rfl
theorem k_int_str : isKs p st (.int i) [.str] = some false := id rfl
theorem k_int_tuple : isKs p st (.int i) [.tuple] = some false := id rfl
theorem k_int_list : isKs p st (.int i) [.list] = some false := id rfl
theorem k_str_bool : isKs p st (.str x) [.bool] = some false := id rfl
theorem k_str_int : isKs p st (.str x) [.int] = some false := id rfl
theorem k_str_str : isKs p st (.str x) [.str] = some true := id rfl
theorem k_str_tuple : isKs p st (.str x) [.tuple] = some false := id rfl
theorem k_str_list : isKs p st (.str x) [.list] = some false := id rfl
theorem k_tup_bool : isKs p st (.tup xs) [.bool] = some false := id rfl
theorem k_tup_int : isKs p st (.tup xs) [.int] = some false := id rfl
theorem k_tup_str : isKs p st (.tup xs) [.str] = some false := id rfl
theorem k_tup_tuple : isKs p st (.tup xs) [.tuple] = some true := id rfl
theorem k_tup_list : isKs p st (.tup xs) [.list] = some false := id rfl
theorem k_lst_bool : isKs p st (.lst xs) [.bool] = some false := id rfl
theorem k_lst_int : isKs p st (.lst xs) [.int] = some false := id rfl
theorem k_lst_str : isKs p st (.lst xs) [.str] = some false := id rfl
theorem k_lst_tuple : isKs p st (.lst xs) [.tuple] = some false := id rfl
theorem k_lst_list : isKs p st (.lst xs) [.list] = some true := id rfl
theorem k_loc_bool (h : s[n]? = some (.lst xs)) : isKs p ⟨r, s⟩ (.loc n) [.bool] = some false := by
  simp only [isKs, tyW, look, h]
  rfl
theorem k_loc_int (h : s[n]? = some (.lst xs)) : isKs p ⟨r, s⟩ (.loc n) [.int] = some false := by
  simp only [isKs, tyW, look, h]
  rfl
theorem k_loc_str (h : s[n]? = some (.lst xs)) : isKs p ⟨r, s⟩ (.loc n) [.str] = some false := by
  simp only [isKs, tyW, look, h]
  rfl
theorem k_loc_tuple (h : s[n]? = some (.lst xs)) : isKs p ⟨r, s⟩ (.loc n) [.tuple] = some false := by
  simp only [isKs, tyW, look, h]
  rfl
theorem k_loc_list (h : s[n]? = some (.lst xs)) : isKs p ⟨r, s⟩ (.loc n) [.list] = some true := by
  simp only [isKs, tyW, look, h]
  rfl
theorem c_isn_non : cmpR p cal .isn .non .non st = .ok (.bl true) st := id rfl
theorem c_isn_bl : cmpR p cal .isn (.bl b) .non st = .ok (.bl false) st := id rfl
theorem c_isn_int : cmpR p cal .isn (.int i) .non st = .ok (.bl false) st := id rfl
theorem c_isn_str : cmpR p cal .isn (.str x) .non st = .ok (.bl false) st := id rfl
theorem c_isn_tup : cmpR p cal .isn (.tup xs) .non st = .ok (.bl false) st := id rfl
theorem c_isn_lst : cmpR p cal .isn (.lst xs) .non st = .ok (.bl false) st := id rfl
theorem c_isn_loc : cmpR p cal .isn (.loc n) .non st = .ok (.bl false) st := id rfl
end
section
variable {p : Pg} {wf : Nat}
/-! ### _law_any -/
def fAny (g : Nat) : Fn := ⟨2, 2, [.ret (.sub (.var 1) (.cal g [(.var 0), (.bif .len [(.var 1)])]))]⟩
theorem any_ok {n f g : Nat} (hg : p.fns[g]? = some fDraw) (hf : p.fns[f]? = some (fAny g)) {s : List OO} {k : Nat} {cells : List Int} {a b m : Int} {xs : List W} (hs : s[k]? = some (feedO cells a b m)) (ha : 0 ≤ a) (h0 : xs ≠ []) (hl : xs.length < 1073741824) (ho : ∀ x ∈ xs, okv x = true) :
    ∃ x a' b', x ∈ xs ∧ callN p wf (n + 2) false f [.loc k, .lst xs] s = .ok x (s.set k (feedO cells a' b' m)) ∧ 0 ≤ a' := by
  have hp : 0 < xs.length := List.length_pos_iff.mpr h0
  obtain ⟨d, a', b', e, h1, h2, h3⟩ := draw_ok (wf := wf) (n := n) hg hs ha (many := (xs.length : Int)) (by omega) (by omega)
  obtain ⟨x, hx⟩ : ∃ x, xs[d.toNat]? = some x := ⟨xs[d.toNat]'(by omega), List.getElem?_eq_getElem _⟩
  have hix : ixN xs.length d = some d.toNat := ix_nat ⟨h1, h2⟩
  refine ⟨x, a', b', List.mem_of_getElem? hx, ?_, h3⟩
  rw [callN_fn hf rfl]
  simp only [fAny, s_cons, s_nil, exS, evE, evEs, evO, evT, r_ok, r_lift, r_lift0, r_calm, r_at, e_nx, e_ret, List.getElem?_cons_zero, List.getElem?_cons_succ, vw_loc, vw_sl, vw_lst, vw_dct, vw_tup, vw_int, vw_str, vw_bl, vw_non, vw_scr, lk_loc, lk_sl, lk_lst, lk_dct, lk_obj, lk_tup, lk_int, lk_str, lk_bl, lk_non, sb_lst, sb_tup, List.length_cons, List.length_nil, List.length_map, ix40, ix41, ix42, ix43, ix20, ix21, Option.bind_some, Option.map_some, c_lt, c_le, c_gt, c_ge, c_eqi, c_nei, c_eqb, c_neb, c_eqs, c_nes, decide_false, decide_true, t_bl, t_int, Bool.false_eq_true, if_false, if_true, Nat.reduceAdd, Nat.reduceLT, Nat.reduceSub, f_int, f_lenL, f_lenT, b_add, b_sub, b_mul, b_mod, b_fdv, b_pow, o_non, o_bl, o_int, o_str, o_lst, o_tup, o_dct, o_obj, o_loc, o_scr, okvs, List.all_cons, List.all_nil, List.set_cons_zero, List.set_cons_succ, Bool.true_and, Bool.and_true, st_lst, List.replicate, List.map_cons, List.map_nil, List.cons_append, List.nil_append, Bool.not_true, Bool.not_false, ml1, ml2, ml3, ml4, ml5, ml6, ml7, ml8, callR, e, hix, hx, ho x (List.mem_of_getElem? hx)]
/-! ### _law_whole -/
def fWhole : Fn := ⟨1, 1, [.ret (.bnd (.isi (.var 0) [.int]) (.bnt (.isi (.var 0) [.bool])))]⟩
theorem whole_int {n f : Nat} (hf : p.fns[f]? = some fWhole) {s : List OO} {i : Int} : callN p wf (n + 1) false f [.int i] s = .ok (.bl true) s := by
  rw [callN_fn hf rfl]
  simp only [fWhole, s_cons, s_nil, exS, evE, evEs, evO, evT, r_ok, r_lift, r_lift0, r_calm, r_at, e_nx, e_ret, List.getElem?_cons_zero, List.getElem?_cons_succ, vw_loc, vw_sl, vw_lst, vw_dct, vw_tup, vw_int, vw_str, vw_bl, vw_non, vw_scr, lk_loc, lk_sl, lk_lst, lk_dct, lk_obj, lk_tup, lk_int, lk_str, lk_bl, lk_non, sb_lst, sb_tup, List.length_cons, List.length_nil, List.length_map, ix40, ix41, ix42, ix43, ix20, ix21, Option.bind_some, Option.map_some, c_lt, c_le, c_gt, c_ge, c_eqi, c_nei, c_eqb, c_neb, c_eqs, c_nes, decide_false, decide_true, t_bl, t_int, Bool.false_eq_true, if_false, if_true, Nat.reduceAdd, Nat.reduceLT, Nat.reduceSub, f_int, f_lenL, f_lenT, b_add, b_sub, b_mul, b_mod, b_fdv, b_pow, o_non, o_bl, o_int, o_str, o_lst, o_tup, o_dct, o_obj, o_loc, o_scr, okvs, List.all_cons, List.all_nil, List.set_cons_zero, List.set_cons_succ, Bool.true_and, Bool.and_true, st_lst, List.replicate, List.map_cons, List.map_nil, List.cons_append, List.nil_append, Bool.not_true, Bool.not_false, ml1, ml2, ml3, ml4, ml5, ml6, ml7, ml8, k_int_int, k_int_bool]
/-! ### _law_same -/
def sameAll (g : Nat) : E := .bif .all [(.cpr (.cal g [(.var 2), (.var 3)]) (.tup [(.nam 2), (.nam 3)]) (.zip (.var 0) (.var 1)) none)]
def fSame (g w : Nat) : Fn := ⟨2, 4, [.ife (.cmp .isn (.var 1) (.cst .non)) [.ret (.cmp .isn (.var 0) (.cst .non))] [],
    .ife (.isi (.var 1) [.bool]) [.ret (.bnd (.isi (.var 0) [.bool]) (.cmp .eq (.var 0) (.var 1)))] [],
    .ife (.isi (.var 1) [.int]) [.ret (.bnd (.cal w [(.var 0)]) (.cmp .eq (.var 0) (.var 1)))] [],
    .ife (.isi (.var 1) [.str]) [.ret (.bnd (.isi (.var 0) [.str]) (.cmp .eq (.var 0) (.var 1)))] [],
    .ife (.bor (.cmp .ne (.isi (.var 1) [.list]) (.isi (.var 0) [.list])) (.cmp .ne (.isi (.var 1) [.tuple]) (.isi (.var 0) [.tuple]))) [.ret (.cst (.bl false))] [],
    .ret (.bnd (.cmp .eq (.bif .len [(.var 0)]) (.bif .len [(.var 1)])) (sameAll g))]⟩
def Sm (s : List OO) : Nat → W → W → Prop
  | _, x, .non => x = .non
  | _, x, .bl b => x = .bl b
  | _, x, .int i => x = .int i
  | _, x, .str t => x = .str t
  | n + 1, x, .lst ys => ∃ xs, (x = .lst xs ∨ ∃ k, x = .loc k ∧ s[k]? = some (.lst xs)) ∧ xs.length = ys.length ∧ ys.length ≤ lineMax ∧ ∀ (i : Nat) a b, xs[i]? = some a → ys[i]? = some b → okv a = true ∧ okv b = true ∧ Sm s n a b
  | n + 1, x, .tup ys => ∃ xs, x = .tup xs ∧ xs.length = ys.length ∧ ys.length ≤ lineMax ∧ ∀ (i : Nat) a b, xs[i]? = some a → ys[i]? = some b → okv a = true ∧ okv b = true ∧ Sm s n a b
  | _, _, _ => False
def zipP (xs ys : List W) : List W := List.zipWith (fun a b => .tup [a, b]) xs ys
theorem zipP_get {xs ys : List W} (i : Nat) : (zipP xs ys)[i]? = (match xs[i]?, ys[i]? with | some x, some y => some (.tup [x, y]) | _, _ => none) := by
  unfold zipP
  rw [List.getElem?_zipWith]
  cases xs[i]? <;> cases ys[i]? <;> rfl
theorem all_true {zs : List W} (h : ∀ z ∈ zs, z = .bl true) : (bls zs).map (fun bs => W.bl (bs.all id)) = some (.bl true) := by
  induction zs with
  | nil => rfl
  | cons z zs ih =>
    have h1 := h z (by simp)
    subst h1
    have ih := ih fun z hz => h z (by simp [hz])
    obtain ⟨bs, e1, e2⟩ := Option.map_eq_some_iff.mp ih
    simp only [bls, e1, Option.map_some, List.all_cons, id, Bool.true_and]
    rw [e2]
/-- the last line of _law_same -/
theorem same_zip {n g w : Nat} {s : List OO} {x y : W} {xs ys : List W} (hx : ∀ r : List Sl, (vw ⟨r, s⟩ x = .lst xs ∧ clsOf ⟨r, s⟩ x = none ∧ wlOf ⟨r, s⟩ x = some xs ∧ wkOf ⟨r, s⟩ x = some xs ∧ y = .lst ys) ∨ (x = .tup xs ∧ y = .tup ys))
    (hl : xs.length = ys.length) (hz : ys.length ≤ lineMax) (ih : ∀ (i : Nat) a b, xs[i]? = some a → ys[i]? = some b → okv a = true ∧ okv b = true ∧ callN p wf n false g [a, b] s = .ok (.bl true) s) :
    evE p (callN p wf n) (sameAll g) ⟨[.val x, .val y, .un, .un], s⟩ = .ok (.bl true) ⟨[.val x, .val y, .un, .un], s⟩ := by
  have hat : ∀ (st : St) i, st.s = s → (Src.zip x y).at st i = some (zipP xs ys)[i]? := fun st i e => by
    obtain ⟨r, s'⟩ := st
    simp only at e
    subst e
    rw [zipP_get]
    rcases hx r with ⟨_, _, h2, _, h3⟩ | ⟨h2, h3⟩
    · subst h3
      have : wlOf ⟨r, s'⟩ (.lst ys) = some ys := id rfl
      cases x <;> simp only [Src.at, h2, this, Option.bind_some, Option.map_some] <;> rfl
    · subst h2 h3
      rfl
  have hlen : ∀ r : List Sl, (zipP xs ys).length ≤ (Src.zip x y).len ⟨r, s⟩ := fun r => by
    rcases hx r with ⟨_, _, _, h2, h3⟩ | ⟨h2, h3⟩
    · simp only [Src.len, h2, zipP, List.length_zipWith, Option.getD_some]
      exact Nat.min_le_left _ _
    · subst h2
      simp only [Src.len, wkOf, seqOf, okv, if_true, zipP, List.length_zipWith, Option.getD_some]
      exact Nat.min_le_left _ _
  have hc : evE p (callN p wf n) (.cpr (.cal g [(.var 2), (.var 3)]) (.tup [(.nam 2), (.nam 3)]) (.zip (.var 0) (.var 1)) none) ⟨[.val x, .val y, .un, .un], s⟩ = .ok (.lst ((zipP xs ys).filterMap fun _ => some (.bl true))) ⟨[.val x, .val y, .un, .un], s⟩ := by
    refine cpr_pure (q := .zip x y) (fun _ => some (.bl true)) ?_ rfl hat (hlen _) ?_ fun z hz' => ?_
    · simp only [evI, s_cons, s_nil, exS, evE, evEs, evO, evT, r_ok, r_lift, r_lift0, r_calm, r_at, e_nx, e_ret, List.getElem?_cons_zero, List.getElem?_cons_succ, vw_loc, vw_sl, vw_lst, vw_dct, vw_tup, vw_int, vw_str, vw_bl, vw_non, vw_scr, lk_loc, lk_sl, lk_lst, lk_dct, lk_obj, lk_tup, lk_int, lk_str, lk_bl, lk_non, sb_lst, sb_tup, List.length_cons, List.length_nil, List.length_map, ix40, ix41, ix42, ix43, ix20, ix21, Option.bind_some, Option.map_some, c_lt, c_le, c_gt, c_ge, c_eqi, c_nei, c_eqb, c_neb, c_eqs, c_nes, decide_false, decide_true, t_bl, t_int, Bool.false_eq_true, if_false, if_true, Nat.reduceAdd, Nat.reduceLT, Nat.reduceSub, f_int, f_lenL, f_lenT, b_add, b_sub, b_mul, b_mod, b_fdv, b_pow, o_non, o_bl, o_int, o_str, o_lst, o_tup, o_dct, o_obj, o_loc, o_scr, okvs, List.all_cons, List.all_nil, List.set_cons_zero, List.set_cons_succ, Bool.true_and, Bool.and_true, st_lst, List.replicate, List.map_cons, List.map_nil, List.cons_append, List.nil_append, Bool.not_true, Bool.not_false, ml1, ml2, ml3, ml4, ml5, ml6, ml7, ml8]
      rw [hat _ 0 rfl]
      rfl
    · unfold zipP
      rw [List.length_zipWith, hl, Nat.min_self]
      exact hz
    · obtain ⟨i, hi⟩ := List.getElem?_of_mem hz'
      rw [zipP_get] at hi
      cases e1 : xs[i]? with
      | none => rw [e1] at hi; cases hi
      | some a =>
        cases e2 : ys[i]? with
        | none => rw [e1, e2] at hi; cases hi
        | some b =>
          rw [e1, e2] at hi
          cases hi
          obtain ⟨o1, o2, e⟩ := ih i a b e1 e2
          refine ⟨[.val x, .val y, .val a, .val b], [.val x, .val y, .val a, .val b], ?_, ?_, rfl, rfl⟩
          · simp [tgW, tgW.tgWs, wipe, tgIx, tgIx.tgIxs, o1, o2]
          · simp only [mL, s_cons, s_nil, exS, evE, evEs, evO, evT, r_ok, r_lift, r_lift0, r_calm, r_at, e_nx, e_ret, List.getElem?_cons_zero, List.getElem?_cons_succ, vw_loc, vw_sl, vw_lst, vw_dct, vw_tup, vw_int, vw_str, vw_bl, vw_non, vw_scr, lk_loc, lk_sl, lk_lst, lk_dct, lk_obj, lk_tup, lk_int, lk_str, lk_bl, lk_non, sb_lst, sb_tup, List.length_cons, List.length_nil, List.length_map, ix40, ix41, ix42, ix43, ix20, ix21, Option.bind_some, Option.map_some, c_lt, c_le, c_gt, c_ge, c_eqi, c_nei, c_eqb, c_neb, c_eqs, c_nes, decide_false, decide_true, t_bl, t_int, Bool.false_eq_true, if_false, if_true, Nat.reduceAdd, Nat.reduceLT, Nat.reduceSub, f_int, f_lenL, f_lenT, b_add, b_sub, b_mul, b_mod, b_fdv, b_pow, o_non, o_bl, o_int, o_str, o_lst, o_tup, o_dct, o_obj, o_loc, o_scr, okvs, List.all_cons, List.all_nil, List.set_cons_zero, List.set_cons_succ, Bool.true_and, Bool.and_true, st_lst, List.replicate, List.map_cons, List.map_nil, List.cons_append, List.nil_append, Bool.not_true, Bool.not_false, ml1, ml2, ml3, ml4, ml5, ml6, ml7, ml8, callR, e, o1, o2]
  have h1 : evEs p (callN p wf n) [(.cpr (.cal g [(.var 2), (.var 3)]) (.tup [(.nam 2), (.nam 3)]) (.zip (.var 0) (.var 1)) none)] ⟨[.val x, .val y, .un, .un], s⟩ = .ok [.lst ((zipP xs ys).filterMap fun _ => some (.bl true))] ⟨[.val x, .val y, .un, .un], s⟩ := by
    rw [evEs, hc, r_ok, evEs, r_ok]
  unfold sameAll
  rw [evE, h1, r_ok]
  have := all_true (zs := (zipP xs ys).filterMap fun _ => some (.bl true)) (by simp)
  show R.lift _ (bifW .all [_]) = _
  simp only [List.map_cons, List.map_nil, vw_lst, bifW, this, r_lift]
theorem same_ok {g w : Nat} (hg : p.fns[g]? = some (fSame g w)) (hw : p.fns[w]? = some fWhole) {s : List OO} : ∀ (n : Nat) (x y : W), Sm s n x y → callN p wf (n + 2) false g [x, y] s = .ok (.bl true) s
  | n, x, .non, h => by
    simp only [Sm] at h
    subst h
    rw [callN_fn hg rfl]
    simp only [fSame, s_cons, s_nil, exS, evE, evEs, evO, evT, r_ok, r_lift, r_lift0, r_calm, r_at, e_nx, e_ret, List.getElem?_cons_zero, List.getElem?_cons_succ, vw_loc, vw_sl, vw_lst, vw_dct, vw_tup, vw_int, vw_str, vw_bl, vw_non, vw_scr, lk_loc, lk_sl, lk_lst, lk_dct, lk_obj, lk_tup, lk_int, lk_str, lk_bl, lk_non, sb_lst, sb_tup, List.length_cons, List.length_nil, List.length_map, ix40, ix41, ix42, ix43, ix20, ix21, Option.bind_some, Option.map_some, c_lt, c_le, c_gt, c_ge, c_eqi, c_nei, c_eqb, c_neb, c_eqs, c_nes, decide_false, decide_true, t_bl, t_int, Bool.false_eq_true, if_false, if_true, Nat.reduceAdd, Nat.reduceLT, Nat.reduceSub, f_int, f_lenL, f_lenT, b_add, b_sub, b_mul, b_mod, b_fdv, b_pow, o_non, o_bl, o_int, o_str, o_lst, o_tup, o_dct, o_obj, o_loc, o_scr, okvs, List.all_cons, List.all_nil, List.set_cons_zero, List.set_cons_succ, Bool.true_and, Bool.and_true, st_lst, List.replicate, List.map_cons, List.map_nil, List.cons_append, List.nil_append, Bool.not_true, Bool.not_false, ml1, ml2, ml3, ml4, ml5, ml6, ml7, ml8, c_isn_non]
  | n, x, .bl b, h => by
    simp only [Sm] at h
    subst h
    rw [callN_fn hg rfl]
    simp only [fSame, s_cons, s_nil, exS, evE, evEs, evO, evT, r_ok, r_lift, r_lift0, r_calm, r_at, e_nx, e_ret, List.getElem?_cons_zero, List.getElem?_cons_succ, vw_loc, vw_sl, vw_lst, vw_dct, vw_tup, vw_int, vw_str, vw_bl, vw_non, vw_scr, lk_loc, lk_sl, lk_lst, lk_dct, lk_obj, lk_tup, lk_int, lk_str, lk_bl, lk_non, sb_lst, sb_tup, List.length_cons, List.length_nil, List.length_map, ix40, ix41, ix42, ix43, ix20, ix21, Option.bind_some, Option.map_some, c_lt, c_le, c_gt, c_ge, c_eqi, c_nei, c_eqb, c_neb, c_eqs, c_nes, decide_false, decide_true, t_bl, t_int, Bool.false_eq_true, if_false, if_true, Nat.reduceAdd, Nat.reduceLT, Nat.reduceSub, f_int, f_lenL, f_lenT, b_add, b_sub, b_mul, b_mod, b_fdv, b_pow, o_non, o_bl, o_int, o_str, o_lst, o_tup, o_dct, o_obj, o_loc, o_scr, okvs, List.all_cons, List.all_nil, List.set_cons_zero, List.set_cons_succ, Bool.true_and, Bool.and_true, st_lst, List.replicate, List.map_cons, List.map_nil, List.cons_append, List.nil_append, Bool.not_true, Bool.not_false, ml1, ml2, ml3, ml4, ml5, ml6, ml7, ml8, c_isn_bl, k_bl_bool, beq_self_eq_true]
  | n, x, .int i, h => by
    simp only [Sm] at h
    subst h
    rw [callN_fn hg rfl]
    simp only [fSame, s_cons, s_nil, exS, evE, evEs, evO, evT, r_ok, r_lift, r_lift0, r_calm, r_at, e_nx, e_ret, List.getElem?_cons_zero, List.getElem?_cons_succ, vw_loc, vw_sl, vw_lst, vw_dct, vw_tup, vw_int, vw_str, vw_bl, vw_non, vw_scr, lk_loc, lk_sl, lk_lst, lk_dct, lk_obj, lk_tup, lk_int, lk_str, lk_bl, lk_non, sb_lst, sb_tup, List.length_cons, List.length_nil, List.length_map, ix40, ix41, ix42, ix43, ix20, ix21, Option.bind_some, Option.map_some, c_lt, c_le, c_gt, c_ge, c_eqi, c_nei, c_eqb, c_neb, c_eqs, c_nes, decide_false, decide_true, t_bl, t_int, Bool.false_eq_true, if_false, if_true, Nat.reduceAdd, Nat.reduceLT, Nat.reduceSub, f_int, f_lenL, f_lenT, b_add, b_sub, b_mul, b_mod, b_fdv, b_pow, o_non, o_bl, o_int, o_str, o_lst, o_tup, o_dct, o_obj, o_loc, o_scr, okvs, List.all_cons, List.all_nil, List.set_cons_zero, List.set_cons_succ, Bool.true_and, Bool.and_true, st_lst, List.replicate, List.map_cons, List.map_nil, List.cons_append, List.nil_append, Bool.not_true, Bool.not_false, ml1, ml2, ml3, ml4, ml5, ml6, ml7, ml8, c_isn_int, k_int_bool, k_int_int, beq_self_eq_true, callR, whole_int hw]
  | n, x, .str t, h => by
    simp only [Sm] at h
    subst h
    rw [callN_fn hg rfl]
    simp only [fSame, s_cons, s_nil, exS, evE, evEs, evO, evT, r_ok, r_lift, r_lift0, r_calm, r_at, e_nx, e_ret, List.getElem?_cons_zero, List.getElem?_cons_succ, vw_loc, vw_sl, vw_lst, vw_dct, vw_tup, vw_int, vw_str, vw_bl, vw_non, vw_scr, lk_loc, lk_sl, lk_lst, lk_dct, lk_obj, lk_tup, lk_int, lk_str, lk_bl, lk_non, sb_lst, sb_tup, List.length_cons, List.length_nil, List.length_map, ix40, ix41, ix42, ix43, ix20, ix21, Option.bind_some, Option.map_some, c_lt, c_le, c_gt, c_ge, c_eqi, c_nei, c_eqb, c_neb, c_eqs, c_nes, decide_false, decide_true, t_bl, t_int, Bool.false_eq_true, if_false, if_true, Nat.reduceAdd, Nat.reduceLT, Nat.reduceSub, f_int, f_lenL, f_lenT, b_add, b_sub, b_mul, b_mod, b_fdv, b_pow, o_non, o_bl, o_int, o_str, o_lst, o_tup, o_dct, o_obj, o_loc, o_scr, okvs, List.all_cons, List.all_nil, List.set_cons_zero, List.set_cons_succ, Bool.true_and, Bool.and_true, st_lst, List.replicate, List.map_cons, List.map_nil, List.cons_append, List.nil_append, Bool.not_true, Bool.not_false, ml1, ml2, ml3, ml4, ml5, ml6, ml7, ml8, c_isn_str, k_str_bool, k_str_int, k_str_str, beq_self_eq_true]
  | n + 1, x, .lst ys, h => by
    simp only [Sm] at h
    obtain ⟨xs, hx, hl, hz, hr⟩ := h
    have ih : ∀ (i : Nat) a b, xs[i]? = some a → ys[i]? = some b → okv a = true ∧ okv b = true ∧ callN p wf (n + 2) false g [a, b] s = .ok (.bl true) s := fun i a b e1 e2 => by
      obtain ⟨o1, o2, h⟩ := hr i a b e1 e2
      exact ⟨o1, o2, same_ok hg hw n a b h⟩
    rw [callN_fn hg rfl]
    rcases hx with rfl | ⟨k, rfl, hk⟩
    · have hc := same_zip (x := .lst xs) (y := .lst ys) (wf := wf) (w := w) (fun r => .inl ⟨rfl, rfl, rfl, rfl, rfl⟩) hl hz ih
      simp only [fSame, s_cons, s_nil, exS, evE, evEs, evO, evT, r_ok, r_lift, r_lift0, r_calm, r_at, e_nx, e_ret, List.getElem?_cons_zero, List.getElem?_cons_succ, vw_loc, vw_sl, vw_lst, vw_dct, vw_tup, vw_int, vw_str, vw_bl, vw_non, vw_scr, lk_loc, lk_sl, lk_lst, lk_dct, lk_obj, lk_tup, lk_int, lk_str, lk_bl, lk_non, sb_lst, sb_tup, List.length_cons, List.length_nil, List.length_map, ix40, ix41, ix42, ix43, ix20, ix21, Option.bind_some, Option.map_some, c_lt, c_le, c_gt, c_ge, c_eqi, c_nei, c_eqb, c_neb, c_eqs, c_nes, decide_false, decide_true, t_bl, t_int, Bool.false_eq_true, if_false, if_true, Nat.reduceAdd, Nat.reduceLT, Nat.reduceSub, f_int, f_lenL, f_lenT, b_add, b_sub, b_mul, b_mod, b_fdv, b_pow, o_non, o_bl, o_int, o_str, o_lst, o_tup, o_dct, o_obj, o_loc, o_scr, okvs, List.all_cons, List.all_nil, List.set_cons_zero, List.set_cons_succ, Bool.true_and, Bool.and_true, st_lst, List.replicate, List.map_cons, List.map_nil, List.cons_append, List.nil_append, Bool.not_true, Bool.not_false, ml1, ml2, ml3, ml4, ml5, ml6, ml7, ml8, c_isn_lst, k_lst_bool, k_lst_int, k_lst_str, k_lst_list, k_lst_tuple, beq_self_eq_true, hl, hc]
    · have hc := same_zip (x := .loc k) (y := .lst ys) (wf := wf) (w := w) (fun r => .inl ⟨by simp only [vw_loc, hk], by simp only [clsOf, look, hk], by simp only [wlOf, lstOf, look, hk, okv, if_true], by simp only [wkOf, seqOf, look, hk, okv, if_true], rfl⟩) hl hz ih
      simp only [fSame, s_cons, s_nil, exS, evE, evEs, evO, evT, r_ok, r_lift, r_lift0, r_calm, r_at, e_nx, e_ret, List.getElem?_cons_zero, List.getElem?_cons_succ, vw_loc, vw_sl, vw_lst, vw_dct, vw_tup, vw_int, vw_str, vw_bl, vw_non, vw_scr, lk_loc, lk_sl, lk_lst, lk_dct, lk_obj, lk_tup, lk_int, lk_str, lk_bl, lk_non, sb_lst, sb_tup, List.length_cons, List.length_nil, List.length_map, ix40, ix41, ix42, ix43, ix20, ix21, Option.bind_some, Option.map_some, c_lt, c_le, c_gt, c_ge, c_eqi, c_nei, c_eqb, c_neb, c_eqs, c_nes, decide_false, decide_true, t_bl, t_int, Bool.false_eq_true, if_false, if_true, Nat.reduceAdd, Nat.reduceLT, Nat.reduceSub, f_int, f_lenL, f_lenT, b_add, b_sub, b_mul, b_mod, b_fdv, b_pow, o_non, o_bl, o_int, o_str, o_lst, o_tup, o_dct, o_obj, o_loc, o_scr, okvs, List.all_cons, List.all_nil, List.set_cons_zero, List.set_cons_succ, Bool.true_and, Bool.and_true, st_lst, List.replicate, List.map_cons, List.map_nil, List.cons_append, List.nil_append, Bool.not_true, Bool.not_false, ml1, ml2, ml3, ml4, ml5, ml6, ml7, ml8, c_isn_lst, k_lst_bool, k_lst_int, k_lst_str, k_lst_list, k_lst_tuple, k_loc_list hk, k_loc_tuple hk, f_lenLoc hk, beq_self_eq_true, hl, hc]
  | n + 1, x, .tup ys, h => by
    simp only [Sm] at h
    obtain ⟨xs, rfl, hl, hz, hr⟩ := h
    have ih : ∀ (i : Nat) a b, xs[i]? = some a → ys[i]? = some b → okv a = true ∧ okv b = true ∧ callN p wf (n + 2) false g [a, b] s = .ok (.bl true) s := fun i a b e1 e2 => by
      obtain ⟨o1, o2, h⟩ := hr i a b e1 e2
      exact ⟨o1, o2, same_ok hg hw n a b h⟩
    rw [callN_fn hg rfl]
    have hc := same_zip (x := .tup xs) (y := .tup ys) (wf := wf) (w := w) (fun r => .inr ⟨rfl, rfl⟩) hl hz ih
    simp only [fSame, s_cons, s_nil, exS, evE, evEs, evO, evT, r_ok, r_lift, r_lift0, r_calm, r_at, e_nx, e_ret, List.getElem?_cons_zero, List.getElem?_cons_succ, vw_loc, vw_sl, vw_lst, vw_dct, vw_tup, vw_int, vw_str, vw_bl, vw_non, vw_scr, lk_loc, lk_sl, lk_lst, lk_dct, lk_obj, lk_tup, lk_int, lk_str, lk_bl, lk_non, sb_lst, sb_tup, List.length_cons, List.length_nil, List.length_map, ix40, ix41, ix42, ix43, ix20, ix21, Option.bind_some, Option.map_some, c_lt, c_le, c_gt, c_ge, c_eqi, c_nei, c_eqb, c_neb, c_eqs, c_nes, decide_false, decide_true, t_bl, t_int, Bool.false_eq_true, if_false, if_true, Nat.reduceAdd, Nat.reduceLT, Nat.reduceSub, f_int, f_lenL, f_lenT, b_add, b_sub, b_mul, b_mod, b_fdv, b_pow, o_non, o_bl, o_int, o_str, o_lst, o_tup, o_dct, o_obj, o_loc, o_scr, okvs, List.all_cons, List.all_nil, List.set_cons_zero, List.set_cons_succ, Bool.true_and, Bool.and_true, st_lst, List.replicate, List.map_cons, List.map_nil, List.cons_append, List.nil_append, Bool.not_true, Bool.not_false, ml1, ml2, ml3, ml4, ml5, ml6, ml7, ml8, c_isn_tup, k_tup_bool, k_tup_int, k_tup_str, k_tup_list, k_tup_tuple, beq_self_eq_true, hl, hc]
  | 0, x, .lst ys, h => by simp [Sm] at h
  | 0, x, .tup ys, h => by simp [Sm] at h
  | _, _, .dct _ _, h => by simp [Sm] at h
  | _, _, .obj _ _ _, h => by simp [Sm] at h
  | _, _, .loc _, h => by simp [Sm] at h
  | _, _, .sl _, h => by simp [Sm] at h
  | _, _, .glo _, h => by simp [Sm] at h
  | _, _, .scr _, h => by simp [Sm] at h
end
end Ev

/-! M4: the laws' helpers: feed, pairs, leaf. -/
namespace Ev
section
variable {p : Pg} {cal : Bool → Nat → List W → List OO → RC} {wf : Nat}
/-! ### _law_feed -/
def feedC : E := .cpr (.bif .int [(.var 2)]) (.nam 2) (.val (.slc (.var 0) none (some (.cst (.int 63))))) none
def fFeed : Fn := ⟨1, 4, [.set 1 feedC,
    .set 3 (.bin .add (.cst (.int 3825)) (.bin .mul (.cst (.int 61)) (.bif .len [(.var 1)]))),
    .for (.nam 2) (.val (.var 1)) [.set 3 (.bin .mod (.bif .int [(.bin .add (.bin .mul (.var 3) (.cst (.int 8117))) (.var 2))]) (.cst (.int 2147483629)))],
    .ret (.alc (.lst [(.var 1), (.cst (.int 0)), (.cst (.int 0)), (.var 3)]))]⟩
theorem cut63 {α : Type} {ns : List α} (h : ns.length ≤ 63) : cut ns none (some 63) = ns := by
  unfold cut sIx
  simp only [List.drop_zero, Nat.sub_zero]
  rw [if_neg (by decide)]
  have : min (63 : Int).toNat ns.length = ns.length := Nat.min_eq_right h
  rw [this, List.take_length]
theorem feedC_ok {ns : List Int} (h : ns.length ≤ 63) {s : List OO} : evE p cal feedC ⟨[.val (.scr ns), .un, .un, .un], s⟩ = .ok (.lst (ns.map .int)) ⟨[.val (.scr ns), .un, .un, .un], s⟩ := by
  have e : evE p cal (.slc (.var 0) none (some (.cst (.int 63)))) ⟨[.val (.scr ns), .un, .un, .un], s⟩ = .ok (.lst (ns.map .int)) ⟨[.val (.scr ns), .un, .un, .un], s⟩ := by
    simp only [s_cons, s_nil, exS, evE, evEs, evO, evT, r_ok, r_lift, r_lift0, r_calm, r_at, e_nx, e_ret, List.getElem?_cons_zero, List.getElem?_cons_succ, vw_loc, vw_sl, vw_lst, vw_dct, vw_tup, vw_int, vw_str, vw_bl, vw_non, vw_scr, lk_loc, lk_sl, lk_lst, lk_dct, lk_obj, lk_tup, lk_int, lk_str, lk_bl, lk_non, sb_lst, sb_tup, List.length_cons, List.length_nil, List.length_map, ix40, ix41, ix42, ix43, ix20, ix21, Option.bind_some, Option.map_some, c_lt, c_le, c_gt, c_ge, c_eqi, c_nei, c_eqb, c_neb, c_eqs, c_nes, decide_false, decide_true, t_bl, t_int, Bool.false_eq_true, if_false, if_true, Nat.reduceAdd, Nat.reduceLT, Nat.reduceSub, f_int, f_lenL, f_lenT, b_add, b_sub, b_mul, b_mod, b_fdv, b_pow, o_non, o_bl, o_int, o_str, o_lst, o_tup, o_dct, o_obj, o_loc, o_scr, okvs, List.all_cons, List.all_nil, List.set_cons_zero, List.set_cons_succ, Bool.true_and, Bool.and_true, st_lst, List.replicate, List.map_cons, List.map_nil, List.cons_append, List.nil_append, Bool.not_true, Bool.not_false, ml1, ml2, ml3, ml4, ml5, ml6, ml7, ml8, slcW, cut63 h]
  unfold feedC
  rw [cpr_pure (q := .seq (.lst (ns.map .int))) (xs := ns.map .int) (fun x => some x) (evI_lst e) rfl (fun _ _ _ => at_lst) (by rw [len_lst]; exact Nat.le_refl _) (by simp only [List.length_map, lineMax]; omega) fun x hx => ?_]
  · rw [List.filterMap_some]
  · obtain ⟨i, _, rfl⟩ := List.mem_map.mp hx
    refine ⟨[.val (.scr ns), .un, .val (.int i), .un], [.val (.scr ns), .un, .val (.int i), .un], rfl, ?_, rfl, rfl⟩
    simp only [mL, s_cons, s_nil, exS, evE, evEs, evO, evT, r_ok, r_lift, r_lift0, r_calm, r_at, e_nx, e_ret, List.getElem?_cons_zero, List.getElem?_cons_succ, vw_loc, vw_sl, vw_lst, vw_dct, vw_tup, vw_int, vw_str, vw_bl, vw_non, vw_scr, lk_loc, lk_sl, lk_lst, lk_dct, lk_obj, lk_tup, lk_int, lk_str, lk_bl, lk_non, sb_lst, sb_tup, List.length_cons, List.length_nil, List.length_map, ix40, ix41, ix42, ix43, ix20, ix21, Option.bind_some, Option.map_some, c_lt, c_le, c_gt, c_ge, c_eqi, c_nei, c_eqb, c_neb, c_eqs, c_nes, decide_false, decide_true, t_bl, t_int, Bool.false_eq_true, if_false, if_true, Nat.reduceAdd, Nat.reduceLT, Nat.reduceSub, f_int, f_lenL, f_lenT, b_add, b_sub, b_mul, b_mod, b_fdv, b_pow, o_non, o_bl, o_int, o_str, o_lst, o_tup, o_dct, o_obj, o_loc, o_scr, okvs, List.all_cons, List.all_nil, List.set_cons_zero, List.set_cons_succ, Bool.true_and, Bool.and_true, st_lst, List.replicate, List.map_cons, List.map_nil, List.cons_append, List.nil_append, Bool.not_true, Bool.not_false, ml1, ml2, ml3, ml4, ml5, ml6, ml7, ml8]
theorem feed_ok {n f : Nat} (hf : p.fns[f]? = some fFeed) {ns : List Int} (hl : ns.length ≤ 63) (s : List OO) : ∃ m, callN p wf (n + 1) false f [.scr ns] s = .ok (.loc s.length) (s ++ [feedO ns 0 0 m]) := by
  rw [callN_fn hf rfl]
  simp only [fFeed, s_cons, s_nil, exS, evE, evEs, evO, evT, r_ok, r_lift, r_lift0, r_calm, r_at, e_nx, e_ret, List.getElem?_cons_zero, List.getElem?_cons_succ, vw_loc, vw_sl, vw_lst, vw_dct, vw_tup, vw_int, vw_str, vw_bl, vw_non, vw_scr, lk_loc, lk_sl, lk_lst, lk_dct, lk_obj, lk_tup, lk_int, lk_str, lk_bl, lk_non, sb_lst, sb_tup, List.length_cons, List.length_nil, List.length_map, ix40, ix41, ix42, ix43, ix20, ix21, Option.bind_some, Option.map_some, c_lt, c_le, c_gt, c_ge, c_eqi, c_nei, c_eqb, c_neb, c_eqs, c_nes, decide_false, decide_true, t_bl, t_int, Bool.false_eq_true, if_false, if_true, Nat.reduceAdd, Nat.reduceLT, Nat.reduceSub, f_int, f_lenL, f_lenT, b_add, b_sub, b_mul, b_mod, b_fdv, b_pow, o_non, o_bl, o_int, o_str, o_lst, o_tup, o_dct, o_obj, o_loc, o_scr, okvs, List.all_cons, List.all_nil, List.set_cons_zero, List.set_cons_succ, Bool.true_and, Bool.and_true, st_lst, List.replicate, List.map_cons, List.map_nil, List.cons_append, List.nil_append, Bool.not_true, Bool.not_false, ml1, ml2, ml3, ml4, ml5, ml6, ml7, ml8, feedC_ok hl]
  have hi := evI_lst (p := p) (cal := callN p wf n) (e := .var 1) (st := ⟨[.val (.scr ns), .val (.lst (ns.map .int)), .un, .val (.int (3825 + 61 * (ns.length : Int)))], s⟩) (st1 := ⟨[.val (.scr ns), .val (.lst (ns.map .int)), .un, .val (.int (3825 + 61 * (ns.length : Int)))], s⟩) (xs := ns.map .int) (by simp only [s_cons, s_nil, exS, evE, evEs, evO, evT, r_ok, r_lift, r_lift0, r_calm, r_at, e_nx, e_ret, List.getElem?_cons_zero, List.getElem?_cons_succ, vw_loc, vw_sl, vw_lst, vw_dct, vw_tup, vw_int, vw_str, vw_bl, vw_non, vw_scr, lk_loc, lk_sl, lk_lst, lk_dct, lk_obj, lk_tup, lk_int, lk_str, lk_bl, lk_non, sb_lst, sb_tup, List.length_cons, List.length_nil, List.length_map, ix40, ix41, ix42, ix43, ix20, ix21, Option.bind_some, Option.map_some, c_lt, c_le, c_gt, c_ge, c_eqi, c_nei, c_eqb, c_neb, c_eqs, c_nes, decide_false, decide_true, t_bl, t_int, Bool.false_eq_true, if_false, if_true, Nat.reduceAdd, Nat.reduceLT, Nat.reduceSub, f_int, f_lenL, f_lenT, b_add, b_sub, b_mul, b_mod, b_fdv, b_pow, o_non, o_bl, o_int, o_str, o_lst, o_tup, o_dct, o_obj, o_loc, o_scr, okvs, List.all_cons, List.all_nil, List.set_cons_zero, List.set_cons_succ, Bool.true_and, Bool.and_true, st_lst, List.replicate, List.map_cons, List.map_nil, List.cons_append, List.nil_append, Bool.not_true, Bool.not_false, ml1, ml2, ml3, ml4, ml5, ml6, ml7, ml8])
  rw [hi, r_ok]
  obtain ⟨st', e1, v2, m, e2⟩ := for_inv (tg := tgW (.nam 2)) (b := exSs p (callN p wf n) wf [.set 3 (.bin .mod (.bif .int [(.bin .add (.bin .mul (.var 3) (.cst (.int 8117))) (.var 2))]) (.cst (.int 2147483629)))]) (q := .seq (.lst (ns.map .int))) (xs := ns.map .int)
    (fun _ st => ∃ (v2 : Sl) (m : Int), st = ⟨[.val (.scr ns), .val (.lst (ns.map .int)), v2, .val (.int m)], s⟩) (fun _ _ _ => at_lst) (fun i x st hx ⟨v2, m, e⟩ => by
      subst e
      obtain ⟨j, _, rfl⟩ := List.mem_map.mp (List.mem_of_getElem? hx)
      refine ⟨[.val (.scr ns), .val (.lst (ns.map .int)), .val (.int j), .val (.int m)], _, rfl, ?_, .val (.int j), (m * 8117 + j) % 2147483629, rfl⟩
      simp only [s_cons, s_nil, exS, evE, evEs, evO, evT, r_ok, r_lift, r_lift0, r_calm, r_at, e_nx, e_ret, List.getElem?_cons_zero, List.getElem?_cons_succ, vw_loc, vw_sl, vw_lst, vw_dct, vw_tup, vw_int, vw_str, vw_bl, vw_non, vw_scr, lk_loc, lk_sl, lk_lst, lk_dct, lk_obj, lk_tup, lk_int, lk_str, lk_bl, lk_non, sb_lst, sb_tup, List.length_cons, List.length_nil, List.length_map, ix40, ix41, ix42, ix43, ix20, ix21, Option.bind_some, Option.map_some, c_lt, c_le, c_gt, c_ge, c_eqi, c_nei, c_eqb, c_neb, c_eqs, c_nes, decide_false, decide_true, t_bl, t_int, Bool.false_eq_true, if_false, if_true, Nat.reduceAdd, Nat.reduceLT, Nat.reduceSub, f_int, f_lenL, f_lenT, b_add, b_sub, b_mul, b_mod, b_fdv, b_pow, o_non, o_bl, o_int, o_str, o_lst, o_tup, o_dct, o_obj, o_loc, o_scr, okvs, List.all_cons, List.all_nil, List.set_cons_zero, List.set_cons_succ, Bool.true_and, Bool.and_true, st_lst, List.replicate, List.map_cons, List.map_nil, List.cons_append, List.nil_append, Bool.not_true, Bool.not_false, ml1, ml2, ml3, ml4, ml5, ml6, ml7, ml8, Int.reduceLT]) (ns.map W.int).length 0 ⟨[.val (.scr ns), .val (.lst (ns.map .int)), .un, .val (.int (3825 + 61 * (ns.length : Int)))], s⟩ ⟨_, _, rfl⟩ (Nat.zero_le _) (by omega)
  rw [len_lst, e1]
  subst e2
  refine ⟨m, ?_⟩
  simp only [s_cons, s_nil, exS, evE, evEs, evO, evT, r_ok, r_lift, r_lift0, r_calm, r_at, e_nx, e_ret, List.getElem?_cons_zero, List.getElem?_cons_succ, vw_loc, vw_sl, vw_lst, vw_dct, vw_tup, vw_int, vw_str, vw_bl, vw_non, vw_scr, lk_loc, lk_sl, lk_lst, lk_dct, lk_obj, lk_tup, lk_int, lk_str, lk_bl, lk_non, sb_lst, sb_tup, List.length_cons, List.length_nil, List.length_map, ix40, ix41, ix42, ix43, ix20, ix21, Option.bind_some, Option.map_some, c_lt, c_le, c_gt, c_ge, c_eqi, c_nei, c_eqb, c_neb, c_eqs, c_nes, decide_false, decide_true, t_bl, t_int, Bool.false_eq_true, if_false, if_true, Nat.reduceAdd, Nat.reduceLT, Nat.reduceSub, f_int, f_lenL, f_lenT, b_add, b_sub, b_mul, b_mod, b_fdv, b_pow, o_non, o_bl, o_int, o_str, o_lst, o_tup, o_dct, o_obj, o_loc, o_scr, okvs, List.all_cons, List.all_nil, List.set_cons_zero, List.set_cons_succ, Bool.true_and, Bool.and_true, st_lst, List.replicate, List.map_cons, List.map_nil, List.cons_append, List.nil_append, Bool.not_true, Bool.not_false, ml1, ml2, ml3, ml4, ml5, ml6, ml7, ml8, lineMax, Nat.reduceLeDiff, isL, oOf, feedO]
/-! ### _law_leaf -/
def fLeaf : Fn := ⟨1, 3, [.ret (.sub (.cpr (.var 1) (.tup [(.nam 1), (.nam 2)]) (.val (.var 0)) (some (.cmp .eq (.var 2) (.cst (.int 0))))) (.cst (.int 0)))]⟩
/-! ### own lists -/
theorem pop_sl {r r' : List Sl} {s s' : List OO} {n : Nat} {e : E} {xs : List W} {i : Int} {x : W} (h : r[n]? = some (.own (.lst xs))) (he : evE p cal e ⟨r, s⟩ = .ok (.int i) ⟨r', s'⟩) (h' : r'[n]? = some (.own (.lst xs))) (hi : 0 ≤ i ∧ i < xs.length) (hl : xs.length ≤ lineMax) (hx : xs[i.toNat]? = some x) :
    evE p cal (.cmt .pop (.var n) [e]) ⟨r, s⟩ = .ok x ⟨r'.set n (.own (.lst (xs.eraseIdx i.toNat))), s'⟩ := by
  have h63 : -(2 ^ 63) ≤ i ∧ i < 2 ^ 63 := ⟨by omega, by simp only [lineMax] at hl; omega⟩
  simp only [evE, evEs, h, r_ok, he, lk_sl, cmT, if_true, h', okvs, List.all_cons, List.all_nil, o_int, Bool.true_and, Bool.true_or, Bool.or_true, List.map_cons, List.map_nil, reduceCtorEq, if_false, cmtW, ix_nat hi, Option.bind_some, hx, Option.map_some, Ev.put, h63, and_self]
theorem app_sl {r r' : List Sl} {s s' : List OO} {n : Nat} {e : E} {xs xs' : List W} {x : W} (h : r[n]? = some (.own (.lst xs))) (he : evE p cal e ⟨r, s⟩ = .ok x ⟨r', s'⟩) (h' : r'[n]? = some (.own (.lst xs'))) (hl : xs'.length < lineMax) (hx : okv x = true) :
    evE p cal (.cmt .append (.var n) [e]) ⟨r, s⟩ = .ok .non ⟨r'.set n (.own (.lst (xs' ++ [x]))), s'⟩ := by
  simp only [evE, evEs, h, r_ok, he, lk_sl, cmT, if_true, h', okvs, List.all_cons, List.all_nil, hx, Bool.true_and, Bool.true_or, Bool.or_true, List.map_cons, List.map_nil, reduceCtorEq, if_false, cmtW, hl, Ev.put]
end
end Ev

/-! M5: the laws' drawn pairs. -/
namespace Ev
def tW (q : Tx × Int) : W := .tup [.str q.1, .int q.2]
def unW : W → Tx × Int
  | .tup [.str x, .int i] => (x, i)
  | _ => ([], 0)
def xLeaf : Tx := [108, 101, 97, 102]
def xNode : Tx := [110, 111, 100, 101]
def xTip : Tx := [116, 105, 112]
def xOne : Tx := [111, 110, 101]
def xFork : Tx := [102, 111, 114, 107]
def xTri : Tx := [116, 114, 105]
def xA : Tx := [97]
def xZz : Tx := [122, 122]
def T6 : List (Tx × Int) := [(xTip, 0), (xOne, 1), (xFork, 2), (xTri, 3), (xA, 1), (xZz, 0)]
def fPairs (d a : Nat) : Fn := ⟨1, 5, [.own 1 (.lst [(.tup [(.cst (.str [108, 101, 97, 102])), (.cst (.int 0))]), (.tup [(.cst (.str [110, 111, 100, 101])), (.bin .add (.cst (.int 2)) (.cal d [(.var 0), (.cst (.int 2))]))])]),
    .own 2 (.lst [(.tup [(.cst (.str [116, 105, 112])), (.cst (.int 0))]), (.tup [(.cst (.str [111, 110, 101])), (.cst (.int 1))]), (.tup [(.cst (.str [102, 111, 114, 107])), (.cst (.int 2))]), (.tup [(.cst (.str [116, 114, 105])), (.cst (.int 3))]), (.tup [(.cst (.str [97])), (.cst (.int 1))]), (.tup [(.cst (.str [122, 122])), (.cst (.int 0))])]),
    .for (.nam 3) (.rng [(.cal a [(.var 0), (.lst [(.cst (.int 0)), (.cst (.int 0)), (.cst (.int 1)), (.cst (.int 1)), (.cst (.int 2)), (.cst (.int 3)), (.cst (.int 4))])])]) [.ex (.cmt .append (.var 1) [(.cmt .pop (.var 2) [(.cal d [(.var 0), (.bif .len [(.var 2)])])])])],
    .set 4 (.cal d [(.var 0), (.bif .len [(.var 1)])]),
    .ret (.bin .add (.slc (.var 1) (some (.var 4)) none) (.slc (.var 1) none (some (.var 4))))]⟩
section
variable {p : Pg} {wf : Nat}
theorem lm7 : decide (7 ≤ lineMax) = true := by decide
theorem evI_rng {cal : Bool → Nat → List W → List OO → RC} {es : List E} {ws xs : List W} {st st1 : St} (h : evEs p cal es st = .ok ws st1) (hr : rngW ws = some xs) : evI p cal (.rng es) st = .ok (.fix xs) st1 := by
  rw [evI, h, r_ok, hr]
  rfl
theorem un_tW (q : Tx × Int) : unW (tW q) = q := rfl
theorem cut_lo {α : Type} {xs : List α} {d : Int} (h : 0 ≤ d) : cut xs (some d) none = xs.drop d.toNat := by
  unfold cut sIx
  simp only
  rw [if_neg (by omega)]
  by_cases hd : d.toNat ≤ xs.length
  · rw [Nat.min_eq_left hd]
    apply List.take_of_length_le
    simp
  · rw [Nat.min_eq_right (by omega), List.drop_eq_nil_of_le (Nat.le_refl _), List.drop_eq_nil_of_le (by omega)]
    simp
theorem cut_hi {α : Type} {xs : List α} {d : Int} (h : 0 ≤ d) (hd : d.toNat ≤ xs.length) : cut xs none (some d) = xs.take d.toNat := by
  unfold cut sIx
  simp only [List.drop_zero, Nat.sub_zero]
  rw [if_neg (by omega), Nat.min_eq_left hd]
/-- the pairs that are drawn -/
def DrawnP (P : List (Tx × Int)) : Prop := ∃ (x : Int) (rest more : List (Tx × Int)) (d : Nat), (x = 2 ∨ x = 3) ∧ (rest ++ more).Perm T6 ∧ rest.length ≤ 4 ∧
  P = ((xLeaf, 0) :: (xNode, x) :: rest).drop d ++ ((xLeaf, 0) :: (xNode, x) :: rest).take d
theorem er_perm {α : Type} : ∀ {l : List α} {i : Nat} (h : i < l.length), (l[i] :: l.eraseIdx i).Perm l
  | x :: l, 0, _ => List.Perm.refl _
  | x :: l, i + 1, h => by
    have ih := er_perm (l := l) (i := i) (by simpa using h)
    simp only [List.getElem_cons_succ, List.eraseIdx_cons_succ]
    exact (List.Perm.swap x _ _).trans (ih.cons x)
def pTurn (d : Nat) : S := .ex (.cmt .append (.var 1) [(.cmt .pop (.var 2) [(.cal d [(.var 0), (.bif .len [(.var 2)])])])])
/-- one more pair is taken -/
theorem pturn_ok {n d : Nat} (hd : p.fns[d]? = some fDraw) {s : List OO} {k : Nat} {cells : List Int} {a b m : Int} (hs : s[k]? = some (feedO cells a b m)) (h0 : 0 ≤ a) {xs ys : List W} {v3 v4 : Sl} (hx : xs.length < lineMax) (hy : 0 < ys.length) (hy2 : ys.length < 1000) (ho : ∀ y ∈ ys, okv y = true) :
    ∃ (i : Nat) (y : W) (a' b' : Int), ys[i]? = some y ∧ 0 ≤ a' ∧ exS p (callN p wf (n + 1)) wf (pTurn d) ⟨[.val (.loc k), .own (.lst xs), .own (.lst ys), v3, v4], s⟩ = .ok .nx ⟨[.val (.loc k), .own (.lst (xs ++ [y])), .own (.lst (ys.eraseIdx i)), v3, v4], s.set k (feedO cells a' b' m)⟩ := by
  obtain ⟨dd, a', b', e, g1, g2, g3⟩ := draw_ok (wf := wf) (n := n) hd hs h0 (many := (ys.length : Int)) (by omega) (by omega)
  have hdl : dd.toNat < ys.length := by omega
  refine ⟨dd.toNat, ys[dd.toNat], a', b', List.getElem?_eq_getElem hdl, g3, ?_⟩
  have fl : ∀ s', bifR p (callN p wf (n + 1)) .len [.sl 2] ⟨[.val (.loc k), .own (.lst xs), .own (.lst ys), v3, v4], s'⟩ = .ok (.int ys.length) ⟨[.val (.loc k), .own (.lst xs), .own (.lst ys), v3, v4], s'⟩ := fun s' => f_lenSl rfl
  have ec : evE p (callN p wf (n + 1)) (.cal d [(.var 0), (.bif .len [(.var 2)])]) ⟨[.val (.loc k), .own (.lst xs), .own (.lst ys), v3, v4], s⟩ = .ok (.int dd) ⟨[.val (.loc k), .own (.lst xs), .own (.lst ys), v3, v4], s.set k (feedO cells a' b' m)⟩ := by
    simp only [evE, evEs, r_ok, List.getElem?_cons_zero, List.getElem?_cons_succ, fl, callR, okvs, List.all_cons, List.all_nil, o_loc, o_int, Bool.true_and, if_true, e, r_at]
  have hlm : ys.length ≤ lineMax := Nat.le_trans (Nat.le_of_lt hy2) (by decide)
  have ep := pop_sl (xs := ys) (r := [.val (.loc k), .own (.lst xs), .own (.lst ys), v3, v4]) (n := 2) rfl ec rfl ⟨g1, g2⟩ hlm (List.getElem?_eq_getElem hdl)
  have ea := app_sl (r := [.val (.loc k), .own (.lst xs), .own (.lst ys), v3, v4]) (n := 1) (xs := xs) (xs' := xs) rfl ep rfl hx (ho _ (List.getElem_mem hdl))
  unfold pTurn
  rw [exS, ea]
  rfl
theorem ploop_ok {n d : Nat} (hd : p.fns[d]? = some fDraw) {s : List OO} {k : Nat} {cells : List Int} {m : Int} (hk : k < s.length) {u v : W} {j : Nat} (hj : j ≤ 4) {ys : List W} (hy : ys.length = 6) (ho : ∀ y ∈ ys, okv y = true) {v3 v4 : Sl} {a b : Int} (ha : 0 ≤ a) :
    ∃ (rest more : List W) (w3 : Sl) (a' b' : Int), forR (tgW (.nam 3)) (exSs p (callN p wf (n + 1)) wf [pTurn d]) (.fix ((List.range j).map fun (k : Nat) => W.int (k : Int))) j 0 ⟨[.val (.loc k), .own (.lst [u, v]), .own (.lst ys), v3, v4], s.set k (feedO cells a b m)⟩ = .ok .nx ⟨[.val (.loc k), .own (.lst (u :: v :: rest)), .own (.lst more), w3, v4], s.set k (feedO cells a' b' m)⟩ ∧ 0 ≤ a' ∧ rest.length = j ∧ (rest ++ more).Perm ys := by
  have hset : ∀ o, (s.set k o)[k]? = some o := fun o => List.getElem?_set_self hk
  have hlj : ((List.range j).map fun (k : Nat) => W.int (k : Int)).length = j := by rw [List.length_map, List.length_range]
  obtain ⟨st', q1, rest, more, w3, a', b', q2, q3, q4, q5⟩ := for_inv (tg := tgW (.nam 3)) (b := exSs p (callN p wf (n + 1)) wf [pTurn d]) (q := .fix ((List.range j).map fun (k : Nat) => W.int (k : Int))) (xs := (List.range j).map fun (k : Nat) => W.int (k : Int))
    (fun i st => ∃ (rest more : List W) (w3 : Sl) (a b : Int), st = ⟨[.val (.loc k), .own (.lst (u :: v :: rest)), .own (.lst more), w3, v4], s.set k (feedO cells a b m)⟩ ∧ 0 ≤ a ∧ rest.length = i ∧ (rest ++ more).Perm ys)
    (fun _ _ _ => rfl) (fun i x st hx ⟨rest, more, w3, a, b, e, ha', hl, hp⟩ => by
      subst e
      obtain ⟨i', _, rfl⟩ := List.mem_map.mp (List.mem_of_getElem? hx)
      have hi : i < j := by
        have := (List.getElem?_eq_some_iff.mp hx).1
        rw [hlj] at this
        exact this
      have hpl := hp.length_eq
      rw [List.length_append, hy, hl] at hpl
      have h5 : (u :: v :: rest).length < lineMax := by
        have : rest.length + 1 + 1 < 1000 := by omega
        exact Nat.lt_of_lt_of_le this (by decide)
      obtain ⟨i2, y, a', b', e1, e2, e3⟩ := pturn_ok (wf := wf) (n := n) hd (hset (feedO cells a b m)) ha' (xs := u :: v :: rest) (ys := more) (v3 := .val (.int i')) (v4 := v4) h5 (by omega) (by omega) (fun y hy' => ho y (hp.mem_iff.mp (List.mem_append_right _ hy')))
      rw [List.set_set] at e3
      refine ⟨[.val (.loc k), .own (.lst (u :: v :: rest)), .own (.lst more), .val (.int i'), v4], _, rfl, ?_, rest ++ [y], more.eraseIdx i2, .val (.int i'), a', b', rfl, e2, by rw [List.length_append, hl]; rfl, ?_⟩
      · rw [s_cons, e3, r_ok]
        exact s_nil
      · refine List.Perm.trans ?_ hp
        rw [List.append_assoc]
        refine List.Perm.append_left _ ?_
        obtain ⟨h7, h8⟩ := List.getElem?_eq_some_iff.mp e1
        rw [← h8]
        exact er_perm h7) j 0 ⟨[.val (.loc k), .own (.lst [u, v]), .own (.lst ys), v3, v4], s.set k (feedO cells a b m)⟩ ⟨[], ys, v3, a, b, rfl, ha, rfl, List.Perm.refl _⟩ (Nat.zero_le _) (by rw [hlj]; omega)
  subst q2
  exact ⟨rest, more, w3, a', b', q1, q3, by rw [q4, hlj], q5⟩
theorem un_map : ∀ {xs : List W} {P : List (Tx × Int)}, (∀ x ∈ xs, x ∈ P.map tW) → (xs.map unW).map tW = xs
  | [], _, _ => rfl
  | x :: xs, P, h => by
    obtain ⟨q, _, e⟩ := List.mem_map.mp (h x (by simp))
    rw [List.map_cons, List.map_cons, un_map fun y hy => h y (List.mem_cons_of_mem _ hy), ← e]
    rfl
theorem rng_nat {j : Nat} (hj : j ≤ 4) : rngW [.int (j : Int)] = some ((List.range j).map fun (k : Nat) => W.int (k : Int)) := by
  have : j = 0 ∨ j = 1 ∨ j = 2 ∨ j = 3 ∨ j = 4 := by omega
  rcases this with rfl | rfl | rfl | rfl | rfl <;> rfl
theorem pairs_ok {n f d a : Nat} (hd : p.fns[d]? = some fDraw) (ha : p.fns[a]? = some (fAny d)) (hf : p.fns[f]? = some (fPairs d a)) {s : List OO} {k : Nat} {cells : List Int} {a0 b0 m : Int} (hs : s[k]? = some (feedO cells a0 b0 m)) (h0 : 0 ≤ a0) :
    ∃ P a' b', DrawnP P ∧ callN p wf (n + 3) false f [.loc k] s = .ok (.lst (P.map tW)) (s.set k (feedO cells a' b' m)) ∧ 0 ≤ a' := by
  rw [callN_fn hf rfl]
  have hk : k < s.length := (List.getElem?_eq_some_iff.mp hs).1
  have hset : ∀ o, (s.set k o)[k]? = some o := fun o => List.getElem?_set_self hk
  -- node's parts
  obtain ⟨x0, a1, b1, e1, g1, g2, g3⟩ := draw_ok (wf := wf) (n := n + 1) hd hs h0 (many := 2) (by decide) (by decide)
  -- how many more
  obtain ⟨c, a2, b2, gc, e2, g4⟩ := any_ok (wf := wf) (n := n) (xs := [.int 0, .int 0, .int 1, .int 1, .int 2, .int 3, .int 4]) hd ha (hset (feedO cells a1 b1 m)) g3 (by simp) (by simp) (by simp [okv])
  rw [List.set_set] at e2
  obtain ⟨j, ej, hj⟩ : ∃ j : Nat, c = .int (j : Int) ∧ j ≤ 4 := by
    simp only [List.mem_cons, List.not_mem_nil, or_false] at gc
    rcases gc with h | h | h | h | h | h | h
    · exact ⟨0, h, by omega⟩
    · exact ⟨0, h, by omega⟩
    · exact ⟨1, h, by omega⟩
    · exact ⟨1, h, by omega⟩
    · exact ⟨2, h, by omega⟩
    · exact ⟨3, h, by omega⟩
    · exact ⟨4, h, by omega⟩
  subst ej
  -- the two lists
  have s1 : exS p (callN p wf (n + 2)) wf (.own 1 (.lst [(.tup [(.cst (.str [108, 101, 97, 102])), (.cst (.int 0))]), (.tup [(.cst (.str [110, 111, 100, 101])), (.bin .add (.cst (.int 2)) (.cal d [(.var 0), (.cst (.int 2))]))])])) ⟨[.val (.loc k), .un, .un, .un, .un], s⟩ = .ok .nx ⟨[.val (.loc k), .own (.lst [tW (xLeaf, 0), tW (xNode, 2 + x0)]), .un, .un, .un], s.set k (feedO cells a1 b1 m)⟩ := by
    simp only [s_cons, s_nil, exS, evE, evEs, evO, evT, r_ok, r_lift, r_lift0, r_calm, r_at, e_nx, e_ret, List.getElem?_cons_zero, List.getElem?_cons_succ, vw_loc, vw_sl, vw_lst, vw_dct, vw_tup, vw_int, vw_str, vw_bl, vw_non, vw_scr, lk_loc, lk_sl, lk_lst, lk_dct, lk_obj, lk_tup, lk_int, lk_str, lk_bl, lk_non, sb_lst, sb_tup, List.length_cons, List.length_nil, List.length_map, ix40, ix41, ix42, ix43, ix20, ix21, Option.bind_some, Option.map_some, c_lt, c_le, c_gt, c_ge, c_eqi, c_nei, c_eqb, c_neb, c_eqs, c_nes, decide_false, decide_true, t_bl, t_int, Bool.false_eq_true, if_false, if_true, Nat.reduceAdd, Nat.reduceLT, Nat.reduceSub, f_int, f_lenL, f_lenT, b_add, b_sub, b_mul, b_mod, b_fdv, b_pow, o_non, o_bl, o_int, o_str, o_lst, o_tup, o_dct, o_obj, o_loc, o_scr, okvs, List.all_cons, List.all_nil, List.set_cons_zero, List.set_cons_succ, Bool.true_and, Bool.and_true, st_lst, List.replicate, List.map_cons, List.map_nil, List.cons_append, List.nil_append, Bool.not_true, Bool.not_false, ml1, ml2, ml3, ml4, ml5, ml6, ml7, ml8, callR, e1, isL, oOf, lineMax, Nat.reduceLeDiff, tW, xLeaf, xNode]
  have s2 : ∀ (w : Sl) (t : List OO), exS p (callN p wf (n + 2)) wf (.own 2 (.lst [(.tup [(.cst (.str [116, 105, 112])), (.cst (.int 0))]), (.tup [(.cst (.str [111, 110, 101])), (.cst (.int 1))]), (.tup [(.cst (.str [102, 111, 114, 107])), (.cst (.int 2))]), (.tup [(.cst (.str [116, 114, 105])), (.cst (.int 3))]), (.tup [(.cst (.str [97])), (.cst (.int 1))]), (.tup [(.cst (.str [122, 122])), (.cst (.int 0))])])) ⟨[.val (.loc k), w, .un, .un, .un], t⟩ = .ok .nx ⟨[.val (.loc k), w, .own (.lst (T6.map tW)), .un, .un], t⟩ := fun w t => by
    simp only [s_cons, s_nil, exS, evE, evEs, evO, evT, r_ok, r_lift, r_lift0, r_calm, r_at, e_nx, e_ret, List.getElem?_cons_zero, List.getElem?_cons_succ, vw_loc, vw_sl, vw_lst, vw_dct, vw_tup, vw_int, vw_str, vw_bl, vw_non, vw_scr, lk_loc, lk_sl, lk_lst, lk_dct, lk_obj, lk_tup, lk_int, lk_str, lk_bl, lk_non, sb_lst, sb_tup, List.length_cons, List.length_nil, List.length_map, ix40, ix41, ix42, ix43, ix20, ix21, Option.bind_some, Option.map_some, c_lt, c_le, c_gt, c_ge, c_eqi, c_nei, c_eqb, c_neb, c_eqs, c_nes, decide_false, decide_true, t_bl, t_int, Bool.false_eq_true, if_false, if_true, Nat.reduceAdd, Nat.reduceLT, Nat.reduceSub, f_int, f_lenL, f_lenT, b_add, b_sub, b_mul, b_mod, b_fdv, b_pow, o_non, o_bl, o_int, o_str, o_lst, o_tup, o_dct, o_obj, o_loc, o_scr, okvs, List.all_cons, List.all_nil, List.set_cons_zero, List.set_cons_succ, Bool.true_and, Bool.and_true, st_lst, List.replicate, List.map_cons, List.map_nil, List.cons_append, List.nil_append, Bool.not_true, Bool.not_false, ml1, ml2, ml3, ml4, ml5, ml6, ml7, ml8, isL, oOf, lineMax, Nat.reduceLeDiff, T6, tW, xTip, xOne, xFork, xTri, xA, xZz]
  obtain ⟨rest, more, w3, a3, b3, q1, q3, q4, q5⟩ := ploop_ok (p := p) (wf := wf) (n := n + 1) (m := m) (cells := cells) (d := d) hd hk (u := tW (xLeaf, 0)) (v := tW (xNode, 2 + x0)) hj (ys := T6.map tW) rfl (by decide) (v3 := .un) (v4 := .un) (a := a2) (b := b2) g4
  have s3 : exS p (callN p wf (n + 2)) wf (.for (.nam 3) (.rng [(.cal a [(.var 0), (.lst [(.cst (.int 0)), (.cst (.int 0)), (.cst (.int 1)), (.cst (.int 1)), (.cst (.int 2)), (.cst (.int 3)), (.cst (.int 4))])])]) [pTurn d]) ⟨[.val (.loc k), .own (.lst [tW (xLeaf, 0), tW (xNode, 2 + x0)]), .own (.lst (T6.map tW)), .un, .un], s.set k (feedO cells a1 b1 m)⟩ = .ok .nx ⟨[.val (.loc k), .own (.lst (tW (xLeaf, 0) :: tW (xNode, 2 + x0) :: rest)), .own (.lst more), w3, .un], s.set k (feedO cells a3 b3 m)⟩ := by
    have hlen : ∀ st, (Src.fix ((List.range j).map fun (k : Nat) => W.int (k : Int))).len st = j := fun st => by
      show List.length _ = j
      rw [List.length_map, List.length_range]
    have hi : evI p (callN p wf (n + 2)) (.rng [(.cal a [(.var 0), (.lst [(.cst (.int 0)), (.cst (.int 0)), (.cst (.int 1)), (.cst (.int 1)), (.cst (.int 2)), (.cst (.int 3)), (.cst (.int 4))])])]) ⟨[.val (.loc k), .own (.lst [tW (xLeaf, 0), tW (xNode, 2 + x0)]), .own (.lst (T6.map tW)), .un, .un], s.set k (feedO cells a1 b1 m)⟩ = .ok (.fix ((List.range j).map fun (k : Nat) => W.int (k : Int))) ⟨[.val (.loc k), .own (.lst [tW (xLeaf, 0), tW (xNode, 2 + x0)]), .own (.lst (T6.map tW)), .un, .un], s.set k (feedO cells a2 b2 m)⟩ := by
      refine evI_rng (ws := [.int j]) ?_ (rng_nat hj)
      simp only [s_cons, s_nil, exS, evE, evEs, evO, evT, r_ok, r_lift, r_lift0, r_calm, r_at, e_nx, e_ret, List.getElem?_cons_zero, List.getElem?_cons_succ, vw_loc, vw_sl, vw_lst, vw_dct, vw_tup, vw_int, vw_str, vw_bl, vw_non, vw_scr, lk_loc, lk_sl, lk_lst, lk_dct, lk_obj, lk_tup, lk_int, lk_str, lk_bl, lk_non, sb_lst, sb_tup, List.length_cons, List.length_nil, List.length_map, ix40, ix41, ix42, ix43, ix20, ix21, Option.bind_some, Option.map_some, c_lt, c_le, c_gt, c_ge, c_eqi, c_nei, c_eqb, c_neb, c_eqs, c_nes, decide_false, decide_true, t_bl, t_int, Bool.false_eq_true, if_false, if_true, Nat.reduceAdd, Nat.reduceLT, Nat.reduceSub, f_int, f_lenL, f_lenT, b_add, b_sub, b_mul, b_mod, b_fdv, b_pow, o_non, o_bl, o_int, o_str, o_lst, o_tup, o_dct, o_obj, o_loc, o_scr, okvs, List.all_cons, List.all_nil, List.set_cons_zero, List.set_cons_succ, Bool.true_and, Bool.and_true, st_lst, List.replicate, List.map_cons, List.map_nil, List.cons_append, List.nil_append, Bool.not_true, Bool.not_false, ml1, ml2, ml3, ml4, ml5, ml6, ml7, ml8, callR, e2, lm7]
    rw [exS, hi, r_ok, hlen]
    exact q1
  have hl : ((tW (xLeaf, 0) :: tW (xNode, 2 + x0) :: rest).length : Int) = j + 2 := by
    rw [List.length_cons, List.length_cons, q4]
    omega
  obtain ⟨dd, a5, b5, e5, h1, h2, h3⟩ := draw_ok (wf := wf) (n := n + 1) hd (hset (feedO cells a3 b3 m)) q3 (many := ((tW (xLeaf, 0) :: tW (xNode, 2 + x0) :: rest).length : Int)) (by omega) (by omega)
  rw [List.set_set] at e5
  have s4 : exS p (callN p wf (n + 2)) wf (.set 4 (.cal d [(.var 0), (.bif .len [(.var 1)])])) ⟨[.val (.loc k), .own (.lst (tW (xLeaf, 0) :: tW (xNode, 2 + x0) :: rest)), .own (.lst more), w3, .un], s.set k (feedO cells a3 b3 m)⟩ = .ok .nx ⟨[.val (.loc k), .own (.lst (tW (xLeaf, 0) :: tW (xNode, 2 + x0) :: rest)), .own (.lst more), w3, .val (.int dd)], s.set k (feedO cells a5 b5 m)⟩ := by
    have fl : ∀ s', bifR p (callN p wf (n + 2)) .len [.sl 1] ⟨[.val (.loc k), .own (.lst (tW (xLeaf, 0) :: tW (xNode, 2 + x0) :: rest)), .own (.lst more), w3, .un], s'⟩ = .ok (.int (tW (xLeaf, 0) :: tW (xNode, 2 + x0) :: rest).length) ⟨[.val (.loc k), .own (.lst (tW (xLeaf, 0) :: tW (xNode, 2 + x0) :: rest)), .own (.lst more), w3, .un], s'⟩ := fun s' => f_lenSl rfl
    have ec : evE p (callN p wf (n + 2)) (.cal d [(.var 0), (.bif .len [(.var 1)])]) ⟨[.val (.loc k), .own (.lst (tW (xLeaf, 0) :: tW (xNode, 2 + x0) :: rest)), .own (.lst more), w3, .un], s.set k (feedO cells a3 b3 m)⟩ = .ok (.int dd) ⟨[.val (.loc k), .own (.lst (tW (xLeaf, 0) :: tW (xNode, 2 + x0) :: rest)), .own (.lst more), w3, .un], s.set k (feedO cells a5 b5 m)⟩ := by
      simp only [evE, evEs, r_ok, List.getElem?_cons_zero, List.getElem?_cons_succ, fl, callR, okvs, List.all_cons, List.all_nil, o_loc, o_int, Bool.true_and, if_true, e5, r_at]
    rw [exS, ec, r_ok]
    rfl
  have s5 : exS p (callN p wf (n + 2)) wf (.ret (.bin .add (.slc (.var 1) (some (.var 4)) none) (.slc (.var 1) none (some (.var 4))))) ⟨[.val (.loc k), .own (.lst (tW (xLeaf, 0) :: tW (xNode, 2 + x0) :: rest)), .own (.lst more), w3, .val (.int dd)], s.set k (feedO cells a5 b5 m)⟩ = .ok (.ret (.lst ((tW (xLeaf, 0) :: tW (xNode, 2 + x0) :: rest).drop dd.toNat ++ (tW (xLeaf, 0) :: tW (xNode, 2 + x0) :: rest).take dd.toNat))) ⟨[.val (.loc k), .own (.lst (tW (xLeaf, 0) :: tW (xNode, 2 + x0) :: rest)), .own (.lst more), w3, .val (.int dd)], s.set k (feedO cells a5 b5 m)⟩ := by
    generalize hX : (tW (xLeaf, 0) :: tW (xNode, 2 + x0) :: rest) = X at *
    have hz : (X.drop dd.toNat).length + (X.take dd.toNat).length ≤ lineMax := by
      rw [List.length_drop, List.length_take]
      have : X.length - dd.toNat + min dd.toNat X.length ≤ 1000 := by omega
      exact Nat.le_trans this (by decide)
    have hr : evE p (callN p wf (n + 2)) (.bin .add (.slc (.var 1) (some (.var 4)) none) (.slc (.var 1) none (some (.var 4)))) ⟨[.val (.loc k), .own (.lst X), .own (.lst more), w3, .val (.int dd)], s.set k (feedO cells a5 b5 m)⟩ = .ok (.lst (X.drop dd.toNat ++ X.take dd.toNat)) ⟨[.val (.loc k), .own (.lst X), .own (.lst more), w3, .val (.int dd)], s.set k (feedO cells a5 b5 m)⟩ := by
      simp only [s_cons, s_nil, exS, evE, evEs, evO, evT, r_ok, r_lift, r_lift0, r_calm, r_at, e_nx, e_ret, List.getElem?_cons_zero, List.getElem?_cons_succ, vw_loc, vw_sl, vw_lst, vw_dct, vw_tup, vw_int, vw_str, vw_bl, vw_non, vw_scr, lk_loc, lk_sl, lk_lst, lk_dct, lk_obj, lk_tup, lk_int, lk_str, lk_bl, lk_non, sb_lst, sb_tup, List.length_cons, List.length_nil, List.length_map, ix40, ix41, ix42, ix43, ix20, ix21, Option.bind_some, Option.map_some, c_lt, c_le, c_gt, c_ge, c_eqi, c_nei, c_eqb, c_neb, c_eqs, c_nes, decide_false, decide_true, t_bl, t_int, Bool.false_eq_true, if_false, if_true, Nat.reduceAdd, Nat.reduceLT, Nat.reduceSub, f_int, f_lenL, f_lenT, b_add, b_sub, b_mul, b_mod, b_fdv, b_pow, o_non, o_bl, o_int, o_str, o_lst, o_tup, o_dct, o_obj, o_loc, o_scr, okvs, List.all_cons, List.all_nil, List.set_cons_zero, List.set_cons_succ, Bool.true_and, Bool.and_true, st_lst, List.replicate, List.map_cons, List.map_nil, List.cons_append, List.nil_append, Bool.not_true, Bool.not_false, ml1, ml2, ml3, ml4, ml5, ml6, ml7, ml8, slcW, cut_lo h1, cut_hi h1 (show dd.toNat ≤ X.length by omega), b_addL hz]
    rw [exS, hr, r_ok]
    rfl
  have hb : exSs p (callN p wf (n + 2)) wf (fPairs d a).body ⟨[.val (.loc k), .un, .un, .un, .un], s⟩ = .ok (.ret (.lst ((tW (xLeaf, 0) :: tW (xNode, 2 + x0) :: rest).drop dd.toNat ++ (tW (xLeaf, 0) :: tW (xNode, 2 + x0) :: rest).take dd.toNat))) ⟨[.val (.loc k), .own (.lst (tW (xLeaf, 0) :: tW (xNode, 2 + x0) :: rest)), .own (.lst more), w3, .val (.int dd)], s.set k (feedO cells a5 b5 m)⟩ := by
    unfold fPairs
    rw [s_cons, s1, r_ok, s_cons, s2, r_ok, s_cons]
    have s3' := s3
    unfold pTurn at s3'
    rw [s3', r_ok, s_cons, s4, r_ok, s_cons, s5, r_ok]
  have hb' : exSs p (callN p wf (n + 2)) wf (fPairs d a).body ⟨[W.loc k].map .val ++ List.replicate ((fPairs d a).nl - [W.loc k].length) .un, s⟩ = _ := hb
  rw [hb', e_ret]
  have hr : ∀ x ∈ rest, x ∈ T6.map tW := fun x hx => q5.mem_iff.mp (List.mem_append_left _ hx)
  have hm : ∀ x ∈ more, x ∈ T6.map tW := fun x hx => q5.mem_iff.mp (List.mem_append_right _ hx)
  have er := un_map hr
  refine ⟨((xLeaf, 0) :: (xNode, 2 + x0) :: rest.map unW).drop dd.toNat ++ ((xLeaf, 0) :: (xNode, 2 + x0) :: rest.map unW).take dd.toNat, a5, b5, ⟨2 + x0, rest.map unW, more.map unW, dd.toNat, by omega, ?_, by rw [List.length_map, q4]; exact hj, rfl⟩, ?_, h3⟩
  · rw [← List.map_append]
    exact (q5.map unW).trans (List.Perm.of_eq rfl)
  · rw [List.map_append, List.map_drop, List.map_take, List.map_cons, List.map_cons, er]
end
end Ev

/-! N6 (from M6, numbers of k06): shapes: the checks and the making. -/
namespace Ev
def xWide : Tx := [97, 98, 99, 100, 101, 102]
def T10 : List (Tx × Int) := [(xLeaf, 0), (xNode, 2), (xNode, 3), (xTip, 0), (xOne, 1), (xFork, 2), (xTri, 3), (xA, 1), (xZz, 0), (xWide, 0)]
def fWord : Fn := ⟨2, 3, [.ret (.bnd (.chn .le .le (.cst (.int 1)) (.bif .len [(.var 0)]) (.var 1)) (.bif .all [(.cpr (.cmp .inn (.var 2) (.glo 0 (.str [97, 98, 99, 100, 101, 102, 103, 104, 105, 106, 107, 108, 109, 110, 111, 112, 113, 114, 115, 116, 117, 118, 119, 120, 121, 122]))) (.nam 2) (.val (.var 0)) none)]))]⟩
def fCon : Fn := ⟨1, 1, [.ife (.bor (.bnt (.isi (.var 0) [.tuple])) (.bor (.cmp .ne (.bif .len [(.var 0)]) (.cst (.int 2))) (.bnt (.isi (.sub (.var 0) (.cst (.int 0))) [.str])))) [.ret (.cst (.bl false))] [],
    .ret (.bnd (.cal 2 [(.sub (.var 0) (.cst (.int 0))), (.glo 2 (.int 6))]) (.bnd (.cal 1 [(.sub (.var 0) (.cst (.int 1)))]) (.chn .le .le (.cst (.int 0)) (.sub (.var 0) (.cst (.int 1))) (.glo 1 (.int 3)))))]⟩
def iTurn : List S := [.ife (.bor (.cmp .eq (.var 3) (.kon 7 6)) (.bor (.bnt (.cal 3 [(.var 4)])) (.cmp .inn (.sub (.var 4) (.cst (.int 0))) (.var 2)))) [.rai 2 [(.var 3)]] [],
    .ex (.cmt .append (.var 2) [(.sub (.var 4) (.cst (.int 0)))])]
def fInit : Fn := ⟨2, 7, [.own 2 (.lst []),
    .for (.tup [(.nam 3), (.nam 4)]) (.enu (.var 1) none) iTurn,
    .sta (.var 0) 7 (.bif .tuple [(.var 1)]),
    .ife (.bor (.cmp .lt (.bif .len [(.var 2)]) (.cst (.int 2))) (.cmp .nin (.cst (.int 0)) (.cpr (.var 6) (.tup [(.nam 5), (.nam 6)]) (.val (.att (.var 0) 7)) none))) [.rai 2 [(.bif .len [(.var 2)])]] [],
    .sta (.var 0) 8 (.dcp (.var 5) (.var 6) (.tup [(.nam 5), (.nam 6)]) (.val (.att (.var 0) 7))),
    .sta (.var 0) 9 (.dcp (.var 5) (.var 3) (.tup [(.nam 3), (.nam 5)]) (.enu (.frz 2) none))]⟩
def clShape : Cl := { init := some 4, frozen := true, flds := [7, 8, 9], meths := [(0, 5), (1, 6), (2, 7), (3, 8), (26, 11), (27, 12)], props := [(24, 9), (25, 10)], consts := [(6, (.int 6))], exn := none, bases := [] }
section
variable {p : Pg} {cal : Bool → Nat → List W → List OO → RC} {wf : Nat}
theorem word_ok {n : Nat} {s : List OO} (h : p.fns[2]? = some fWord) : ∀ q ∈ T10, callN p wf (n + 1) false 2 [.str q.1, .int 6] s = .ok (.bl true) s := by
  intro q hq
  rw [callN_fn h rfl]
  simp only [T10, List.mem_cons, List.not_mem_nil, or_false] at hq
  rcases hq with rfl | rfl | rfl | rfl | rfl | rfl | rfl | rfl | rfl | rfl <;> rfl
theorem c22 : (((2 : Nat) : Int) == 2) = true := rfl
theorem t10_parts : ∀ q ∈ T10, 0 ≤ q.2 ∧ q.2 ≤ 3 := by decide
theorem con_ok {n : Nat} {s : List OO} (h0 : p.fns[1]? = some fWhole) (h1 : p.fns[2]? = some fWord) (h2 : p.fns[3]? = some fCon) : ∀ q ∈ T10, callN p wf (n + 2) false 3 [tW q] s = .ok (.bl true) s := by
  intro q hq
  rw [callN_fn h2 rfl]
  obtain ⟨g1, g2⟩ := t10_parts q hq
  simp only [fCon, tW, s_cons, s_nil, exS, evE, evEs, evO, evT, r_ok, r_lift, r_lift0, r_calm, r_at, e_nx, e_ret, List.getElem?_cons_zero, List.getElem?_cons_succ, vw_loc, vw_sl, vw_lst, vw_dct, vw_tup, vw_int, vw_str, vw_bl, vw_non, vw_scr, lk_loc, lk_sl, lk_lst, lk_dct, lk_obj, lk_tup, lk_int, lk_str, lk_bl, lk_non, sb_lst, sb_tup, List.length_cons, List.length_nil, List.length_map, ix40, ix41, ix42, ix43, ix20, ix21, Option.bind_some, Option.map_some, c_lt, c_le, c_gt, c_ge, c_eqi, c_nei, c_eqb, c_neb, c_eqs, c_nes, decide_false, decide_true, t_bl, t_int, Bool.false_eq_true, if_false, if_true, Nat.reduceAdd, Nat.reduceLT, Nat.reduceSub, f_int, f_lenL, f_lenT, b_add, b_sub, b_mul, b_mod, b_fdv, b_pow, o_non, o_bl, o_int, o_str, o_lst, o_tup, o_dct, o_obj, o_loc, o_scr, okvs, List.all_cons, List.all_nil, List.set_cons_zero, List.set_cons_succ, Bool.true_and, Bool.and_true, st_lst, List.replicate, List.map_cons, List.map_nil, List.cons_append, List.nil_append, Bool.not_true, Bool.not_false, ml1, ml2, ml3, ml4, ml5, ml6, ml7, ml8, k_tup_tuple, k_str_str, callR, word_ok h1 q hq, whole_int h0, g1, g2, c22]
/-! ### data -/
theorem isDs_map {α : Type} {f : α → W} (h : ∀ a, isD (f a) = true) : ∀ l : List α, isDs (l.map f) = true
  | [] => rfl
  | a :: l => by simp only [List.map_cons, isDs, h a, isDs_map h l, Bool.and_self]
theorem deps_map {α : Type} {f : α → W} {d : Nat} (h : ∀ a, dep (f a) ≤ d) : ∀ l : List α, deps (l.map f) ≤ d
  | [] => Nat.zero_le _
  | a :: l => by
    simp only [List.map_cons, deps]
    exact Nat.max_le.mpr ⟨h a, deps_map h l⟩
theorem dOk_lst {α : Type} {f : α → W} {d : Nat} (h : ∀ a, isD (f a) = true) (h2 : ∀ a, dep (f a) ≤ d) (hd : d < 128) (l : List α) : dOk (.lst (l.map f)) = true := by
  have := deps_map h2 l
  simp only [dOk, isD, isDs_map h l, Bool.true_and, decide_eq_true_eq]
  show deps _ + 1 ≤ 128
  omega
theorem dOk_tup {α : Type} {f : α → W} {d : Nat} (h : ∀ a, isD (f a) = true) (h2 : ∀ a, dep (f a) ≤ d) (hd : d < 128) (l : List α) : dOk (.tup (l.map f)) = true := by
  have := deps_map h2 l
  simp only [dOk, isD, isDs_map h l, Bool.true_and, decide_eq_true_eq]
  show deps _ + 1 ≤ 128
  omega
theorem dOk_strs (l : List Tx) : dOk (.lst (l.map .str)) = true := dOk_lst (d := 0) (fun _ => rfl) (fun _ => Nat.le_refl _) (by omega) l
theorem dOk_ints (l : List Int) : dOk (.lst (l.map .int)) = true := dOk_lst (d := 0) (fun _ => rfl) (fun _ => Nat.le_refl _) (by omega) l
theorem dOk_prs (l : List (Tx × Int)) : dOk (.tup (l.map tW)) = true := dOk_tup (d := 1) (fun _ => rfl) (fun _ => Nat.le_of_eq rfl) (by omega) l
theorem memD_str {x : Tx} : ∀ l : List Tx, memD (.str x) (l.map .str) = decide (x ∈ l)
  | [] => rfl
  | y :: l => by
    have ih := memD_str (x := x) l
    unfold memD at ih ⊢
    rw [List.map_cons, List.any_cons, ih]
    show (y == x || _) = _
    by_cases h : y = x
    · subst h; simp
    · have h2 : x ≠ y := fun z => h z.symm
      simp [h, h2]
theorem memD_int {x : Int} : ∀ l : List Int, memD (.int x) (l.map .int) = decide (x ∈ l)
  | [] => rfl
  | y :: l => by
    have ih := memD_int (x := x) l
    unfold memD at ih ⊢
    rw [List.map_cons, List.any_cons, ih]
    show (y == x || _) = _
    by_cases h : y = x
    · subst h; simp
    · have h2 : x ≠ y := fun z => h z.symm
      simp [h, h2]
theorem cw_inn {x : Tx} {ys : List W} : cmpW .inn (.str x) (.lst ys) = if dOk (.lst ys) then some (memD (.str x) ys) else none := by
  cases x with
  | nil => simp [cmpW, show dOk (.str []) = true from rfl]
  | cons a t => cases t <;> simp [cmpW, show ∀ z, dOk (.str z) = true from fun _ => rfl]
/-- x in a list of texts -/
theorem c_in {x : Tx} {l : List Tx} {w : W} {st : St} (h1 : clsOf st w = none) (h2 : vw st w = .lst (l.map .str)) : cmpR p cal .inn (.str x) w st = .ok (.bl (decide (x ∈ l))) st := by
  simp only [cmpR, h1, h2, vw_str, cw_inn, dOk_strs, if_true, memD_str, Option.map_some, r_lift]
theorem c_nini {x : Int} {l : List Int} {st : St} : cmpR p cal .nin (.int x) (.lst (l.map .int)) st = .ok (.bl (!decide (x ∈ l))) st := by
  have h1 : clsOf st (.lst (l.map .int)) = none := rfl
  have h2 : dOk (.int x) = true := rfl
  simp only [cmpR, h1, vw_int, vw_lst, cmpW, dOk_ints, h2, Bool.and_self, if_true, memD_int, Option.map_some, r_lift]
/-! ### dicts -/
theorem pr_new {k : Ky} {v : W} {ks : List Ky} {xs : List W} (h : k ∉ ks) : kput k v ks xs = (ks ++ [k], xs ++ [v]) := by
  unfold kput
  rw [if_neg]
  intro z
  obtain ⟨g, h1, h2⟩ := List.any_eq_true.mp z
  simp only [decide_eq_true_eq] at h2
  subst h2
  exact h h1
theorem prs_go {α : Type} (f : α → Tx) (g : α → W) : ∀ (l : List α) (ks : List Ky) (xs : List W), (l.map f).Nodup → (∀ a ∈ l, (.inr (f a) : Ky) ∉ ks) →
    (l.map fun a => W.tup [.str (f a), g a]).foldl (fun a y => match a, y with
      | some a, .tup [k, v] => (kyOf k).map fun q => kput q v a.1 a.2
      | _, _ => none) (some (ks, xs)) = some (ks ++ l.map (fun a => .inr (f a)), xs ++ l.map g)
  | [], ks, xs, _, _ => by simp
  | a :: l, ks, xs, hn, hk => by
    rw [List.map_cons, List.nodup_cons] at hn
    rw [List.map_cons, List.foldl_cons]
    show List.foldl _ (some (kput (.inr (f a)) (g a) ks xs)) _ = _
    rw [pr_new (hk a (by simp)), prs_go f g l _ _ hn.2]
    · simp
    · intro b hb
      rw [List.mem_append, not_or]
      refine ⟨hk b (by simp [hb]), ?_⟩
      rw [List.mem_singleton]
      intro z
      have e := Sum.inr.inj z
      exact hn.1 (by rw [← e]; exact List.mem_map_of_mem hb)
theorem prs_ok {α : Type} (f : α → Tx) (g : α → W) {l : List α} (hn : (l.map f).Nodup) : prsW (l.map fun a => W.tup [.str (f a), g a]) = some (l.map (fun a => .inr (f a)), l.map g) := by
  have := prs_go f g l [] [] hn (by simp)
  rw [List.nil_append, List.nil_append] at this
  exact this
theorem kget_has {α : Type} (f : α → Tx) (g : α → W) (x : Tx) : ∀ l : List α, (kget (.inr x) (l.map (fun a => .inr (f a))) (l.map g)).isSome = decide (x ∈ l.map f)
  | [] => rfl
  | a :: l => by
    rw [List.map_cons, List.map_cons, kget]
    by_cases h : f a = x
    · subst h; simp
    · have h2 : ¬ ((.inr (f a) : Ky) = .inr x) := fun z => h (Sum.inr.inj z)
      rw [if_neg h2, kget_has f g x l]
      have h3 : ¬ x = f a := fun z => h z.symm
      simp [h3]
/-! ### walks -/
theorem enuW_get : ∀ (xs : List W) (k : Int) (i : Nat), (enuW k xs)[i]? = (xs[i]?).map fun x => W.tup [.int (k + i), x]
  | [], _, _ => rfl
  | x :: xs, k, 0 => by simp [enuW]
  | x :: xs, k, i + 1 => by
    rw [enuW, List.getElem?_cons_succ, List.getElem?_cons_succ, enuW_get xs (k + 1) i]
    congr 2
    funext y
    congr 3
    omega
theorem enuW_len : ∀ (xs : List W) (k : Int), (enuW k xs).length = xs.length
  | [], _ => rfl
  | x :: xs, k => by rw [enuW, List.length_cons, List.length_cons, enuW_len xs (k + 1)]
theorem at_enu {w : W} {xs : List W} {st : St} {i : Nat} (h : wkOf st w = some xs) : (Src.enu w).at st i = some (enuW 0 xs)[i]? := by
  simp only [Src.at, h, Option.map_some, enuW_get, Int.zero_add]
theorem len_enu {w : W} {xs : List W} {st : St} (h : wkOf st w = some xs) : (Src.enu w).len st = xs.length := by
  simp only [Src.len, h, Option.getD_some]
theorem evI_enu {e : E} {w : W} {xs : List W} {st st1 : St} (h : evE p cal e st = .ok w st1) (hw : wkOf st1 w = some xs) : evI p cal (.enu e none) st = .ok (.enu w) st1 := by
  rw [evI]
  simp only [h, r_ok, hw, Option.isSome_some, if_true]
/-- what is handed to a making: a list or tuple with these items -/
def SeqA (s : List OO) (w : W) (xs : List W) : Prop := okv w = true ∧ ∀ r, wkOf ⟨r, s⟩ w = some xs ∧ bifW .tuple [vw ⟨r, s⟩ w] = some (.tup xs)
theorem sa_lst {s : List OO} {xs : List W} : SeqA s (.lst xs) xs := ⟨rfl, fun _ => ⟨rfl, rfl⟩⟩
theorem sa_tup {s : List OO} {xs : List W} : SeqA s (.tup xs) xs := ⟨rfl, fun _ => ⟨rfl, rfl⟩⟩
theorem sa_loc {s : List OO} {k : Nat} {xs : List W} (h : s[k]? = some (.lst xs)) : SeqA s (.loc k) xs := ⟨rfl, fun r => ⟨by simp only [wkOf, seqOf, look, h, okv, if_true], by simp only [vw_loc, h, bifW]⟩⟩
/-! ### the making -/
structure GoodP (P : List (Tx × Int)) : Prop where
  lo : 2 ≤ P.length
  hi : P.length ≤ 6
  tab : ∀ q ∈ P, q ∈ T10
  nod : (P.map Prod.fst).Nodup
  leaf : (0 : Int) ∈ P.map Prod.snd
def nmW (P : List (Tx × Int)) : List W := (P.map Prod.fst).map .str
/-- the shape made of P -/
def SH (P : List (Tx × Int)) : W := .obj 7 [7, 8, 9] [.tup (P.map tW), .dct (P.map fun q => .inr q.1) (P.map fun q => .int q.2),
  .dct ((P.map Prod.fst).zipIdx.map fun z => .inr z.1) ((P.map Prod.fst).zipIdx.map fun z => .int z.2)]
theorem callN_new {n C g : Nat} {c : Cl} {fn : Fn} {ws : List W} {s : List OO} (h : p.cls[C]? = some c) (hg : c.init = some g) (hf : p.fns[g]? = some fn) (hl : ws.length + 1 = fn.np) : callN p wf (n + 1) true C ws s = endN c.frozen (exSs p (callN p wf n) wf fn.body ⟨(.own (.ins C [] []) :: ws.map .val) ++ List.replicate (fn.nl - (ws.length + 1)) .un, s⟩) := by
  simp only [callN, h, hg, hf]
  rw [if_pos hl]
  simp [runF]
theorem kon6 {st : St} (h : p.cls[7]? = some clShape) : evE p cal (.kon 7 6) st = .ok (.int 6) st := by
  rw [evE, h]
  rfl
theorem iturn_ok {n : Nat} {s : List OO} (h0 : p.fns[1]? = some fWhole) (h1 : p.fns[2]? = some fWord) (h2 : p.fns[3]? = some fCon) (hc : p.cls[7]? = some clShape) {w : W} {l : List Tx} {i : Nat} {q : Tx × Int} (hi : i < 6) (hl : l.length < 1000) (hq : q ∈ T10) (hn : q.1 ∉ l) {v5 v6 : Sl} {o : OO} :
    exSs p (callN p wf (n + 2)) wf iTurn ⟨[.own o, .val w, .own (.lst (l.map .str)), .val (.int i), .val (tW q), v5, v6], s⟩ = .ok .nx ⟨[.own o, .val w, .own (.lst ((l ++ [q.1]).map .str)), .val (.int i), .val (tW q), v5, v6], s⟩ := by
  have e1 : ((i : Int) == 6) = false := by
    rw [beq_eq_false_iff_ne]
    omega
  have e2 := c_in (p := p) (cal := callN p wf (n + 2)) (x := q.1) (l := l) (w := .sl 2) (st := ⟨[.own o, .val w, .own (.lst (l.map .str)), .val (.int i), .val (tW q), v5, v6], s⟩) rfl rfl
  have e3 : decide (q.1 ∈ l) = false := decide_eq_false hn
  rw [e3] at e2
  have e4 : evE p (callN p wf (n + 2)) (.sub (.var 4) (.cst (.int 0))) ⟨[.own o, .val w, .own (.lst (l.map .str)), .val (.int i), .val (tW q), v5, v6], s⟩ = .ok (.str q.1) ⟨[.own o, .val w, .own (.lst (l.map .str)), .val (.int i), .val (tW q), v5, v6], s⟩ := by
    simp only [s_cons, s_nil, exS, evE, evEs, evO, evT, r_ok, r_lift, r_lift0, r_calm, r_at, e_nx, e_ret, List.getElem?_cons_zero, List.getElem?_cons_succ, vw_loc, vw_sl, vw_lst, vw_dct, vw_tup, vw_int, vw_str, vw_bl, vw_non, vw_scr, lk_loc, lk_sl, lk_lst, lk_dct, lk_obj, lk_tup, lk_int, lk_str, lk_bl, lk_non, sb_lst, sb_tup, List.length_cons, List.length_nil, List.length_map, ix40, ix41, ix42, ix43, ix20, ix21, Option.bind_some, Option.map_some, c_lt, c_le, c_gt, c_ge, c_eqi, c_nei, c_eqb, c_neb, c_eqs, c_nes, decide_false, decide_true, t_bl, t_int, Bool.false_eq_true, if_false, if_true, Nat.reduceAdd, Nat.reduceLT, Nat.reduceSub, f_int, f_lenL, f_lenT, b_add, b_sub, b_mul, b_mod, b_fdv, b_pow, o_non, o_bl, o_int, o_str, o_lst, o_tup, o_dct, o_obj, o_loc, o_scr, okvs, List.all_cons, List.all_nil, List.set_cons_zero, List.set_cons_succ, Bool.true_and, Bool.and_true, st_lst, List.replicate, List.map_cons, List.map_nil, List.cons_append, List.nil_append, Bool.not_true, Bool.not_false, ml1, ml2, ml3, ml4, ml5, ml6, ml7, ml8, tW]
  have e5 := app_sl (xs := l.map .str) (xs' := l.map .str) (n := 2) (r := [.own o, .val w, .own (.lst (l.map .str)), .val (.int i), .val (tW q), v5, v6]) rfl e4 rfl (by rw [List.length_map]; exact Nat.lt_trans hl (by decide)) rfl
  have e6 : evE p (callN p wf (n + 2)) (.cal 3 [(.var 4)]) ⟨[.own o, .val w, .own (.lst (l.map .str)), .val (.int i), .val (tW q), v5, v6], s⟩ = .ok (.bl true) ⟨[.own o, .val w, .own (.lst (l.map .str)), .val (.int i), .val (tW q), v5, v6], s⟩ := by
    simp only [evE, evEs, r_ok, List.getElem?_cons_zero, List.getElem?_cons_succ, callR, okvs, List.all_cons, List.all_nil, Bool.and_true, show okv (tW q) = true from rfl, if_true, con_ok h0 h1 h2 q hq, r_at]
  have e7 : evE p (callN p wf (n + 2)) (.bor (.cmp .eq (.var 3) (.kon 7 6)) (.bor (.bnt (.cal 3 [(.var 4)])) (.cmp .inn (.sub (.var 4) (.cst (.int 0))) (.var 2)))) ⟨[.own o, .val w, .own (.lst (l.map .str)), .val (.int i), .val (tW q), v5, v6], s⟩ = .ok (.bl false) ⟨[.own o, .val w, .own (.lst (l.map .str)), .val (.int i), .val (tW q), v5, v6], s⟩ := by
    have e8 : evE p (callN p wf (n + 2)) (.cmp .eq (.var 3) (.kon 7 6)) ⟨[.own o, .val w, .own (.lst (l.map .str)), .val (.int i), .val (tW q), v5, v6], s⟩ = .ok (.bl false) ⟨[.own o, .val w, .own (.lst (l.map .str)), .val (.int i), .val (tW q), v5, v6], s⟩ := by
      rw [evE]
      simp only [evE.eq_1, List.getElem?_cons_succ, List.getElem?_cons_zero, r_ok, kon6 hc, c_eqi, e1]
    have e9 : evE p (callN p wf (n + 2)) (.cmp .inn (.sub (.var 4) (.cst (.int 0))) (.var 2)) ⟨[.own o, .val w, .own (.lst (l.map .str)), .val (.int i), .val (tW q), v5, v6], s⟩ = .ok (.bl false) ⟨[.own o, .val w, .own (.lst (l.map .str)), .val (.int i), .val (tW q), v5, v6], s⟩ := by
      rw [evE, e4, r_ok, ← e2]
      rfl
    rw [evE, e8, r_ok]
    simp only []
    rw [evE, evE, e6, r_ok, t_bl, r_ok, r_ok]
    simp only [Bool.not_true]
    exact e9
  unfold iTurn
  rw [s_cons, exS, e7, r_ok, t_bl, r_ok, if_neg (by decide), s_nil, r_ok]
  simp only []
  rw [s_cons, exS, e5, r_ok, r_ok, s_nil, List.map_append]
  rfl
theorem iloop_ok {n : Nat} {s : List OO} (h0 : p.fns[1]? = some fWhole) (h1 : p.fns[2]? = some fWord) (h2 : p.fns[3]? = some fCon) (hc : p.cls[7]? = some clShape) {w : W} {P : List (Tx × Int)} (g : GoodP P) (hw : SeqA s w (P.map tW)) {v3 v4 v5 v6 : Sl} (hv3 : ∀ o, v3 ≠ .own o) {o : OO} :
    ∃ w3 w4, (∀ o, w3 ≠ .own o) ∧ forR (tgW (.tup [(.nam 3), (.nam 4)])) (exSs p (callN p wf (n + 2)) wf iTurn) (.enu w) P.length 0 ⟨[.own o, .val w, .own (.lst []), v3, v4, v5, v6], s⟩ = .ok .nx ⟨[.own o, .val w, .own (.lst (nmW P)), w3, w4, v5, v6], s⟩ := by
  have hlen : (enuW 0 (P.map tW)).length = P.length := by rw [enuW_len, List.length_map]
  obtain ⟨st', q1, w3, w4, q3, q2⟩ := for_inv (tg := tgW (.tup [(.nam 3), (.nam 4)])) (b := exSs p (callN p wf (n + 2)) wf iTurn) (q := .enu w) (xs := enuW 0 (P.map tW))
    (fun i st => ∃ (w3 w4 : Sl), (∀ o, w3 ≠ .own o) ∧ st = ⟨[.own o, .val w, .own (.lst (((P.take i).map Prod.fst).map .str)), w3, w4, v5, v6], s⟩)
    (fun i st ⟨_, _, _, e⟩ => by
      subst e
      exact at_enu (hw.2 _).1) (fun i x st hx ⟨w3, w4, _, e⟩ => by
      subst e
      rw [enuW_get, List.getElem?_map, Int.zero_add] at hx
      have hi : i < P.length := by
        cases hx' : P[i]? with
        | none => rw [hx'] at hx; cases hx
        | some q => exact (List.getElem?_eq_some_iff.mp hx').1
      rw [List.getElem?_eq_getElem hi] at hx
      cases hx
      have hn : P[i].1 ∉ (P.take i).map Prod.fst := by
        have h := g.nod
        rw [← List.take_append_drop i P, List.map_append, List.nodup_append] at h
        intro z
        refine h.2.2 _ z P[i].1 ?_ rfl
        rw [← List.getElem_cons_drop hi, List.map_cons]
        exact List.mem_cons_self
      have hg := g.hi
      have ht := iturn_ok (wf := wf) (n := n) (s := s) h0 h1 h2 hc (w := w) (l := (P.take i).map Prod.fst) (i := i) (q := P[i]) (by omega) (by rw [List.length_map, List.length_take]; omega) (g.tab _ (List.getElem_mem hi)) hn (v5 := v5) (v6 := v6) (o := o)
      refine ⟨[.own o, .val w, .own (.lst (((P.take i).map Prod.fst).map .str)), .val (.int i), .val (tW P[i]), v5, v6], _, rfl, ht, .val (.int i), .val (tW P[i]), (fun _ z => by cases z), ?_⟩
      have : (P.take i).map Prod.fst ++ [P[i].1] = (P.take (i + 1)).map Prod.fst := by
        rw [← List.take_append_getElem hi, List.map_append]
        rfl
      rw [this]) P.length 0 ⟨[.own o, .val w, .own (.lst []), v3, v4, v5, v6], s⟩ ⟨v3, v4, hv3, rfl⟩ (Nat.zero_le _) (by rw [hlen]; omega)
  subst q2
  rw [hlen, List.take_length] at q1
  exact ⟨w3, w4, q3, q1⟩
theorem sta_own {f C : Nat} {v : W} {ns : List Nat} {xs : List W} {r r' : List Sl} {s s' : List OO} {e : E} (he : evE p cal e ⟨.own (.ins C ns xs) :: r, s⟩ = .ok v ⟨.own (.ins C ns xs) :: r', s'⟩) (hv : okv v = true) (hn : ns.length < 900) (hf : fldOk p C f = true) :
    exS p cal wf (.sta (.var 0) f e) ⟨.own (.ins C ns xs) :: r, s⟩ = .ok .nx ⟨.own (.ins C (fput f v ns xs).1 (fput f v ns xs).2) :: r', s'⟩ := by
  have h1 : evE p cal (.var 0) ⟨.own (.ins C ns xs) :: r', s'⟩ = .ok (.sl 0) ⟨.own (.ins C ns xs) :: r', s'⟩ := by
    rw [evE]; rfl
  have h2 : look ⟨.own (.ins C ns xs) :: r', s'⟩ (.sl 0) = some (.ins C ns xs) := rfl
  have h3 : staW p f v (.ins C ns xs) = some (.ins C (fput f v ns xs).1 (fput f v ns xs).2) := by
    simp only [staW, hf, decide_eq_true hn, Bool.and_self, if_true]
  rw [exS, he, r_ok, h1, r_ok, h2, Option.bind_some, hv, if_pos rfl, h3, Option.bind_some]
  rfl
theorem clsG2 (hc : p.cls[7]? = some clShape) : clsG p 7 = some clShape := by
  rw [clsG, hc]; rfl
theorem fld_ok (hc : p.cls[7]? = some clShape) {f : Nat} (h : clShape.flds.contains f = true) : fldOk p 7 f = true := by
  rw [fldOk, clsG2 hc]; exact h
theorem att_fld (hc : p.cls[7]? = some clShape) {f : Nat} {a w : W} {ns : List Nat} {xs : List W} {st : St} (hl : look st a = some (.ins 7 ns xs)) (hp : clShape.props.lookup f = none) (hg : fget f ns xs = some w) (hf : clShape.flds.contains f = true) : attR p cal f a st = .ok w st := by
  simp only [attR, hl, clsG2 hc, hp, hg, hf, if_true]
/-- the pairs' parts -/
theorem parts_ok {P : List (Tx × Int)} {r : List Sl} {s : List OO} {e : E} {st0 : St} {a b : Nat} (hab : a ≠ b) (he : evE p cal e st0 = .ok (.tup (P.map tW)) ⟨r, s⟩ ∨ evE p cal e st0 = .ok (.lst (P.map tW)) ⟨r, s⟩) (hn : noOwn r [a, b] = true) (hP : P.length ≤ 1000) (y : Tx × Int → W) (c : Nat) (hc : (c = a ∧ y = fun q => .str q.1) ∨ (c = b ∧ y = fun q => .int q.2)) :
    evE p cal (.cpr (.var c) (.tup [(.nam a), (.nam b)]) (.val e) none) st0 = .ok (.lst (P.map y)) ⟨r, s⟩ := by
  obtain ⟨la, lb⟩ : a < r.length ∧ b < r.length := ⟨mn_lt hn a (by simp), mn_lt hn b (by simp)⟩
  have key : ∀ (q : Src), (evI p cal (.val e) st0 = .ok q ⟨r, s⟩) → (∀ (st : St) i, q.at st i = some (P.map tW)[i]?) → (P.map tW).length ≤ q.len ⟨r, s⟩ → evE p cal (.cpr (.var c) (.tup [(.nam a), (.nam b)]) (.val e) none) st0 = .ok (.lst (P.map y)) ⟨r, s⟩ := fun q hi hq hl => by
    rw [cpr_pure (t := .tup [.nam a, .nam b]) (q := q) (xs := P.map tW) (fun x => some (y (unW x))) hi (show noOwn r (tgIx (.tup [.nam a, .nam b])) = true from hn) (fun st i _ => hq st i) hl (by rw [List.length_map]; exact Nat.le_trans hP (by decide)) fun x hx => ?_]
    · congr 2
      rw [List.filterMap_map]
      rw [← List.filterMap_eq_map]
      rfl
    · obtain ⟨z, _, rfl⟩ := List.mem_map.mp hx
      have hab2 : b ≠ a := fun z => hab z.symm
      refine ⟨((wipe r [a, b]).set a (.val (.str z.1))).set b (.val (.int z.2)), ((wipe r [a, b]).set a (.val (.str z.1))).set b (.val (.int z.2)), ?_, ?_, ?_, ?_⟩
      · simp [tgW, tgW.tgWs, tgIx, tgIx.tgIxs, tW, wipe, okv, la, lb]
      · rcases hc with ⟨rfl, rfl⟩ | ⟨rfl, rfl⟩
        · simp [mL, evT, R.bind, evE, wipe, List.getElem?_set, la, lb, hab, hab2, okv, unW, tW]
        · simp [mL, evT, R.bind, evE, wipe, List.getElem?_set, la, lb, hab, hab2, okv, unW, tW]
      · show wipe _ [a, b] = wipe r [a, b]
        apply List.ext_getElem?
        intro i
        simp only [wipe, List.getElem?_set, List.length_set]
        by_cases h1 : a = i
        · subst h1; simp [la]
        · by_cases h2 : b = i
          · subst h2; simp [lb, h1]
          · simp [h1, h2]
      · simp [tgIx, tgIx.tgIxs, noOwn, wipe, List.getElem?_set, la, lb, hab, hab2]
  rcases he with he | he
  · exact key _ (evI_tup he) (fun _ _ => at_tup) (by rw [len_tup]; exact Nat.le_refl _)
  · exact key _ (evI_lst he) (fun _ _ => at_lst) (by rw [len_lst]; exact Nat.le_refl _)
theorem dct_ok {α : Type} {zs : List α} {f : α → Tx} {g : α → W} {X : α → W} {a b k v : Nat} {r : List Sl} {s : List OO} {it : I} {st0 : St} {q : Src} (hab : a ≠ b) (hx : (k = a ∧ v = b ∧ X = fun z => .tup [.str (f z), g z]) ∨ (k = b ∧ v = a ∧ X = fun z => .tup [g z, .str (f z)])) (hg : ∀ z, okv (g z) = true) (hi : evI p cal it st0 = .ok q ⟨r, s⟩) (hn : noOwn r [a, b] = true)
    (hq : ∀ (st : St) i, st.s = s → q.at st i = some (zs.map X)[i]?) (hl : zs.length ≤ q.len ⟨r, s⟩) (hz : zs.length ≤ 1000) (hd : (zs.map f).Nodup) :
    evE p cal (.dcp (.var k) (.var v) (.tup [.nam a, .nam b]) it) st0 = .ok (.dct (zs.map fun z => .inr (f z)) (zs.map g)) ⟨r, s⟩ := by
  obtain ⟨la, lb⟩ : a < r.length ∧ b < r.length := ⟨mn_lt hn a (by simp), mn_lt hn b (by simp)⟩
  have hab2 : b ≠ a := fun z => hab z.symm
  let Y : W → W × W := fun x => match x with
    | .tup [u, w] => if k = a then (u, w) else (w, u)
    | _ => (.non, .non)
  have hY : ∀ z, Y (X z) = (.str (f z), g z) := fun z => by
    rcases hx with ⟨rfl, rfl, rfl⟩ | ⟨rfl, rfl, rfl⟩
    · simp [Y]
    · simp [Y, hab2]
  have := dcp_pure (p := p) (cal := cal) (k := .var k) (v := .var v) (t := .tup [.nam a, .nam b]) (q := q) (xs := zs.map X) Y (d := (zs.map fun z => .inr (f z), zs.map g)) hi (show noOwn r (tgIx (.tup [.nam a, .nam b])) = true from hn) hq (by rw [List.length_map]; exact hl) (by rw [List.length_map]; exact Nat.le_trans hz (by decide)) (by
    rw [List.map_map, ← prs_ok f g hd]
    congr 1
    apply List.map_congr_left
    intro z _
    simp only [Function.comp, hY]) fun x hx' => by
      obtain ⟨z, _, rfl⟩ := List.mem_map.mp hx'
      rw [hY]
      rcases hx with ⟨rfl, rfl, rfl⟩ | ⟨rfl, rfl, rfl⟩
      · refine ⟨((wipe r [k, v]).set k (.val (.str (f z)))).set v (.val (g z)), ((wipe r [k, v]).set k (.val (.str (f z)))).set v (.val (g z)), ?_, ?_, ?_, ?_⟩
        · simp [tgW, tgW.tgWs, tgIx, tgIx.tgIxs, wipe, o_str, hg z, la, lb]
        · simp only [mD, evE, wipe, List.getElem?_set, List.length_set, la, lb, hab, hab2, r_ok, if_true, if_false, hg z, kyOf, Option.isSome_some, Bool.and_self]
        · show wipe _ [k, v] = wipe r [k, v]
          apply List.ext_getElem?
          intro i
          simp only [wipe, List.getElem?_set, List.length_set]
          by_cases h1 : k = i
          · subst h1; simp [la]
          · by_cases h2 : v = i
            · subst h2; simp [lb, h1]
            · simp [h1, h2]
        · simp [tgIx, tgIx.tgIxs, noOwn, wipe, List.getElem?_set, la, lb, hab, hab2]
      · refine ⟨((wipe r [v, k]).set v (.val (g z))).set k (.val (.str (f z))), ((wipe r [v, k]).set v (.val (g z))).set k (.val (.str (f z))), ?_, ?_, ?_, ?_⟩
        · simp [tgW, tgW.tgWs, tgIx, tgIx.tgIxs, wipe, o_str, hg z, la, lb]
        · simp only [mD, evE, wipe, List.getElem?_set, List.length_set, la, lb, hab, hab2, r_ok, if_true, if_false, hg z, kyOf, Option.isSome_some, Bool.and_self]
        · show wipe _ [v, k] = wipe r [v, k]
          apply List.ext_getElem?
          intro i
          simp only [wipe, List.getElem?_set, List.length_set]
          by_cases h1 : k = i
          · subst h1; simp [lb, hab]
          · by_cases h2 : v = i
            · subst h2; simp [la]
            · simp [h1, h2]
        · simp [tgIx, tgIx.tgIxs, noOwn, wipe, List.getElem?_set, la, lb, hab, hab2]
  exact this
theorem zip_map {l : List Tx} : (enuW 0 (l.map .str)) = l.zipIdx.map fun z => W.tup [.int z.2, .str z.1] := by
  apply List.ext_getElem?
  intro i
  rw [enuW_get, List.getElem?_map, List.getElem?_map, List.getElem?_zipIdx]
  cases l[i]? with
  | none => rfl
  | some x => simp
theorem zip_fst {l : List Tx} : l.zipIdx.map Prod.fst = l := by
  apply List.ext_getElem?
  intro i
  rw [List.getElem?_map, List.getElem?_zipIdx]
  cases l[i]? <;> rfl
/-- Shape(w) -/
theorem shape_ok {n : Nat} {s : List OO} (h0 : p.fns[1]? = some fWhole) (h1 : p.fns[2]? = some fWord) (h2 : p.fns[3]? = some fCon) (h3 : p.fns[4]? = some fInit) (hc : p.cls[7]? = some clShape) {w : W} {P : List (Tx × Int)} (g : GoodP P) (hw : SeqA s w (P.map tW)) :
    callN p wf (n + 3) true 7 [w] s = .ok (SH P) s := by
  rw [callN_new hc rfl h3 rfl]
  have hi := g.hi
  have hlo := g.lo
  have s1 : exS p (callN p wf (n + 2)) wf (.own 2 (.lst [])) ⟨[.own (.ins 7 [] []), .val w, .un, .un, .un, .un, .un], s⟩ = .ok .nx ⟨[.own (.ins 7 [] []), .val w, .own (.lst []), .un, .un, .un, .un], s⟩ := rfl
  obtain ⟨w3, w4, q3, q1⟩ := iloop_ok (wf := wf) (n := n) (s := s) h0 h1 h2 hc g hw (v3 := .un) (v4 := .un) (v5 := .un) (v6 := .un) (fun _ z => by cases z) (o := .ins 7 [] [])
  have s2 : exS p (callN p wf (n + 2)) wf (.for (.tup [(.nam 3), (.nam 4)]) (.enu (.var 1) none) iTurn) ⟨[.own (.ins 7 [] []), .val w, .own (.lst []), .un, .un, .un, .un], s⟩ = .ok .nx ⟨[.own (.ins 7 [] []), .val w, .own (.lst (nmW P)), w3, w4, .un, .un], s⟩ := by
    have e1 := evI_enu (p := p) (cal := callN p wf (n + 2)) (e := .var 1) (w := w) (st := ⟨[.own (.ins 7 [] []), .val w, .own (.lst []), .un, .un, .un, .un], s⟩) (st1 := ⟨[.own (.ins 7 [] []), .val w, .own (.lst []), .un, .un, .un, .un], s⟩) (by rw [evE]; rfl) (hw.2 _).1
    rw [exS, e1, r_ok, len_enu (hw.2 _).1, List.length_map]
    exact q1
  have s3 : exS p (callN p wf (n + 2)) wf (.sta (.var 0) 7 (.bif .tuple [(.var 1)])) ⟨[.own (.ins 7 [] []), .val w, .own (.lst (nmW P)), w3, w4, .un, .un], s⟩ = .ok .nx ⟨[.own (.ins 7 [7] [.tup (P.map tW)]), .val w, .own (.lst (nmW P)), w3, w4, .un, .un], s⟩ := by
    refine sta_own (p := p) (f := 7) (v := .tup (P.map tW)) (ns := []) (xs := []) ?_ rfl (by decide) (fld_ok hc rfl)
    have e1 : ∀ st : St, st.r[1]? = some (.val w) → evE p (callN p wf (n + 2)) (.var 1) st = .ok w st := fun st h => by
      rw [evE, h]
    rw [evE, evEs, e1 _ rfl, r_ok, evEs, r_ok, r_ok]
    show R.lift _ (bifW .tuple [vw _ w]) = _
    rw [(hw.2 _).2]
    rfl
  have e7 : ∀ (st : St) (ns : List Nat) (xs : List W), st.r[0]? = some (.own (.ins 7 (7 :: ns) (.tup (P.map tW) :: xs))) → evE p (callN p wf (n + 2)) (.att (.var 0) 7) st = .ok (.tup (P.map tW)) st := fun st ns xs h => by
    have : evE p (callN p wf (n + 2)) (.var 0) st = .ok (.sl 0) st := by
      rw [evE, h]
    rw [evE, this, r_ok]
    exact att_fld hc (ns := 7 :: ns) (xs := .tup (P.map tW) :: xs) (by simp only [look, h]) rfl rfl rfl
  have s4 : exS p (callN p wf (n + 2)) wf (.ife (.bor (.cmp .lt (.bif .len [(.var 2)]) (.cst (.int 2))) (.cmp .nin (.cst (.int 0)) (.cpr (.var 6) (.tup [(.nam 5), (.nam 6)]) (.val (.att (.var 0) 7)) none))) [.rai 2 [(.bif .len [(.var 2)])]] []) ⟨[.own (.ins 7 [7] [.tup (P.map tW)]), .val w, .own (.lst (nmW P)), w3, w4, .un, .un], s⟩ = .ok .nx ⟨[.own (.ins 7 [7] [.tup (P.map tW)]), .val w, .own (.lst (nmW P)), w3, w4, .un, .un], s⟩ := by
    have fl := f_lenSl (p := p) (cal := callN p wf (n + 2)) (r := [.own (.ins 7 [7] [.tup (P.map tW)]), .val w, .own (.lst (nmW P)), w3, w4, .un, .un]) (s := s) (n := 2) (xs := nmW P) rfl
    have hlt : decide (((nmW P).length : Int) < 2) = false := by
      rw [decide_eq_false_iff_not]
      unfold nmW
      rw [List.length_map, List.length_map]
      omega
    have e8 := parts_ok (p := p) (cal := callN p wf (n + 2)) (P := P) (e := .att (.var 0) 7) (a := 5) (b := 6) (by decide) (.inl (e7 ⟨[.own (.ins 7 [7] [.tup (P.map tW)]), .val w, .own (.lst (nmW P)), w3, w4, .un, .un], s⟩ [] [] rfl)) rfl (by omega) (fun q => .int q.2) 6 (.inr ⟨rfl, rfl⟩)
    have e9 : (P.map fun q => W.int q.2) = (P.map Prod.snd).map .int := by rw [List.map_map]; rfl
    rw [e9] at e8
    have ea := c_nini (p := p) (cal := callN p wf (n + 2)) (x := 0) (l := P.map Prod.snd) (st := ⟨[.own (.ins 7 [7] [.tup (P.map tW)]), .val w, .own (.lst (nmW P)), w3, w4, .un, .un], s⟩)
    rw [decide_eq_true g.leaf] at ea
    have eb : evE p (callN p wf (n + 2)) (.cmp .lt (.bif .len [(.var 2)]) (.cst (.int 2))) ⟨[.own (.ins 7 [7] [.tup (P.map tW)]), .val w, .own (.lst (nmW P)), w3, w4, .un, .un], s⟩ = .ok (.bl false) ⟨[.own (.ins 7 [7] [.tup (P.map tW)]), .val w, .own (.lst (nmW P)), w3, w4, .un, .un], s⟩ := by
      simp only [evE.eq_1, evE.eq_2, evE, evEs, List.getElem?_cons_succ, List.getElem?_cons_zero, r_ok, fl, c_lt, hlt]
    rw [exS, evE, eb, r_ok]
    simp only []
    rw [evE, evE, r_ok, e8, r_ok, ea, r_ok]
    rfl
  have s5 : exS p (callN p wf (n + 2)) wf (.sta (.var 0) 8 (.dcp (.var 5) (.var 6) (.tup [(.nam 5), (.nam 6)]) (.val (.att (.var 0) 7)))) ⟨[.own (.ins 7 [7] [.tup (P.map tW)]), .val w, .own (.lst (nmW P)), w3, w4, .un, .un], s⟩ = .ok .nx ⟨[.own (.ins 7 [7, 8] [.tup (P.map tW), .dct (P.map fun q => .inr q.1) (P.map fun q => .int q.2)]), .val w, .own (.lst (nmW P)), w3, w4, .un, .un], s⟩ := by
    refine sta_own (p := p) (f := 8) (v := .dct (P.map fun q => .inr q.1) (P.map fun q => .int q.2)) (ns := [7]) (xs := [.tup (P.map tW)]) ?_ rfl (by decide) (fld_ok hc rfl)
    exact dct_ok (p := p) (zs := P) (f := Prod.fst) (g := fun q => .int q.2) (X := tW) (a := 5) (b := 6) (q := .seq (.tup (P.map tW))) (by decide) (.inl ⟨rfl, rfl, rfl⟩) (fun _ => rfl) (evI_tup (e7 _ [] [] rfl)) rfl (fun _ _ _ => at_tup) (by rw [len_tup, List.length_map]; exact Nat.le_refl _) (by omega) g.nod
  have s6 : exS p (callN p wf (n + 2)) wf (.sta (.var 0) 9 (.dcp (.var 5) (.var 3) (.tup [(.nam 3), (.nam 5)]) (.enu (.frz 2) none))) ⟨[.own (.ins 7 [7, 8] [.tup (P.map tW), .dct (P.map fun q => .inr q.1) (P.map fun q => .int q.2)]), .val w, .own (.lst (nmW P)), w3, w4, .un, .un], s⟩ = .ok .nx ⟨[.own (.ins 7 [7, 8, 9] [.tup (P.map tW), .dct (P.map fun q => .inr q.1) (P.map fun q => .int q.2), .dct ((P.map Prod.fst).zipIdx.map fun z => .inr z.1) ((P.map Prod.fst).zipIdx.map fun z => .int z.2)]), .val w, .val (.lst (nmW P)), w3, w4, .un, .un], s⟩ := by
    refine sta_own (p := p) (f := 9) (v := .dct ((P.map Prod.fst).zipIdx.map fun z => .inr z.1) ((P.map Prod.fst).zipIdx.map fun z => .int z.2)) (ns := [7, 8]) (xs := [.tup (P.map tW), .dct (P.map fun q => .inr q.1) (P.map fun q => .int q.2)]) ?_ rfl (by decide) (fld_ok hc rfl)
    refine dct_ok (p := p) (zs := (P.map Prod.fst).zipIdx) (f := Prod.fst) (g := fun z => .int z.2) (X := fun z => W.tup [.int z.2, .str z.1]) (a := 3) (b := 5) (q := .enu (.lst (nmW P))) (by decide) (.inr ⟨rfl, rfl, rfl⟩) (fun _ => rfl) (evI_enu (xs := nmW P) (by rw [evE]; rfl) rfl) ?_ (fun st i _ => by rw [at_enu rfl, nmW, zip_map]) (by rw [len_enu rfl, nmW, List.length_zipIdx, List.length_map, List.length_map, List.length_map]; exact Nat.le_refl _) (by rw [List.length_zipIdx, List.length_map]; omega) (by rw [zip_fst]; exact g.nod)
    cases w3 with
    | own o => exact absurd rfl (q3 o)
    | _ => rfl
  have hb : exSs p (callN p wf (n + 2)) wf fInit.body ⟨(.own (.ins 7 [] []) :: [w].map .val) ++ List.replicate (fInit.nl - ([w].length + 1)) .un, s⟩ = .ok .nx ⟨[.own (.ins 7 [7, 8, 9] [.tup (P.map tW), .dct (P.map fun q => .inr q.1) (P.map fun q => .int q.2), .dct ((P.map Prod.fst).zipIdx.map fun z => .inr z.1) ((P.map Prod.fst).zipIdx.map fun z => .int z.2)]), .val w, .val (.lst (nmW P)), w3, w4, .un, .un], s⟩ := by
    show exSs p (callN p wf (n + 2)) wf _ ⟨[.own (.ins 7 [] []), .val w, .un, .un, .un, .un, .un], s⟩ = _
    unfold fInit
    rw [s_cons, s1, r_ok, s_cons, s2, r_ok, s_cons, s3, r_ok, s_cons, s4, r_ok, s_cons, s5, r_ok, s_cons, s6, r_ok, s_nil]
  rw [hb]
  rfl
end
end Ev

/-! Wp: what holds of a run; rules by which a block is stepped. -/
namespace Ev
section
variable {α β : Type}
def R.Sat0 (r : R α) (Q : α → St → Prop) (X : Xn → St → Prop) : Prop := match r with
  | .ok a st => Q a st
  | .exc x st => X x st
  | .stk => False
/-- a box, so that no look at a goal runs the program -/
structure R.Sat (r : R α) (Q : α → St → Prop) (X : Xn → St → Prop) : Prop where
  of ::
  h : r.Sat0 Q X
def RC.Sat0 (r : RC) (Q : W → List OO → Prop) (X : Xn → List OO → Prop) : Prop := match r with
  | .ok a st => Q a st
  | .exc x st => X x st
  | .stk => False
structure RC.Sat (r : RC) (Q : W → List OO → Prop) (X : Xn → List OO → Prop) : Prop where
  of ::
  h : r.Sat0 Q X
theorem sat_0 {r : R α} {Q X} : r.Sat Q X = r.Sat0 Q X := propext ⟨fun z => z.h, fun z => ⟨z⟩⟩
theorem rc_0 {r : RC} {Q X} : r.Sat Q X = r.Sat0 Q X := propext ⟨fun z => z.h, fun z => ⟨z⟩⟩
theorem sat_ok {a : α} {st : St} {Q X} : (R.ok a st).Sat Q X = Q a st := by rw [sat_0] <;> rfl
theorem sat_exc {x : Xn} {st : St} {Q : α → St → Prop} {X} : (R.exc x st : R α).Sat Q X = X x st := by rw [sat_0] <;> rfl
theorem sat_stk {Q : α → St → Prop} {X} : (R.stk : R α).Sat Q X = False := by rw [sat_0] <;> rfl
theorem sat_bind {r : R α} {f : α → St → R β} {Q X} : (r.bind f).Sat Q X = r.Sat (fun a st => (f a st).Sat Q X) X := by
  rw [sat_0, sat_0]
  cases r with
  | ok a st => show _ = R.Sat _ _ _; rw [sat_0]; rfl
  | exc a st => rfl
  | stk => rfl
theorem rc_ok {w : W} {s : List OO} {Q X} : (RC.ok w s).Sat Q X = Q w s := by rw [rc_0] <;> rfl
theorem rc_exc {x : Xn} {s : List OO} {Q X} : (RC.exc x s).Sat Q X = X x s := by rw [rc_0] <;> rfl
theorem rc_stk {Q X} : RC.stk.Sat Q X = False := by rw [rc_0] <;> rfl
theorem sat_at {r : RC} {sl : List Sl} {Q X} : (r.at sl).Sat Q X = r.Sat (fun w s => Q w ⟨sl, s⟩) (fun x s => X x ⟨sl, s⟩) := by
  rw [sat_0, rc_0]
  cases r <;> rfl
theorem r_exc {x : Xn} {st : St} {f : α → St → R β} : (R.exc x st).bind f = .exc x st := id rfl
theorem sat_calm {r : R α} {Q X} (h : r.Sat Q fun _ _ => False) : r.calm.Sat Q X := by
  rw [sat_0] at h ⊢
  cases r <;> first | exact h | exact h.elim
theorem sat_lift {st : St} {o : Option α} {Q X} : (R.lift st o).Sat Q X = ∃ a, o = some a ∧ Q a st := by
  cases o with
  | none => simp [R.lift, sat_stk]
  | some a => simp [R.lift, sat_ok]
theorem R.Sat.mono {r : R α} {Q Q' : α → St → Prop} {X X' : Xn → St → Prop} (h : r.Sat Q X) (q : ∀ a st, Q a st → Q' a st) (x : ∀ a st, X a st → X' a st) : r.Sat Q' X' := by
  rw [sat_0] at h ⊢
  cases r with
  | ok a st => exact q _ _ h
  | exc a st => exact x _ _ h
  | stk => exact h
theorem RC.Sat.mono {r : RC} {Q Q' : W → List OO → Prop} {X X' : Xn → List OO → Prop} (h : r.Sat Q X) (q : ∀ a st, Q a st → Q' a st) (x : ∀ a st, X a st → X' a st) : r.Sat Q' X' := by
  rw [rc_0] at h ⊢
  cases r with
  | ok a st => exact q _ _ h
  | exc a st => exact x _ _ h
  | stk => exact h
/-- no exception -/
theorem RC.Sat.go {r : RC} {Q Q' : W → List OO → Prop} {X' : Xn → List OO → Prop} (h : r.Sat Q fun _ _ => False) (q : ∀ a st, Q a st → Q' a st) : r.Sat Q' X' := h.mono q fun _ _ z => z.elim
theorem rc_eq {r : RC} {w : W} {s : List OO} : r.Sat (fun a t => a = w ∧ t = s) (fun _ _ => False) ↔ r = .ok w s := by
  cases r with
  | ok a t => simp [rc_ok]
  | exc a t => simp [rc_exc]
  | stk => simp [rc_stk]
theorem rc_eqx {r : RC} {x : Xn} {s : List OO} : r.Sat (fun _ _ => False) (fun a t => a = x ∧ t = s) ↔ r = .exc x s := by
  cases r with
  | ok a t => simp [rc_ok]
  | exc a t => simp [rc_exc]
  | stk => simp [rc_stk]
theorem rc_ex {r : RC} {P : W → List OO → Prop} (h : r.Sat P fun _ _ => False) : ∃ w s, r = .ok w s ∧ P w s := by
  rw [rc_0] at h
  cases r with
  | ok a t => exact ⟨a, t, rfl, h⟩
  | exc a t => exact h.elim
  | stk => exact h.elim
theorem r_eq {r : R α} {w : α} {s : St} : r.Sat (fun a t => a = w ∧ t = s) (fun _ _ => False) ↔ r = .ok w s := by
  cases r with
  | ok a t => simp [sat_ok]
  | exc a t => simp [sat_exc]
  | stk => simp [sat_stk]
end
section
variable {p : Pg} {cal : Bool → Nat → List W → List OO → RC} {wf : Nat} {st : St} {b : List S} {Q : Fl → St → Prop} {X : Xn → St → Prop} {w : W}
/-- what is wanted behind a statement: the rest of the block, or the block's end -/
def seqK (p : Pg) (cal : Bool → Nat → List W → List OO → RC) (wf : Nat) (b : List S) (Q : Fl → St → Prop) (X : Xn → St → Prop) (f : Fl) (st : St) : Prop := match f with
  | .nx => (exSs p cal wf b st).Sat Q X
  | f => Q f st
theorem sk_nx : seqK p cal wf b Q X .nx st = (exSs p cal wf b st).Sat Q X := id rfl
theorem sk_ret : seqK p cal wf b Q X (.ret w) st = Q (.ret w) st := id rfl
theorem sk_brk : seqK p cal wf b Q X .brk st = Q .brk st := id rfl
theorem sk_cnt : seqK p cal wf b Q X .cnt st = Q .cnt st := id rfl
theorem wp_cons {a : S} (h : (exS p cal wf a st).Sat (seqK p cal wf b Q X) X) : (exSs p cal wf (a :: b) st).Sat Q X := by
  rw [s_cons, sat_bind]
  refine h.mono (fun f st1 q => ?_) fun _ _ x => x
  cases f <;> first | exact q | exact ⟨q⟩
theorem wp_nil (h : Q .nx st) : (exSs p cal wf [] st).Sat Q X := by rw [s_nil]; exact ⟨h⟩
/-- what is wanted behind a def's body -/
def retK (Q : W → List OO → Prop) (f : Fl) (st : St) : Prop := match f with
  | .nx => Q .non st.s
  | .ret w => Q w st.s
  | _ => False
theorem rk_nx {Q} {r : List Sl} {s : List OO} : retK Q .nx ⟨r, s⟩ = Q .non s := id rfl
theorem rk_ret {Q} {r : List Sl} {s : List OO} : retK Q (.ret w) ⟨r, s⟩ = Q w s := id rfl
def excK (X : Xn → List OO → Prop) (x : Xn) (st : St) : Prop := X x st.s
theorem xk_ {X} {r : List Sl} {s : List OO} {x : Xn} : excK X x ⟨r, s⟩ = X x s := id rfl
theorem sat_endF {r : R Fl} {Q X} (h : r.Sat (retK Q) (excK X)) : (endF r).Sat Q X := by
  rw [sat_0] at h
  rw [rc_0]
  cases r with
  | ok f st => cases f <;> exact h
  | exc x st => exact h
  | stk => exact h
theorem wp_call {n f : Nat} {fn : Fn} {ws : List W} {s : List OO} {Q X} (h : p.fns[f]? = some fn) (hl : ws.length = fn.np)
    (q : (exSs p (callN p wf n) wf fn.body ⟨ws.map .val ++ List.replicate (fn.nl - ws.length) .un, s⟩).Sat (retK Q) (excK X)) : (callN p wf (n + 1) false f ws s).Sat Q X := by
  rw [callN_fn h hl]
  exact sat_endF q
/-! ### terms -/
variable {r : List Sl} {s : List OO} {i n k : Nat} {e e1 e2 e3 : E} {es : List E} {c : Bool} {α : Type}
theorem ev_var : evE p cal (.var i) st = match st.r[i]? with
    | some (.val w) => .ok w st
    | some (.own _) => .ok (.sl i) st
    | _ => .stk := by rw [evE] <;> rfl
theorem ev_cst : evE p cal (.cst w) st = .ok w st := by rw [evE]
theorem ev_glo : evE p cal (.glo n w) st = .ok w st := by rw [evE]
theorem ev_bin {op : Bop} : evE p cal (.bin op e1 e2) st = (evE p cal e1 st).bind fun x st1 => (evE p cal e2 st1).bind fun y st2 => binR p cal op x y st2 := by rw [evE]
theorem ev_neg : evE p cal (.neg e) st = (evE p cal e st).bind fun x st1 => match x with
    | .int i => .ok (.int (-i)) st1
    | _ => .stk := by rw [evE] <;> rfl
theorem ev_cmp {op : Cop} : evE p cal (.cmp op e1 e2) st = (evE p cal e1 st).bind fun x st1 => (evE p cal e2 st1).bind fun y st2 => cmpR p cal op x y st2 := by rw [evE]
theorem ev_chn {o1 o2 : Cop} : evE p cal (.chn o1 o2 e1 e2 e3) st = (evE p cal e1 st).bind fun x st1 => (evE p cal e2 st1).bind fun y st2 => (cmpR p cal o1 x y st2).bind fun k st3 => match k with
    | .bl true => (evE p cal e3 st3).bind fun z st4 => cmpR p cal o2 y z st4
    | .bl false => .ok (.bl false) st3
    | _ => .stk := by rw [evE] <;> rfl
/-- a bool decides -/
def andK (w : W) (st : St) (r : St → R W) : R W := match w with
  | .bl true => r st
  | .bl false => .ok (.bl false) st
  | _ => .stk
def orK (w : W) (st : St) (r : St → R W) : R W := match w with
  | .bl true => .ok (.bl true) st
  | .bl false => r st
  | _ => .stk
theorem ev_bnd : evE p cal (.bnd e1 e2) st = (evE p cal e1 st).bind fun x st1 => andK x st1 (evE p cal e2) := by
  rw [evE] <;> rfl
theorem ev_bor : evE p cal (.bor e1 e2) st = (evE p cal e1 st).bind fun x st1 => orK x st1 (evE p cal e2) := by
  rw [evE] <;> rfl
theorem ak_t {f : St → R W} : andK (.bl true) st f = f st := id rfl
theorem ak_f {f : St → R W} : andK (.bl false) st f = .ok (.bl false) st := id rfl
theorem ok_t {f : St → R W} : orK (.bl true) st f = .ok (.bl true) st := id rfl
theorem ok_f {f : St → R W} : orK (.bl false) st f = f st := id rfl
theorem ak_d {f : St → R W} {q : Prop} [Decidable q] : andK (.bl (decide q)) st f = if q then f st else .ok (.bl false) st := by
  by_cases h : q <;> simp [h, andK]
theorem ok_d {f : St → R W} {q : Prop} [Decidable q] : orK (.bl (decide q)) st f = if q then .ok (.bl true) st else f st := by
  by_cases h : q <;> simp [h, orK]
theorem ev_bnt : evE p cal (.bnt e) st = (evE p cal e st).bind fun x st1 => (truR x st1).bind fun k st2 => .ok (.bl !k) st2 := by rw [evE]
theorem ev_ite : evE p cal (.ite e1 e2 e3) st = (evE p cal e1 st).bind fun x st1 => (truR x st1).bind fun k st2 => if k then evE p cal e2 st2 else evE p cal e3 st2 := by rw [evE]
theorem ev_tup : evE p cal (.tup es) st = (evEs p cal es st).bind fun ws st1 => if okvs ws && decide (ws.length ≤ lineMax) then .ok (.tup ws) st1 else .stk := by rw [evE]
theorem ev_lst : evE p cal (.lst es) st = (evEs p cal es st).bind fun ws st1 => if okvs ws && decide (ws.length ≤ lineMax) then .ok (.lst ws) st1 else .stk := by rw [evE]
theorem ev_alc : evE p cal (.alc e) st = (evE p cal e st).bind fun w st1 => if isL w then .ok (.loc st1.s.length) ⟨st1.r, st1.s ++ [oOf w]⟩ else .stk := by rw [evE]
theorem ev_frz : evE p cal (.frz i) st = match st.r[i]? with
    | some (.own (.lst xs)) => .ok (.lst xs) ⟨st.r.set i (.val (.lst xs)), st.s⟩
    | some (.own (.dct ks xs)) => .ok (.dct ks xs) ⟨st.r.set i (.val (.dct ks xs)), st.s⟩
    | some (.val w) => .ok w st
    | _ => .stk := by rw [evE] <;> rfl
theorem ev_sub : evE p cal (.sub e1 e2) st = (evE p cal e1 st).bind fun x st1 => (evE p cal e2 st1).bind fun y st2 => .lift st2 (subW (vw st2 x) y) := by rw [evE]
theorem ev_slc {lo hi : Option E} : evE p cal (.slc e lo hi) st = (evE p cal e st).bind fun x st1 => (evO p cal lo st1).bind fun l st2 => (evO p cal hi st2).bind fun h st3 => .lift st3 (slcW (vw st3 x) l h) := by rw [evE]
theorem ev_att {f : Nat} : evE p cal (.att e f) st = (evE p cal e st).bind fun x st1 => attR p cal f x st1 := by rw [evE]
theorem ev_kon {C f : Nat} : evE p cal (.kon C f) st = .lift st ((p.cls[C]?).bind fun c => c.consts.lookup f) := by rw [evE]
theorem ev_cal {f : Nat} : evE p cal (.cal f es) st = (evEs p cal es st).bind fun ws st1 => callR cal false f ws st1 := by rw [evE]
theorem ev_new {C : Nat} : evE p cal (.new C es) st = (evEs p cal es st).bind fun ws st1 => callR cal true C ws st1 := by rw [evE]
theorem ev_mth {m : Nat} : evE p cal (.mth e m es) st = (evE p cal e st).bind fun x st1 => match mthF p m x st1 with
    | some f => (evEs p cal es st1).bind fun ws st2 => callR cal false f (x :: ws) st2
    | none => .stk := by rw [evE] <;> rfl
theorem ev_bif {b : Bif} : evE p cal (.bif b es) st = (evEs p cal es st).bind fun ws st1 => bifR p cal b ws st1 := by rw [evE]
theorem ev_isi {ks : List Kd} : evE p cal (.isi e ks) st = (evE p cal e st).bind fun x st1 => .lift st1 ((isKs p st1 x ks).map .bl) := by rw [evE]
theorem ev_bmt {b : Bmt} : evE p cal (.bmt b e es) st = (evE p cal e st).bind fun x st1 => if bmT b (vw st1 x) then (evEs p cal es st1).bind fun ws st2 => if bmT b (vw st2 x) then .lift st2 (bmtW b (vw st2 x) (ws.map (vw st2))) else .stk else .stk := by rw [evE]
theorem ev_cmt {c : Cmt} : evE p cal (.cmt c e es) st = (evE p cal e st).bind fun x st1 => if cmT c (look st1 x) then (evEs p cal es st1).bind fun ws st2 => (match look st2 x with
    | some o => if okvs ws || c = .extend then (match cmtW c o (ws.map fun w => if c = .extend then vw st2 w else w) with
      | some (w, o') => (match put st2 o' x with
        | some st3 => .ok w st3
        | none => .stk)
      | none => .stk) else .stk
    | none => .stk) else .stk := by rw [evE] <;> rfl
theorem ev_fst : evE p cal (.fst es) st = evJ p cal es [] st := by rw [evE]
theorem es_nil : evEs p cal [] st = .ok [] st := by rw [evEs]
theorem es_cons : evEs p cal (e :: es) st = (evE p cal e st).bind fun w st1 => (evEs p cal es st1).bind fun ws st2 => .ok (w :: ws) st2 := by rw [evEs]
theorem eo_none : evO p cal none st = .ok none st := by rw [evO]
theorem eo_some : evO p cal (some e) st = (evE p cal e st).bind fun w st1 => match w with
    | .int i => .ok (some i) st1
    | _ => .stk := by rw [evO] <;> rfl
theorem et_none : evT p cal none st = .ok true st := by rw [evT]
theorem et_some : evT p cal (some e) st = (evE p cal e st).bind fun w st1 => truR w st1 := by rw [evT]
theorem ej_nil {acc : Tx} : evJ p cal [] acc st = .ok (.str acc) st := by rw [evJ]
theorem ej_cons {acc : Tx} : evJ p cal (e :: es) acc st = (evE p cal e st).bind fun w st1 => match fmtW w with
    | some y => if acc.length + y.length ≤ lineMax then evJ p cal es (acc ++ y) st1 else .stk
    | none => .stk := by rw [evJ] <;> rfl
/-! walks -/
theorem ei_val : evI p cal (.val e) st = (evE p cal e st).bind fun w st1 => match w with
    | .str x => .ok (.fix (x.map fun c => .str [c])) st1
    | w => if (wkOf st1 w).isSome then .ok (.seq w) st1 else .stk := by rw [evI] <;> rfl
theorem ei_rng : evI p cal (.rng es) st = (evEs p cal es st).bind fun ws st1 => .lift st1 ((rngW ws).map .fix) := by rw [evI]
theorem ei_enu : evI p cal (.enu e none) st = (evE p cal e st).bind fun w st1 => if (wkOf st1 w).isSome then .ok (.enu w) st1 else .stk := by rw [evI]
theorem ei_zip : evI p cal (.zip e1 e2) st = (evE p cal e1 st).bind fun x st1 => (evE p cal e2 st1).bind fun y st2 => if (Src.at st2 0 (.zip x y)).isSome then .ok (.zip x y) st2 else .stk := by rw [evI]
/-! statements -/
variable {a a2 : List S} {it : I} {t : Tg}
theorem x_ex : exS p cal wf (.ex e) st = (evE p cal e st).bind fun _ st1 => .ok .nx st1 := by rw [exS]
theorem x_set : exS p cal wf (.set i e) st = (evE p cal e st).bind fun w st1 => if okv w && decide (i < st1.r.length) then .ok .nx ⟨st1.r.set i (.val w), st1.s⟩ else .stk := by rw [exS]
theorem x_own : exS p cal wf (.own i e) st = (evE p cal e st).bind fun w st1 => if decide (i < st1.r.length) && isL w then .ok .nx ⟨st1.r.set i (.own (oOf w)), st1.s⟩ else .stk := by rw [exS]
theorem x_unp : exS p cal wf (.unp t e) st = (evE p cal e st).bind fun w st1 => match tgW t w st1.r with
    | some r => .ok .nx ⟨r, st1.s⟩
    | none => .stk := by rw [exS] <;> rfl
theorem x_sti : exS p cal wf (.sti e1 e2 e3) st = (evE p cal e3 st).bind fun v st1 => (evE p cal e1 st1).bind fun x st2 => (evE p cal e2 st2).bind fun k st3 =>
      match (look st3 x).bind fun ob => if okv v then (stiW ob k v).bind fun ob' => put st3 ob' x else none with
      | some st4 => .ok .nx st4
      | none => .stk := by rw [exS] <;> rfl
theorem x_sta {f : Nat} : exS p cal wf (.sta e1 f e2) st = (evE p cal e2 st).bind fun v st1 => (evE p cal e1 st1).bind fun x st2 =>
      match (look st2 x).bind fun ob => if okv v then (staW p f v ob).bind fun ob' => put st2 ob' x else none with
      | some st3 => .ok .nx st3
      | none => .stk := by rw [exS] <;> rfl
theorem x_aug {op : Bop} : exS p cal wf (.aug i op e) st = match st.r[i]? with
    | some (.val x) => (evE p cal e st).bind fun y st1 => match binW op x (vw st1 y) with
      | some (.int k) => .ok .nx ⟨st1.r.set i (.val (.int k)), st1.s⟩
      | _ => .stk
    | _ => .stk := by rw [exS] <;> rfl
theorem x_ret : exS p cal wf (.ret e) st = (evE p cal e st).bind fun w st1 => if okv w then .ok (.ret w) st1 else .stk := by rw [exS]
theorem x_rtn : exS p cal wf .rtn st = .ok (.ret .non) st := by rw [exS]
theorem x_ife : exS p cal wf (.ife e a a2) st = (evE p cal e st).bind fun w st1 => (truR w st1).bind fun k st2 => if k then exSs p cal wf a st2 else exSs p cal wf a2 st2 := by rw [exS]
theorem x_for : exS p cal wf (.for t it a) st = (evI p cal it st).bind fun xs st1 => forR (tgW t) (exSs p cal wf a) xs (xs.len st1) 0 st1 := by rw [exS]
theorem x_whl : exS p cal wf (.whl e a) st = whlR (fun st1 => (evE p cal e st1).bind fun w st2 => truR w st2) (exSs p cal wf a) wf st := by rw [exS]
theorem x_brk : exS p cal wf .brk st = .ok .brk st := by rw [exS]
theorem x_cnt : exS p cal wf .cnt st = .ok .cnt st := by rw [exS]
theorem x_pas : exS p cal wf .pas st = .ok .nx st := by rw [exS]
theorem x_rai {C : Nat} : exS p cal wf (.rai C es) st = (evEs p cal es st).bind fun ws st1 => match p.cls[C]? with
    | some c => (match c.exn with
      | some (ps, ns, code) => if ps.length = ws.length && okvs ws then .exc ⟨C, ns, ws ++ [.str code]⟩ st1 else .stk
      | none => .stk)
    | none => .stk := by rw [exS] <;> rfl
theorem x_par {is : List Nat} : exS p cal wf (.par is es) st = (evEs p cal es st).bind fun ws st1 => if okvs ws && decide (is.length = ws.length) && is.all (fun i => decide (i < st1.r.length)) then .ok .nx ⟨setVs is ws st1.r, st1.s⟩ else .stk := by rw [exS]
/-! built-ins -/
variable {v : W}
theorem f_sum : bifR p cal .sum [w] st = R.lift st (bifW .sum [vw st w]) := id rfl
theorem f_max : bifR p cal .max [w] st = R.lift st (bifW .max [vw st w]) := id rfl
theorem f_min : bifR p cal .min [w] st = R.lift st (bifW .min [vw st w]) := id rfl
theorem f_all : bifR p cal .all [w] st = R.lift st (bifW .all [vw st w]) := id rfl
theorem f_any : bifR p cal .any [w] st = R.lift st (bifW .any [vw st w]) := id rfl
theorem f_sorted : bifR p cal .sorted [w] st = R.lift st (bifW .sorted [vw st w]) := id rfl
theorem f_list : bifR p cal .list [w] st = R.lift st (bifW .list [vw st w]) := id rfl
theorem f_tuple : bifR p cal .tuple [w] st = R.lift st (bifW .tuple [vw st w]) := id rfl
theorem f_str : bifR p cal .str [w] st = R.lift st (bifW .str [vw st w]) := id rfl
theorem f_int1 : bifR p cal .int [w] st = R.lift st (bifW .int [vw st w]) := id rfl
theorem f_max2 : bifR p cal .max2 [w, v] st = R.lift st (bifW .max2 [vw st w, vw st v]) := id rfl
theorem f_min2 : bifR p cal .min2 [w, v] st = R.lift st (bifW .min2 [vw st w, vw st v]) := id rfl
theorem f_lenS {x : Tx} (h : x.length ≤ lineMax) : bifR p cal .len [.str x] st = .ok (.int x.length) st := by
  have : lenW (.str x) = some x.length := by simp only [lenW, if_pos h]
  have h2 : clsOf st (.str x) = none := rfl
  simp only [bifR, h2, vw_str, bifW, this]
  rfl
theorem f_lenD {ks : List Ky} {xs : List W} : bifR p cal .len [.dct ks xs] st = .ok (.int ks.length) st := id rfl
theorem w_listL {xs : List W} : bifW .list [.lst xs] = some (.lst xs) := id rfl
theorem w_listT {xs : List W} : bifW .list [.tup xs] = some (.lst xs) := id rfl
theorem w_tupL {xs : List W} : bifW .tuple [.lst xs] = some (.tup xs) := id rfl
theorem w_tupT {xs : List W} : bifW .tuple [.tup xs] = some (.tup xs) := id rfl
theorem w_intI {i : Int} : bifW .int [.int i] = some (.int i) := id rfl
theorem w_intB {b : Bool} : bifW .int [.bl b] = some (.int (if b then 1 else 0)) := id rfl
theorem w_max2 {i j : Int} : bifW .max2 [.int i, .int j] = some (.int (if j > i then j else i)) := id rfl
theorem w_min2 {i j : Int} : bifW .min2 [.int i, .int j] = some (.int (if j < i then j else i)) := id rfl
theorem wkL {xs : List W} : wkOf st (.lst xs) = some xs := id rfl
theorem wkT {xs : List W} : wkOf st (.tup xs) = some xs := id rfl
theorem at_seqL {xs : List W} : (Src.seq (.lst xs)).at st i = some xs[i]? := id rfl
theorem at_seqT {xs : List W} : (Src.seq (.tup xs)).at st i = some xs[i]? := id rfl
theorem ln_seqL {xs : List W} : (Src.seq (.lst xs)).len st = xs.length := id rfl
theorem ln_seqT {xs : List W} : (Src.seq (.tup xs)).len st = xs.length := id rfl
theorem ln_fix {xs : List W} : (Src.fix xs).len st = xs.length := id rfl
theorem ixz0 {n : Nat} : ixN (n + 1) 0 = some 0 := by unfold ixN; rw [if_pos (by decide), if_pos (by omega)]; rfl
theorem ixz1 {n : Nat} : ixN (n + 2) 1 = some 1 := by unfold ixN; rw [if_pos (by decide), if_pos (by omega)]; rfl
theorem ixz2 {n : Nat} : ixN (n + 3) 2 = some 2 := by unfold ixN; rw [if_pos (by decide), if_pos (by omega)]; rfl
theorem ixz3 {n : Nat} : ixN (n + 4) 3 = some 3 := by unfold ixN; rw [if_pos (by decide), if_pos (by omega)]; rfl
theorem ixz4 {n : Nat} : ixN (n + 5) 4 = some 4 := by unfold ixN; rw [if_pos (by decide), if_pos (by omega)]; rfl
theorem ixz5 {n : Nat} : ixN (n + 6) 5 = some 5 := by unfold ixN; rw [if_pos (by decide), if_pos (by omega)]; rfl
theorem ixz6 {n : Nat} : ixN (n + 7) 6 = some 6 := by unfold ixN; rw [if_pos (by decide), if_pos (by omega)]; rfl
theorem ixz7 {n : Nat} : ixN (n + 8) 7 = some 7 := by unfold ixN; rw [if_pos (by decide), if_pos (by omega)]; rfl
/-! conditions -/
theorem sat_if {c : Prop} [Decidable c] {x y : R α} {Q X} : (if c then x else y).Sat Q X = ((c → x.Sat Q X) ∧ (¬ c → y.Sat Q X)) := by
  by_cases h : c <;> simp [h]
theorem if_t {x y : α} : (if (true : Bool) = true then x else y) = x := id rfl
theorem if_f {x y : α} : (if (false : Bool) = true then x else y) = y := id rfl
theorem bif_d {q : Prop} [Decidable q] {x y : α} : (if decide q = true then x else y) = if q then x else y := by
  by_cases h : q <;> simp [h]
theorem bif_n {q : Prop} [Decidable q] {x y : α} : (if (!decide q) = true then x else y) = if q then y else x := by
  by_cases h : q <;> simp [h]
theorem sat_by {r : R α} {a : α} {st : St} {Q X} (h : r = .ok a st) (q : Q a st) : r.Sat Q X := by rw [h]; exact ⟨q⟩
theorem rc_by {r : RC} {a : W} {s : List OO} {Q X} (h : r = .ok a s) (q : Q a s) : r.Sat Q X := by rw [h]; exact ⟨q⟩
theorem sat_byx {r : R α} {x : Xn} {st : St} {Q X} (h : r = .exc x st) (q : X x st) : r.Sat Q X := by rw [h]; exact ⟨q⟩
theorem rc_byx {r : RC} {x : Xn} {s : List OO} {Q X} (h : r = .exc x s) (q : X x s) : r.Sat Q X := by rw [h]; exact ⟨q⟩
def nO : Sl → Bool
  | .own _ => false
  | _ => true
theorem nO_un : nO .un = true := id rfl
theorem nO_val {w : W} : nO (.val w) = true := id rfl
def nOo : Option Sl → Bool
  | some v => nO v
  | none => false
theorem nOo_ {v : Sl} : nOo (some v) = nO v := id rfl
theorem noOwn_nil {r : List Sl} : noOwn r [] = true := id rfl
theorem noOwn_get {r : List Sl} {i : Nat} {is : List Nat} : noOwn r (i :: is) = (nOo r[i]? && noOwn r is) := by
  rw [noOwn]
  cases r[i]? with
  | none => rfl
  | some v => cases v <;> rfl
/-! loops -/
theorem sat_for {tg : W → List Sl → Option (List Sl)} {b : St → R Fl} {q : Src} {xs : List W} {K : Fl → St → Prop} {X : Xn → St → Prop} (J : Nat → St → Prop) (hq : ∀ i st, J i st → q.at st i = some xs[i]?)
    (hb : ∀ i x st, xs[i]? = some x → J i st → ∃ r, tg x st.r = some r ∧ (b ⟨r, st.s⟩).Sat (fun f st2 => match f with
      | .nx => J (i + 1) st2
      | .cnt => J (i + 1) st2
      | .brk => K .nx st2
      | .ret w => K (.ret w) st2) X) (hf : ∀ st, J xs.length st → K .nx st) :
    ∀ (m i : Nat) (st : St), J i st → i ≤ xs.length → xs.length ≤ i + m → (forR tg b q m i st).Sat K X
  | m, i, st, h, h1, h2 => by
    rw [forR.eq_def]
    simp only [hq i st h]
    cases e : xs[i]? with
    | none =>
      have : xs.length ≤ i := List.getElem?_eq_none_iff.mp e
      have e2 : i = xs.length := by omega
      subst e2
      exact ⟨hf st h⟩
    | some x =>
      have hi : i < xs.length := (List.getElem?_eq_some_iff.mp e).1
      cases m with
      | zero => omega
      | succ m =>
        obtain ⟨r, e1, e2⟩ := hb i x st e h
        simp only [e1]
        rw [sat_bind]
        refine e2.mono (fun f st2 q2 => ?_) fun _ _ z => z
        cases f with
        | nx => exact sat_for J hq hb hf m (i + 1) st2 q2 hi (by omega)
        | cnt => exact sat_for J hq hb hf m (i + 1) st2 q2 hi (by omega)
        | brk => exact ⟨q2⟩
        | ret w => exact ⟨q2⟩
theorem sat_whl {c : St → R Bool} {b : St → R Fl} {K : Fl → St → Prop} {X : Xn → St → Prop} (J : Nat → St → Prop)
    (hb : ∀ m st, J m st → (c st).Sat (fun k st1 => if k then ∃ m', m' < m ∧ (b st1).Sat (fun f st2 => match f with
      | .nx => J m' st2
      | .cnt => J m' st2
      | .brk => K .nx st2
      | .ret w => K (.ret w) st2) X else K .nx st1) X) :
    ∀ (n m : Nat) (st : St), J m st → m < n → (whlR c b n st).Sat K X
  | 0, m, st, h, h1 => by omega
  | n + 1, m, st, h, h1 => by
    rw [whlR, sat_bind]
    refine (hb m st h).mono (fun k st1 q => ?_) fun _ _ z => z
    cases k with
    | false => exact ⟨q⟩
    | true =>
      obtain ⟨m', h2, q⟩ := q
      simp only [if_true]
      rw [sat_bind]
      refine q.mono (fun f st2 q2 => ?_) fun _ _ z => z
      cases f with
      | nx => exact sat_whl J hb n m' st2 q2 (by omega)
      | cnt => exact sat_whl J hb n m' st2 q2 (by omega)
      | brk => exact ⟨q2⟩
      | ret w => exact ⟨q2⟩
end
end Ev

namespace G
open Ev
/- symbols: 0 __eq__ 1 __len__ 2 __contains__ 3 __repr__ 4 __add__ 5 __mul__ 6 MOST 7 pairs 8 by_name 9 places 10 form 11 numbers 12 MAX_CASES 13 MAX_TREES 14 has_row 15 code 16 at 17 bound 18 name 19 number 20 value 21 first 22 position 23 counts 24 leaf 25 branches 26 constructors 27 polynomial 28 worth 29 check_row 30 rows 31 row_count 32 has_trees -/
/- globals: 0 SMALL 1 MAX_PARTS 2 MAX_NAME -/
/- 0 _wall: 0 k -/
def f__wall : Fn := ⟨1, 1, [.whl (.cst (.bl true)) [.pas]]⟩
/- 1 is_whole: 0 thing -/
def f_is_whole : Fn := ⟨1, 1, [.ret (.bnd (.isi (.var 0) [.int]) (.bnt (.isi (.var 0) [.bool])))]⟩
/- 2 is_word: 0 text 1 most 2 sign -/
def f_is_word : Fn := ⟨2, 3, [.ret (.bnd (.chn .le .le (.cst (.int 1)) (.bif .len [(.var 0)]) (.var 1)) (.bif .all [(.cpr (.cmp .inn (.var 2) (.glo 0 (.str [97, 98, 99, 100, 101, 102, 103, 104, 105, 106, 107, 108, 109, 110, 111, 112, 113, 114, 115, 116, 117, 118, 119, 120, 121, 122]))) (.nam 2) (.val (.var 0)) none)]))]⟩
/- 3 is_constructor: 0 thing -/
def f_is_constructor : Fn := ⟨1, 1, [.ife (.bor (.bnt (.isi (.var 0) [.tuple])) (.bor (.cmp .ne (.bif .len [(.var 0)]) (.cst (.int 2))) (.bnt (.isi (.sub (.var 0) (.cst (.int 0))) [.str])))) [.ret (.cst (.bl false))] [],
    .ret (.bnd (.cal 2 [(.sub (.var 0) (.cst (.int 0))), (.glo 2 (.int 6))]) (.bnd (.cal 1 [(.sub (.var 0) (.cst (.int 1)))]) (.chn .le .le (.cst (.int 0)) (.sub (.var 0) (.cst (.int 1))) (.glo 1 (.int 3)))))]⟩
/- 4 Shape.__init__: 0 self 1 constructors 2 names 3 at 4 one 5 name 6 parts -/
def f_Shape_init : Fn := ⟨2, 7, [.own 2 (.lst []),
    .for (.tup [(.nam 3), (.nam 4)]) (.enu (.var 1) none) [.ife (.bor (.cmp .eq (.var 3) (.kon 7 6)) (.bor (.bnt (.cal 3 [(.var 4)])) (.cmp .inn (.sub (.var 4) (.cst (.int 0))) (.var 2)))) [.rai 2 [(.var 3)]] [],
    .ex (.cmt .append (.var 2) [(.sub (.var 4) (.cst (.int 0)))])],
    .sta (.var 0) 7 (.bif .tuple [(.var 1)]),
    .ife (.bor (.cmp .lt (.bif .len [(.var 2)]) (.cst (.int 2))) (.cmp .nin (.cst (.int 0)) (.cpr (.var 6) (.tup [(.nam 5), (.nam 6)]) (.val (.att (.var 0) 7)) none))) [.rai 2 [(.bif .len [(.var 2)])]] [],
    .sta (.var 0) 8 (.dcp (.var 5) (.var 6) (.tup [(.nam 5), (.nam 6)]) (.val (.att (.var 0) 7))),
    .sta (.var 0) 9 (.dcp (.var 5) (.var 3) (.tup [(.nam 3), (.nam 5)]) (.enu (.frz 2) none))]⟩
/- 5 Shape.__eq__: 0 self 1 other -/
def f_Shape_eq : Fn := ⟨2, 2, [.ret (.bnd (.isi (.var 1) [.cls 7]) (.cmp .eq (.att (.var 0) 7) (.att (.var 1) 7)))]⟩
/- 6 Shape.__len__: 0 self -/
def f_Shape_len : Fn := ⟨1, 1, [.ret (.bif .len [(.att (.var 0) 7)])]⟩
/- 7 Shape.__contains__: 0 self 1 name -/
def f_Shape_contains : Fn := ⟨2, 2, [.ret (.cmp .inn (.var 1) (.att (.var 0) 8))]⟩
/- 8 Shape.__repr__: 0 self -/
def f_Shape_repr : Fn := ⟨1, 1, [.ret (.fst [(.cst (.str [83, 104, 97, 112, 101, 40])), (.bif .len [(.att (.var 0) 7)]), (.cst (.str [32, 99, 111, 110, 115, 116, 114, 117, 99, 116, 111, 114, 115, 41]))])]⟩
/- 9 Shape.leaf: 0 self 1 name 2 parts -/
def f_Shape_leaf : Fn := ⟨1, 3, [.ret (.sub (.cpr (.var 1) (.tup [(.nam 1), (.nam 2)]) (.val (.att (.var 0) 7)) (some (.cmp .eq (.var 2) (.cst (.int 0))))) (.cst (.int 0)))]⟩
/- 10 Shape.branches: 0 self -/
def f_Shape_branches : Fn := ⟨1, 1, [.ex (.cal 0 [(.cst (.int 0))])]⟩
/- 11 Shape.constructors: 0 self -/
def f_Shape_constructors : Fn := ⟨1, 1, [.ret (.alc (.bif .list [(.att (.var 0) 7)]))]⟩
/- 12 Shape.polynomial: 0 self -/
def f_Shape_polynomial : Fn := ⟨1, 1, [.ex (.cal 0 [(.cst (.int 1))])]⟩
/- 13 is_tree: 0 shape 1 thing 2 part -/
def f_is_tree : Fn := ⟨2, 3, [.ife (.bor (.bnt (.isi (.var 1) [.tuple])) (.bor (.cmp .eq (.bif .len [(.var 1)]) (.cst (.int 0))) (.bor (.bnt (.isi (.sub (.var 1) (.cst (.int 0))) [.str])) (.cmp .nin (.sub (.var 1) (.cst (.int 0))) (.var 0))))) [.ret (.cst (.bl false))] [],
    .ife (.cmp .ne (.bif .len [(.var 1)]) (.bin .add (.cst (.int 1)) (.sub (.att (.var 0) 8) (.sub (.var 1) (.cst (.int 0)))))) [.ret (.cst (.bl false))] [],
    .ret (.bif .all [(.cpr (.cal 13 [(.var 0), (.var 2)]) (.nam 2) (.val (.slc (.var 1) (some (.cst (.int 1))) none)) none)])]⟩
/- 14 check_counts: 0 counts 1 cases 2 trees 3 at 4 count -/
def f_check_counts : Fn := ⟨3, 5, [.for (.tup [(.nam 3), (.nam 4)]) (.enu (.var 0) none) [.ife (.bor (.cmp .eq (.var 3) (.var 1)) (.bor (.bnt (.cal 1 [(.var 4)])) (.bnt (.chn .le .le (.cst (.int 0)) (.var 4) (.var 2))))) [.rai 3 [(.var 3)]] []]]⟩
/- 15 Bundle.__init__: 0 self 1 shape 2 counts -/
def f_Bundle_init : Fn := ⟨3, 3, [.sta (.var 0) 10 (.var 1),
    .sta (.var 0) 11 (.bif .tuple [(.var 2)]),
    .ex (.cal 14 [(.att (.var 0) 11), (.kon 8 12), (.kon 8 13)])]⟩
/- 16 Bundle.__eq__: 0 self 1 other -/
def f_Bundle_eq : Fn := ⟨2, 2, [.ret (.bnd (.isi (.var 1) [.cls 8]) (.bnd (.cmp .eq (.att (.var 0) 10) (.att (.var 1) 10)) (.cmp .eq (.att (.var 0) 11) (.att (.var 1) 11))))]⟩
/- 17 Bundle.__len__: 0 self -/
def f_Bundle_len : Fn := ⟨1, 1, [.ret (.bif .len [(.att (.var 0) 11)])]⟩
/- 18 Bundle.__contains__: 0 self 1 row -/
def f_Bundle_contains : Fn := ⟨2, 2, [.ret (.mth (.var 0) 14 [(.var 1)])]⟩
/- 19 Bundle.__add__: 0 self 1 other -/
def f_Bundle_add : Fn := ⟨2, 2, [.ife (.cmp .ne (.att (.var 0) 10) (.att (.var 1) 10)) [.rai 4 []] [],
    .ife (.cmp .gt (.bin .add (.bif .len [(.att (.var 0) 11)]) (.bif .len [(.att (.var 1) 11)])) (.kon 8 12)) [.rai 5 [(.kon 8 12)]] [],
    .ret (.new 8 [(.att (.var 0) 10), (.bin .add (.att (.var 0) 11) (.att (.var 1) 11))])]⟩
/- 20 Bundle.__mul__: not covered: two clauses -/
def f_Bundle_mul : Fn := ⟨2, 2, [.nvr, .nvr, .nvr, .nvr, .nvr]⟩
/- 21 Bundle.__repr__: 0 self -/
def f_Bundle_repr : Fn := ⟨1, 1, [.ret (.fst [(.cst (.str [66, 117, 110, 100, 108, 101, 40])), (.bif .len [(.att (.var 0) 11)]), (.cst (.str [32, 99, 97, 115, 101, 115, 41]))])]⟩
/- 22 Bundle.counts: 0 self -/
def f_Bundle_counts : Fn := ⟨1, 1, [.ret (.alc (.bif .list [(.att (.var 0) 11)]))]⟩
/- 23 Bundle.polynomial: 0 self -/
def f_Bundle_polynomial : Fn := ⟨1, 1, [.ex (.cal 0 [(.cst (.int 2))])]⟩
/- 24 Bundle.worth: 0 self -/
def f_Bundle_worth : Fn := ⟨1, 1, [.ex (.cal 0 [(.cst (.int 3))])]⟩
/- 25 Bundle.has_row: 0 self 1 row 2 tree -/
def f_Bundle_has_row : Fn := ⟨2, 3, [.ife (.bor (.bnt (.isi (.var 1) [.tuple])) (.bor (.cmp .ne (.bif .len [(.var 1)]) (.cst (.int 2))) (.bor (.bnt (.cal 1 [(.sub (.var 1) (.cst (.int 0)))])) (.bnt (.isi (.sub (.var 1) (.cst (.int 1))) [.tuple]))))) [.ret (.cst (.bl false))] [],
    .ife (.bor (.bnt (.chn .le .lt (.cst (.int 0)) (.sub (.var 1) (.cst (.int 0))) (.bif .len [(.att (.var 0) 11)]))) (.cmp .ne (.bif .len [(.sub (.var 1) (.cst (.int 1)))]) (.sub (.att (.var 0) 11) (.sub (.var 1) (.cst (.int 0)))))) [.ret (.cst (.bl false))] [],
    .ret (.bif .all [(.cpr (.cal 13 [(.att (.var 0) 10), (.var 2)]) (.nam 2) (.val (.sub (.var 1) (.cst (.int 1)))) none)])]⟩
/- 26 Bundle.check_row: 0 self 1 row -/
def f_Bundle_check_row : Fn := ⟨2, 2, [.ex (.cal 0 [(.cst (.int 4))])]⟩
/- 27 Bundle.rows: 0 self 1 nodes -/
def f_Bundle_rows : Fn := ⟨2, 2, [.ex (.cal 0 [(.cst (.int 5))])]⟩
/- 28 Bundle.row_count: 0 self 1 nodes -/
def f_Bundle_row_count : Fn := ⟨2, 2, [.ex (.cal 0 [(.cst (.int 6))])]⟩
/- 29 Bundle.has_trees: 0 self -/
def f_Bundle_has_trees : Fn := ⟨1, 1, [.ex (.cal 0 [(.cst (.int 7))])]⟩
/- 30 _law_feed: 0 _law_script 1 _law_cells 2 _law_cell 3 _law_mark -/
def f__law_feed : Fn := ⟨1, 4, [.set 1 (.cpr (.bif .int [(.var 2)]) (.nam 2) (.val (.slc (.var 0) none (some (.cst (.int 63))))) none),
    .set 3 (.bin .add (.cst (.int 3825)) (.bin .mul (.cst (.int 61)) (.bif .len [(.var 1)]))),
    .for (.nam 2) (.val (.var 1)) [.set 3 (.bin .mod (.bif .int [(.bin .add (.bin .mul (.var 3) (.cst (.int 8117))) (.var 2))]) (.cst (.int 2147483629)))],
    .ret (.alc (.lst [(.var 1), (.cst (.int 0)), (.cst (.int 0)), (.var 3)]))]⟩
/- 31 _law_draw: 0 _law_feed_here 1 _law_many 2 _law_cell 3 _law_one 4 _law_two 5 _law_drawn -/
def f__law_draw : Fn := ⟨2, 6, [.ife (.cmp .lt (.sub (.var 0) (.cst (.int 2))) (.cst (.int 2))) [.sti (.var 0) (.cst (.int 1)) (.bin .add (.sub (.var 0) (.cst (.int 1))) (.cst (.int 1))),
    .set 2 (.bin .add (.sub (.var 0) (.cst (.int 3))) (.bin .mul (.sub (.var 0) (.cst (.int 1))) (.cst (.int 5167)))),
    .ife (.cmp .le (.sub (.var 0) (.cst (.int 1))) (.bif .len [(.sub (.var 0) (.cst (.int 0)))])) [.set 2 (.sub (.sub (.var 0) (.cst (.int 0))) (.bin .sub (.sub (.var 0) (.cst (.int 1))) (.cst (.int 1))))] [],
    .ife (.bor (.cmp .gt (.sub (.var 0) (.cst (.int 1))) (.bif .len [(.sub (.var 0) (.cst (.int 0)))])) (.cmp .lt (.var 2) (.bin .pow (.cst (.int 10)) (.cst (.int 18))))) [.set 3 (.bin .mod (.bif .int [(.bin .add (.bin .add (.bin .mul (.var 2) (.cst (.int 48271))) (.bin .mul (.sub (.var 0) (.cst (.int 1))) (.cst (.int 40692)))) (.sub (.var 0) (.cst (.int 3))))]) (.cst (.int 2147483647))),
    .set 4 (.bin .mod (.bif .int [(.bin .add (.bin .mul (.var 3) (.var 3)) (.bin .mul (.sub (.var 0) (.cst (.int 1))) (.cst (.int 16807))))]) (.cst (.int 998244353))),
    .ret (.bin .mod (.bin .fdv (.bin .mod (.bif .int [(.bin .add (.bin .mul (.var 4) (.cst (.int 69621))) (.var 3))]) (.cst (.int 2147483629))) (.cst (.int 13))) (.var 1))] [],
    .sti (.var 0) (.cst (.int 2)) (.var 2)] [],
    .set 5 (.bin .mod (.bif .int [(.sub (.var 0) (.cst (.int 2)))]) (.var 1)),
    .sti (.var 0) (.cst (.int 2)) (.bin .fdv (.bif .int [(.sub (.var 0) (.cst (.int 2)))]) (.var 1)),
    .ret (.var 5)]⟩
/- 32 _law_any: 0 _law_feed_here 1 _law_row -/
def f__law_any : Fn := ⟨2, 2, [.ret (.sub (.var 1) (.cal 31 [(.var 0), (.bif .len [(.var 1)])]))]⟩
/- 33 _law_pairs: 0 _law_feed_here 1 _law_found 2 _law_more 3 _law_turn 4 _law_at -/
def f__law_pairs : Fn := ⟨1, 5, [.own 1 (.lst [(.tup [(.cst (.str [108, 101, 97, 102])), (.cst (.int 0))]), (.tup [(.cst (.str [110, 111, 100, 101])), (.bin .add (.cst (.int 2)) (.cal 31 [(.var 0), (.cst (.int 2))]))])]),
    .own 2 (.lst [(.tup [(.cst (.str [116, 105, 112])), (.cst (.int 0))]), (.tup [(.cst (.str [111, 110, 101])), (.cst (.int 1))]), (.tup [(.cst (.str [102, 111, 114, 107])), (.cst (.int 2))]), (.tup [(.cst (.str [116, 114, 105])), (.cst (.int 3))]), (.tup [(.cst (.str [97])), (.cst (.int 1))]), (.tup [(.cst (.str [122, 122])), (.cst (.int 0))])]),
    .for (.nam 3) (.rng [(.cal 32 [(.var 0), (.lst [(.cst (.int 0)), (.cst (.int 0)), (.cst (.int 1)), (.cst (.int 1)), (.cst (.int 2)), (.cst (.int 3)), (.cst (.int 4))])])]) [.ex (.cmt .append (.var 1) [(.cmt .pop (.var 2) [(.cal 31 [(.var 0), (.bif .len [(.var 2)])])])])],
    .set 4 (.cal 31 [(.var 0), (.bif .len [(.var 1)])]),
    .ret (.bin .add (.slc (.var 1) (some (.var 4)) none) (.slc (.var 1) none (some (.var 4))))]⟩
/- 34 _law_field: 0 _law_e -/
def f__law_field : Fn := ⟨1, 1, [.ife (.cmp .inn (.att (.var 0) 15) (.tup [(.cst (.str [73, 110, 118, 97, 108, 105, 100, 83, 104, 97, 112, 101])), (.cst (.str [73, 110, 118, 97, 108, 105, 100, 66, 117, 110, 100, 108, 101])), (.cst (.str [73, 110, 118, 97, 108, 105, 100, 83, 116, 101, 112])), (.cst (.str [73, 110, 118, 97, 108, 105, 100, 69, 110, 116, 114, 121])), (.cst (.str [73, 110, 118, 97, 108, 105, 100, 78, 111, 100, 101]))])) [.ret (.att (.var 0) 16)] [],
    .ife (.cmp .inn (.att (.var 0) 15) (.tup [(.cst (.str [84, 111, 111, 76, 97, 114, 103, 101])), (.cst (.str [67, 97, 112, 97, 99, 105, 116, 121, 69, 120, 99, 101, 101, 100, 101, 100]))])) [.ret (.att (.var 0) 17)] [],
    .ife (.cmp .inn (.att (.var 0) 15) (.tup [(.cst (.str [73, 110, 118, 97, 108, 105, 100, 78, 97, 109, 101])), (.cst (.str [68, 117, 112, 108, 105, 99, 97, 116, 101, 78, 97, 109, 101])), (.cst (.str [87, 114, 111, 110, 103, 75, 105, 110, 100])), (.cst (.str [78, 97, 109, 101, 73, 110, 85, 115, 101])), (.cst (.str [85, 110, 107, 110, 111, 119, 110, 78, 97, 109, 101]))])) [.ret (.att (.var 0) 18)] [],
    .ife (.cmp .eq (.att (.var 0) 15) (.cst (.str [78, 111, 78, 111, 100, 101]))) [.ret (.att (.var 0) 19)] [],
    .ife (.cmp .eq (.att (.var 0) 15) (.cst (.str [73, 110, 118, 97, 108, 105, 100, 76, 105, 109, 105, 116]))) [.ret (.att (.var 0) 20)] [],
    .ife (.cmp .eq (.att (.var 0) 15) (.cst (.str [73, 110, 118, 97, 108, 105, 100, 67, 111, 109, 109, 97, 110, 100]))) [.ret (.att (.var 0) 21)] [],
    .ret (.ite (.cmp .eq (.att (.var 0) 15) (.cst (.str [80, 97, 114, 115, 101, 69, 114, 114, 111, 114]))) (.att (.var 0) 22) (.cst .non))]⟩
/- 35 _law_refused: not covered: statement Try -/
def f__law_refused : Fn := ⟨1, 1, [.nvr, .nvr, .nvr]⟩
/- 36 _law_whole: 0 _law_found -/
def f__law_whole : Fn := ⟨1, 1, [.ret (.bnd (.isi (.var 0) [.int]) (.bnt (.isi (.var 0) [.bool])))]⟩
/- 37 _law_same: 0 _law_found 1 _law_due 2 _law_one 3 _law_other -/
def f__law_same : Fn := ⟨2, 4, [.ife (.cmp .isn (.var 1) (.cst .non)) [.ret (.cmp .isn (.var 0) (.cst .non))] [],
    .ife (.isi (.var 1) [.bool]) [.ret (.bnd (.isi (.var 0) [.bool]) (.cmp .eq (.var 0) (.var 1)))] [],
    .ife (.isi (.var 1) [.int]) [.ret (.bnd (.cal 36 [(.var 0)]) (.cmp .eq (.var 0) (.var 1)))] [],
    .ife (.isi (.var 1) [.str]) [.ret (.bnd (.isi (.var 0) [.str]) (.cmp .eq (.var 0) (.var 1)))] [],
    .ife (.bor (.cmp .ne (.isi (.var 1) [.list]) (.isi (.var 0) [.list])) (.cmp .ne (.isi (.var 1) [.tuple]) (.isi (.var 0) [.tuple]))) [.ret (.cst (.bl false))] [],
    .ret (.bnd (.cmp .eq (.bif .len [(.var 0)]) (.bif .len [(.var 1)])) (.bif .all [(.cpr (.cal 37 [(.var 2), (.var 3)]) (.tup [(.nam 2), (.nam 3)]) (.zip (.var 0) (.var 1)) none)]))]⟩
/- 38 law: 0 _law_script 1 _law_feed_here 2 _law_made 3 _law_turn 4 _law_counts 5 _law_k 6 _law_at 7 _law_odd 8 _law_late 9 _law_many 10 _law_due -/
def f_law : Fn := ⟨1, 11, [.set 1 (.cal 30 [(.var 0)]),
    .set 2 (.new 7 [(.cal 33 [(.var 1)])]),
    .for (.nam 3) (.rng [(.cst (.int 6))]) [.set 4 (.cpr (.cal 31 [(.var 1), (.cst (.int 41))]) (.nam 5) (.rng [(.cal 31 [(.var 1), (.cst (.int 9))])]) none),
    .set 6 (.cal 31 [(.var 1), (.bin .add (.bif .len [(.var 4)]) (.cst (.int 1)))]),
    .set 7 (.cal 32 [(.var 1), (.lst [(.cst (.int 41)), (.neg (.cst (.int 1))), (.cst (.bl true)), (.cst (.bl false)), (.cst .non), (.cst (.str [50])), (.tup [(.cst (.int 1))]), (.bin .pow (.cst (.int 10)) (.cst (.int 25))), (.neg (.bin .pow (.cst (.int 10)) (.cst (.int 25))))])]),
    .set 8 (.bin .add (.bin .add (.bin .add (.slc (.var 4) none (some (.var 6))) (.lst [(.var 7)])) (.slc (.var 4) (some (.var 6)) none)) (.bin .mul (.lst [(.neg (.cst (.int 1)))]) (.cal 31 [(.var 1), (.cst (.int 2))]))),
    .ife (.cmp .ne (.rfd 35 (.new 8 [(.var 2), (.var 8)])) (.tup [(.cst (.str [73, 110, 118, 97, 108, 105, 100, 66, 117, 110, 100, 108, 101])), (.var 6)])) [.ret (.cst (.bl false))] [],
    .ife (.bnt (.cal 37 [(.mth (.new 8 [(.var 2), (.bin .add (.var 4) (.lst [(.cst (.int 40)), (.cst (.int 0))]))]) 23 []), (.bin .add (.var 4) (.lst [(.cst (.int 40)), (.cst (.int 0))]))])) [.ret (.cst (.bl false))] []],
    .set 9 (.bin .add (.cst (.int 2999)) (.cal 31 [(.var 1), (.cst (.int 4))])),
    .set 10 (.ite (.cmp .lt (.var 9) (.cst (.int 3001))) (.tup [(.cst (.str [])), (.cst .non)]) (.tup [(.cst (.str [73, 110, 118, 97, 108, 105, 100, 66, 117, 110, 100, 108, 101])), (.cst (.int 3000))])),
    .ret (.cmp .eq (.rfd 35 (.new 8 [(.var 2), (.bin .mul (.lst [(.cal 31 [(.var 1), (.cst (.int 3))])]) (.var 9))])) (.var 10))]⟩
abbrev I__wall : Nat := 0
abbrev I_is_whole : Nat := 1
abbrev I_is_word : Nat := 2
abbrev I_is_constructor : Nat := 3
abbrev I_Shape_init : Nat := 4
abbrev I_Shape_eq : Nat := 5
abbrev I_Shape_len : Nat := 6
abbrev I_Shape_contains : Nat := 7
abbrev I_Shape_repr : Nat := 8
abbrev I_Shape_leaf : Nat := 9
abbrev I_Shape_branches : Nat := 10
abbrev I_Shape_constructors : Nat := 11
abbrev I_Shape_polynomial : Nat := 12
abbrev I_is_tree : Nat := 13
abbrev I_check_counts : Nat := 14
abbrev I_Bundle_init : Nat := 15
abbrev I_Bundle_eq : Nat := 16
abbrev I_Bundle_len : Nat := 17
abbrev I_Bundle_contains : Nat := 18
abbrev I_Bundle_add : Nat := 19
abbrev I_Bundle_mul : Nat := 20
abbrev I_Bundle_repr : Nat := 21
abbrev I_Bundle_counts : Nat := 22
abbrev I_Bundle_polynomial : Nat := 23
abbrev I_Bundle_worth : Nat := 24
abbrev I_Bundle_has_row : Nat := 25
abbrev I_Bundle_check_row : Nat := 26
abbrev I_Bundle_rows : Nat := 27
abbrev I_Bundle_row_count : Nat := 28
abbrev I_Bundle_has_trees : Nat := 29
abbrev I__law_feed : Nat := 30
abbrev I__law_draw : Nat := 31
abbrev I__law_any : Nat := 32
abbrev I__law_pairs : Nat := 33
abbrev I__law_field : Nat := 34
abbrev I__law_refused : Nat := 35
abbrev I__law_whole : Nat := 36
abbrev I__law_same : Nat := 37
abbrev I_law : Nat := 38
abbrev C_ParcelError : Nat := 0
abbrev C_Missing : Nat := 1
abbrev C_InvalidShape : Nat := 2
abbrev C_InvalidBundle : Nat := 3
abbrev C_Unlike : Nat := 4
abbrev C_TooLarge : Nat := 5
abbrev C_NothingLeft : Nat := 6
abbrev C_Shape : Nat := 7
abbrev C_Bundle : Nat := 8
abbrev Y_eq : Nat := 0
abbrev Y_len : Nat := 1
abbrev Y_contains : Nat := 2
abbrev Y_repr : Nat := 3
abbrev Y_add : Nat := 4
abbrev Y_mul : Nat := 5
abbrev Y_MOST : Nat := 6
abbrev Y_pairs : Nat := 7
abbrev Y_by_name : Nat := 8
abbrev Y_places : Nat := 9
abbrev Y_form : Nat := 10
abbrev Y_numbers : Nat := 11
abbrev Y_MAX_CASES : Nat := 12
abbrev Y_MAX_TREES : Nat := 13
abbrev Y_has_row : Nat := 14
abbrev Y_code : Nat := 15
abbrev Y_at : Nat := 16
abbrev Y_bound : Nat := 17
abbrev Y_name : Nat := 18
abbrev Y_number : Nat := 19
abbrev Y_value : Nat := 20
abbrev Y_first : Nat := 21
abbrev Y_position : Nat := 22
abbrev Y_counts : Nat := 23
abbrev Y_leaf : Nat := 24
abbrev Y_branches : Nat := 25
abbrev Y_constructors : Nat := 26
abbrev Y_polynomial : Nat := 27
abbrev Y_worth : Nat := 28
abbrev Y_check_row : Nat := 29
abbrev Y_rows : Nat := 30
abbrev Y_row_count : Nat := 31
abbrev Y_has_trees : Nat := 32
def k_ParcelError : Cl := { init := none, frozen := true, flds := [], meths := [], props := [], consts := [], exn := none, bases := [] }
def k_Missing : Cl := { init := none, frozen := true, flds := [], meths := [], props := [], consts := [], exn := none, bases := [] }
def k_InvalidShape : Cl := { init := none, frozen := true, flds := [16, 15], meths := [], props := [], consts := [], exn := some ([16], [16, 15], [73, 110, 118, 97, 108, 105, 100, 83, 104, 97, 112, 101]), bases := [0] }
def k_InvalidBundle : Cl := { init := none, frozen := true, flds := [16, 15], meths := [], props := [], consts := [], exn := some ([16], [16, 15], [73, 110, 118, 97, 108, 105, 100, 66, 117, 110, 100, 108, 101]), bases := [0] }
def k_Unlike : Cl := { init := none, frozen := true, flds := [15], meths := [], props := [], consts := [], exn := some ([], [15], [85, 110, 108, 105, 107, 101]), bases := [0] }
def k_TooLarge : Cl := { init := none, frozen := true, flds := [17, 15], meths := [], props := [], consts := [], exn := some ([17], [17, 15], [84, 111, 111, 76, 97, 114, 103, 101]), bases := [0] }
def k_NothingLeft : Cl := { init := none, frozen := true, flds := [15], meths := [], props := [], consts := [], exn := some ([], [15], [78, 111, 116, 104, 105, 110, 103, 76, 101, 102, 116]), bases := [] }
def k_Shape : Cl := { init := some 4, frozen := true, flds := [7, 8, 9], meths := [(0, 5), (1, 6), (2, 7), (3, 8), (26, 11), (27, 12)], props := [(24, 9), (25, 10)], consts := [(6, (.int 6))], exn := none, bases := [] }
def k_Bundle : Cl := { init := some 15, frozen := true, flds := [10, 11], meths := [(0, 16), (1, 17), (2, 18), (4, 19), (5, 20), (3, 21), (23, 22), (27, 23), (28, 24), (14, 25), (29, 26), (30, 27), (31, 28), (32, 29)], props := [], consts := [(12, (.int 3000)), (13, (.int 40))], exn := none, bases := [] }
def pg : Pg := { fns := [f__wall, f_is_whole, f_is_word, f_is_constructor, f_Shape_init, f_Shape_eq, f_Shape_len, f_Shape_contains, f_Shape_repr, f_Shape_leaf, f_Shape_branches, f_Shape_constructors, f_Shape_polynomial, f_is_tree, f_check_counts, f_Bundle_init, f_Bundle_eq, f_Bundle_len, f_Bundle_contains, f_Bundle_add, f_Bundle_mul, f_Bundle_repr, f_Bundle_counts, f_Bundle_polynomial, f_Bundle_worth, f_Bundle_has_row, f_Bundle_check_row, f_Bundle_rows, f_Bundle_row_count, f_Bundle_has_trees, f__law_feed, f__law_draw, f__law_any, f__law_pairs, f__law_field, f__law_refused, f__law_whole, f__law_same, f_law], cls := [k_ParcelError, k_Missing, k_InvalidShape, k_InvalidBundle, k_Unlike, k_TooLarge, k_NothingLeft, k_Shape, k_Bundle], sCode := 15, rfd := [([[73, 110, 118, 97, 108, 105, 100, 83, 104, 97, 112, 101], [73, 110, 118, 97, 108, 105, 100, 66, 117, 110, 100, 108, 101], [73, 110, 118, 97, 108, 105, 100, 83, 116, 101, 112], [73, 110, 118, 97, 108, 105, 100, 69, 110, 116, 114, 121], [73, 110, 118, 97, 108, 105, 100, 78, 111, 100, 101]], 16), ([[84, 111, 111, 76, 97, 114, 103, 101], [67, 97, 112, 97, 99, 105, 116, 121, 69, 120, 99, 101, 101, 100, 101, 100]], 17), ([[73, 110, 118, 97, 108, 105, 100, 78, 97, 109, 101], [68, 117, 112, 108, 105, 99, 97, 116, 101, 78, 97, 109, 101], [87, 114, 111, 110, 103, 75, 105, 110, 100], [78, 97, 109, 101, 73, 110, 85, 115, 101], [85, 110, 107, 110, 111, 119, 110, 78, 97, 109, 101]], 18), ([[78, 111, 78, 111, 100, 101]], 19), ([[73, 110, 118, 97, 108, 105, 100, 76, 105, 109, 105, 116]], 20), ([[73, 110, 118, 97, 108, 105, 100, 67, 111, 109, 109, 97, 110, 100]], 21), ([[80, 97, 114, 115, 101, 69, 114, 114, 111, 114]], 22)], rok := [2, 3, 4, 5] }
end G

/-! N9 (from M9). -/
namespace G
open Ev
section
variable {wf n : Nat} {st : St}
theorem _root_.Ev.GoodP.perm {P Q : List (Tx × Int)} (h : GoodP P) (e : Q.Perm P) : GoodP Q where
  lo := by rw [e.length_eq]; exact h.lo
  hi := by rw [e.length_eq]; exact h.hi
  tab := fun q hq => h.tab q (e.mem_iff.mp hq)
  nod := (e.map Prod.fst).nodup_iff.mpr h.nod
  leaf := (e.map Prod.snd).mem_iff.mpr h.leaf
theorem rot_perm {α : Type} (l : List α) (d : Nat) : (l.drop d ++ l.take d).Perm l :=
  List.perm_append_comm.trans (List.Perm.of_eq (List.take_append_drop d l))
theorem t6_nod : ((xLeaf, (0 : Int)) :: (xNode, 0) :: T6).map Prod.fst |>.Nodup := by decide
theorem goodP {P : List (Tx × Int)} (h : DrawnP P) : GoodP P := by
  obtain ⟨x, rest, more, d, hx, hp, hr, rfl⟩ := h
  have hsub : ∀ q ∈ rest, q ∈ T6 := fun q hq => hp.mem_iff.mp (List.mem_append_left _ hq)
  refine GoodP.perm (P := (xLeaf, 0) :: (xNode, x) :: rest) ⟨by simp, by simp only [List.length_cons]; omega, fun q hq => ?_, ?_, by simp⟩ (rot_perm _ _)
  · rcases List.mem_cons.mp hq with rfl | hq
    · decide
    · rcases List.mem_cons.mp hq with rfl | hq
      · rcases hx with rfl | rfl <;> decide
      · have := hsub q hq
        have h2 : ∀ q ∈ T6, q ∈ T10 := by decide
        exact h2 q this
  · have h1 : ((rest ++ more).map Prod.fst).Nodup := (hp.map Prod.fst).nodup_iff.mpr (by decide)
    rw [List.map_append, List.nodup_append] at h1
    have h2 : ∀ q ∈ T6, q.1 ≠ xLeaf ∧ q.1 ≠ xNode := by decide
    rw [List.map_cons, List.map_cons, List.nodup_cons, List.nodup_cons]
    refine ⟨fun z => ?_, fun z => ?_, h1.1⟩
    · rcases List.mem_cons.mp z with z | z
      · exact absurd (show xLeaf = xNode from z) (by decide)
      · obtain ⟨q, hq, e⟩ := List.mem_map.mp z
        exact (h2 q (hsub q hq)).1 e
    · obtain ⟨q, hq, e⟩ := List.mem_map.mp z
      exact (h2 q (hsub q hq)).2 e
theorem goP_rot {P : List (Tx × Int)} (h : GoodP P) : GoodP (P.drop 1 ++ P.take 1) := h.perm (rot_perm P 1)
/-! same -/
def SmL (s : List OO) (n : Nat) : List W → List W → Prop
  | [], [] => True
  | a :: as, b :: bs => okv a = true ∧ okv b = true ∧ Sm s n a b ∧ SmL s n as bs
  | _, _ => False
theorem SmL.ok {s : List OO} {n : Nat} : ∀ {xs ys : List W}, SmL s n xs ys → xs.length = ys.length ∧ ∀ (i : Nat) a b, xs[i]? = some a → ys[i]? = some b → okv a = true ∧ okv b = true ∧ Sm s n a b
  | [], [], _ => ⟨rfl, fun i a b e => by simp at e⟩
  | a :: as, b :: bs, ⟨h1, h2, h3, h4⟩ => by
    obtain ⟨g1, g2⟩ := h4.ok
    refine ⟨by simp [g1], fun i x y e1 e2 => ?_⟩
    cases i with
    | zero => cases e1; cases e2; exact ⟨h1, h2, h3⟩
    | succ i => exact g2 i x y e1 e2
theorem sm_l {s : List OO} {n : Nat} {xs ys : List W} (h : SmL s n xs ys) (hl : ys.length ≤ lineMax) : Sm s (n + 1) (.lst xs) (.lst ys) := by
  simp only [Sm]
  exact ⟨xs, .inl rfl, h.ok.1, hl, h.ok.2⟩
theorem sm_loc {s : List OO} {n k : Nat} {xs ys : List W} (hk : s[k]? = some (.lst xs)) (h : SmL s n xs ys) (hl : ys.length ≤ lineMax) : Sm s (n + 1) (.loc k) (.lst ys) := by
  simp only [Sm]
  exact ⟨xs, .inr ⟨k, rfl, hk⟩, h.ok.1, hl, h.ok.2⟩
theorem sm_t {s : List OO} {n : Nat} {xs ys : List W} (h : SmL s n xs ys) (hl : ys.length ≤ lineMax) : Sm s (n + 1) (.tup xs) (.tup ys) := by
  simp only [Sm]
  exact ⟨xs, rfl, h.ok.1, hl, h.ok.2⟩
theorem sm_int {s : List OO} {n : Nat} {i : Int} : Sm s n (.int i) (.int i) := by cases n <;> simp [Sm]
theorem sm_str {s : List OO} {n : Nat} {i : Tx} : Sm s n (.str i) (.str i) := by cases n <;> simp [Sm]
theorem sm_bl {s : List OO} {n : Nat} {i : Bool} : Sm s n (.bl i) (.bl i) := by cases n <;> simp [Sm]
theorem sml_map {α : Type} {f : α → W} {s : List OO} {n : Nat} (h : ∀ a, okv (f a) = true ∧ Sm s n (f a) (f a)) : ∀ l : List α, SmL s n (l.map f) (l.map f)
  | [] => True.intro
  | a :: l => ⟨(h a).1, (h a).1, (h a).2, sml_map h l⟩
theorem sml_tW {s : List OO} {n : Nat} (l : List (Tx × Int)) : SmL s (n + 1) (l.map tW) (l.map tW) :=
  sml_map (fun a => ⟨rfl, sm_t (show SmL s n [.str a.1, .int a.2] [.str a.1, .int a.2] from ⟨rfl, rfl, sm_str, rfl, rfl, sm_int, True.intro⟩) (by show 2 ≤ lineMax; decide)⟩) l
/-! the store's end -/
variable {o : OO} {r : List Sl} {s t : List OO} {x y : OO}
theorem get_end : (t ++ [x])[t.length]? = some x := by simp
theorem put_end : Ev.put ⟨r, o :: (t ++ [x])⟩ y (.loc (t.length + 1)) = some ⟨r, o :: (t ++ [y])⟩ := by
  simp [Ev.put]
theorem get_2a : (t ++ [x] ++ [y])[t.length]? = some x := by simp
theorem get_2b : (t ++ [x] ++ [y])[t.length + 1]? = some y := by
  have := get_end (t := t ++ [x]) (x := y)
  simpa using this
theorem put_2a {z : OO} : Ev.put ⟨r, o :: (t ++ [x] ++ [y])⟩ z (.loc (t.length + 1)) = some ⟨r, o :: (t ++ [z] ++ [y])⟩ := by
  simp [Ev.put]
theorem put_2b {z : OO} : Ev.put ⟨r, o :: (t ++ [x] ++ [y])⟩ z (.loc (t.length + 1 + 1)) = some ⟨r, o :: (t ++ [x] ++ [z])⟩ := by
  simp [Ev.put]
theorem c_inL {p : Pg} {cal : Bool → Nat → List W → List OO → RC} {z : Tx} {l : List Tx} : cmpR p cal .inn (.str z) (.lst (l.map .str)) st = .ok (.bl (decide (z ∈ l))) st := c_in rfl rfl
theorem slc2 {a b c d e f : W} : slcW (.lst [a, b, c, d, e, f]) none (some 2) = some (.lst [a, b]) := id rfl
theorem dig6 {m : Nat} (h : m ≤ 6) : (dig (m : Int)).length = 1 ∧ bifW .str [.int m] = some (.str (dig m)) := by
  have : m = 0 ∨ m = 1 ∨ m = 2 ∨ m = 3 ∨ m = 4 ∨ m = 5 ∨ m = 6 := by omega
  rcases this with rfl | rfl | rfl | rfl | rfl | rfl | rfl <;> exact ⟨by decide, rfl⟩
end
end G

/-! N7: comprehensions that change the store; refused lambdas. -/
namespace Ev
section
variable {p : Pg} {cal : Bool → Nat → List W → List OO → RC} {wf : Nat}
/-- a walk that changes the store -/
theorem mapR_inv {t : Tg} {body : St → R (Option W)} {q : Src} {xs : List W} {r : List Sl} (J : Nat → List OO → Prop) (Y : W → Prop) (hq : ∀ (st : St) i, J i st.s → q.at st i = some xs[i]?)
    (hb : ∀ i x s, xs[i]? = some x → J i s → ∃ r1 r2 y s', tgW t x (wipe r (tgIx t)) = some r1 ∧ body ⟨r1, s⟩ = .ok (some y) ⟨r2, s'⟩ ∧ Y y ∧ J (i + 1) s' ∧ wipe r2 (tgIx t) = wipe r (tgIx t) ∧ noOwn r2 (tgIx t) = true) :
    ∀ (m i : Nat) (r2 : List Sl) (s : List OO), wipe r2 (tgIx t) = wipe r (tgIx t) → noOwn r2 (tgIx t) = true → J i s → i ≤ xs.length → xs.length ≤ i + m →
      ∃ ys r5 s5, mapR (mTurn t body) q m i ⟨r2, s⟩ = .ok ys ⟨r5, s5⟩ ∧ ys.length = xs.length - i ∧ (∀ y ∈ ys, Y y) ∧ J xs.length s5 ∧ wipe r5 (tgIx t) = wipe r (tgIx t) ∧ noOwn r5 (tgIx t) = true
  | m, i, r2, s, hw, hn, hJ, hi, hl => by
    rw [mapR.eq_def]
    simp only [hq ⟨r2, s⟩ i hJ]
    cases e : xs[i]? with
    | none =>
      have h1 : xs.length ≤ i := List.getElem?_eq_none_iff.mp e
      have h2 : i = xs.length := by omega
      refine ⟨[], r2, s, rfl, by simp [h2], by simp, h2 ▸ hJ, hw, hn⟩
    | some x =>
      have hi' : i < xs.length := (List.getElem?_eq_some_iff.mp e).1
      cases m with
      | zero => omega
      | succ m =>
        obtain ⟨r1, r3, y, s', e1, e2, hy, hJ', e3, e4⟩ := hb i x s e hJ
        obtain ⟨ys, r5, s5, f1, f2, f3, f4, f5, f6⟩ := mapR_inv J Y hq hb m (i + 1) r3 s' e3 e4 hJ' (by omega) (by omega)
        refine ⟨y :: ys, r5, s5, ?_, by rw [List.length_cons, f2]; omega, fun z hz => ?_, f4, f5, f6⟩
        · have et : mTurn t body x ⟨r2, s⟩ = .ok (some y) ⟨r3, s'⟩ := by
            unfold mTurn
            simp only [hn, if_true, hw, e1, e2, R.calm]
          simp only [et, r_ok, f1]
        · rcases List.mem_cons.mp hz with rfl | hz
          · exact hy
          · exact f3 z hz
theorem cpr_inv {e : E} {t : Tg} {it : I} {co : Option E} {r : List Sl} {s : List OO} {st0 : St} {q : Src} {xs : List W} (J : Nat → List OO → Prop) (Y : W → Prop) (hi : evI p cal it st0 = .ok q ⟨r, s⟩) (hn : noOwn r (tgIx t) = true) (hq : ∀ (st : St) i, J i st.s → q.at st i = some xs[i]?) (hl : xs.length ≤ q.len ⟨r, s⟩) (hz : xs.length ≤ lineMax) (h0 : J 0 s)
    (hb : ∀ i x s, xs[i]? = some x → J i s → ∃ r1 r2 y s', tgW t x (wipe r (tgIx t)) = some r1 ∧ mL p cal e co ⟨r1, s⟩ = .ok (some y) ⟨r2, s'⟩ ∧ Y y ∧ J (i + 1) s' ∧ wipe r2 (tgIx t) = wipe r (tgIx t) ∧ noOwn r2 (tgIx t) = true) :
    ∃ ys s5, evE p cal (.cpr e t it co) st0 = .ok (.lst ys) ⟨r, s5⟩ ∧ ys.length = xs.length ∧ (∀ y ∈ ys, Y y) ∧ J xs.length s5 := by
  obtain ⟨ys, r5, s5, f1, f2, f3, f4, f5, f6⟩ := mapR_inv (r := r) (body := mL p cal e co) J Y hq hb (q.len ⟨r, s⟩) 0 r s rfl hn h0 (Nat.zero_le _) (by omega)
  refine ⟨ys, s5, ?_, by omega, f3, f4⟩
  rw [cpr_eq, hi, r_ok]
  simp only [hn, if_true, f1, r_ok, f6, Bool.and_true]
  rw [decide_eq_true (by omega), if_pos rfl, back_same hn f5]
theorem set_id {α : Type} {s : List α} {k : Nat} {x : α} (h : s[k]? = some x) : s.set k x = s := by
  apply List.ext_getElem?
  intro i
  by_cases e : k = i
  · subst e
    rw [List.getElem?_set_self (List.getElem?_eq_some_iff.mp h).1, h]
  · rw [List.getElem?_set_ne e]
/-- [draw(feed, m) for k in range(..)] -/
theorem draws_ok {n d : Nat} (hd : p.fns[d]? = some fDraw) {r : List Sl} {s : List OO} {a k kc : Nat} {m : Int} {it : I} {st0 : St} {xs : List W} {cells : List Int} {a0 b0 mk : Int} (hi : evI p (callN p wf (n + 1)) it st0 = .ok (.fix xs) ⟨r, s⟩) (hx : ∀ x ∈ xs, okv x = true) (hv : r[a]? = some (.val (.loc k))) (ha : kc ≠ a) (hn : noOwn r [kc] = true) (hz : xs.length ≤ lineMax)
    (hs : s[k]? = some (feedO cells a0 b0 mk)) (h0 : 0 ≤ a0) (hm : 0 < m ∧ m < 1073741824) :
    ∃ ys : List Int, ∃ a' b', evE p (callN p wf (n + 1)) (.cpr (.cal d [(.var a), (.cst (.int m))]) (.nam kc) it none) st0 = .ok (.lst (ys.map .int)) ⟨r, s.set k (feedO cells a' b' mk)⟩ ∧ ys.length = xs.length ∧ (∀ y ∈ ys, 0 ≤ y ∧ y < m) ∧ 0 ≤ a' := by
  have lc : kc < r.length := mn_lt hn kc (by simp)
  have hk : k < s.length := (List.getElem?_eq_some_iff.mp hs).1
  obtain ⟨ys, s5, f1, f2, f3, a', b', f4, f5⟩ := cpr_inv (p := p) (cal := callN p wf (n + 1)) (e := .cal d [(.var a), (.cst (.int m))]) (t := .nam kc) (co := none) (q := .fix xs) (xs := xs) (fun _ s' => ∃ a' b', s' = s.set k (feedO cells a' b' mk) ∧ 0 ≤ a') (fun y => ∃ i, y = .int i ∧ 0 ≤ i ∧ i < m) hi hn (fun _ _ _ => rfl) (Nat.le_refl _) hz
    ⟨a0, b0, (set_id hs).symm, h0⟩ (fun i x s' hx' ⟨a1, b1, e1, h1⟩ => by
      subst e1
      have hx2 := hx x (List.mem_of_getElem? hx')
      obtain ⟨v, a2, b2, e2, g1, g2, g3⟩ := draw_ok (wf := wf) (n := n) hd (s := s.set k (feedO cells a1 b1 mk)) (k := k) (List.getElem?_set_self hk) h1 hm.1 hm.2
      rw [List.set_set] at e2
      refine ⟨(wipe r [kc]).set kc (.val x), (wipe r [kc]).set kc (.val x), .int v, s.set k (feedO cells a2 b2 mk), ?_, ?_, ⟨v, rfl, g1, g2⟩, ⟨a2, b2, rfl, g3⟩, ?_, ?_⟩
      · simp [tgW, tgIx, wipe, hx2, lc]
      · have hv2 : ((wipe r [kc]).set kc (.val x))[a]? = some (.val (.loc k)) := by
          simp only [wipe]
          rw [List.getElem?_set_ne ha, List.getElem?_set_ne ha]
          exact hv
        generalize (wipe r [kc]).set kc (.val x) = r1 at hv2
        simp only [mL, evT, r_ok, if_true, evE, evEs, hv2, callR, okvs, List.all_cons, List.all_nil, o_loc, o_int, Bool.and_self, Bool.and_true, e2, r_at]
      · show wipe _ [kc] = wipe r [kc]
        simp only [wipe, List.set_set]
      · simp [tgIx, noOwn, wipe, List.getElem?_set, lc])
  obtain ⟨zs, ez⟩ : ∃ zs : List Int, ys = zs.map .int := by
    clear f1 f2
    induction ys with
    | nil => exact ⟨[], rfl⟩
    | cons y ys ih =>
      obtain ⟨zs, e⟩ := ih fun z hz => f3 z (by simp [hz])
      obtain ⟨i, e2, _⟩ := f3 y (by simp)
      exact ⟨i :: zs, by rw [e, e2]; rfl⟩
  subst ez f4
  refine ⟨zs, a', b', f1, by rw [← f2, List.length_map], fun y hy => ?_, f5⟩
  obtain ⟨i, e, g⟩ := f3 (.int y) (List.mem_map_of_mem hy)
  cases e
  exact g
/-! ### refused -/
theorem rfd_ok {g : Nat} {e : E} {st st' : St} {w : W} (hs : st.s[0]? = some .tab) (he : evE p cal e st = .ok w st') : evE p cal (.rfd g e) st = .ok (.tup [.str [], .non]) st' := by
  rw [evE, hs]
  simp only [he, refR]
theorem rfd_exc {g C : Nat} {ns : List Nat} {xs : List W} {e : E} {st st' : St} {w : W} {c : Tx} (hs : st.s[0]? = some .tab) (he : evE p cal e st = .exc ⟨C, ns, xs⟩ st') (h1 : p.rok.contains C = true) (h2 : fget p.sCode ns xs = some (.str c)) (h3 : fldX p.rfd c ns xs = some w) : evE p cal (.rfd g e) st = .ok (.tup [.str c, w]) st' := by
  rw [evE, hs]
  simp only [he, refR, h1, Bool.not_true, Bool.false_eq_true, if_false, h2, h3]
theorem ev_newx {C : Nat} {es : List E} {st st1 : St} {ws : List W} {x : Xn} {s' : List OO} (h : evEs p cal es st = .ok ws st1) (ho : okvs ws = true) (hc : cal true C ws st1.s = .exc x s') : evE p cal (.new C es) st = .exc x ⟨st1.r, s'⟩ := by
  rw [ev_new, h, r_ok]
  simp only [callR, ho, if_true, hc, RC.at]
theorem ev_newo {C : Nat} {es : List E} {st st1 : St} {ws : List W} {w : W} {s' : List OO} (h : evEs p cal es st = .ok ws st1) (ho : okvs ws = true) (hc : cal true C ws st1.s = .ok w s') : evE p cal (.new C es) st = .ok w ⟨st1.r, s'⟩ := by
  rw [ev_new, h, r_ok]
  simp only [callR, ho, if_true, hc, RC.at]
theorem mul_one {x : W} {k : Int} (h : 0 ≤ k ∧ k ≤ 16777216) {st : St} : binR p cal .mul (.lst [x]) (.int k) st = .ok (.lst (List.replicate k.toNat x)) st := by
  have h1 : -(2 ^ 63) ≤ k ∧ k < 2 ^ 63 ∧ [x].length * k.toNat ≤ lineMax := ⟨by omega, by omega, by simp only [List.length_singleton, Nat.one_mul, lineMax]; omega⟩
  have h2 : (List.replicate k.toNat [x]).flatten = List.replicate k.toNat x := by
    induction k.toNat with
    | zero => rfl
    | succ j ih => rw [List.replicate_succ, List.flatten_cons, ih]; rfl
  have h3 : clsOf st (.lst [x]) = none := rfl
  have h4 : binW .mul (.lst [x]) (.int k) = some (.lst (List.replicate k.toNat x)) := by
    show (if _ then _ else _) = _
    rw [if_pos h1, h2]
  simp only [binR, h3, vw_lst, vw_int, h4, r_lift]
theorem whole_no {n f : Nat} (hf : p.fns[f]? = some fWhole) {s : List OO} {x : W} (h : (∃ b, x = .bl b) ∨ x = .non ∨ (∃ t, x = .str t) ∨ ∃ ys, x = .tup ys) : callN p wf (n + 1) false f [x] s = .ok (.bl false) s := by
  rw [callN_fn hf rfl]
  rcases h with ⟨b, rfl⟩ | rfl | ⟨t, rfl⟩ | ⟨ys, rfl⟩ <;> rfl
end
end Ev

/-! N10: k06: bundles. -/
namespace G
open Ev
def xIB : Tx := [73, 110, 118, 97, 108, 105, 100, 66, 117, 110, 100, 108, 101]
/-- the error InvalidBundle(k) -/
def XB (k : Nat) : Xn := ⟨3, [16, 15], [.int k, .str xIB]⟩
/-- no number of trees -/
def Bad (x : W) : Prop := (∃ j, x = .int j ∧ (j < 0 ∨ 40 < j)) ∨ (∃ b, x = .bl b) ∨ x = .non ∨ (∃ t, x = .str t) ∨ ∃ ys, x = .tup ys
theorem Bad.okv {x : W} (h : Bad x) : Ev.okv x = true := by
  rcases h with ⟨j, rfl, _⟩ | ⟨b, rfl⟩ | rfl | ⟨t, rfl⟩ | ⟨ys, rfl⟩ <;> rfl
section
variable {wf n : Nat} {st : St} {P : List (Tx × Int)}
theorem hcS : pg.cls[7]? = some clShape := rfl
theorem o_SH : okv (SH P) = true := id rfl
theorem tg34 {a b c d e : Sl} {k x : W} (h : okv k = true) (h2 : okv x = true) : tgW (.tup [(.nam 3), (.nam 4)]) (.tup [k, x]) [a, b, c, d, e] = some [a, b, c, .val k, .val x] := by
  simp [tgW, tgW.tgWs, h, h2]
/-- the number at i is one -/
def GdAt (xs : List W) (i : Nat) : Prop := ∃ j : Int, xs[i]? = some (.int j) ∧ 0 ≤ j ∧ j ≤ 40
theorem chk_ok {xs : List W} {s : List OO} (hg : ∀ i, i < xs.length → GdAt xs i) (hl : xs.length ≤ 3000) : callN pg wf (n + 2) false 14 [.tup xs, .int 3000, .int 40] s = .ok .non s := by
  refine rc_eq.mp (wp_call (fn := f_check_counts) rfl rfl ?_)
  unfold f_check_counts
  (simp only [ev_var, ev_cst, ev_glo, ev_bin, ev_neg, ev_cmp, ev_chn, ev_bnd, ev_bor, ev_bnt, ev_ite, ev_tup, ev_lst, ev_alc, ev_frz, ev_sub, ev_slc, ev_att, ev_kon, ev_cal, ev_new, ev_mth, ev_bif, ev_isi, ev_bmt, ev_cmt, ev_fst, es_nil, es_cons, eo_none, eo_some, et_none, et_some, ej_nil, ej_cons, ei_val, ei_rng, ei_enu, ei_zip, x_ex, x_set, x_own, x_unp, x_sti, x_sta, x_aug, x_ret, x_rtn, x_ife, x_for, x_whl, x_brk, x_cnt, x_pas, x_rai, x_par, sat_ok, sat_exc, sat_bind, sat_at, rc_ok, rc_exc, sk_nx, sk_ret, sk_brk, sk_cnt, rk_nx, rk_ret, xk_, ak_t, ak_f, ak_d, ok_t, ok_f, ok_d, bif_d, bif_n, if_t, if_f, callR, okvs, r_ok, r_exc, r_lift, r_lift0, r_calm, r_at, List.getElem?_cons_zero, List.getElem?_cons_succ, List.length_cons, List.length_nil, List.length_map, List.length_set, List.length_append, vw_loc, vw_sl, vw_lst, vw_dct, vw_tup, vw_int, vw_str, vw_bl, vw_non, vw_scr, lk_loc, lk_sl, lk_lst, lk_dct, lk_obj, lk_tup, lk_int, lk_str, lk_bl, lk_non, sb_lst, sb_tup, Option.bind_some, Option.map_some, c_lt, c_le, c_gt, c_ge, c_eqi, c_nei, c_eqb, c_neb, c_eqs, c_nes, decide_false, decide_true, t_bl, t_int, Bool.false_eq_true, if_false, if_true, Nat.reduceAdd, Nat.reduceLT, Nat.reduceSub, f_int, f_lenL, f_lenT, b_add, b_sub, b_mul, b_mod, b_fdv, b_pow, o_non, o_bl, o_int, o_str, o_lst, o_tup, o_dct, o_obj, o_loc, o_scr, List.all_cons, List.all_nil, List.set_cons_zero, List.set_cons_succ, Bool.true_and, Bool.and_true, Bool.and_self, st_lst, List.replicate, List.map_cons, List.map_nil, List.cons_append, List.nil_append, Bool.not_true, Bool.not_false, isL, oOf, lineMax, Nat.reduceLeDiff, Int.reduceLT, Int.reduceLE, Int.reduceAdd, Int.reduceSub, ite_true, ite_false, reduceCtorEq, reduceIte, Bool.or_false, Bool.or_true, Bool.true_or, Bool.false_or, f_sum, f_max, f_min, f_all, f_any, f_sorted, f_list, f_tuple, f_str, f_max2, f_min2, f_lenD, w_listL, w_listT, w_tupL, w_tupT, w_intI, w_intB, w_max2, w_min2, ixz0, ixz1, ixz2, ixz3, ixz4, ixz5, ixz6, ixz7, wkL, wkT, ln_seqL, ln_seqT, ln_fix, Option.isSome_some])
  (refine wp_cons ?_; simp only [ev_var, ev_cst, ev_glo, ev_bin, ev_neg, ev_cmp, ev_chn, ev_bnd, ev_bor, ev_bnt, ev_ite, ev_tup, ev_lst, ev_alc, ev_frz, ev_sub, ev_slc, ev_att, ev_kon, ev_cal, ev_new, ev_mth, ev_bif, ev_isi, ev_bmt, ev_cmt, ev_fst, es_nil, es_cons, eo_none, eo_some, et_none, et_some, ej_nil, ej_cons, ei_val, ei_rng, ei_enu, ei_zip, x_ex, x_set, x_own, x_unp, x_sti, x_sta, x_aug, x_ret, x_rtn, x_ife, x_for, x_whl, x_brk, x_cnt, x_pas, x_rai, x_par, sat_ok, sat_exc, sat_bind, sat_at, rc_ok, rc_exc, sk_nx, sk_ret, sk_brk, sk_cnt, rk_nx, rk_ret, xk_, ak_t, ak_f, ak_d, ok_t, ok_f, ok_d, bif_d, bif_n, if_t, if_f, callR, okvs, r_ok, r_exc, r_lift, r_lift0, r_calm, r_at, List.getElem?_cons_zero, List.getElem?_cons_succ, List.length_cons, List.length_nil, List.length_map, List.length_set, List.length_append, vw_loc, vw_sl, vw_lst, vw_dct, vw_tup, vw_int, vw_str, vw_bl, vw_non, vw_scr, lk_loc, lk_sl, lk_lst, lk_dct, lk_obj, lk_tup, lk_int, lk_str, lk_bl, lk_non, sb_lst, sb_tup, Option.bind_some, Option.map_some, c_lt, c_le, c_gt, c_ge, c_eqi, c_nei, c_eqb, c_neb, c_eqs, c_nes, decide_false, decide_true, t_bl, t_int, Bool.false_eq_true, if_false, if_true, Nat.reduceAdd, Nat.reduceLT, Nat.reduceSub, f_int, f_lenL, f_lenT, b_add, b_sub, b_mul, b_mod, b_fdv, b_pow, o_non, o_bl, o_int, o_str, o_lst, o_tup, o_dct, o_obj, o_loc, o_scr, List.all_cons, List.all_nil, List.set_cons_zero, List.set_cons_succ, Bool.true_and, Bool.and_true, Bool.and_self, st_lst, List.replicate, List.map_cons, List.map_nil, List.cons_append, List.nil_append, Bool.not_true, Bool.not_false, isL, oOf, lineMax, Nat.reduceLeDiff, Int.reduceLT, Int.reduceLE, Int.reduceAdd, Int.reduceSub, ite_true, ite_false, reduceCtorEq, reduceIte, Bool.or_false, Bool.or_true, Bool.true_or, Bool.false_or, f_sum, f_max, f_min, f_all, f_any, f_sorted, f_list, f_tuple, f_str, f_max2, f_min2, f_lenD, w_listL, w_listT, w_tupL, w_tupT, w_intI, w_intB, w_max2, w_min2, ixz0, ixz1, ixz2, ixz3, ixz4, ixz5, ixz6, ixz7, wkL, wkT, ln_seqL, ln_seqT, ln_fix, Option.isSome_some])
  refine sat_for (fun _ st => ∃ v3 v4, st = ⟨[.val (.tup xs), .val (.int 3000), .val (.int 40), v3, v4], s⟩) (xs := enuW 0 xs) (fun i st _ => ?_) ?_ ?_ _ 0 _ ⟨_, _, rfl⟩ (Nat.zero_le _) (by rw [enuW_len, len_enu rfl]; omega)
  · exact at_enu rfl
  · rintro i z st hz ⟨v3, v4, rfl⟩
    rw [enuW_get] at hz
    obtain ⟨x, hx, rfl⟩ := Option.map_eq_some_iff.mp hz
    have hi : i < xs.length := (List.getElem?_eq_some_iff.mp hx).1
    obtain ⟨j, hj, g1, g2⟩ := hg i hi
    rw [hx] at hj
    cases hj
    rw [Int.zero_add]
    refine ⟨_, tg34 rfl rfl, ?_⟩
    have e1 : ((i : Int) == 3000) = false := by rw [beq_eq_false_iff_ne]; omega
    (refine wp_cons ?_; simp only [ev_var, ev_cst, ev_glo, ev_bin, ev_neg, ev_cmp, ev_chn, ev_bnd, ev_bor, ev_bnt, ev_ite, ev_tup, ev_lst, ev_alc, ev_frz, ev_sub, ev_slc, ev_att, ev_kon, ev_cal, ev_new, ev_mth, ev_bif, ev_isi, ev_bmt, ev_cmt, ev_fst, es_nil, es_cons, eo_none, eo_some, et_none, et_some, ej_nil, ej_cons, ei_val, ei_rng, ei_enu, ei_zip, x_ex, x_set, x_own, x_unp, x_sti, x_sta, x_aug, x_ret, x_rtn, x_ife, x_for, x_whl, x_brk, x_cnt, x_pas, x_rai, x_par, sat_ok, sat_exc, sat_bind, sat_at, rc_ok, rc_exc, sk_nx, sk_ret, sk_brk, sk_cnt, rk_nx, rk_ret, xk_, ak_t, ak_f, ak_d, ok_t, ok_f, ok_d, bif_d, bif_n, if_t, if_f, callR, okvs, r_ok, r_exc, r_lift, r_lift0, r_calm, r_at, List.getElem?_cons_zero, List.getElem?_cons_succ, List.length_cons, List.length_nil, List.length_map, List.length_set, List.length_append, vw_loc, vw_sl, vw_lst, vw_dct, vw_tup, vw_int, vw_str, vw_bl, vw_non, vw_scr, lk_loc, lk_sl, lk_lst, lk_dct, lk_obj, lk_tup, lk_int, lk_str, lk_bl, lk_non, sb_lst, sb_tup, Option.bind_some, Option.map_some, c_lt, c_le, c_gt, c_ge, c_eqi, c_nei, c_eqb, c_neb, c_eqs, c_nes, decide_false, decide_true, t_bl, t_int, Bool.false_eq_true, if_false, if_true, Nat.reduceAdd, Nat.reduceLT, Nat.reduceSub, f_int, f_lenL, f_lenT, b_add, b_sub, b_mul, b_mod, b_fdv, b_pow, o_non, o_bl, o_int, o_str, o_lst, o_tup, o_dct, o_obj, o_loc, o_scr, List.all_cons, List.all_nil, List.set_cons_zero, List.set_cons_succ, Bool.true_and, Bool.and_true, Bool.and_self, st_lst, List.replicate, List.map_cons, List.map_nil, List.cons_append, List.nil_append, Bool.not_true, Bool.not_false, isL, oOf, lineMax, Nat.reduceLeDiff, Int.reduceLT, Int.reduceLE, Int.reduceAdd, Int.reduceSub, ite_true, ite_false, reduceCtorEq, reduceIte, Bool.or_false, Bool.or_true, Bool.true_or, Bool.false_or, f_sum, f_max, f_min, f_all, f_any, f_sorted, f_list, f_tuple, f_str, f_max2, f_min2, f_lenD, w_listL, w_listT, w_tupL, w_tupT, w_intI, w_intB, w_max2, w_min2, ixz0, ixz1, ixz2, ixz3, ixz4, ixz5, ixz6, ixz7, wkL, wkT, ln_seqL, ln_seqT, ln_fix, Option.isSome_some, e1, whole_int (p := pg) (f := 1) rfl, g1, g2, s_nil])
    exact ⟨_, _, rfl⟩
  · rintro st ⟨v3, v4, rfl⟩
    (simp only [ev_var, ev_cst, ev_glo, ev_bin, ev_neg, ev_cmp, ev_chn, ev_bnd, ev_bor, ev_bnt, ev_ite, ev_tup, ev_lst, ev_alc, ev_frz, ev_sub, ev_slc, ev_att, ev_kon, ev_cal, ev_new, ev_mth, ev_bif, ev_isi, ev_bmt, ev_cmt, ev_fst, es_nil, es_cons, eo_none, eo_some, et_none, et_some, ej_nil, ej_cons, ei_val, ei_rng, ei_enu, ei_zip, x_ex, x_set, x_own, x_unp, x_sti, x_sta, x_aug, x_ret, x_rtn, x_ife, x_for, x_whl, x_brk, x_cnt, x_pas, x_rai, x_par, sat_ok, sat_exc, sat_bind, sat_at, rc_ok, rc_exc, sk_nx, sk_ret, sk_brk, sk_cnt, rk_nx, rk_ret, xk_, ak_t, ak_f, ak_d, ok_t, ok_f, ok_d, bif_d, bif_n, if_t, if_f, callR, okvs, r_ok, r_exc, r_lift, r_lift0, r_calm, r_at, List.getElem?_cons_zero, List.getElem?_cons_succ, List.length_cons, List.length_nil, List.length_map, List.length_set, List.length_append, vw_loc, vw_sl, vw_lst, vw_dct, vw_tup, vw_int, vw_str, vw_bl, vw_non, vw_scr, lk_loc, lk_sl, lk_lst, lk_dct, lk_obj, lk_tup, lk_int, lk_str, lk_bl, lk_non, sb_lst, sb_tup, Option.bind_some, Option.map_some, c_lt, c_le, c_gt, c_ge, c_eqi, c_nei, c_eqb, c_neb, c_eqs, c_nes, decide_false, decide_true, t_bl, t_int, Bool.false_eq_true, if_false, if_true, Nat.reduceAdd, Nat.reduceLT, Nat.reduceSub, f_int, f_lenL, f_lenT, b_add, b_sub, b_mul, b_mod, b_fdv, b_pow, o_non, o_bl, o_int, o_str, o_lst, o_tup, o_dct, o_obj, o_loc, o_scr, List.all_cons, List.all_nil, List.set_cons_zero, List.set_cons_succ, Bool.true_and, Bool.and_true, Bool.and_self, st_lst, List.replicate, List.map_cons, List.map_nil, List.cons_append, List.nil_append, Bool.not_true, Bool.not_false, isL, oOf, lineMax, Nat.reduceLeDiff, Int.reduceLT, Int.reduceLE, Int.reduceAdd, Int.reduceSub, ite_true, ite_false, reduceCtorEq, reduceIte, Bool.or_false, Bool.or_true, Bool.true_or, Bool.false_or, f_sum, f_max, f_min, f_all, f_any, f_sorted, f_list, f_tuple, f_str, f_max2, f_min2, f_lenD, w_listL, w_listT, w_tupL, w_tupT, w_intI, w_intB, w_max2, w_min2, ixz0, ixz1, ixz2, ixz3, ixz4, ixz5, ixz6, ixz7, wkL, wkT, ln_seqL, ln_seqT, ln_fix, Option.isSome_some, s_nil])
    exact ⟨trivial, trivial⟩
theorem hX : pg.cls[3]? = some k_InvalidBundle := rfl
theorem chk_exc {xs : List W} {x : W} {k : Nat} {s : List OO} (hg : ∀ i, i < k → GdAt xs i) (hk : k ≤ 3000) (hx : xs[k]? = some x) (ho : okv x = true) (hb : k = 3000 ∨ Bad x) : callN pg wf (n + 2) false 14 [.tup xs, .int 3000, .int 40] s = .exc (XB k) s := by
  refine rc_eqx.mp (wp_call (fn := f_check_counts) rfl rfl ?_)
  unfold f_check_counts
  have hkl : k < xs.length := (List.getElem?_eq_some_iff.mp hx).1
  (simp only [ev_var, ev_cst, ev_glo, ev_bin, ev_neg, ev_cmp, ev_chn, ev_bnd, ev_bor, ev_bnt, ev_ite, ev_tup, ev_lst, ev_alc, ev_frz, ev_sub, ev_slc, ev_att, ev_kon, ev_cal, ev_new, ev_mth, ev_bif, ev_isi, ev_bmt, ev_cmt, ev_fst, es_nil, es_cons, eo_none, eo_some, et_none, et_some, ej_nil, ej_cons, ei_val, ei_rng, ei_enu, ei_zip, x_ex, x_set, x_own, x_unp, x_sti, x_sta, x_aug, x_ret, x_rtn, x_ife, x_for, x_whl, x_brk, x_cnt, x_pas, x_rai, x_par, sat_ok, sat_exc, sat_bind, sat_at, rc_ok, rc_exc, sk_nx, sk_ret, sk_brk, sk_cnt, rk_nx, rk_ret, xk_, ak_t, ak_f, ak_d, ok_t, ok_f, ok_d, bif_d, bif_n, if_t, if_f, callR, okvs, r_ok, r_exc, r_lift, r_lift0, r_calm, r_at, List.getElem?_cons_zero, List.getElem?_cons_succ, List.length_cons, List.length_nil, List.length_map, List.length_set, List.length_append, vw_loc, vw_sl, vw_lst, vw_dct, vw_tup, vw_int, vw_str, vw_bl, vw_non, vw_scr, lk_loc, lk_sl, lk_lst, lk_dct, lk_obj, lk_tup, lk_int, lk_str, lk_bl, lk_non, sb_lst, sb_tup, Option.bind_some, Option.map_some, c_lt, c_le, c_gt, c_ge, c_eqi, c_nei, c_eqb, c_neb, c_eqs, c_nes, decide_false, decide_true, t_bl, t_int, Bool.false_eq_true, if_false, if_true, Nat.reduceAdd, Nat.reduceLT, Nat.reduceSub, f_int, f_lenL, f_lenT, b_add, b_sub, b_mul, b_mod, b_fdv, b_pow, o_non, o_bl, o_int, o_str, o_lst, o_tup, o_dct, o_obj, o_loc, o_scr, List.all_cons, List.all_nil, List.set_cons_zero, List.set_cons_succ, Bool.true_and, Bool.and_true, Bool.and_self, st_lst, List.replicate, List.map_cons, List.map_nil, List.cons_append, List.nil_append, Bool.not_true, Bool.not_false, isL, oOf, lineMax, Nat.reduceLeDiff, Int.reduceLT, Int.reduceLE, Int.reduceAdd, Int.reduceSub, ite_true, ite_false, reduceCtorEq, reduceIte, Bool.or_false, Bool.or_true, Bool.true_or, Bool.false_or, f_sum, f_max, f_min, f_all, f_any, f_sorted, f_list, f_tuple, f_str, f_max2, f_min2, f_lenD, w_listL, w_listT, w_tupL, w_tupT, w_intI, w_intB, w_max2, w_min2, ixz0, ixz1, ixz2, ixz3, ixz4, ixz5, ixz6, ixz7, wkL, wkT, ln_seqL, ln_seqT, ln_fix, Option.isSome_some])
  (refine wp_cons ?_; simp only [ev_var, ev_cst, ev_glo, ev_bin, ev_neg, ev_cmp, ev_chn, ev_bnd, ev_bor, ev_bnt, ev_ite, ev_tup, ev_lst, ev_alc, ev_frz, ev_sub, ev_slc, ev_att, ev_kon, ev_cal, ev_new, ev_mth, ev_bif, ev_isi, ev_bmt, ev_cmt, ev_fst, es_nil, es_cons, eo_none, eo_some, et_none, et_some, ej_nil, ej_cons, ei_val, ei_rng, ei_enu, ei_zip, x_ex, x_set, x_own, x_unp, x_sti, x_sta, x_aug, x_ret, x_rtn, x_ife, x_for, x_whl, x_brk, x_cnt, x_pas, x_rai, x_par, sat_ok, sat_exc, sat_bind, sat_at, rc_ok, rc_exc, sk_nx, sk_ret, sk_brk, sk_cnt, rk_nx, rk_ret, xk_, ak_t, ak_f, ak_d, ok_t, ok_f, ok_d, bif_d, bif_n, if_t, if_f, callR, okvs, r_ok, r_exc, r_lift, r_lift0, r_calm, r_at, List.getElem?_cons_zero, List.getElem?_cons_succ, List.length_cons, List.length_nil, List.length_map, List.length_set, List.length_append, vw_loc, vw_sl, vw_lst, vw_dct, vw_tup, vw_int, vw_str, vw_bl, vw_non, vw_scr, lk_loc, lk_sl, lk_lst, lk_dct, lk_obj, lk_tup, lk_int, lk_str, lk_bl, lk_non, sb_lst, sb_tup, Option.bind_some, Option.map_some, c_lt, c_le, c_gt, c_ge, c_eqi, c_nei, c_eqb, c_neb, c_eqs, c_nes, decide_false, decide_true, t_bl, t_int, Bool.false_eq_true, if_false, if_true, Nat.reduceAdd, Nat.reduceLT, Nat.reduceSub, f_int, f_lenL, f_lenT, b_add, b_sub, b_mul, b_mod, b_fdv, b_pow, o_non, o_bl, o_int, o_str, o_lst, o_tup, o_dct, o_obj, o_loc, o_scr, List.all_cons, List.all_nil, List.set_cons_zero, List.set_cons_succ, Bool.true_and, Bool.and_true, Bool.and_self, st_lst, List.replicate, List.map_cons, List.map_nil, List.cons_append, List.nil_append, Bool.not_true, Bool.not_false, isL, oOf, lineMax, Nat.reduceLeDiff, Int.reduceLT, Int.reduceLE, Int.reduceAdd, Int.reduceSub, ite_true, ite_false, reduceCtorEq, reduceIte, Bool.or_false, Bool.or_true, Bool.true_or, Bool.false_or, f_sum, f_max, f_min, f_all, f_any, f_sorted, f_list, f_tuple, f_str, f_max2, f_min2, f_lenD, w_listL, w_listT, w_tupL, w_tupT, w_intI, w_intB, w_max2, w_min2, ixz0, ixz1, ixz2, ixz3, ixz4, ixz5, ixz6, ixz7, wkL, wkT, ln_seqL, ln_seqT, ln_fix, Option.isSome_some])
  refine sat_for (fun i st => i ≤ k ∧ ∃ v3 v4, st = ⟨[.val (.tup xs), .val (.int 3000), .val (.int 40), v3, v4], s⟩) (xs := enuW 0 xs) (fun i st _ => ?_) ?_ ?_ _ 0 _ ⟨Nat.zero_le _, _, _, rfl⟩ (Nat.zero_le _) (by rw [enuW_len, len_enu rfl]; omega)
  · exact at_enu rfl
  · rintro i z st hz ⟨hi, v3, v4, rfl⟩
    rw [enuW_get] at hz
    obtain ⟨y, hy, rfl⟩ := Option.map_eq_some_iff.mp hz
    rw [Int.zero_add]
    by_cases hik : i < k
    · obtain ⟨j, hj, g1, g2⟩ := hg i hik
      rw [hy] at hj
      cases hj
      refine ⟨_, tg34 rfl rfl, ?_⟩
      have e1 : ((i : Int) == 3000) = false := by rw [beq_eq_false_iff_ne]; omega
      (refine wp_cons ?_; simp only [ev_var, ev_cst, ev_glo, ev_bin, ev_neg, ev_cmp, ev_chn, ev_bnd, ev_bor, ev_bnt, ev_ite, ev_tup, ev_lst, ev_alc, ev_frz, ev_sub, ev_slc, ev_att, ev_kon, ev_cal, ev_new, ev_mth, ev_bif, ev_isi, ev_bmt, ev_cmt, ev_fst, es_nil, es_cons, eo_none, eo_some, et_none, et_some, ej_nil, ej_cons, ei_val, ei_rng, ei_enu, ei_zip, x_ex, x_set, x_own, x_unp, x_sti, x_sta, x_aug, x_ret, x_rtn, x_ife, x_for, x_whl, x_brk, x_cnt, x_pas, x_rai, x_par, sat_ok, sat_exc, sat_bind, sat_at, rc_ok, rc_exc, sk_nx, sk_ret, sk_brk, sk_cnt, rk_nx, rk_ret, xk_, ak_t, ak_f, ak_d, ok_t, ok_f, ok_d, bif_d, bif_n, if_t, if_f, callR, okvs, r_ok, r_exc, r_lift, r_lift0, r_calm, r_at, List.getElem?_cons_zero, List.getElem?_cons_succ, List.length_cons, List.length_nil, List.length_map, List.length_set, List.length_append, vw_loc, vw_sl, vw_lst, vw_dct, vw_tup, vw_int, vw_str, vw_bl, vw_non, vw_scr, lk_loc, lk_sl, lk_lst, lk_dct, lk_obj, lk_tup, lk_int, lk_str, lk_bl, lk_non, sb_lst, sb_tup, Option.bind_some, Option.map_some, c_lt, c_le, c_gt, c_ge, c_eqi, c_nei, c_eqb, c_neb, c_eqs, c_nes, decide_false, decide_true, t_bl, t_int, Bool.false_eq_true, if_false, if_true, Nat.reduceAdd, Nat.reduceLT, Nat.reduceSub, f_int, f_lenL, f_lenT, b_add, b_sub, b_mul, b_mod, b_fdv, b_pow, o_non, o_bl, o_int, o_str, o_lst, o_tup, o_dct, o_obj, o_loc, o_scr, List.all_cons, List.all_nil, List.set_cons_zero, List.set_cons_succ, Bool.true_and, Bool.and_true, Bool.and_self, st_lst, List.replicate, List.map_cons, List.map_nil, List.cons_append, List.nil_append, Bool.not_true, Bool.not_false, isL, oOf, lineMax, Nat.reduceLeDiff, Int.reduceLT, Int.reduceLE, Int.reduceAdd, Int.reduceSub, ite_true, ite_false, reduceCtorEq, reduceIte, Bool.or_false, Bool.or_true, Bool.true_or, Bool.false_or, f_sum, f_max, f_min, f_all, f_any, f_sorted, f_list, f_tuple, f_str, f_max2, f_min2, f_lenD, w_listL, w_listT, w_tupL, w_tupT, w_intI, w_intB, w_max2, w_min2, ixz0, ixz1, ixz2, ixz3, ixz4, ixz5, ixz6, ixz7, wkL, wkT, ln_seqL, ln_seqT, ln_fix, Option.isSome_some, e1, whole_int (p := pg) (f := 1) rfl, g1, g2, s_nil])
      exact ⟨by omega, _, _, rfl⟩
    · have ei : i = k := by omega
      subst ei
      rw [hx] at hy
      cases hy
      refine ⟨_, tg34 rfl ho, ?_⟩
      by_cases h3 : i = 3000
      · subst h3
        (refine wp_cons ?_; simp only [ev_var, ev_cst, ev_glo, ev_bin, ev_neg, ev_cmp, ev_chn, ev_bnd, ev_bor, ev_bnt, ev_ite, ev_tup, ev_lst, ev_alc, ev_frz, ev_sub, ev_slc, ev_att, ev_kon, ev_cal, ev_new, ev_mth, ev_bif, ev_isi, ev_bmt, ev_cmt, ev_fst, es_nil, es_cons, eo_none, eo_some, et_none, et_some, ej_nil, ej_cons, ei_val, ei_rng, ei_enu, ei_zip, x_ex, x_set, x_own, x_unp, x_sti, x_sta, x_aug, x_ret, x_rtn, x_ife, x_for, x_whl, x_brk, x_cnt, x_pas, x_rai, x_par, sat_ok, sat_exc, sat_bind, sat_at, rc_ok, rc_exc, sk_nx, sk_ret, sk_brk, sk_cnt, rk_nx, rk_ret, xk_, ak_t, ak_f, ak_d, ok_t, ok_f, ok_d, bif_d, bif_n, if_t, if_f, callR, okvs, r_ok, r_exc, r_lift, r_lift0, r_calm, r_at, List.getElem?_cons_zero, List.getElem?_cons_succ, List.length_cons, List.length_nil, List.length_map, List.length_set, List.length_append, vw_loc, vw_sl, vw_lst, vw_dct, vw_tup, vw_int, vw_str, vw_bl, vw_non, vw_scr, lk_loc, lk_sl, lk_lst, lk_dct, lk_obj, lk_tup, lk_int, lk_str, lk_bl, lk_non, sb_lst, sb_tup, Option.bind_some, Option.map_some, c_lt, c_le, c_gt, c_ge, c_eqi, c_nei, c_eqb, c_neb, c_eqs, c_nes, decide_false, decide_true, t_bl, t_int, Bool.false_eq_true, if_false, if_true, Nat.reduceAdd, Nat.reduceLT, Nat.reduceSub, f_int, f_lenL, f_lenT, b_add, b_sub, b_mul, b_mod, b_fdv, b_pow, o_non, o_bl, o_int, o_str, o_lst, o_tup, o_dct, o_obj, o_loc, o_scr, List.all_cons, List.all_nil, List.set_cons_zero, List.set_cons_succ, Bool.true_and, Bool.and_true, Bool.and_self, st_lst, List.replicate, List.map_cons, List.map_nil, List.cons_append, List.nil_append, Bool.not_true, Bool.not_false, isL, oOf, lineMax, Nat.reduceLeDiff, Int.reduceLT, Int.reduceLE, Int.reduceAdd, Int.reduceSub, ite_true, ite_false, reduceCtorEq, reduceIte, Bool.or_false, Bool.or_true, Bool.true_or, Bool.false_or, f_sum, f_max, f_min, f_all, f_any, f_sorted, f_list, f_tuple, f_str, f_max2, f_min2, f_lenD, w_listL, w_listT, w_tupL, w_tupT, w_intI, w_intB, w_max2, w_min2, ixz0, ixz1, ixz2, ixz3, ixz4, ixz5, ixz6, ixz7, wkL, wkT, ln_seqL, ln_seqT, ln_fix, Option.isSome_some, beq_self_eq_true, (show (((3000 : Nat) : Int) == 3000) = true from rfl)])
        (refine wp_cons ?_; simp only [ev_var, ev_cst, ev_glo, ev_bin, ev_neg, ev_cmp, ev_chn, ev_bnd, ev_bor, ev_bnt, ev_ite, ev_tup, ev_lst, ev_alc, ev_frz, ev_sub, ev_slc, ev_att, ev_kon, ev_cal, ev_new, ev_mth, ev_bif, ev_isi, ev_bmt, ev_cmt, ev_fst, es_nil, es_cons, eo_none, eo_some, et_none, et_some, ej_nil, ej_cons, ei_val, ei_rng, ei_enu, ei_zip, x_ex, x_set, x_own, x_unp, x_sti, x_sta, x_aug, x_ret, x_rtn, x_ife, x_for, x_whl, x_brk, x_cnt, x_pas, x_rai, x_par, sat_ok, sat_exc, sat_bind, sat_at, rc_ok, rc_exc, sk_nx, sk_ret, sk_brk, sk_cnt, rk_nx, rk_ret, xk_, ak_t, ak_f, ak_d, ok_t, ok_f, ok_d, bif_d, bif_n, if_t, if_f, callR, okvs, r_ok, r_exc, r_lift, r_lift0, r_calm, r_at, List.getElem?_cons_zero, List.getElem?_cons_succ, List.length_cons, List.length_nil, List.length_map, List.length_set, List.length_append, vw_loc, vw_sl, vw_lst, vw_dct, vw_tup, vw_int, vw_str, vw_bl, vw_non, vw_scr, lk_loc, lk_sl, lk_lst, lk_dct, lk_obj, lk_tup, lk_int, lk_str, lk_bl, lk_non, sb_lst, sb_tup, Option.bind_some, Option.map_some, c_lt, c_le, c_gt, c_ge, c_eqi, c_nei, c_eqb, c_neb, c_eqs, c_nes, decide_false, decide_true, t_bl, t_int, Bool.false_eq_true, if_false, if_true, Nat.reduceAdd, Nat.reduceLT, Nat.reduceSub, f_int, f_lenL, f_lenT, b_add, b_sub, b_mul, b_mod, b_fdv, b_pow, o_non, o_bl, o_int, o_str, o_lst, o_tup, o_dct, o_obj, o_loc, o_scr, List.all_cons, List.all_nil, List.set_cons_zero, List.set_cons_succ, Bool.true_and, Bool.and_true, Bool.and_self, st_lst, List.replicate, List.map_cons, List.map_nil, List.cons_append, List.nil_append, Bool.not_true, Bool.not_false, isL, oOf, lineMax, Nat.reduceLeDiff, Int.reduceLT, Int.reduceLE, Int.reduceAdd, Int.reduceSub, ite_true, ite_false, reduceCtorEq, reduceIte, Bool.or_false, Bool.or_true, Bool.true_or, Bool.false_or, f_sum, f_max, f_min, f_all, f_any, f_sorted, f_list, f_tuple, f_str, f_max2, f_min2, f_lenD, w_listL, w_listT, w_tupL, w_tupT, w_intI, w_intB, w_max2, w_min2, ixz0, ixz1, ixz2, ixz3, ixz4, ixz5, ixz6, ixz7, wkL, wkT, ln_seqL, ln_seqT, ln_fix, Option.isSome_some, hX, k_InvalidBundle])
        exact ⟨rfl, trivial⟩
      · have e1 : ((i : Int) == 3000) = false := by rw [beq_eq_false_iff_ne]; omega
        rcases hb with z | z
        · exact absurd z h3
        · rcases z with ⟨j, rfl, hj⟩ | z
          · by_cases h0 : 0 ≤ j
            · have h4 : ¬ j ≤ 40 := by omega
              (refine wp_cons ?_; simp only [ev_var, ev_cst, ev_glo, ev_bin, ev_neg, ev_cmp, ev_chn, ev_bnd, ev_bor, ev_bnt, ev_ite, ev_tup, ev_lst, ev_alc, ev_frz, ev_sub, ev_slc, ev_att, ev_kon, ev_cal, ev_new, ev_mth, ev_bif, ev_isi, ev_bmt, ev_cmt, ev_fst, es_nil, es_cons, eo_none, eo_some, et_none, et_some, ej_nil, ej_cons, ei_val, ei_rng, ei_enu, ei_zip, x_ex, x_set, x_own, x_unp, x_sti, x_sta, x_aug, x_ret, x_rtn, x_ife, x_for, x_whl, x_brk, x_cnt, x_pas, x_rai, x_par, sat_ok, sat_exc, sat_bind, sat_at, rc_ok, rc_exc, sk_nx, sk_ret, sk_brk, sk_cnt, rk_nx, rk_ret, xk_, ak_t, ak_f, ak_d, ok_t, ok_f, ok_d, bif_d, bif_n, if_t, if_f, callR, okvs, r_ok, r_exc, r_lift, r_lift0, r_calm, r_at, List.getElem?_cons_zero, List.getElem?_cons_succ, List.length_cons, List.length_nil, List.length_map, List.length_set, List.length_append, vw_loc, vw_sl, vw_lst, vw_dct, vw_tup, vw_int, vw_str, vw_bl, vw_non, vw_scr, lk_loc, lk_sl, lk_lst, lk_dct, lk_obj, lk_tup, lk_int, lk_str, lk_bl, lk_non, sb_lst, sb_tup, Option.bind_some, Option.map_some, c_lt, c_le, c_gt, c_ge, c_eqi, c_nei, c_eqb, c_neb, c_eqs, c_nes, decide_false, decide_true, t_bl, t_int, Bool.false_eq_true, if_false, if_true, Nat.reduceAdd, Nat.reduceLT, Nat.reduceSub, f_int, f_lenL, f_lenT, b_add, b_sub, b_mul, b_mod, b_fdv, b_pow, o_non, o_bl, o_int, o_str, o_lst, o_tup, o_dct, o_obj, o_loc, o_scr, List.all_cons, List.all_nil, List.set_cons_zero, List.set_cons_succ, Bool.true_and, Bool.and_true, Bool.and_self, st_lst, List.replicate, List.map_cons, List.map_nil, List.cons_append, List.nil_append, Bool.not_true, Bool.not_false, isL, oOf, lineMax, Nat.reduceLeDiff, Int.reduceLT, Int.reduceLE, Int.reduceAdd, Int.reduceSub, ite_true, ite_false, reduceCtorEq, reduceIte, Bool.or_false, Bool.or_true, Bool.true_or, Bool.false_or, f_sum, f_max, f_min, f_all, f_any, f_sorted, f_list, f_tuple, f_str, f_max2, f_min2, f_lenD, w_listL, w_listT, w_tupL, w_tupT, w_intI, w_intB, w_max2, w_min2, ixz0, ixz1, ixz2, ixz3, ixz4, ixz5, ixz6, ixz7, wkL, wkT, ln_seqL, ln_seqT, ln_fix, Option.isSome_some, e1, whole_int (p := pg) (f := 1) rfl, h0, h4])
              (refine wp_cons ?_; simp only [ev_var, ev_cst, ev_glo, ev_bin, ev_neg, ev_cmp, ev_chn, ev_bnd, ev_bor, ev_bnt, ev_ite, ev_tup, ev_lst, ev_alc, ev_frz, ev_sub, ev_slc, ev_att, ev_kon, ev_cal, ev_new, ev_mth, ev_bif, ev_isi, ev_bmt, ev_cmt, ev_fst, es_nil, es_cons, eo_none, eo_some, et_none, et_some, ej_nil, ej_cons, ei_val, ei_rng, ei_enu, ei_zip, x_ex, x_set, x_own, x_unp, x_sti, x_sta, x_aug, x_ret, x_rtn, x_ife, x_for, x_whl, x_brk, x_cnt, x_pas, x_rai, x_par, sat_ok, sat_exc, sat_bind, sat_at, rc_ok, rc_exc, sk_nx, sk_ret, sk_brk, sk_cnt, rk_nx, rk_ret, xk_, ak_t, ak_f, ak_d, ok_t, ok_f, ok_d, bif_d, bif_n, if_t, if_f, callR, okvs, r_ok, r_exc, r_lift, r_lift0, r_calm, r_at, List.getElem?_cons_zero, List.getElem?_cons_succ, List.length_cons, List.length_nil, List.length_map, List.length_set, List.length_append, vw_loc, vw_sl, vw_lst, vw_dct, vw_tup, vw_int, vw_str, vw_bl, vw_non, vw_scr, lk_loc, lk_sl, lk_lst, lk_dct, lk_obj, lk_tup, lk_int, lk_str, lk_bl, lk_non, sb_lst, sb_tup, Option.bind_some, Option.map_some, c_lt, c_le, c_gt, c_ge, c_eqi, c_nei, c_eqb, c_neb, c_eqs, c_nes, decide_false, decide_true, t_bl, t_int, Bool.false_eq_true, if_false, if_true, Nat.reduceAdd, Nat.reduceLT, Nat.reduceSub, f_int, f_lenL, f_lenT, b_add, b_sub, b_mul, b_mod, b_fdv, b_pow, o_non, o_bl, o_int, o_str, o_lst, o_tup, o_dct, o_obj, o_loc, o_scr, List.all_cons, List.all_nil, List.set_cons_zero, List.set_cons_succ, Bool.true_and, Bool.and_true, Bool.and_self, st_lst, List.replicate, List.map_cons, List.map_nil, List.cons_append, List.nil_append, Bool.not_true, Bool.not_false, isL, oOf, lineMax, Nat.reduceLeDiff, Int.reduceLT, Int.reduceLE, Int.reduceAdd, Int.reduceSub, ite_true, ite_false, reduceCtorEq, reduceIte, Bool.or_false, Bool.or_true, Bool.true_or, Bool.false_or, f_sum, f_max, f_min, f_all, f_any, f_sorted, f_list, f_tuple, f_str, f_max2, f_min2, f_lenD, w_listL, w_listT, w_tupL, w_tupT, w_intI, w_intB, w_max2, w_min2, ixz0, ixz1, ixz2, ixz3, ixz4, ixz5, ixz6, ixz7, wkL, wkT, ln_seqL, ln_seqT, ln_fix, Option.isSome_some, hX, k_InvalidBundle])
              exact ⟨rfl, trivial⟩
            · (refine wp_cons ?_; simp only [ev_var, ev_cst, ev_glo, ev_bin, ev_neg, ev_cmp, ev_chn, ev_bnd, ev_bor, ev_bnt, ev_ite, ev_tup, ev_lst, ev_alc, ev_frz, ev_sub, ev_slc, ev_att, ev_kon, ev_cal, ev_new, ev_mth, ev_bif, ev_isi, ev_bmt, ev_cmt, ev_fst, es_nil, es_cons, eo_none, eo_some, et_none, et_some, ej_nil, ej_cons, ei_val, ei_rng, ei_enu, ei_zip, x_ex, x_set, x_own, x_unp, x_sti, x_sta, x_aug, x_ret, x_rtn, x_ife, x_for, x_whl, x_brk, x_cnt, x_pas, x_rai, x_par, sat_ok, sat_exc, sat_bind, sat_at, rc_ok, rc_exc, sk_nx, sk_ret, sk_brk, sk_cnt, rk_nx, rk_ret, xk_, ak_t, ak_f, ak_d, ok_t, ok_f, ok_d, bif_d, bif_n, if_t, if_f, callR, okvs, r_ok, r_exc, r_lift, r_lift0, r_calm, r_at, List.getElem?_cons_zero, List.getElem?_cons_succ, List.length_cons, List.length_nil, List.length_map, List.length_set, List.length_append, vw_loc, vw_sl, vw_lst, vw_dct, vw_tup, vw_int, vw_str, vw_bl, vw_non, vw_scr, lk_loc, lk_sl, lk_lst, lk_dct, lk_obj, lk_tup, lk_int, lk_str, lk_bl, lk_non, sb_lst, sb_tup, Option.bind_some, Option.map_some, c_lt, c_le, c_gt, c_ge, c_eqi, c_nei, c_eqb, c_neb, c_eqs, c_nes, decide_false, decide_true, t_bl, t_int, Bool.false_eq_true, if_false, if_true, Nat.reduceAdd, Nat.reduceLT, Nat.reduceSub, f_int, f_lenL, f_lenT, b_add, b_sub, b_mul, b_mod, b_fdv, b_pow, o_non, o_bl, o_int, o_str, o_lst, o_tup, o_dct, o_obj, o_loc, o_scr, List.all_cons, List.all_nil, List.set_cons_zero, List.set_cons_succ, Bool.true_and, Bool.and_true, Bool.and_self, st_lst, List.replicate, List.map_cons, List.map_nil, List.cons_append, List.nil_append, Bool.not_true, Bool.not_false, isL, oOf, lineMax, Nat.reduceLeDiff, Int.reduceLT, Int.reduceLE, Int.reduceAdd, Int.reduceSub, ite_true, ite_false, reduceCtorEq, reduceIte, Bool.or_false, Bool.or_true, Bool.true_or, Bool.false_or, f_sum, f_max, f_min, f_all, f_any, f_sorted, f_list, f_tuple, f_str, f_max2, f_min2, f_lenD, w_listL, w_listT, w_tupL, w_tupT, w_intI, w_intB, w_max2, w_min2, ixz0, ixz1, ixz2, ixz3, ixz4, ixz5, ixz6, ixz7, wkL, wkT, ln_seqL, ln_seqT, ln_fix, Option.isSome_some, e1, whole_int (p := pg) (f := 1) rfl, h0])
              (refine wp_cons ?_; simp only [ev_var, ev_cst, ev_glo, ev_bin, ev_neg, ev_cmp, ev_chn, ev_bnd, ev_bor, ev_bnt, ev_ite, ev_tup, ev_lst, ev_alc, ev_frz, ev_sub, ev_slc, ev_att, ev_kon, ev_cal, ev_new, ev_mth, ev_bif, ev_isi, ev_bmt, ev_cmt, ev_fst, es_nil, es_cons, eo_none, eo_some, et_none, et_some, ej_nil, ej_cons, ei_val, ei_rng, ei_enu, ei_zip, x_ex, x_set, x_own, x_unp, x_sti, x_sta, x_aug, x_ret, x_rtn, x_ife, x_for, x_whl, x_brk, x_cnt, x_pas, x_rai, x_par, sat_ok, sat_exc, sat_bind, sat_at, rc_ok, rc_exc, sk_nx, sk_ret, sk_brk, sk_cnt, rk_nx, rk_ret, xk_, ak_t, ak_f, ak_d, ok_t, ok_f, ok_d, bif_d, bif_n, if_t, if_f, callR, okvs, r_ok, r_exc, r_lift, r_lift0, r_calm, r_at, List.getElem?_cons_zero, List.getElem?_cons_succ, List.length_cons, List.length_nil, List.length_map, List.length_set, List.length_append, vw_loc, vw_sl, vw_lst, vw_dct, vw_tup, vw_int, vw_str, vw_bl, vw_non, vw_scr, lk_loc, lk_sl, lk_lst, lk_dct, lk_obj, lk_tup, lk_int, lk_str, lk_bl, lk_non, sb_lst, sb_tup, Option.bind_some, Option.map_some, c_lt, c_le, c_gt, c_ge, c_eqi, c_nei, c_eqb, c_neb, c_eqs, c_nes, decide_false, decide_true, t_bl, t_int, Bool.false_eq_true, if_false, if_true, Nat.reduceAdd, Nat.reduceLT, Nat.reduceSub, f_int, f_lenL, f_lenT, b_add, b_sub, b_mul, b_mod, b_fdv, b_pow, o_non, o_bl, o_int, o_str, o_lst, o_tup, o_dct, o_obj, o_loc, o_scr, List.all_cons, List.all_nil, List.set_cons_zero, List.set_cons_succ, Bool.true_and, Bool.and_true, Bool.and_self, st_lst, List.replicate, List.map_cons, List.map_nil, List.cons_append, List.nil_append, Bool.not_true, Bool.not_false, isL, oOf, lineMax, Nat.reduceLeDiff, Int.reduceLT, Int.reduceLE, Int.reduceAdd, Int.reduceSub, ite_true, ite_false, reduceCtorEq, reduceIte, Bool.or_false, Bool.or_true, Bool.true_or, Bool.false_or, f_sum, f_max, f_min, f_all, f_any, f_sorted, f_list, f_tuple, f_str, f_max2, f_min2, f_lenD, w_listL, w_listT, w_tupL, w_tupT, w_intI, w_intB, w_max2, w_min2, ixz0, ixz1, ixz2, ixz3, ixz4, ixz5, ixz6, ixz7, wkL, wkT, ln_seqL, ln_seqT, ln_fix, Option.isSome_some, hX, k_InvalidBundle])
              exact ⟨rfl, trivial⟩
          · (refine wp_cons ?_; simp only [ev_var, ev_cst, ev_glo, ev_bin, ev_neg, ev_cmp, ev_chn, ev_bnd, ev_bor, ev_bnt, ev_ite, ev_tup, ev_lst, ev_alc, ev_frz, ev_sub, ev_slc, ev_att, ev_kon, ev_cal, ev_new, ev_mth, ev_bif, ev_isi, ev_bmt, ev_cmt, ev_fst, es_nil, es_cons, eo_none, eo_some, et_none, et_some, ej_nil, ej_cons, ei_val, ei_rng, ei_enu, ei_zip, x_ex, x_set, x_own, x_unp, x_sti, x_sta, x_aug, x_ret, x_rtn, x_ife, x_for, x_whl, x_brk, x_cnt, x_pas, x_rai, x_par, sat_ok, sat_exc, sat_bind, sat_at, rc_ok, rc_exc, sk_nx, sk_ret, sk_brk, sk_cnt, rk_nx, rk_ret, xk_, ak_t, ak_f, ak_d, ok_t, ok_f, ok_d, bif_d, bif_n, if_t, if_f, callR, okvs, r_ok, r_exc, r_lift, r_lift0, r_calm, r_at, List.getElem?_cons_zero, List.getElem?_cons_succ, List.length_cons, List.length_nil, List.length_map, List.length_set, List.length_append, vw_loc, vw_sl, vw_lst, vw_dct, vw_tup, vw_int, vw_str, vw_bl, vw_non, vw_scr, lk_loc, lk_sl, lk_lst, lk_dct, lk_obj, lk_tup, lk_int, lk_str, lk_bl, lk_non, sb_lst, sb_tup, Option.bind_some, Option.map_some, c_lt, c_le, c_gt, c_ge, c_eqi, c_nei, c_eqb, c_neb, c_eqs, c_nes, decide_false, decide_true, t_bl, t_int, Bool.false_eq_true, if_false, if_true, Nat.reduceAdd, Nat.reduceLT, Nat.reduceSub, f_int, f_lenL, f_lenT, b_add, b_sub, b_mul, b_mod, b_fdv, b_pow, o_non, o_bl, o_int, o_str, o_lst, o_tup, o_dct, o_obj, o_loc, o_scr, List.all_cons, List.all_nil, List.set_cons_zero, List.set_cons_succ, Bool.true_and, Bool.and_true, Bool.and_self, st_lst, List.replicate, List.map_cons, List.map_nil, List.cons_append, List.nil_append, Bool.not_true, Bool.not_false, isL, oOf, lineMax, Nat.reduceLeDiff, Int.reduceLT, Int.reduceLE, Int.reduceAdd, Int.reduceSub, ite_true, ite_false, reduceCtorEq, reduceIte, Bool.or_false, Bool.or_true, Bool.true_or, Bool.false_or, f_sum, f_max, f_min, f_all, f_any, f_sorted, f_list, f_tuple, f_str, f_max2, f_min2, f_lenD, w_listL, w_listT, w_tupL, w_tupT, w_intI, w_intB, w_max2, w_min2, ixz0, ixz1, ixz2, ixz3, ixz4, ixz5, ixz6, ixz7, wkL, wkT, ln_seqL, ln_seqT, ln_fix, Option.isSome_some, e1, ho, whole_no (p := pg) (f := 1) rfl z])
            (refine wp_cons ?_; simp only [ev_var, ev_cst, ev_glo, ev_bin, ev_neg, ev_cmp, ev_chn, ev_bnd, ev_bor, ev_bnt, ev_ite, ev_tup, ev_lst, ev_alc, ev_frz, ev_sub, ev_slc, ev_att, ev_kon, ev_cal, ev_new, ev_mth, ev_bif, ev_isi, ev_bmt, ev_cmt, ev_fst, es_nil, es_cons, eo_none, eo_some, et_none, et_some, ej_nil, ej_cons, ei_val, ei_rng, ei_enu, ei_zip, x_ex, x_set, x_own, x_unp, x_sti, x_sta, x_aug, x_ret, x_rtn, x_ife, x_for, x_whl, x_brk, x_cnt, x_pas, x_rai, x_par, sat_ok, sat_exc, sat_bind, sat_at, rc_ok, rc_exc, sk_nx, sk_ret, sk_brk, sk_cnt, rk_nx, rk_ret, xk_, ak_t, ak_f, ak_d, ok_t, ok_f, ok_d, bif_d, bif_n, if_t, if_f, callR, okvs, r_ok, r_exc, r_lift, r_lift0, r_calm, r_at, List.getElem?_cons_zero, List.getElem?_cons_succ, List.length_cons, List.length_nil, List.length_map, List.length_set, List.length_append, vw_loc, vw_sl, vw_lst, vw_dct, vw_tup, vw_int, vw_str, vw_bl, vw_non, vw_scr, lk_loc, lk_sl, lk_lst, lk_dct, lk_obj, lk_tup, lk_int, lk_str, lk_bl, lk_non, sb_lst, sb_tup, Option.bind_some, Option.map_some, c_lt, c_le, c_gt, c_ge, c_eqi, c_nei, c_eqb, c_neb, c_eqs, c_nes, decide_false, decide_true, t_bl, t_int, Bool.false_eq_true, if_false, if_true, Nat.reduceAdd, Nat.reduceLT, Nat.reduceSub, f_int, f_lenL, f_lenT, b_add, b_sub, b_mul, b_mod, b_fdv, b_pow, o_non, o_bl, o_int, o_str, o_lst, o_tup, o_dct, o_obj, o_loc, o_scr, List.all_cons, List.all_nil, List.set_cons_zero, List.set_cons_succ, Bool.true_and, Bool.and_true, Bool.and_self, st_lst, List.replicate, List.map_cons, List.map_nil, List.cons_append, List.nil_append, Bool.not_true, Bool.not_false, isL, oOf, lineMax, Nat.reduceLeDiff, Int.reduceLT, Int.reduceLE, Int.reduceAdd, Int.reduceSub, ite_true, ite_false, reduceCtorEq, reduceIte, Bool.or_false, Bool.or_true, Bool.true_or, Bool.false_or, f_sum, f_max, f_min, f_all, f_any, f_sorted, f_list, f_tuple, f_str, f_max2, f_min2, f_lenD, w_listL, w_listT, w_tupL, w_tupT, w_intI, w_intB, w_max2, w_min2, ixz0, ixz1, ixz2, ixz3, ixz4, ixz5, ixz6, ixz7, wkL, wkT, ln_seqL, ln_seqT, ln_fix, Option.isSome_some, hX, k_InvalidBundle])
            exact ⟨rfl, trivial⟩
  · rintro st ⟨hi, v3, v4, rfl⟩
    rw [enuW_len] at hi
    omega
/-! the making -/
def BU (P : List (Tx × Int)) (xs : List W) : W := .obj 8 [10, 11] [SH P, .tup xs]
theorem o_BU {xs : List W} : okv (BU P xs) = true := id rfl
theorem hcB : pg.cls[8]? = some k_Bundle := rfl
theorem a_num {cal : Bool → Nat → List W → List OO → RC} {xs : List W} {r : List Sl} {s : List OO} : attR pg cal 11 (.sl 0) ⟨.own (.ins 8 [10, 11] [SH P, .tup xs]) :: r, s⟩ = .ok (.tup xs) ⟨.own (.ins 8 [10, 11] [SH P, .tup xs]) :: r, s⟩ := id rfl
theorem a_numB {cal : Bool → Nat → List W → List OO → RC} {xs : List W} : attR pg cal 11 (BU P xs) st = .ok (.tup xs) st := id rfl
theorem kMC : ((pg.cls[8]?).bind fun c => c.consts.lookup 12) = some (.int 3000) := id rfl
theorem kMT : ((pg.cls[8]?).bind fun c => c.consts.lookup 13) = some (.int 40) := id rfl
theorem fldB1 : fldOk pg 8 10 = true := id rfl
theorem fldB2 : fldOk pg 8 11 = true := id rfl
theorem new_sat {p : Pg} {C g : Nat} {c : Cl} {fn : Fn} {ws : List W} {s : List OO} {Q X} (h : p.cls[C]? = some c) (hg : c.init = some g) (hf : p.fns[g]? = some fn) (hl : ws.length + 1 = fn.np) (fz : c.frozen = true)
    (q : (exSs p (callN p wf n) wf fn.body ⟨(.own (.ins C [] []) :: ws.map .val) ++ List.replicate (fn.nl - (ws.length + 1)) .un, s⟩).Sat (fun f st => f = .nx ∧ ∃ ns xs, st.r[0]? = some (.own (.ins C ns xs)) ∧ Q (.obj C ns xs) st.s) (excK X)) : (callN p wf (n + 1) true C ws s).Sat Q X := by
  rw [callN_new h hg hf hl, fz]
  rw [sat_0] at q
  rw [rc_0]
  revert q
  cases exSs p (callN p wf n) wf fn.body ⟨(.own (.ins C [] []) :: ws.map .val) ++ List.replicate (fn.nl - (ws.length + 1)) .un, s⟩ with
  | stk => exact fun q => q
  | exc x st => exact fun q => q
  | ok f st =>
    rintro ⟨rfl, ns, xs, h1, h2⟩
    show RC.Sat0 (match (st.r[0]? : Option Sl) with | some (Sl.own (OO.ins C ns xs)) => _ | _ => _) Q X
    rw [h1]
    exact h2
theorem binit {w : W} {xs : List W} {s : List OO} (hw : SeqA s w xs) {Q : Fl → St → Prop} {X : Xn → St → Prop} (h : (callN pg wf (n + 2) false 14 [.tup xs, .int 3000, .int 40] s).Sat (fun _ s' => s' = s ∧ Q .nx ⟨[.own (.ins 8 [10, 11] [SH P, .tup xs]), .val (SH P), .val w], s⟩) (fun x s' => X x ⟨[.own (.ins 8 [10, 11] [SH P, .tup xs]), .val (SH P), .val w], s'⟩)) :
    (exSs pg (callN pg wf (n + 2)) wf f_Bundle_init.body ⟨[.own (.ins 8 [] []), .val (SH P), .val w], s⟩).Sat Q X := by
  unfold f_Bundle_init
  refine wp_cons (sat_by (sta_own (p := pg) (f := 10) (v := SH P) (ns := []) (xs := []) (r' := [.val (SH P), .val w]) (s' := s) (by rw [evE]; rfl) rfl (by decide) fldB1) ?_)
  rw [sk_nx]
  refine wp_cons (sat_by (sta_own (p := pg) (f := 11) (v := .tup xs) (ns := [10]) (xs := [SH P]) (r' := [.val (SH P), .val w]) (s' := s) ?_ rfl (by decide) fldB2) ?_)
  · have e1 : evE pg (callN pg wf (n + 2)) (.var 2) ⟨[.own (.ins 8 [10] [SH P]), .val (SH P), .val w], s⟩ = .ok w ⟨[.own (.ins 8 [10] [SH P]), .val (SH P), .val w], s⟩ := by rw [evE]; rfl
    have e2 : evE pg (callN pg wf (n + 2)) (.bif .tuple [(.var 2)]) ⟨[.own (.ins 8 [10] [SH P]), .val (SH P), .val w], s⟩ = R.lift ⟨[.own (.ins 8 [10] [SH P]), .val (SH P), .val w], s⟩ (bifW .tuple [vw ⟨[.own (.ins 8 [10] [SH P]), .val (SH P), .val w], s⟩ w]) := by
      rw [evE, evEs, e1, r_ok, evEs, r_ok, r_ok]
      rfl
    exact e2.trans (by rw [(hw.2 _).2]; rfl)
  · rw [sk_nx]
    refine wp_cons ?_
    show (exS pg (callN pg wf (n + 2)) wf (.ex (.cal 14 [(.att (.var 0) 11), (.kon 8 12), (.kon 8 13)])) ⟨[.own (.ins 8 [10, 11] [SH P, .tup xs]), .val (SH P), .val w], s⟩).Sat _ _
    (simp only [ev_var, ev_cst, ev_glo, ev_bin, ev_neg, ev_cmp, ev_chn, ev_bnd, ev_bor, ev_bnt, ev_ite, ev_tup, ev_lst, ev_alc, ev_frz, ev_sub, ev_slc, ev_att, ev_kon, ev_cal, ev_new, ev_mth, ev_bif, ev_isi, ev_bmt, ev_cmt, ev_fst, es_nil, es_cons, eo_none, eo_some, et_none, et_some, ej_nil, ej_cons, ei_val, ei_rng, ei_enu, ei_zip, x_ex, x_set, x_own, x_unp, x_sti, x_sta, x_aug, x_ret, x_rtn, x_ife, x_for, x_whl, x_brk, x_cnt, x_pas, x_rai, x_par, sat_ok, sat_exc, sat_bind, sat_at, rc_ok, rc_exc, sk_nx, sk_ret, sk_brk, sk_cnt, rk_nx, rk_ret, xk_, ak_t, ak_f, ak_d, ok_t, ok_f, ok_d, bif_d, bif_n, if_t, if_f, callR, okvs, r_ok, r_exc, r_lift, r_lift0, r_calm, r_at, List.getElem?_cons_zero, List.getElem?_cons_succ, List.length_cons, List.length_nil, List.length_map, List.length_set, List.length_append, vw_loc, vw_sl, vw_lst, vw_dct, vw_tup, vw_int, vw_str, vw_bl, vw_non, vw_scr, lk_loc, lk_sl, lk_lst, lk_dct, lk_obj, lk_tup, lk_int, lk_str, lk_bl, lk_non, sb_lst, sb_tup, Option.bind_some, Option.map_some, c_lt, c_le, c_gt, c_ge, c_eqi, c_nei, c_eqb, c_neb, c_eqs, c_nes, decide_false, decide_true, t_bl, t_int, Bool.false_eq_true, if_false, if_true, Nat.reduceAdd, Nat.reduceLT, Nat.reduceSub, f_int, f_lenL, f_lenT, b_add, b_sub, b_mul, b_mod, b_fdv, b_pow, o_non, o_bl, o_int, o_str, o_lst, o_tup, o_dct, o_obj, o_loc, o_scr, List.all_cons, List.all_nil, List.set_cons_zero, List.set_cons_succ, Bool.true_and, Bool.and_true, Bool.and_self, st_lst, List.replicate, List.map_cons, List.map_nil, List.cons_append, List.nil_append, Bool.not_true, Bool.not_false, isL, oOf, lineMax, Nat.reduceLeDiff, Int.reduceLT, Int.reduceLE, Int.reduceAdd, Int.reduceSub, ite_true, ite_false, reduceCtorEq, reduceIte, Bool.or_false, Bool.or_true, Bool.true_or, Bool.false_or, f_sum, f_max, f_min, f_all, f_any, f_sorted, f_list, f_tuple, f_str, f_max2, f_min2, f_lenD, w_listL, w_listT, w_tupL, w_tupT, w_intI, w_intB, w_max2, w_min2, ixz0, ixz1, ixz2, ixz3, ixz4, ixz5, ixz6, ixz7, wkL, wkT, ln_seqL, ln_seqT, ln_fix, Option.isSome_some, a_num, kMC, kMT])
    refine h.mono (fun _ s' z => ?_) fun _ _ z => z
    obtain ⟨rfl, z⟩ := z
    exact wp_nil z
theorem bundle_ok {w : W} {xs : List W} {s : List OO} (hw : SeqA s w xs) (hg : ∀ i, i < xs.length → GdAt xs i) (hl : xs.length ≤ 3000) : callN pg wf (n + 3) true 8 [SH P, w] s = .ok (BU P xs) s := by
  refine rc_eq.mp (new_sat (p := pg) hcB rfl (fn := f_Bundle_init) rfl rfl rfl ?_)
  refine binit hw (rc_by (chk_ok hg hl) ?_)
  exact ⟨rfl, rfl, [10, 11], _, rfl, rfl, rfl⟩
theorem bundle_exc {w : W} {xs : List W} {x : W} {k : Nat} {s : List OO} (hw : SeqA s w xs) (hg : ∀ i, i < k → GdAt xs i) (hk : k ≤ 3000) (hx : xs[k]? = some x) (ho : okv x = true) (hb : k = 3000 ∨ Bad x) : callN pg wf (n + 3) true 8 [SH P, w] s = .exc (XB k) s := by
  refine rc_eqx.mp (new_sat (p := pg) hcB rfl (fn := f_Bundle_init) rfl rfl rfl ?_)
  refine binit hw (rc_byx (chk_exc hg hk hx ho hb) ?_)
  exact ⟨rfl, rfl⟩
theorem counts_ok {xs : List W} {s : List OO} : callN pg wf (n + 1) false 22 [BU P xs] s = .ok (.loc s.length) (s ++ [.lst xs]) := by
  refine rc_eq.mp (wp_call (fn := f_Bundle_counts) rfl rfl ?_)
  unfold f_Bundle_counts
  (refine wp_cons ?_; simp only [ev_var, ev_cst, ev_glo, ev_bin, ev_neg, ev_cmp, ev_chn, ev_bnd, ev_bor, ev_bnt, ev_ite, ev_tup, ev_lst, ev_alc, ev_frz, ev_sub, ev_slc, ev_att, ev_kon, ev_cal, ev_new, ev_mth, ev_bif, ev_isi, ev_bmt, ev_cmt, ev_fst, es_nil, es_cons, eo_none, eo_some, et_none, et_some, ej_nil, ej_cons, ei_val, ei_rng, ei_enu, ei_zip, x_ex, x_set, x_own, x_unp, x_sti, x_sta, x_aug, x_ret, x_rtn, x_ife, x_for, x_whl, x_brk, x_cnt, x_pas, x_rai, x_par, sat_ok, sat_exc, sat_bind, sat_at, rc_ok, rc_exc, sk_nx, sk_ret, sk_brk, sk_cnt, rk_nx, rk_ret, xk_, ak_t, ak_f, ak_d, ok_t, ok_f, ok_d, bif_d, bif_n, if_t, if_f, callR, okvs, r_ok, r_exc, r_lift, r_lift0, r_calm, r_at, List.getElem?_cons_zero, List.getElem?_cons_succ, List.length_cons, List.length_nil, List.length_map, List.length_set, List.length_append, vw_loc, vw_sl, vw_lst, vw_dct, vw_tup, vw_int, vw_str, vw_bl, vw_non, vw_scr, lk_loc, lk_sl, lk_lst, lk_dct, lk_obj, lk_tup, lk_int, lk_str, lk_bl, lk_non, sb_lst, sb_tup, Option.bind_some, Option.map_some, c_lt, c_le, c_gt, c_ge, c_eqi, c_nei, c_eqb, c_neb, c_eqs, c_nes, decide_false, decide_true, t_bl, t_int, Bool.false_eq_true, if_false, if_true, Nat.reduceAdd, Nat.reduceLT, Nat.reduceSub, f_int, f_lenL, f_lenT, b_add, b_sub, b_mul, b_mod, b_fdv, b_pow, o_non, o_bl, o_int, o_str, o_lst, o_tup, o_dct, o_obj, o_loc, o_scr, List.all_cons, List.all_nil, List.set_cons_zero, List.set_cons_succ, Bool.true_and, Bool.and_true, Bool.and_self, st_lst, List.replicate, List.map_cons, List.map_nil, List.cons_append, List.nil_append, Bool.not_true, Bool.not_false, isL, oOf, lineMax, Nat.reduceLeDiff, Int.reduceLT, Int.reduceLE, Int.reduceAdd, Int.reduceSub, ite_true, ite_false, reduceCtorEq, reduceIte, Bool.or_false, Bool.or_true, Bool.true_or, Bool.false_or, f_sum, f_max, f_min, f_all, f_any, f_sorted, f_list, f_tuple, f_str, f_max2, f_min2, f_lenD, w_listL, w_listT, w_tupL, w_tupT, w_intI, w_intB, w_max2, w_min2, ixz0, ixz1, ixz2, ixz3, ixz4, ixz5, ixz6, ixz7, wkL, wkT, ln_seqL, ln_seqT, ln_fix, Option.isSome_some, a_numB])
  exact ⟨trivial, trivial⟩
end
end G

/-! N11: k06: the law. -/
namespace G
open Ev
section
variable {wf n : Nat} {st : St}
def J1 (ns : List Int) (P : List (Tx × Int)) (_ : Nat) (st : St) : Prop := ∃ v3 v4 v5 v6 v7 v8 a b m t, nO v5 = true ∧ (0 : Int) ≤ a ∧
  st = ⟨[.val (.scr ns), .val (.loc 1), .val (SH P), v3, v4, v5, v6, v7, v8, .un, .un], .tab :: feedO ns a b m :: t⟩
def odds : List W := [.int 41, .int (-1), .bl true, .bl false, .non, .str [50], .tup [.int 1], .int 10000000000000000000000000, .int (-10000000000000000000000000)]
theorem odds_bad : ∀ x ∈ odds, Bad x := by
  intro x hx
  simp only [odds, List.mem_cons, List.not_mem_nil, or_false] at hx
  rcases hx with rfl | rfl | rfl | rfl | rfl | rfl | rfl | rfl | rfl
  · exact .inl ⟨_, rfl, .inr (by decide)⟩
  · exact .inl ⟨_, rfl, .inl (by decide)⟩
  · exact .inr (.inl ⟨_, rfl⟩)
  · exact .inr (.inl ⟨_, rfl⟩)
  · exact .inr (.inr (.inl rfl))
  · exact .inr (.inr (.inr (.inl ⟨_, rfl⟩)))
  · exact .inr (.inr (.inr (.inr ⟨_, rfl⟩)))
  · exact .inl ⟨_, rfl, .inr (by decide)⟩
  · exact .inl ⟨_, rfl, .inl (by decide)⟩
theorem pw25 {cal : Bool → Nat → List W → List OO → RC} : binR pg cal .pow (.int 10) (.int 25) st = .ok (.int 10000000000000000000000000) st := id rfl
theorem late_rfd {P : List (Tx × Int)} {r : List Sl} {s : List OO} {late : List W} {k : Nat} {o : W} (h2 : r[2]? = some (.val (SH P))) (h8 : r[8]? = some (.val (.lst late))) (lg : ∀ i, i < k → GdAt late i) (hk : k ≤ 3000) (lk : late[k]? = some o) (ho : okv o = true) (hb : Bad o) :
    evE pg (callN pg wf (n + 3)) (.rfd 35 (.new 8 [(.var 2), (.var 8)])) ⟨r, .tab :: s⟩ = .ok (.tup [.str xIB, .int k]) ⟨r, .tab :: s⟩ := by
  have e1 : evEs pg (callN pg wf (n + 3)) [(.var 2), (.var 8)] ⟨r, .tab :: s⟩ = .ok [SH P, .lst late] ⟨r, .tab :: s⟩ := by
    simp only [es_cons, es_nil, ev_var, h2, h8, r_ok]
  have ex := bundle_exc (wf := wf) (n := n) (P := P) (s := .tab :: s) (sa_lst (xs := late)) lg hk lk ho (.inr hb)
  have e2 := ev_newx (p := pg) (cal := callN pg wf (n + 3)) (C := 8) e1 rfl ex
  exact rfd_exc (p := pg) (g := 35) (C := 3) (ns := [16, 15]) (xs := [.int k, .str xIB]) (c := xIB) (w := .int k) rfl e2 rfl rfl rfl
theorem dOk_told {c : Tx} {k : Int} : dOk (.tup [.str c, .int k]) = true := id rfl
theorem ne_told {cal : Bool → Nat → List W → List OO → RC} {k : Int} : cmpR pg cal .ne (.tup [.str xIB, .int k]) (.tup [.str [73, 110, 118, 97, 108, 105, 100, 66, 117, 110, 100, 108, 101], .int k]) st = .ok (.bl false) st := by
  have h1 : ∀ xs, clsOf st (.tup xs) = none := fun _ => rfl
  have h3 : eqD (.tup [.str xIB, .int k]) (.tup [.str [73, 110, 118, 97, 108, 105, 100, 66, 117, 110, 100, 108, 101], .int k]) = true := by simp [eqD, eqDs, xIB]
  simp only [cmpR, h1, vw_tup, cmpW, dOk_told, Bool.and_self, if_true, h3, Option.map_some, r_lift, Bool.not_true]
theorem m_ct {P : List (Tx × Int)} {xs : List W} : mthF pg 23 (BU P xs) st = some 22 := id rfl
theorem many_rfd {P : List (Tx × Int)} {r : List Sl} {s s' : List OO} {many d : Int} (h1 : r[1]? = some (.val (.loc 1))) (h2 : r[2]? = some (.val (SH P))) (h9 : r[9]? = some (.val (.int many))) (hm : 2999 ≤ many ∧ many ≤ 3002) (e : callN pg wf (n + 3) false 31 [.loc 1, .int 3] (.tab :: s) = .ok (.int d) (.tab :: s')) (hd : 0 ≤ d ∧ d ≤ 40) :
    evE pg (callN pg wf (n + 3)) (.rfd 35 (.new 8 [(.var 2), (.bin .mul (.lst [(.cal 31 [(.var 1), (.cst (.int 3))])]) (.var 9))])) ⟨r, .tab :: s⟩ = .ok (if many < 3001 then .tup [.str [], .non] else .tup [.str xIB, .int 3000]) ⟨r, .tab :: s'⟩ := by
  have lr : (List.replicate many.toNat (W.int d)).length = many.toNat := List.length_replicate
  have gr : ∀ i, i < many.toNat → GdAt (List.replicate many.toNat (W.int d)) i := fun i hi => ⟨d, by rw [List.getElem?_replicate, if_pos hi], hd.1, hd.2⟩
  have e1 : evEs pg (callN pg wf (n + 3)) [(.var 2), (.bin .mul (.lst [(.cal 31 [(.var 1), (.cst (.int 3))])]) (.var 9))] ⟨r, .tab :: s⟩ = .ok [SH P, .lst (List.replicate many.toNat (.int d))] ⟨r, .tab :: s'⟩ := by
    have e2 : evE pg (callN pg wf (n + 3)) (.cal 31 [(.var 1), (.cst (.int 3))]) ⟨r, .tab :: s⟩ = .ok (.int d) ⟨r, .tab :: s'⟩ := by
      simp only [ev_cal, es_cons, es_nil, ev_var, ev_cst, h1, r_ok, callR, okvs, List.all_cons, List.all_nil, o_loc, o_int, Bool.and_self, Bool.and_true, if_true, e, r_at]
    have e3 : evE pg (callN pg wf (n + 3)) (.lst [(.cal 31 [(.var 1), (.cst (.int 3))])]) ⟨r, .tab :: s⟩ = .ok (.lst [.int d]) ⟨r, .tab :: s'⟩ := by
      simp only [ev_lst, es_cons, es_nil, e2, r_ok, okvs, List.all_cons, List.all_nil, o_int, Bool.and_true, List.length_cons, List.length_nil, Nat.reduceAdd, lineMax, Nat.reduceLeDiff, decide_true, if_true]
    have e4 : evE pg (callN pg wf (n + 3)) (.bin .mul (.lst [(.cal 31 [(.var 1), (.cst (.int 3))])]) (.var 9)) ⟨r, .tab :: s⟩ = .ok (.lst (List.replicate many.toNat (.int d))) ⟨r, .tab :: s'⟩ := by
      have e5 : evE pg (callN pg wf (n + 3)) (.var 9) ⟨r, .tab :: s'⟩ = .ok (.int many) ⟨r, .tab :: s'⟩ := by rw [ev_var, h9]
      rw [ev_bin, e3, r_ok, e5, r_ok, mul_one ⟨by omega, by omega⟩]
    have e6 : evE pg (callN pg wf (n + 3)) (.var 2) ⟨r, .tab :: s⟩ = .ok (SH P) ⟨r, .tab :: s⟩ := by rw [ev_var, h2]
    rw [es_cons, e6, r_ok, es_cons, e4, r_ok, es_nil, r_ok, r_ok]
  by_cases h : many < 3001
  · rw [if_pos h]
    have bo := bundle_ok (wf := wf) (n := n) (P := P) (s := .tab :: s') (sa_lst (xs := List.replicate many.toNat (W.int d))) (fun i hi => gr i (by rw [lr] at hi; exact hi)) (by rw [lr]; omega)
    exact rfd_ok rfl (ev_newo (p := pg) (cal := callN pg wf (n + 3)) (C := 8) e1 rfl bo)
  · rw [if_neg h]
    have bx := bundle_exc (wf := wf) (n := n) (P := P) (s := .tab :: s') (k := 3000) (x := .int d) (sa_lst (xs := List.replicate many.toNat (W.int d))) (fun i hi => gr i (by omega)) (Nat.le_refl _) (by rw [List.getElem?_replicate, if_pos (by omega)]) rfl (.inl rfl)
    have e2 := ev_newx (p := pg) (cal := callN pg wf (n + 3)) (C := 8) e1 rfl bx
    exact rfd_exc (p := pg) (g := 35) (C := 3) (ns := [16, 15]) (xs := [.int (3000 : Nat), .str xIB]) (c := xIB) (w := .int (3000 : Nat)) rfl e2 rfl rfl rfl
theorem eq_told0 {cal : Bool → Nat → List W → List OO → RC} : cmpR pg cal .eq (.tup [.str [], .non]) (.tup [.str [], .non]) st = .ok (.bl true) st := id rfl
theorem eq_told1 {cal : Bool → Nat → List W → List OO → RC} : cmpR pg cal .eq (.tup [.str xIB, .int 3000]) (.tup [.str [73, 110, 118, 97, 108, 105, 100, 66, 117, 110, 100, 108, 101], .int 3000]) st = .ok (.bl true) st := id rfl
set_option maxHeartbeats 4000000 in
theorem law_ok {ns : List Int} (hl : ns.length ≤ 63) : (callN pg wf (n + 10) false 38 [.scr ns] [.tab]).Sat (fun w _ => w = .bl true) (fun _ _ => False) := by
  refine wp_call (fn := f_law) rfl rfl ?_
  unfold f_law
  (simp only [ev_var, ev_cst, ev_glo, ev_bin, ev_neg, ev_cmp, ev_chn, ev_bnd, ev_bor, ev_bnt, ev_ite, ev_tup, ev_lst, ev_alc, ev_frz, ev_sub, ev_slc, ev_att, ev_kon, ev_cal, ev_new, ev_mth, ev_bif, ev_isi, ev_bmt, ev_cmt, ev_fst, es_nil, es_cons, eo_none, eo_some, et_none, et_some, ej_nil, ej_cons, ei_val, ei_rng, ei_enu, ei_zip, x_ex, x_set, x_own, x_unp, x_sti, x_sta, x_aug, x_ret, x_rtn, x_ife, x_for, x_whl, x_brk, x_cnt, x_pas, x_rai, x_par, sat_ok, sat_exc, sat_bind, sat_at, rc_ok, rc_exc, sk_nx, sk_ret, sk_brk, sk_cnt, rk_nx, rk_ret, xk_, ak_t, ak_f, ak_d, ok_t, ok_f, ok_d, bif_d, bif_n, if_t, if_f, callR, okvs, r_ok, r_exc, r_lift, r_lift0, r_calm, r_at, List.getElem?_cons_zero, List.getElem?_cons_succ, List.length_cons, List.length_nil, List.length_map, List.length_set, List.length_append, vw_loc, vw_sl, vw_lst, vw_dct, vw_tup, vw_int, vw_str, vw_bl, vw_non, vw_scr, lk_loc, lk_sl, lk_lst, lk_dct, lk_obj, lk_tup, lk_int, lk_str, lk_bl, lk_non, sb_lst, sb_tup, Option.bind_some, Option.map_some, c_lt, c_le, c_gt, c_ge, c_eqi, c_nei, c_eqb, c_neb, c_eqs, c_nes, decide_false, decide_true, t_bl, t_int, Bool.false_eq_true, if_false, if_true, Nat.reduceAdd, Nat.reduceLT, Nat.reduceSub, f_int, f_lenL, f_lenT, b_add, b_sub, b_mul, b_mod, b_fdv, b_pow, o_non, o_bl, o_int, o_str, o_lst, o_tup, o_dct, o_obj, o_loc, o_scr, List.all_cons, List.all_nil, List.set_cons_zero, List.set_cons_succ, Bool.true_and, Bool.and_true, Bool.and_self, st_lst, List.replicate, List.map_cons, List.map_nil, List.cons_append, List.nil_append, Bool.not_true, Bool.not_false, isL, oOf, lineMax, Nat.reduceLeDiff, Int.reduceLT, Int.reduceLE, Int.reduceAdd, Int.reduceSub, ite_true, ite_false, reduceCtorEq, reduceIte, Bool.or_false, Bool.or_true, Bool.true_or, Bool.false_or, f_sum, f_max, f_min, f_all, f_any, f_sorted, f_list, f_tuple, f_str, f_max2, f_min2, f_lenD, w_listL, w_listT, w_tupL, w_tupT, w_intI, w_intB, w_max2, w_min2, ixz0, ixz1, ixz2, ixz3, ixz4, ixz5, ixz6, ixz7, wkL, wkT, ln_seqL, ln_seqT, ln_fix, Option.isSome_some])
  (repeat (refine wp_cons ?_; simp only [ev_var, ev_cst, ev_glo, ev_bin, ev_neg, ev_cmp, ev_chn, ev_bnd, ev_bor, ev_bnt, ev_ite, ev_tup, ev_lst, ev_alc, ev_frz, ev_sub, ev_slc, ev_att, ev_kon, ev_cal, ev_new, ev_mth, ev_bif, ev_isi, ev_bmt, ev_cmt, ev_fst, es_nil, es_cons, eo_none, eo_some, et_none, et_some, ej_nil, ej_cons, ei_val, ei_rng, ei_enu, ei_zip, x_ex, x_set, x_own, x_unp, x_sti, x_sta, x_aug, x_ret, x_rtn, x_ife, x_for, x_whl, x_brk, x_cnt, x_pas, x_rai, x_par, sat_ok, sat_exc, sat_bind, sat_at, rc_ok, rc_exc, sk_nx, sk_ret, sk_brk, sk_cnt, rk_nx, rk_ret, xk_, ak_t, ak_f, ak_d, ok_t, ok_f, ok_d, bif_d, bif_n, if_t, if_f, callR, okvs, r_ok, r_exc, r_lift, r_lift0, r_calm, r_at, List.getElem?_cons_zero, List.getElem?_cons_succ, List.length_cons, List.length_nil, List.length_map, List.length_set, List.length_append, vw_loc, vw_sl, vw_lst, vw_dct, vw_tup, vw_int, vw_str, vw_bl, vw_non, vw_scr, lk_loc, lk_sl, lk_lst, lk_dct, lk_obj, lk_tup, lk_int, lk_str, lk_bl, lk_non, sb_lst, sb_tup, Option.bind_some, Option.map_some, c_lt, c_le, c_gt, c_ge, c_eqi, c_nei, c_eqb, c_neb, c_eqs, c_nes, decide_false, decide_true, t_bl, t_int, Bool.false_eq_true, if_false, if_true, Nat.reduceAdd, Nat.reduceLT, Nat.reduceSub, f_int, f_lenL, f_lenT, b_add, b_sub, b_mul, b_mod, b_fdv, b_pow, o_non, o_bl, o_int, o_str, o_lst, o_tup, o_dct, o_obj, o_loc, o_scr, List.all_cons, List.all_nil, List.set_cons_zero, List.set_cons_succ, Bool.true_and, Bool.and_true, Bool.and_self, st_lst, List.replicate, List.map_cons, List.map_nil, List.cons_append, List.nil_append, Bool.not_true, Bool.not_false, isL, oOf, lineMax, Nat.reduceLeDiff, Int.reduceLT, Int.reduceLE, Int.reduceAdd, Int.reduceSub, ite_true, ite_false, reduceCtorEq, reduceIte, Bool.or_false, Bool.or_true, Bool.true_or, Bool.false_or, f_sum, f_max, f_min, f_all, f_any, f_sorted, f_list, f_tuple, f_str, f_max2, f_min2, f_lenD, w_listL, w_listT, w_tupL, w_tupT, w_intI, w_intB, w_max2, w_min2, ixz0, ixz1, ixz2, ixz3, ixz4, ixz5, ixz6, ixz7, wkL, wkT, ln_seqL, ln_seqT, ln_fix, Option.isSome_some]))
  obtain ⟨m, e⟩ := feed_ok (p := pg) (wf := wf) (n := n + 8) (f := 30) rfl hl [.tab]
  refine rc_by e ?_
  (simp only [ev_var, ev_cst, ev_glo, ev_bin, ev_neg, ev_cmp, ev_chn, ev_bnd, ev_bor, ev_bnt, ev_ite, ev_tup, ev_lst, ev_alc, ev_frz, ev_sub, ev_slc, ev_att, ev_kon, ev_cal, ev_new, ev_mth, ev_bif, ev_isi, ev_bmt, ev_cmt, ev_fst, es_nil, es_cons, eo_none, eo_some, et_none, et_some, ej_nil, ej_cons, ei_val, ei_rng, ei_enu, ei_zip, x_ex, x_set, x_own, x_unp, x_sti, x_sta, x_aug, x_ret, x_rtn, x_ife, x_for, x_whl, x_brk, x_cnt, x_pas, x_rai, x_par, sat_ok, sat_exc, sat_bind, sat_at, rc_ok, rc_exc, sk_nx, sk_ret, sk_brk, sk_cnt, rk_nx, rk_ret, xk_, ak_t, ak_f, ak_d, ok_t, ok_f, ok_d, bif_d, bif_n, if_t, if_f, callR, okvs, r_ok, r_exc, r_lift, r_lift0, r_calm, r_at, List.getElem?_cons_zero, List.getElem?_cons_succ, List.length_cons, List.length_nil, List.length_map, List.length_set, List.length_append, vw_loc, vw_sl, vw_lst, vw_dct, vw_tup, vw_int, vw_str, vw_bl, vw_non, vw_scr, lk_loc, lk_sl, lk_lst, lk_dct, lk_obj, lk_tup, lk_int, lk_str, lk_bl, lk_non, sb_lst, sb_tup, Option.bind_some, Option.map_some, c_lt, c_le, c_gt, c_ge, c_eqi, c_nei, c_eqb, c_neb, c_eqs, c_nes, decide_false, decide_true, t_bl, t_int, Bool.false_eq_true, if_false, if_true, Nat.reduceAdd, Nat.reduceLT, Nat.reduceSub, f_int, f_lenL, f_lenT, b_add, b_sub, b_mul, b_mod, b_fdv, b_pow, o_non, o_bl, o_int, o_str, o_lst, o_tup, o_dct, o_obj, o_loc, o_scr, List.all_cons, List.all_nil, List.set_cons_zero, List.set_cons_succ, Bool.true_and, Bool.and_true, Bool.and_self, st_lst, List.replicate, List.map_cons, List.map_nil, List.cons_append, List.nil_append, Bool.not_true, Bool.not_false, isL, oOf, lineMax, Nat.reduceLeDiff, Int.reduceLT, Int.reduceLE, Int.reduceAdd, Int.reduceSub, ite_true, ite_false, reduceCtorEq, reduceIte, Bool.or_false, Bool.or_true, Bool.true_or, Bool.false_or, f_sum, f_max, f_min, f_all, f_any, f_sorted, f_list, f_tuple, f_str, f_max2, f_min2, f_lenD, w_listL, w_listT, w_tupL, w_tupT, w_intI, w_intB, w_max2, w_min2, ixz0, ixz1, ixz2, ixz3, ixz4, ixz5, ixz6, ixz7, wkL, wkT, ln_seqL, ln_seqT, ln_fix, Option.isSome_some])
  (refine wp_cons ?_; simp only [ev_var, ev_cst, ev_glo, ev_bin, ev_neg, ev_cmp, ev_chn, ev_bnd, ev_bor, ev_bnt, ev_ite, ev_tup, ev_lst, ev_alc, ev_frz, ev_sub, ev_slc, ev_att, ev_kon, ev_cal, ev_new, ev_mth, ev_bif, ev_isi, ev_bmt, ev_cmt, ev_fst, es_nil, es_cons, eo_none, eo_some, et_none, et_some, ej_nil, ej_cons, ei_val, ei_rng, ei_enu, ei_zip, x_ex, x_set, x_own, x_unp, x_sti, x_sta, x_aug, x_ret, x_rtn, x_ife, x_for, x_whl, x_brk, x_cnt, x_pas, x_rai, x_par, sat_ok, sat_exc, sat_bind, sat_at, rc_ok, rc_exc, sk_nx, sk_ret, sk_brk, sk_cnt, rk_nx, rk_ret, xk_, ak_t, ak_f, ak_d, ok_t, ok_f, ok_d, bif_d, bif_n, if_t, if_f, callR, okvs, r_ok, r_exc, r_lift, r_lift0, r_calm, r_at, List.getElem?_cons_zero, List.getElem?_cons_succ, List.length_cons, List.length_nil, List.length_map, List.length_set, List.length_append, vw_loc, vw_sl, vw_lst, vw_dct, vw_tup, vw_int, vw_str, vw_bl, vw_non, vw_scr, lk_loc, lk_sl, lk_lst, lk_dct, lk_obj, lk_tup, lk_int, lk_str, lk_bl, lk_non, sb_lst, sb_tup, Option.bind_some, Option.map_some, c_lt, c_le, c_gt, c_ge, c_eqi, c_nei, c_eqb, c_neb, c_eqs, c_nes, decide_false, decide_true, t_bl, t_int, Bool.false_eq_true, if_false, if_true, Nat.reduceAdd, Nat.reduceLT, Nat.reduceSub, f_int, f_lenL, f_lenT, b_add, b_sub, b_mul, b_mod, b_fdv, b_pow, o_non, o_bl, o_int, o_str, o_lst, o_tup, o_dct, o_obj, o_loc, o_scr, List.all_cons, List.all_nil, List.set_cons_zero, List.set_cons_succ, Bool.true_and, Bool.and_true, Bool.and_self, st_lst, List.replicate, List.map_cons, List.map_nil, List.cons_append, List.nil_append, Bool.not_true, Bool.not_false, isL, oOf, lineMax, Nat.reduceLeDiff, Int.reduceLT, Int.reduceLE, Int.reduceAdd, Int.reduceSub, ite_true, ite_false, reduceCtorEq, reduceIte, Bool.or_false, Bool.or_true, Bool.true_or, Bool.false_or, f_sum, f_max, f_min, f_all, f_any, f_sorted, f_list, f_tuple, f_str, f_max2, f_min2, f_lenD, w_listL, w_listT, w_tupL, w_tupT, w_intI, w_intB, w_max2, w_min2, ixz0, ixz1, ixz2, ixz3, ixz4, ixz5, ixz6, ixz7, wkL, wkT, ln_seqL, ln_seqT, ln_fix, Option.isSome_some])
  obtain ⟨P, a, b, hP, e2, ha⟩ := pairs_ok (p := pg) (wf := wf) (n := n + 6) (f := 33) (d := 31) (a := 32) rfl rfl rfl (s := [.tab, feedO ns 0 0 m]) (k := 1) rfl (Int.le_refl 0)
  refine rc_by e2 ?_
  have g := goodP hP
  (simp only [ev_var, ev_cst, ev_glo, ev_bin, ev_neg, ev_cmp, ev_chn, ev_bnd, ev_bor, ev_bnt, ev_ite, ev_tup, ev_lst, ev_alc, ev_frz, ev_sub, ev_slc, ev_att, ev_kon, ev_cal, ev_new, ev_mth, ev_bif, ev_isi, ev_bmt, ev_cmt, ev_fst, es_nil, es_cons, eo_none, eo_some, et_none, et_some, ej_nil, ej_cons, ei_val, ei_rng, ei_enu, ei_zip, x_ex, x_set, x_own, x_unp, x_sti, x_sta, x_aug, x_ret, x_rtn, x_ife, x_for, x_whl, x_brk, x_cnt, x_pas, x_rai, x_par, sat_ok, sat_exc, sat_bind, sat_at, rc_ok, rc_exc, sk_nx, sk_ret, sk_brk, sk_cnt, rk_nx, rk_ret, xk_, ak_t, ak_f, ak_d, ok_t, ok_f, ok_d, bif_d, bif_n, if_t, if_f, callR, okvs, r_ok, r_exc, r_lift, r_lift0, r_calm, r_at, List.getElem?_cons_zero, List.getElem?_cons_succ, List.length_cons, List.length_nil, List.length_map, List.length_set, List.length_append, vw_loc, vw_sl, vw_lst, vw_dct, vw_tup, vw_int, vw_str, vw_bl, vw_non, vw_scr, lk_loc, lk_sl, lk_lst, lk_dct, lk_obj, lk_tup, lk_int, lk_str, lk_bl, lk_non, sb_lst, sb_tup, Option.bind_some, Option.map_some, c_lt, c_le, c_gt, c_ge, c_eqi, c_nei, c_eqb, c_neb, c_eqs, c_nes, decide_false, decide_true, t_bl, t_int, Bool.false_eq_true, if_false, if_true, Nat.reduceAdd, Nat.reduceLT, Nat.reduceSub, f_int, f_lenL, f_lenT, b_add, b_sub, b_mul, b_mod, b_fdv, b_pow, o_non, o_bl, o_int, o_str, o_lst, o_tup, o_dct, o_obj, o_loc, o_scr, List.all_cons, List.all_nil, List.set_cons_zero, List.set_cons_succ, Bool.true_and, Bool.and_true, Bool.and_self, st_lst, List.replicate, List.map_cons, List.map_nil, List.cons_append, List.nil_append, Bool.not_true, Bool.not_false, isL, oOf, lineMax, Nat.reduceLeDiff, Int.reduceLT, Int.reduceLE, Int.reduceAdd, Int.reduceSub, ite_true, ite_false, reduceCtorEq, reduceIte, Bool.or_false, Bool.or_true, Bool.true_or, Bool.false_or, f_sum, f_max, f_min, f_all, f_any, f_sorted, f_list, f_tuple, f_str, f_max2, f_min2, f_lenD, w_listL, w_listT, w_tupL, w_tupT, w_intI, w_intB, w_max2, w_min2, ixz0, ixz1, ixz2, ixz3, ixz4, ixz5, ixz6, ixz7, wkL, wkT, ln_seqL, ln_seqT, ln_fix, Option.isSome_some])
  refine rc_by (shape_ok (p := pg) (wf := wf) (n := n + 6) rfl rfl rfl rfl rfl g sa_lst) ?_
  (simp only [ev_var, ev_cst, ev_glo, ev_bin, ev_neg, ev_cmp, ev_chn, ev_bnd, ev_bor, ev_bnt, ev_ite, ev_tup, ev_lst, ev_alc, ev_frz, ev_sub, ev_slc, ev_att, ev_kon, ev_cal, ev_new, ev_mth, ev_bif, ev_isi, ev_bmt, ev_cmt, ev_fst, es_nil, es_cons, eo_none, eo_some, et_none, et_some, ej_nil, ej_cons, ei_val, ei_rng, ei_enu, ei_zip, x_ex, x_set, x_own, x_unp, x_sti, x_sta, x_aug, x_ret, x_rtn, x_ife, x_for, x_whl, x_brk, x_cnt, x_pas, x_rai, x_par, sat_ok, sat_exc, sat_bind, sat_at, rc_ok, rc_exc, sk_nx, sk_ret, sk_brk, sk_cnt, rk_nx, rk_ret, xk_, ak_t, ak_f, ak_d, ok_t, ok_f, ok_d, bif_d, bif_n, if_t, if_f, callR, okvs, r_ok, r_exc, r_lift, r_lift0, r_calm, r_at, List.getElem?_cons_zero, List.getElem?_cons_succ, List.length_cons, List.length_nil, List.length_map, List.length_set, List.length_append, vw_loc, vw_sl, vw_lst, vw_dct, vw_tup, vw_int, vw_str, vw_bl, vw_non, vw_scr, lk_loc, lk_sl, lk_lst, lk_dct, lk_obj, lk_tup, lk_int, lk_str, lk_bl, lk_non, sb_lst, sb_tup, Option.bind_some, Option.map_some, c_lt, c_le, c_gt, c_ge, c_eqi, c_nei, c_eqb, c_neb, c_eqs, c_nes, decide_false, decide_true, t_bl, t_int, Bool.false_eq_true, if_false, if_true, Nat.reduceAdd, Nat.reduceLT, Nat.reduceSub, f_int, f_lenL, f_lenT, b_add, b_sub, b_mul, b_mod, b_fdv, b_pow, o_non, o_bl, o_int, o_str, o_lst, o_tup, o_dct, o_obj, o_loc, o_scr, List.all_cons, List.all_nil, List.set_cons_zero, List.set_cons_succ, Bool.true_and, Bool.and_true, Bool.and_self, st_lst, List.replicate, List.map_cons, List.map_nil, List.cons_append, List.nil_append, Bool.not_true, Bool.not_false, isL, oOf, lineMax, Nat.reduceLeDiff, Int.reduceLT, Int.reduceLE, Int.reduceAdd, Int.reduceSub, ite_true, ite_false, reduceCtorEq, reduceIte, Bool.or_false, Bool.or_true, Bool.true_or, Bool.false_or, f_sum, f_max, f_min, f_all, f_any, f_sorted, f_list, f_tuple, f_str, f_max2, f_min2, f_lenD, w_listL, w_listT, w_tupL, w_tupT, w_intI, w_intB, w_max2, w_min2, ixz0, ixz1, ixz2, ixz3, ixz4, ixz5, ixz6, ixz7, wkL, wkT, ln_seqL, ln_seqT, ln_fix, Option.isSome_some, o_SH])
  (refine wp_cons ?_; simp only [ev_var, ev_cst, ev_glo, ev_bin, ev_neg, ev_cmp, ev_chn, ev_bnd, ev_bor, ev_bnt, ev_ite, ev_tup, ev_lst, ev_alc, ev_frz, ev_sub, ev_slc, ev_att, ev_kon, ev_cal, ev_new, ev_mth, ev_bif, ev_isi, ev_bmt, ev_cmt, ev_fst, es_nil, es_cons, eo_none, eo_some, et_none, et_some, ej_nil, ej_cons, ei_val, ei_rng, ei_enu, ei_zip, x_ex, x_set, x_own, x_unp, x_sti, x_sta, x_aug, x_ret, x_rtn, x_ife, x_for, x_whl, x_brk, x_cnt, x_pas, x_rai, x_par, sat_ok, sat_exc, sat_bind, sat_at, rc_ok, rc_exc, sk_nx, sk_ret, sk_brk, sk_cnt, rk_nx, rk_ret, xk_, ak_t, ak_f, ak_d, ok_t, ok_f, ok_d, bif_d, bif_n, if_t, if_f, callR, okvs, r_ok, r_exc, r_lift, r_lift0, r_calm, r_at, List.getElem?_cons_zero, List.getElem?_cons_succ, List.length_cons, List.length_nil, List.length_map, List.length_set, List.length_append, vw_loc, vw_sl, vw_lst, vw_dct, vw_tup, vw_int, vw_str, vw_bl, vw_non, vw_scr, lk_loc, lk_sl, lk_lst, lk_dct, lk_obj, lk_tup, lk_int, lk_str, lk_bl, lk_non, sb_lst, sb_tup, Option.bind_some, Option.map_some, c_lt, c_le, c_gt, c_ge, c_eqi, c_nei, c_eqb, c_neb, c_eqs, c_nes, decide_false, decide_true, t_bl, t_int, Bool.false_eq_true, if_false, if_true, Nat.reduceAdd, Nat.reduceLT, Nat.reduceSub, f_int, f_lenL, f_lenT, b_add, b_sub, b_mul, b_mod, b_fdv, b_pow, o_non, o_bl, o_int, o_str, o_lst, o_tup, o_dct, o_obj, o_loc, o_scr, List.all_cons, List.all_nil, List.set_cons_zero, List.set_cons_succ, Bool.true_and, Bool.and_true, Bool.and_self, st_lst, List.replicate, List.map_cons, List.map_nil, List.cons_append, List.nil_append, Bool.not_true, Bool.not_false, isL, oOf, lineMax, Nat.reduceLeDiff, Int.reduceLT, Int.reduceLE, Int.reduceAdd, Int.reduceSub, ite_true, ite_false, reduceCtorEq, reduceIte, Bool.or_false, Bool.or_true, Bool.true_or, Bool.false_or, f_sum, f_max, f_min, f_all, f_any, f_sorted, f_list, f_tuple, f_str, f_max2, f_min2, f_lenD, w_listL, w_listT, w_tupL, w_tupT, w_intI, w_intB, w_max2, w_min2, ixz0, ixz1, ixz2, ixz3, ixz4, ixz5, ixz6, ixz7, wkL, wkT, ln_seqL, ln_seqT, ln_fix, Option.isSome_some, (show rngW [.int 6] = some ([.int 0, .int 1, .int 2, .int 3, .int 4, .int 5]) from rfl)])
  refine sat_for (J1 ns P) (xs := [.int 0, .int 1, .int 2, .int 3, .int 4, .int 5]) (fun _ _ _ => rfl) ?_ ?_ _ 0 _ ⟨_, _, _, _, _, _, a, b, m, [], rfl, ha, rfl⟩ (by decide) (Nat.le_refl _)
  · rintro i x st hx ⟨v3, v4, v5, v6, v7, v8, a, b, m, t, h5, ha, rfl⟩
    have hx2 : okv x = true := by
      have := List.mem_of_getElem? hx
      simp only [List.mem_cons, List.not_mem_nil, or_false] at this
      rcases this with rfl | rfl | rfl | rfl | rfl | rfl <;> rfl
    refine ⟨_, by simp only [tgW, hx2, List.length_cons, List.length_nil, Nat.reduceAdd, Nat.reduceLT, decide_true, Bool.and_self, if_true, List.set_cons_succ, List.set_cons_zero]; rfl, ?_⟩
    -- the numbers
    obtain ⟨d0, a1, b1, e1, g1, g2, ha1⟩ := draw_ok (p := pg) (wf := wf) (n := n + 8) (f := 31) rfl (s := .tab :: feedO ns a b m :: t) (k := 1) rfl ha (many := 9) (by decide) (by decide)
    have hi : evI pg (callN pg wf (n + 9)) (.rng [(.cal 31 [(.var 1), (.cst (.int 9))])]) ⟨[.val (.scr ns), .val (.loc 1), .val (SH P), .val x, v4, v5, v6, v7, v8, .un, .un], .tab :: feedO ns a b m :: t⟩ = .ok (.fix ((List.range d0.toNat).map fun (k : Nat) => W.int (k : Int))) ⟨[.val (.scr ns), .val (.loc 1), .val (SH P), .val x, v4, v5, v6, v7, v8, .un, .un], .tab :: feedO ns a1 b1 m :: t⟩ := by
      refine evI_rng (ws := [.int d0]) ?_ ?_
      · simp only [s_cons, s_nil, exS, evE, evEs, evO, evT, r_ok, r_lift, r_lift0, r_calm, r_at, e_nx, e_ret, List.getElem?_cons_zero, List.getElem?_cons_succ, vw_loc, vw_sl, vw_lst, vw_dct, vw_tup, vw_int, vw_str, vw_bl, vw_non, vw_scr, lk_loc, lk_sl, lk_lst, lk_dct, lk_obj, lk_tup, lk_int, lk_str, lk_bl, lk_non, sb_lst, sb_tup, List.length_cons, List.length_nil, List.length_map, ix40, ix41, ix42, ix43, ix20, ix21, Option.bind_some, Option.map_some, c_lt, c_le, c_gt, c_ge, c_eqi, c_nei, c_eqb, c_neb, c_eqs, c_nes, decide_false, decide_true, t_bl, t_int, Bool.false_eq_true, if_false, if_true, Nat.reduceAdd, Nat.reduceLT, Nat.reduceSub, f_int, f_lenL, f_lenT, b_add, b_sub, b_mul, b_mod, b_fdv, b_pow, o_non, o_bl, o_int, o_str, o_lst, o_tup, o_dct, o_obj, o_loc, o_scr, okvs, List.all_cons, List.all_nil, List.set_cons_zero, List.set_cons_succ, Bool.true_and, Bool.and_true, st_lst, List.replicate, List.map_cons, List.map_nil, List.cons_append, List.nil_append, Bool.not_true, Bool.not_false, ml1, ml2, ml3, ml4, ml5, ml6, ml7, ml8, callR, e1]
      · simp only [rngW]
        rw [if_pos (by omega)]
    obtain ⟨ys, a2, b2, e3, hy, hy2, ha2⟩ := draws_ok (p := pg) (wf := wf) (n := n + 8) (d := 31) rfl (a := 1) (k := 1) (kc := 5) (m := 41) hi (fun z hz => by obtain ⟨k, _, rfl⟩ := List.mem_map.mp hz; rfl) rfl (by decide) (by simp only [noOwn_get, noOwn_nil, List.getElem?_cons_succ, List.getElem?_cons_zero, nOo_, h5, Bool.and_self]) (by rw [List.length_map, List.length_range]; show _ ≤ 16777216; omega) rfl ha1 (by decide)
    rw [List.length_map, List.length_range] at hy
    refine wp_cons ?_
    (simp only [ev_var, ev_cst, ev_glo, ev_bin, ev_neg, ev_cmp, ev_chn, ev_bnd, ev_bor, ev_bnt, ev_ite, ev_tup, ev_lst, ev_alc, ev_frz, ev_sub, ev_slc, ev_att, ev_kon, ev_cal, ev_new, ev_mth, ev_bif, ev_isi, ev_bmt, ev_cmt, ev_fst, es_nil, es_cons, eo_none, eo_some, et_none, et_some, ej_nil, ej_cons, ei_val, ei_rng, ei_enu, ei_zip, x_ex, x_set, x_own, x_unp, x_sti, x_sta, x_aug, x_ret, x_rtn, x_ife, x_for, x_whl, x_brk, x_cnt, x_pas, x_rai, x_par, sat_ok, sat_exc, sat_bind, sat_at, rc_ok, rc_exc, sk_nx, sk_ret, sk_brk, sk_cnt, rk_nx, rk_ret, xk_, ak_t, ak_f, ak_d, ok_t, ok_f, ok_d, bif_d, bif_n, if_t, if_f, callR, okvs, r_ok, r_exc, r_lift, r_lift0, r_calm, r_at, List.getElem?_cons_zero, List.getElem?_cons_succ, List.length_cons, List.length_nil, List.length_map, List.length_set, List.length_append, vw_loc, vw_sl, vw_lst, vw_dct, vw_tup, vw_int, vw_str, vw_bl, vw_non, vw_scr, lk_loc, lk_sl, lk_lst, lk_dct, lk_obj, lk_tup, lk_int, lk_str, lk_bl, lk_non, sb_lst, sb_tup, Option.bind_some, Option.map_some, c_lt, c_le, c_gt, c_ge, c_eqi, c_nei, c_eqb, c_neb, c_eqs, c_nes, decide_false, decide_true, t_bl, t_int, Bool.false_eq_true, if_false, if_true, Nat.reduceAdd, Nat.reduceLT, Nat.reduceSub, f_int, f_lenL, f_lenT, b_add, b_sub, b_mul, b_mod, b_fdv, b_pow, o_non, o_bl, o_int, o_str, o_lst, o_tup, o_dct, o_obj, o_loc, o_scr, List.all_cons, List.all_nil, List.set_cons_zero, List.set_cons_succ, Bool.true_and, Bool.and_true, Bool.and_self, st_lst, List.replicate, List.map_cons, List.map_nil, List.cons_append, List.nil_append, Bool.not_true, Bool.not_false, isL, oOf, lineMax, Nat.reduceLeDiff, Int.reduceLT, Int.reduceLE, Int.reduceAdd, Int.reduceSub, ite_true, ite_false, reduceCtorEq, reduceIte, Bool.or_false, Bool.or_true, Bool.true_or, Bool.false_or, f_sum, f_max, f_min, f_all, f_any, f_sorted, f_list, f_tuple, f_str, f_max2, f_min2, f_lenD, w_listL, w_listT, w_tupL, w_tupT, w_intI, w_intB, w_max2, w_min2, ixz0, ixz1, ixz2, ixz3, ixz4, ixz5, ixz6, ixz7, wkL, wkT, ln_seqL, ln_seqT, ln_fix, Option.isSome_some])
    refine sat_by e3 ?_
    (simp only [ev_var, ev_cst, ev_glo, ev_bin, ev_neg, ev_cmp, ev_chn, ev_bnd, ev_bor, ev_bnt, ev_ite, ev_tup, ev_lst, ev_alc, ev_frz, ev_sub, ev_slc, ev_att, ev_kon, ev_cal, ev_new, ev_mth, ev_bif, ev_isi, ev_bmt, ev_cmt, ev_fst, es_nil, es_cons, eo_none, eo_some, et_none, et_some, ej_nil, ej_cons, ei_val, ei_rng, ei_enu, ei_zip, x_ex, x_set, x_own, x_unp, x_sti, x_sta, x_aug, x_ret, x_rtn, x_ife, x_for, x_whl, x_brk, x_cnt, x_pas, x_rai, x_par, sat_ok, sat_exc, sat_bind, sat_at, rc_ok, rc_exc, sk_nx, sk_ret, sk_brk, sk_cnt, rk_nx, rk_ret, xk_, ak_t, ak_f, ak_d, ok_t, ok_f, ok_d, bif_d, bif_n, if_t, if_f, callR, okvs, r_ok, r_exc, r_lift, r_lift0, r_calm, r_at, List.getElem?_cons_zero, List.getElem?_cons_succ, List.length_cons, List.length_nil, List.length_map, List.length_set, List.length_append, vw_loc, vw_sl, vw_lst, vw_dct, vw_tup, vw_int, vw_str, vw_bl, vw_non, vw_scr, lk_loc, lk_sl, lk_lst, lk_dct, lk_obj, lk_tup, lk_int, lk_str, lk_bl, lk_non, sb_lst, sb_tup, Option.bind_some, Option.map_some, c_lt, c_le, c_gt, c_ge, c_eqi, c_nei, c_eqb, c_neb, c_eqs, c_nes, decide_false, decide_true, t_bl, t_int, Bool.false_eq_true, if_false, if_true, Nat.reduceAdd, Nat.reduceLT, Nat.reduceSub, f_int, f_lenL, f_lenT, b_add, b_sub, b_mul, b_mod, b_fdv, b_pow, o_non, o_bl, o_int, o_str, o_lst, o_tup, o_dct, o_obj, o_loc, o_scr, List.all_cons, List.all_nil, List.set_cons_zero, List.set_cons_succ, Bool.true_and, Bool.and_true, Bool.and_self, st_lst, List.replicate, List.map_cons, List.map_nil, List.cons_append, List.nil_append, Bool.not_true, Bool.not_false, isL, oOf, lineMax, Nat.reduceLeDiff, Int.reduceLT, Int.reduceLE, Int.reduceAdd, Int.reduceSub, ite_true, ite_false, reduceCtorEq, reduceIte, Bool.or_false, Bool.or_true, Bool.true_or, Bool.false_or, f_sum, f_max, f_min, f_all, f_any, f_sorted, f_list, f_tuple, f_str, f_max2, f_min2, f_lenD, w_listL, w_listT, w_tupL, w_tupT, w_intI, w_intB, w_max2, w_min2, ixz0, ixz1, ixz2, ixz3, ixz4, ixz5, ixz6, ixz7, wkL, wkT, ln_seqL, ln_seqT, ln_fix, Option.isSome_some])
    have hyl : ys.length ≤ 8 := by omega
    -- the place
    refine wp_cons ?_
    (simp only [ev_var, ev_cst, ev_glo, ev_bin, ev_neg, ev_cmp, ev_chn, ev_bnd, ev_bor, ev_bnt, ev_ite, ev_tup, ev_lst, ev_alc, ev_frz, ev_sub, ev_slc, ev_att, ev_kon, ev_cal, ev_new, ev_mth, ev_bif, ev_isi, ev_bmt, ev_cmt, ev_fst, es_nil, es_cons, eo_none, eo_some, et_none, et_some, ej_nil, ej_cons, ei_val, ei_rng, ei_enu, ei_zip, x_ex, x_set, x_own, x_unp, x_sti, x_sta, x_aug, x_ret, x_rtn, x_ife, x_for, x_whl, x_brk, x_cnt, x_pas, x_rai, x_par, sat_ok, sat_exc, sat_bind, sat_at, rc_ok, rc_exc, sk_nx, sk_ret, sk_brk, sk_cnt, rk_nx, rk_ret, xk_, ak_t, ak_f, ak_d, ok_t, ok_f, ok_d, bif_d, bif_n, if_t, if_f, callR, okvs, r_ok, r_exc, r_lift, r_lift0, r_calm, r_at, List.getElem?_cons_zero, List.getElem?_cons_succ, List.length_cons, List.length_nil, List.length_map, List.length_set, List.length_append, vw_loc, vw_sl, vw_lst, vw_dct, vw_tup, vw_int, vw_str, vw_bl, vw_non, vw_scr, lk_loc, lk_sl, lk_lst, lk_dct, lk_obj, lk_tup, lk_int, lk_str, lk_bl, lk_non, sb_lst, sb_tup, Option.bind_some, Option.map_some, c_lt, c_le, c_gt, c_ge, c_eqi, c_nei, c_eqb, c_neb, c_eqs, c_nes, decide_false, decide_true, t_bl, t_int, Bool.false_eq_true, if_false, if_true, Nat.reduceAdd, Nat.reduceLT, Nat.reduceSub, f_int, f_lenL, f_lenT, b_add, b_sub, b_mul, b_mod, b_fdv, b_pow, o_non, o_bl, o_int, o_str, o_lst, o_tup, o_dct, o_obj, o_loc, o_scr, List.all_cons, List.all_nil, List.set_cons_zero, List.set_cons_succ, Bool.true_and, Bool.and_true, Bool.and_self, st_lst, List.replicate, List.map_cons, List.map_nil, List.cons_append, List.nil_append, Bool.not_true, Bool.not_false, isL, oOf, lineMax, Nat.reduceLeDiff, Int.reduceLT, Int.reduceLE, Int.reduceAdd, Int.reduceSub, ite_true, ite_false, reduceCtorEq, reduceIte, Bool.or_false, Bool.or_true, Bool.true_or, Bool.false_or, f_sum, f_max, f_min, f_all, f_any, f_sorted, f_list, f_tuple, f_str, f_max2, f_min2, f_lenD, w_listL, w_listT, w_tupL, w_tupT, w_intI, w_intB, w_max2, w_min2, ixz0, ixz1, ixz2, ixz3, ixz4, ixz5, ixz6, ixz7, wkL, wkT, ln_seqL, ln_seqT, ln_fix, Option.isSome_some])
    obtain ⟨d1, a3, b3, e4, g3, g4, ha3⟩ := draw_ok (p := pg) (wf := wf) (n := n + 8) (f := 31) rfl (s := .tab :: feedO ns a2 b2 m :: t) (k := 1) rfl ha2 (many := (ys.length : Int) + 1) (by omega) (by omega)
    refine rc_by e4 ?_
    (simp only [ev_var, ev_cst, ev_glo, ev_bin, ev_neg, ev_cmp, ev_chn, ev_bnd, ev_bor, ev_bnt, ev_ite, ev_tup, ev_lst, ev_alc, ev_frz, ev_sub, ev_slc, ev_att, ev_kon, ev_cal, ev_new, ev_mth, ev_bif, ev_isi, ev_bmt, ev_cmt, ev_fst, es_nil, es_cons, eo_none, eo_some, et_none, et_some, ej_nil, ej_cons, ei_val, ei_rng, ei_enu, ei_zip, x_ex, x_set, x_own, x_unp, x_sti, x_sta, x_aug, x_ret, x_rtn, x_ife, x_for, x_whl, x_brk, x_cnt, x_pas, x_rai, x_par, sat_ok, sat_exc, sat_bind, sat_at, rc_ok, rc_exc, sk_nx, sk_ret, sk_brk, sk_cnt, rk_nx, rk_ret, xk_, ak_t, ak_f, ak_d, ok_t, ok_f, ok_d, bif_d, bif_n, if_t, if_f, callR, okvs, r_ok, r_exc, r_lift, r_lift0, r_calm, r_at, List.getElem?_cons_zero, List.getElem?_cons_succ, List.length_cons, List.length_nil, List.length_map, List.length_set, List.length_append, vw_loc, vw_sl, vw_lst, vw_dct, vw_tup, vw_int, vw_str, vw_bl, vw_non, vw_scr, lk_loc, lk_sl, lk_lst, lk_dct, lk_obj, lk_tup, lk_int, lk_str, lk_bl, lk_non, sb_lst, sb_tup, Option.bind_some, Option.map_some, c_lt, c_le, c_gt, c_ge, c_eqi, c_nei, c_eqb, c_neb, c_eqs, c_nes, decide_false, decide_true, t_bl, t_int, Bool.false_eq_true, if_false, if_true, Nat.reduceAdd, Nat.reduceLT, Nat.reduceSub, f_int, f_lenL, f_lenT, b_add, b_sub, b_mul, b_mod, b_fdv, b_pow, o_non, o_bl, o_int, o_str, o_lst, o_tup, o_dct, o_obj, o_loc, o_scr, List.all_cons, List.all_nil, List.set_cons_zero, List.set_cons_succ, Bool.true_and, Bool.and_true, Bool.and_self, st_lst, List.replicate, List.map_cons, List.map_nil, List.cons_append, List.nil_append, Bool.not_true, Bool.not_false, isL, oOf, lineMax, Nat.reduceLeDiff, Int.reduceLT, Int.reduceLE, Int.reduceAdd, Int.reduceSub, ite_true, ite_false, reduceCtorEq, reduceIte, Bool.or_false, Bool.or_true, Bool.true_or, Bool.false_or, f_sum, f_max, f_min, f_all, f_any, f_sorted, f_list, f_tuple, f_str, f_max2, f_min2, f_lenD, w_listL, w_listT, w_tupL, w_tupT, w_intI, w_intB, w_max2, w_min2, ixz0, ixz1, ixz2, ixz3, ixz4, ixz5, ixz6, ixz7, wkL, wkT, ln_seqL, ln_seqT, ln_fix, Option.isSome_some])
    -- the odd one
    refine wp_cons ?_
    (simp only [ev_var, ev_cst, ev_glo, ev_bin, ev_neg, ev_cmp, ev_chn, ev_bnd, ev_bor, ev_bnt, ev_ite, ev_tup, ev_lst, ev_alc, ev_frz, ev_sub, ev_slc, ev_att, ev_kon, ev_cal, ev_new, ev_mth, ev_bif, ev_isi, ev_bmt, ev_cmt, ev_fst, es_nil, es_cons, eo_none, eo_some, et_none, et_some, ej_nil, ej_cons, ei_val, ei_rng, ei_enu, ei_zip, x_ex, x_set, x_own, x_unp, x_sti, x_sta, x_aug, x_ret, x_rtn, x_ife, x_for, x_whl, x_brk, x_cnt, x_pas, x_rai, x_par, sat_ok, sat_exc, sat_bind, sat_at, rc_ok, rc_exc, sk_nx, sk_ret, sk_brk, sk_cnt, rk_nx, rk_ret, xk_, ak_t, ak_f, ak_d, ok_t, ok_f, ok_d, bif_d, bif_n, if_t, if_f, callR, okvs, r_ok, r_exc, r_lift, r_lift0, r_calm, r_at, List.getElem?_cons_zero, List.getElem?_cons_succ, List.length_cons, List.length_nil, List.length_map, List.length_set, List.length_append, vw_loc, vw_sl, vw_lst, vw_dct, vw_tup, vw_int, vw_str, vw_bl, vw_non, vw_scr, lk_loc, lk_sl, lk_lst, lk_dct, lk_obj, lk_tup, lk_int, lk_str, lk_bl, lk_non, sb_lst, sb_tup, Option.bind_some, Option.map_some, c_lt, c_le, c_gt, c_ge, c_eqi, c_nei, c_eqb, c_neb, c_eqs, c_nes, decide_false, decide_true, t_bl, t_int, Bool.false_eq_true, if_false, if_true, Nat.reduceAdd, Nat.reduceLT, Nat.reduceSub, f_int, f_lenL, f_lenT, b_add, b_sub, b_mul, b_mod, b_fdv, b_pow, o_non, o_bl, o_int, o_str, o_lst, o_tup, o_dct, o_obj, o_loc, o_scr, List.all_cons, List.all_nil, List.set_cons_zero, List.set_cons_succ, Bool.true_and, Bool.and_true, Bool.and_self, st_lst, List.replicate, List.map_cons, List.map_nil, List.cons_append, List.nil_append, Bool.not_true, Bool.not_false, isL, oOf, lineMax, Nat.reduceLeDiff, Int.reduceLT, Int.reduceLE, Int.reduceAdd, Int.reduceSub, ite_true, ite_false, reduceCtorEq, reduceIte, Bool.or_false, Bool.or_true, Bool.true_or, Bool.false_or, f_sum, f_max, f_min, f_all, f_any, f_sorted, f_list, f_tuple, f_str, f_max2, f_min2, f_lenD, w_listL, w_listT, w_tupL, w_tupT, w_intI, w_intB, w_max2, w_min2, ixz0, ixz1, ixz2, ixz3, ixz4, ixz5, ixz6, ixz7, wkL, wkT, ln_seqL, ln_seqT, ln_fix, Option.isSome_some, pw25])
    obtain ⟨o, a4, b4, ho, e5, ha4⟩ := any_ok (p := pg) (wf := wf) (n := n + 7) (f := 32) (g := 31) rfl rfl (xs := odds) (s := .tab :: feedO ns a3 b3 m :: t) (k := 1) rfl ha3 (by decide) (by decide) (by decide)
    have hob := odds_bad o ho
    have hoo := hob.okv
    simp only [odds] at e5
    refine rc_by e5 ?_
    (simp only [ev_var, ev_cst, ev_glo, ev_bin, ev_neg, ev_cmp, ev_chn, ev_bnd, ev_bor, ev_bnt, ev_ite, ev_tup, ev_lst, ev_alc, ev_frz, ev_sub, ev_slc, ev_att, ev_kon, ev_cal, ev_new, ev_mth, ev_bif, ev_isi, ev_bmt, ev_cmt, ev_fst, es_nil, es_cons, eo_none, eo_some, et_none, et_some, ej_nil, ej_cons, ei_val, ei_rng, ei_enu, ei_zip, x_ex, x_set, x_own, x_unp, x_sti, x_sta, x_aug, x_ret, x_rtn, x_ife, x_for, x_whl, x_brk, x_cnt, x_pas, x_rai, x_par, sat_ok, sat_exc, sat_bind, sat_at, rc_ok, rc_exc, sk_nx, sk_ret, sk_brk, sk_cnt, rk_nx, rk_ret, xk_, ak_t, ak_f, ak_d, ok_t, ok_f, ok_d, bif_d, bif_n, if_t, if_f, callR, okvs, r_ok, r_exc, r_lift, r_lift0, r_calm, r_at, List.getElem?_cons_zero, List.getElem?_cons_succ, List.length_cons, List.length_nil, List.length_map, List.length_set, List.length_append, vw_loc, vw_sl, vw_lst, vw_dct, vw_tup, vw_int, vw_str, vw_bl, vw_non, vw_scr, lk_loc, lk_sl, lk_lst, lk_dct, lk_obj, lk_tup, lk_int, lk_str, lk_bl, lk_non, sb_lst, sb_tup, Option.bind_some, Option.map_some, c_lt, c_le, c_gt, c_ge, c_eqi, c_nei, c_eqb, c_neb, c_eqs, c_nes, decide_false, decide_true, t_bl, t_int, Bool.false_eq_true, if_false, if_true, Nat.reduceAdd, Nat.reduceLT, Nat.reduceSub, f_int, f_lenL, f_lenT, b_add, b_sub, b_mul, b_mod, b_fdv, b_pow, o_non, o_bl, o_int, o_str, o_lst, o_tup, o_dct, o_obj, o_loc, o_scr, List.all_cons, List.all_nil, List.set_cons_zero, List.set_cons_succ, Bool.true_and, Bool.and_true, Bool.and_self, st_lst, List.replicate, List.map_cons, List.map_nil, List.cons_append, List.nil_append, Bool.not_true, Bool.not_false, isL, oOf, lineMax, Nat.reduceLeDiff, Int.reduceLT, Int.reduceLE, Int.reduceAdd, Int.reduceSub, ite_true, ite_false, reduceCtorEq, reduceIte, Bool.or_false, Bool.or_true, Bool.true_or, Bool.false_or, f_sum, f_max, f_min, f_all, f_any, f_sorted, f_list, f_tuple, f_str, f_max2, f_min2, f_lenD, w_listL, w_listT, w_tupL, w_tupT, w_intI, w_intB, w_max2, w_min2, ixz0, ixz1, ixz2, ixz3, ixz4, ixz5, ixz6, ixz7, wkL, wkT, ln_seqL, ln_seqT, ln_fix, Option.isSome_some, hoo])
    -- the late list
    obtain ⟨d2, a5, b5, e6, g5, g6, ha5⟩ := draw_ok (p := pg) (wf := wf) (n := n + 8) (f := 31) rfl (s := .tab :: feedO ns a4 b4 m :: t) (k := 1) rfl ha4 (many := 2) (by decide) (by decide)
    have hd1 : d1.toNat ≤ ys.length := by omega
    have w1 : slcW (.lst (ys.map W.int)) none (some d1) = some (.lst ((ys.take d1.toNat).map .int)) := by
      simp only [slcW, cut_hi g3 (show d1.toNat ≤ (ys.map W.int).length by rw [List.length_map]; exact hd1), List.map_take]
    have w2 : slcW (.lst (ys.map W.int)) (some d1) none = some (.lst ((ys.drop d1.toNat).map .int)) := by
      simp only [slcW, cut_lo g3, List.map_drop]
    have lt : ((ys.take d1.toNat).map W.int).length = d1.toNat := by rw [List.length_map, List.length_take]; omega
    have ld : ((ys.drop d1.toNat).map W.int).length ≤ 8 := by rw [List.length_map, List.length_drop]; omega
    have q1 : ((ys.take d1.toNat).map W.int).length + [o].length ≤ lineMax := by rw [lt]; show _ ≤ 16777216; simp only [List.length_singleton]; omega
    have q2 : ((ys.take d1.toNat).map W.int ++ [o]).length + ((ys.drop d1.toNat).map W.int).length ≤ lineMax := by rw [List.length_append, lt]; show _ ≤ 16777216; simp only [List.length_singleton]; omega
    have q3 : ((ys.take d1.toNat).map W.int ++ [o] ++ (ys.drop d1.toNat).map W.int).length + (List.replicate d2.toNat (W.int (-1))).length ≤ lineMax := by
      rw [List.length_append, List.length_append, lt, List.length_replicate]; show _ ≤ 16777216; simp only [List.length_singleton]; omega
    refine wp_cons ?_
    (simp only [ev_var, ev_cst, ev_glo, ev_bin, ev_neg, ev_cmp, ev_chn, ev_bnd, ev_bor, ev_bnt, ev_ite, ev_tup, ev_lst, ev_alc, ev_frz, ev_sub, ev_slc, ev_att, ev_kon, ev_cal, ev_new, ev_mth, ev_bif, ev_isi, ev_bmt, ev_cmt, ev_fst, es_nil, es_cons, eo_none, eo_some, et_none, et_some, ej_nil, ej_cons, ei_val, ei_rng, ei_enu, ei_zip, x_ex, x_set, x_own, x_unp, x_sti, x_sta, x_aug, x_ret, x_rtn, x_ife, x_for, x_whl, x_brk, x_cnt, x_pas, x_rai, x_par, sat_ok, sat_exc, sat_bind, sat_at, rc_ok, rc_exc, sk_nx, sk_ret, sk_brk, sk_cnt, rk_nx, rk_ret, xk_, ak_t, ak_f, ak_d, ok_t, ok_f, ok_d, bif_d, bif_n, if_t, if_f, callR, okvs, r_ok, r_exc, r_lift, r_lift0, r_calm, r_at, List.getElem?_cons_zero, List.getElem?_cons_succ, List.length_cons, List.length_nil, List.length_map, List.length_set, List.length_append, vw_loc, vw_sl, vw_lst, vw_dct, vw_tup, vw_int, vw_str, vw_bl, vw_non, vw_scr, lk_loc, lk_sl, lk_lst, lk_dct, lk_obj, lk_tup, lk_int, lk_str, lk_bl, lk_non, sb_lst, sb_tup, Option.bind_some, Option.map_some, c_lt, c_le, c_gt, c_ge, c_eqi, c_nei, c_eqb, c_neb, c_eqs, c_nes, decide_false, decide_true, t_bl, t_int, Bool.false_eq_true, if_false, if_true, Nat.reduceAdd, Nat.reduceLT, Nat.reduceSub, f_int, f_lenL, f_lenT, b_add, b_sub, b_mul, b_mod, b_fdv, b_pow, o_non, o_bl, o_int, o_str, o_lst, o_tup, o_dct, o_obj, o_loc, o_scr, List.all_cons, List.all_nil, List.set_cons_zero, List.set_cons_succ, Bool.true_and, Bool.and_true, Bool.and_self, st_lst, List.replicate, List.map_cons, List.map_nil, List.cons_append, List.nil_append, Bool.not_true, Bool.not_false, isL, oOf, lineMax, Nat.reduceLeDiff, Int.reduceLT, Int.reduceLE, Int.reduceAdd, Int.reduceSub, ite_true, ite_false, reduceCtorEq, reduceIte, Bool.or_false, Bool.or_true, Bool.true_or, Bool.false_or, f_sum, f_max, f_min, f_all, f_any, f_sorted, f_list, f_tuple, f_str, f_max2, f_min2, f_lenD, w_listL, w_listT, w_tupL, w_tupT, w_intI, w_intB, w_max2, w_min2, ixz0, ixz1, ixz2, ixz3, ixz4, ixz5, ixz6, ixz7, wkL, wkT, ln_seqL, ln_seqT, ln_fix, Option.isSome_some, w1, w2, hoo, b_addL q1, b_addL q2, e6, mul_one (x := .int (-1)) (k := d2) ⟨g5, by omega⟩, b_addL q3])
    have hgy : ∀ y ∈ ys, 0 ≤ y ∧ y ≤ 40 := fun y hy => by have := hy2 y hy; omega
    have lk : ((ys.take d1.toNat).map W.int ++ [o] ++ (ys.drop d1.toNat).map W.int ++ List.replicate d2.toNat (W.int (-1)))[d1.toNat]? = some o := by
      rw [List.append_assoc, List.append_assoc, List.getElem?_append_right (by rw [lt]; exact Nat.le_refl _), lt, Nat.sub_self]; rfl
    have lg : ∀ i, i < d1.toNat → GdAt ((ys.take d1.toNat).map W.int ++ [o] ++ (ys.drop d1.toNat).map W.int ++ List.replicate d2.toNat (W.int (-1))) i := fun i hi => by
      have hiy : i < ys.length := by omega
      refine ⟨ys[i], ?_, (hgy _ (List.getElem_mem hiy)).1, (hgy _ (List.getElem_mem hiy)).2⟩
      rw [List.append_assoc, List.append_assoc, List.getElem?_append_left (by rw [lt]; exact hi), List.getElem?_map, List.getElem?_take, if_pos hi, List.getElem?_eq_getElem hiy]; rfl
    generalize (ys.take d1.toNat).map W.int ++ [o] ++ (ys.drop d1.toNat).map W.int ++ List.replicate d2.toNat (W.int (-1)) = late at lk lg
    have e7 := late_rfd (wf := wf) (n := n + 6) (P := P) (r := [.val (.scr ns), .val (.loc 1), .val (SH P), .val x, .val (.lst (ys.map .int)), v5, .val (.int d1), .val o, .val (.lst late), .un, .un]) (s := feedO ns a5 b5 m :: t) (late := late) (k := d1.toNat) rfl rfl lg (by omega) lk hoo hob
    rw [Int.toNat_of_nonneg g3] at e7
    refine wp_cons ?_
    (simp only [ev_var, ev_cst, ev_glo, ev_bin, ev_neg, ev_cmp, ev_chn, ev_bnd, ev_bor, ev_bnt, ev_ite, ev_tup, ev_lst, ev_alc, ev_frz, ev_sub, ev_slc, ev_att, ev_kon, ev_cal, ev_new, ev_mth, ev_bif, ev_isi, ev_bmt, ev_cmt, ev_fst, es_nil, es_cons, eo_none, eo_some, et_none, et_some, ej_nil, ej_cons, ei_val, ei_rng, ei_enu, ei_zip, x_ex, x_set, x_own, x_unp, x_sti, x_sta, x_aug, x_ret, x_rtn, x_ife, x_for, x_whl, x_brk, x_cnt, x_pas, x_rai, x_par, sat_ok, sat_exc, sat_bind, sat_at, rc_ok, rc_exc, sk_nx, sk_ret, sk_brk, sk_cnt, rk_nx, rk_ret, xk_, ak_t, ak_f, ak_d, ok_t, ok_f, ok_d, bif_d, bif_n, if_t, if_f, callR, okvs, r_ok, r_exc, r_lift, r_lift0, r_calm, r_at, List.getElem?_cons_zero, List.getElem?_cons_succ, List.length_cons, List.length_nil, List.length_map, List.length_set, List.length_append, vw_loc, vw_sl, vw_lst, vw_dct, vw_tup, vw_int, vw_str, vw_bl, vw_non, vw_scr, lk_loc, lk_sl, lk_lst, lk_dct, lk_obj, lk_tup, lk_int, lk_str, lk_bl, lk_non, sb_lst, sb_tup, Option.bind_some, Option.map_some, c_lt, c_le, c_gt, c_ge, c_eqi, c_nei, c_eqb, c_neb, c_eqs, c_nes, decide_false, decide_true, t_bl, t_int, Bool.false_eq_true, if_false, if_true, Nat.reduceAdd, Nat.reduceLT, Nat.reduceSub, f_int, f_lenL, f_lenT, b_add, b_sub, b_mul, b_mod, b_fdv, b_pow, o_non, o_bl, o_int, o_str, o_lst, o_tup, o_dct, o_obj, o_loc, o_scr, List.all_cons, List.all_nil, List.set_cons_zero, List.set_cons_succ, Bool.true_and, Bool.and_true, Bool.and_self, st_lst, List.replicate, List.map_cons, List.map_nil, List.cons_append, List.nil_append, Bool.not_true, Bool.not_false, isL, oOf, lineMax, Nat.reduceLeDiff, Int.reduceLT, Int.reduceLE, Int.reduceAdd, Int.reduceSub, ite_true, ite_false, reduceCtorEq, reduceIte, Bool.or_false, Bool.or_true, Bool.true_or, Bool.false_or, f_sum, f_max, f_min, f_all, f_any, f_sorted, f_list, f_tuple, f_str, f_max2, f_min2, f_lenD, w_listL, w_listT, w_tupL, w_tupT, w_intI, w_intB, w_max2, w_min2, ixz0, ixz1, ixz2, ixz3, ixz4, ixz5, ixz6, ixz7, wkL, wkT, ln_seqL, ln_seqT, ln_fix, Option.isSome_some, e7, ne_told, s_nil])
    -- the good one
    have q4 : (ys.map W.int).length + [W.int 40, W.int 0].length ≤ lineMax := by rw [List.length_map]; show _ ≤ 16777216; simp only [List.length_cons, List.length_nil]; omega
    have ef : ys.map W.int ++ [W.int 40, W.int 0] = (ys ++ [40, 0]).map W.int := by simp
    have fl : (ys.map W.int ++ [W.int 40, W.int 0]).length = ys.length + 2 := by simp
    have fg : ∀ i, i < (ys.map W.int ++ [W.int 40, W.int 0]).length → GdAt (ys.map W.int ++ [W.int 40, W.int 0]) i := fun i hi => by
      rw [ef] at hi ⊢
      rw [List.length_map] at hi
      refine ⟨(ys ++ [40, 0])[i], by rw [List.getElem?_map, List.getElem?_eq_getElem hi]; rfl, ?_⟩
      have hm := List.getElem_mem hi
      rcases List.mem_append.mp hm with z | z
      · exact hgy _ z
      · simp only [List.mem_cons, List.not_mem_nil, or_false] at z
        rcases z with z | z <;> rw [z] <;> decide
    have bu := bundle_ok (wf := wf) (n := n + 6) (P := P) (s := .tab :: feedO ns a5 b5 m :: t) (sa_lst (xs := ys.map W.int ++ [W.int 40, W.int 0])) fg (by rw [fl]; omega)
    have ct := counts_ok (wf := wf) (n := n + 8) (P := P) (xs := ys.map W.int ++ [W.int 40, W.int 0]) (s := .tab :: feedO ns a5 b5 m :: t)
    have sm1 : Sm (.tab :: feedO ns a5 b5 m :: (t ++ [.lst (ys.map W.int ++ [W.int 40, W.int 0])])) (n + 7) (.loc (t.length + 1 + 1)) (.lst (ys.map W.int ++ [W.int 40, W.int 0])) := by
      refine sm_loc (xs := ys.map W.int ++ [W.int 40, W.int 0]) (by rw [List.getElem?_cons_succ, List.getElem?_cons_succ]; exact get_end) ?_ (by rw [fl]; show _ ≤ 16777216; omega)
      rw [ef]
      exact sml_map (fun a => ⟨rfl, sm_int⟩) _
    refine wp_cons ?_
    (simp only [ev_var, ev_cst, ev_glo, ev_bin, ev_neg, ev_cmp, ev_chn, ev_bnd, ev_bor, ev_bnt, ev_ite, ev_tup, ev_lst, ev_alc, ev_frz, ev_sub, ev_slc, ev_att, ev_kon, ev_cal, ev_new, ev_mth, ev_bif, ev_isi, ev_bmt, ev_cmt, ev_fst, es_nil, es_cons, eo_none, eo_some, et_none, et_some, ej_nil, ej_cons, ei_val, ei_rng, ei_enu, ei_zip, x_ex, x_set, x_own, x_unp, x_sti, x_sta, x_aug, x_ret, x_rtn, x_ife, x_for, x_whl, x_brk, x_cnt, x_pas, x_rai, x_par, sat_ok, sat_exc, sat_bind, sat_at, rc_ok, rc_exc, sk_nx, sk_ret, sk_brk, sk_cnt, rk_nx, rk_ret, xk_, ak_t, ak_f, ak_d, ok_t, ok_f, ok_d, bif_d, bif_n, if_t, if_f, callR, okvs, r_ok, r_exc, r_lift, r_lift0, r_calm, r_at, List.getElem?_cons_zero, List.getElem?_cons_succ, List.length_cons, List.length_nil, List.length_map, List.length_set, List.length_append, vw_loc, vw_sl, vw_lst, vw_dct, vw_tup, vw_int, vw_str, vw_bl, vw_non, vw_scr, lk_loc, lk_sl, lk_lst, lk_dct, lk_obj, lk_tup, lk_int, lk_str, lk_bl, lk_non, sb_lst, sb_tup, Option.bind_some, Option.map_some, c_lt, c_le, c_gt, c_ge, c_eqi, c_nei, c_eqb, c_neb, c_eqs, c_nes, decide_false, decide_true, t_bl, t_int, Bool.false_eq_true, if_false, if_true, Nat.reduceAdd, Nat.reduceLT, Nat.reduceSub, f_int, f_lenL, f_lenT, b_add, b_sub, b_mul, b_mod, b_fdv, b_pow, o_non, o_bl, o_int, o_str, o_lst, o_tup, o_dct, o_obj, o_loc, o_scr, List.all_cons, List.all_nil, List.set_cons_zero, List.set_cons_succ, Bool.true_and, Bool.and_true, Bool.and_self, st_lst, List.replicate, List.map_cons, List.map_nil, List.cons_append, List.nil_append, Bool.not_true, Bool.not_false, isL, oOf, lineMax, Nat.reduceLeDiff, Int.reduceLT, Int.reduceLE, Int.reduceAdd, Int.reduceSub, ite_true, ite_false, reduceCtorEq, reduceIte, Bool.or_false, Bool.or_true, Bool.true_or, Bool.false_or, f_sum, f_max, f_min, f_all, f_any, f_sorted, f_list, f_tuple, f_str, f_max2, f_min2, f_lenD, w_listL, w_listT, w_tupL, w_tupT, w_intI, w_intB, w_max2, w_min2, ixz0, ixz1, ixz2, ixz3, ixz4, ixz5, ixz6, ixz7, wkL, wkT, ln_seqL, ln_seqT, ln_fix, Option.isSome_some, b_addL q4, bu, o_SH, o_BU, m_ct, ct, same_ok (p := pg) (g := 37) (w := 36) rfl rfl _ _ _ sm1, s_nil])
    exact ⟨_, _, _, _, _, _, a5, b5, m, _, h5, ha5, rfl⟩
  · rintro st ⟨v3, v4, v5, v6, v7, v8, a, b, m, t, h5, ha, rfl⟩
    rw [sk_nx]
    obtain ⟨d1, a1, b1, e1, g1, g2, ha1⟩ := draw_ok (p := pg) (wf := wf) (n := n + 8) (f := 31) rfl (s := .tab :: feedO ns a b m :: t) (k := 1) rfl ha (many := 4) (by decide) (by decide)
    refine wp_cons ?_
    (simp only [ev_var, ev_cst, ev_glo, ev_bin, ev_neg, ev_cmp, ev_chn, ev_bnd, ev_bor, ev_bnt, ev_ite, ev_tup, ev_lst, ev_alc, ev_frz, ev_sub, ev_slc, ev_att, ev_kon, ev_cal, ev_new, ev_mth, ev_bif, ev_isi, ev_bmt, ev_cmt, ev_fst, es_nil, es_cons, eo_none, eo_some, et_none, et_some, ej_nil, ej_cons, ei_val, ei_rng, ei_enu, ei_zip, x_ex, x_set, x_own, x_unp, x_sti, x_sta, x_aug, x_ret, x_rtn, x_ife, x_for, x_whl, x_brk, x_cnt, x_pas, x_rai, x_par, sat_ok, sat_exc, sat_bind, sat_at, rc_ok, rc_exc, sk_nx, sk_ret, sk_brk, sk_cnt, rk_nx, rk_ret, xk_, ak_t, ak_f, ak_d, ok_t, ok_f, ok_d, bif_d, bif_n, if_t, if_f, callR, okvs, r_ok, r_exc, r_lift, r_lift0, r_calm, r_at, List.getElem?_cons_zero, List.getElem?_cons_succ, List.length_cons, List.length_nil, List.length_map, List.length_set, List.length_append, vw_loc, vw_sl, vw_lst, vw_dct, vw_tup, vw_int, vw_str, vw_bl, vw_non, vw_scr, lk_loc, lk_sl, lk_lst, lk_dct, lk_obj, lk_tup, lk_int, lk_str, lk_bl, lk_non, sb_lst, sb_tup, Option.bind_some, Option.map_some, c_lt, c_le, c_gt, c_ge, c_eqi, c_nei, c_eqb, c_neb, c_eqs, c_nes, decide_false, decide_true, t_bl, t_int, Bool.false_eq_true, if_false, if_true, Nat.reduceAdd, Nat.reduceLT, Nat.reduceSub, f_int, f_lenL, f_lenT, b_add, b_sub, b_mul, b_mod, b_fdv, b_pow, o_non, o_bl, o_int, o_str, o_lst, o_tup, o_dct, o_obj, o_loc, o_scr, List.all_cons, List.all_nil, List.set_cons_zero, List.set_cons_succ, Bool.true_and, Bool.and_true, Bool.and_self, st_lst, List.replicate, List.map_cons, List.map_nil, List.cons_append, List.nil_append, Bool.not_true, Bool.not_false, isL, oOf, lineMax, Nat.reduceLeDiff, Int.reduceLT, Int.reduceLE, Int.reduceAdd, Int.reduceSub, ite_true, ite_false, reduceCtorEq, reduceIte, Bool.or_false, Bool.or_true, Bool.true_or, Bool.false_or, f_sum, f_max, f_min, f_all, f_any, f_sorted, f_list, f_tuple, f_str, f_max2, f_min2, f_lenD, w_listL, w_listT, w_tupL, w_tupT, w_intI, w_intB, w_max2, w_min2, ixz0, ixz1, ixz2, ixz3, ixz4, ixz5, ixz6, ixz7, wkL, wkT, ln_seqL, ln_seqT, ln_fix, Option.isSome_some, e1])
    obtain ⟨d2, a2, b2, e2, g3, g4, ha2⟩ := draw_ok (p := pg) (wf := wf) (n := n + 8) (f := 31) rfl (s := .tab :: feedO ns a1 b1 m :: t) (k := 1) rfl ha1 (many := 3) (by decide) (by decide)
    refine wp_cons ?_
    have e3 := many_rfd (wf := wf) (n := n + 6) (P := P) (r := [.val (.scr ns), .val (.loc 1), .val (SH P), v3, v4, v5, v6, v7, v8, .val (.int (2999 + d1)), .val (if 2999 + d1 < 3001 then .tup [.str [], .non] else .tup [.str [73, 110, 118, 97, 108, 105, 100, 66, 117, 110, 100, 108, 101], .int 3000])]) (s := feedO ns a1 b1 m :: t) (s' := feedO ns a2 b2 m :: t) (many := 2999 + d1) (d := d2) rfl rfl rfl (by omega) e2 (by omega)
    by_cases hm : 2999 + d1 < 3001
    · simp only [hm, if_true] at e3
      (simp only [ev_var, ev_cst, ev_glo, ev_bin, ev_neg, ev_cmp, ev_chn, ev_bnd, ev_bor, ev_bnt, ev_ite, ev_tup, ev_lst, ev_alc, ev_frz, ev_sub, ev_slc, ev_att, ev_kon, ev_cal, ev_new, ev_mth, ev_bif, ev_isi, ev_bmt, ev_cmt, ev_fst, es_nil, es_cons, eo_none, eo_some, et_none, et_some, ej_nil, ej_cons, ei_val, ei_rng, ei_enu, ei_zip, x_ex, x_set, x_own, x_unp, x_sti, x_sta, x_aug, x_ret, x_rtn, x_ife, x_for, x_whl, x_brk, x_cnt, x_pas, x_rai, x_par, sat_ok, sat_exc, sat_bind, sat_at, rc_ok, rc_exc, sk_nx, sk_ret, sk_brk, sk_cnt, rk_nx, rk_ret, xk_, ak_t, ak_f, ak_d, ok_t, ok_f, ok_d, bif_d, bif_n, if_t, if_f, callR, okvs, r_ok, r_exc, r_lift, r_lift0, r_calm, r_at, List.getElem?_cons_zero, List.getElem?_cons_succ, List.length_cons, List.length_nil, List.length_map, List.length_set, List.length_append, vw_loc, vw_sl, vw_lst, vw_dct, vw_tup, vw_int, vw_str, vw_bl, vw_non, vw_scr, lk_loc, lk_sl, lk_lst, lk_dct, lk_obj, lk_tup, lk_int, lk_str, lk_bl, lk_non, sb_lst, sb_tup, Option.bind_some, Option.map_some, c_lt, c_le, c_gt, c_ge, c_eqi, c_nei, c_eqb, c_neb, c_eqs, c_nes, decide_false, decide_true, t_bl, t_int, Bool.false_eq_true, if_false, if_true, Nat.reduceAdd, Nat.reduceLT, Nat.reduceSub, f_int, f_lenL, f_lenT, b_add, b_sub, b_mul, b_mod, b_fdv, b_pow, o_non, o_bl, o_int, o_str, o_lst, o_tup, o_dct, o_obj, o_loc, o_scr, List.all_cons, List.all_nil, List.set_cons_zero, List.set_cons_succ, Bool.true_and, Bool.and_true, Bool.and_self, st_lst, List.replicate, List.map_cons, List.map_nil, List.cons_append, List.nil_append, Bool.not_true, Bool.not_false, isL, oOf, lineMax, Nat.reduceLeDiff, Int.reduceLT, Int.reduceLE, Int.reduceAdd, Int.reduceSub, ite_true, ite_false, reduceCtorEq, reduceIte, Bool.or_false, Bool.or_true, Bool.true_or, Bool.false_or, f_sum, f_max, f_min, f_all, f_any, f_sorted, f_list, f_tuple, f_str, f_max2, f_min2, f_lenD, w_listL, w_listT, w_tupL, w_tupT, w_intI, w_intB, w_max2, w_min2, ixz0, ixz1, ixz2, ixz3, ixz4, ixz5, ixz6, ixz7, wkL, wkT, ln_seqL, ln_seqT, ln_fix, Option.isSome_some, hm])
      (refine wp_cons ?_; simp only [ev_var, ev_cst, ev_glo, ev_bin, ev_neg, ev_cmp, ev_chn, ev_bnd, ev_bor, ev_bnt, ev_ite, ev_tup, ev_lst, ev_alc, ev_frz, ev_sub, ev_slc, ev_att, ev_kon, ev_cal, ev_new, ev_mth, ev_bif, ev_isi, ev_bmt, ev_cmt, ev_fst, es_nil, es_cons, eo_none, eo_some, et_none, et_some, ej_nil, ej_cons, ei_val, ei_rng, ei_enu, ei_zip, x_ex, x_set, x_own, x_unp, x_sti, x_sta, x_aug, x_ret, x_rtn, x_ife, x_for, x_whl, x_brk, x_cnt, x_pas, x_rai, x_par, sat_ok, sat_exc, sat_bind, sat_at, rc_ok, rc_exc, sk_nx, sk_ret, sk_brk, sk_cnt, rk_nx, rk_ret, xk_, ak_t, ak_f, ak_d, ok_t, ok_f, ok_d, bif_d, bif_n, if_t, if_f, callR, okvs, r_ok, r_exc, r_lift, r_lift0, r_calm, r_at, List.getElem?_cons_zero, List.getElem?_cons_succ, List.length_cons, List.length_nil, List.length_map, List.length_set, List.length_append, vw_loc, vw_sl, vw_lst, vw_dct, vw_tup, vw_int, vw_str, vw_bl, vw_non, vw_scr, lk_loc, lk_sl, lk_lst, lk_dct, lk_obj, lk_tup, lk_int, lk_str, lk_bl, lk_non, sb_lst, sb_tup, Option.bind_some, Option.map_some, c_lt, c_le, c_gt, c_ge, c_eqi, c_nei, c_eqb, c_neb, c_eqs, c_nes, decide_false, decide_true, t_bl, t_int, Bool.false_eq_true, if_false, if_true, Nat.reduceAdd, Nat.reduceLT, Nat.reduceSub, f_int, f_lenL, f_lenT, b_add, b_sub, b_mul, b_mod, b_fdv, b_pow, o_non, o_bl, o_int, o_str, o_lst, o_tup, o_dct, o_obj, o_loc, o_scr, List.all_cons, List.all_nil, List.set_cons_zero, List.set_cons_succ, Bool.true_and, Bool.and_true, Bool.and_self, st_lst, List.replicate, List.map_cons, List.map_nil, List.cons_append, List.nil_append, Bool.not_true, Bool.not_false, isL, oOf, lineMax, Nat.reduceLeDiff, Int.reduceLT, Int.reduceLE, Int.reduceAdd, Int.reduceSub, ite_true, ite_false, reduceCtorEq, reduceIte, Bool.or_false, Bool.or_true, Bool.true_or, Bool.false_or, f_sum, f_max, f_min, f_all, f_any, f_sorted, f_list, f_tuple, f_str, f_max2, f_min2, f_lenD, w_listL, w_listT, w_tupL, w_tupT, w_intI, w_intB, w_max2, w_min2, ixz0, ixz1, ixz2, ixz3, ixz4, ixz5, ixz6, ixz7, wkL, wkT, ln_seqL, ln_seqT, ln_fix, Option.isSome_some, e3, eq_told0])
    · simp only [hm, if_false] at e3
      (simp only [ev_var, ev_cst, ev_glo, ev_bin, ev_neg, ev_cmp, ev_chn, ev_bnd, ev_bor, ev_bnt, ev_ite, ev_tup, ev_lst, ev_alc, ev_frz, ev_sub, ev_slc, ev_att, ev_kon, ev_cal, ev_new, ev_mth, ev_bif, ev_isi, ev_bmt, ev_cmt, ev_fst, es_nil, es_cons, eo_none, eo_some, et_none, et_some, ej_nil, ej_cons, ei_val, ei_rng, ei_enu, ei_zip, x_ex, x_set, x_own, x_unp, x_sti, x_sta, x_aug, x_ret, x_rtn, x_ife, x_for, x_whl, x_brk, x_cnt, x_pas, x_rai, x_par, sat_ok, sat_exc, sat_bind, sat_at, rc_ok, rc_exc, sk_nx, sk_ret, sk_brk, sk_cnt, rk_nx, rk_ret, xk_, ak_t, ak_f, ak_d, ok_t, ok_f, ok_d, bif_d, bif_n, if_t, if_f, callR, okvs, r_ok, r_exc, r_lift, r_lift0, r_calm, r_at, List.getElem?_cons_zero, List.getElem?_cons_succ, List.length_cons, List.length_nil, List.length_map, List.length_set, List.length_append, vw_loc, vw_sl, vw_lst, vw_dct, vw_tup, vw_int, vw_str, vw_bl, vw_non, vw_scr, lk_loc, lk_sl, lk_lst, lk_dct, lk_obj, lk_tup, lk_int, lk_str, lk_bl, lk_non, sb_lst, sb_tup, Option.bind_some, Option.map_some, c_lt, c_le, c_gt, c_ge, c_eqi, c_nei, c_eqb, c_neb, c_eqs, c_nes, decide_false, decide_true, t_bl, t_int, Bool.false_eq_true, if_false, if_true, Nat.reduceAdd, Nat.reduceLT, Nat.reduceSub, f_int, f_lenL, f_lenT, b_add, b_sub, b_mul, b_mod, b_fdv, b_pow, o_non, o_bl, o_int, o_str, o_lst, o_tup, o_dct, o_obj, o_loc, o_scr, List.all_cons, List.all_nil, List.set_cons_zero, List.set_cons_succ, Bool.true_and, Bool.and_true, Bool.and_self, st_lst, List.replicate, List.map_cons, List.map_nil, List.cons_append, List.nil_append, Bool.not_true, Bool.not_false, isL, oOf, lineMax, Nat.reduceLeDiff, Int.reduceLT, Int.reduceLE, Int.reduceAdd, Int.reduceSub, ite_true, ite_false, reduceCtorEq, reduceIte, Bool.or_false, Bool.or_true, Bool.true_or, Bool.false_or, f_sum, f_max, f_min, f_all, f_any, f_sorted, f_list, f_tuple, f_str, f_max2, f_min2, f_lenD, w_listL, w_listT, w_tupL, w_tupT, w_intI, w_intB, w_max2, w_min2, ixz0, ixz1, ixz2, ixz3, ixz4, ixz5, ixz6, ixz7, wkL, wkT, ln_seqL, ln_seqT, ln_fix, Option.isSome_some, hm])
      (refine wp_cons ?_; simp only [ev_var, ev_cst, ev_glo, ev_bin, ev_neg, ev_cmp, ev_chn, ev_bnd, ev_bor, ev_bnt, ev_ite, ev_tup, ev_lst, ev_alc, ev_frz, ev_sub, ev_slc, ev_att, ev_kon, ev_cal, ev_new, ev_mth, ev_bif, ev_isi, ev_bmt, ev_cmt, ev_fst, es_nil, es_cons, eo_none, eo_some, et_none, et_some, ej_nil, ej_cons, ei_val, ei_rng, ei_enu, ei_zip, x_ex, x_set, x_own, x_unp, x_sti, x_sta, x_aug, x_ret, x_rtn, x_ife, x_for, x_whl, x_brk, x_cnt, x_pas, x_rai, x_par, sat_ok, sat_exc, sat_bind, sat_at, rc_ok, rc_exc, sk_nx, sk_ret, sk_brk, sk_cnt, rk_nx, rk_ret, xk_, ak_t, ak_f, ak_d, ok_t, ok_f, ok_d, bif_d, bif_n, if_t, if_f, callR, okvs, r_ok, r_exc, r_lift, r_lift0, r_calm, r_at, List.getElem?_cons_zero, List.getElem?_cons_succ, List.length_cons, List.length_nil, List.length_map, List.length_set, List.length_append, vw_loc, vw_sl, vw_lst, vw_dct, vw_tup, vw_int, vw_str, vw_bl, vw_non, vw_scr, lk_loc, lk_sl, lk_lst, lk_dct, lk_obj, lk_tup, lk_int, lk_str, lk_bl, lk_non, sb_lst, sb_tup, Option.bind_some, Option.map_some, c_lt, c_le, c_gt, c_ge, c_eqi, c_nei, c_eqb, c_neb, c_eqs, c_nes, decide_false, decide_true, t_bl, t_int, Bool.false_eq_true, if_false, if_true, Nat.reduceAdd, Nat.reduceLT, Nat.reduceSub, f_int, f_lenL, f_lenT, b_add, b_sub, b_mul, b_mod, b_fdv, b_pow, o_non, o_bl, o_int, o_str, o_lst, o_tup, o_dct, o_obj, o_loc, o_scr, List.all_cons, List.all_nil, List.set_cons_zero, List.set_cons_succ, Bool.true_and, Bool.and_true, Bool.and_self, st_lst, List.replicate, List.map_cons, List.map_nil, List.cons_append, List.nil_append, Bool.not_true, Bool.not_false, isL, oOf, lineMax, Nat.reduceLeDiff, Int.reduceLT, Int.reduceLE, Int.reduceAdd, Int.reduceSub, ite_true, ite_false, reduceCtorEq, reduceIte, Bool.or_false, Bool.or_true, Bool.true_or, Bool.false_or, f_sum, f_max, f_min, f_all, f_any, f_sorted, f_list, f_tuple, f_str, f_max2, f_min2, f_lenD, w_listL, w_listT, w_tupL, w_tupT, w_intI, w_intB, w_max2, w_min2, ixz0, ixz1, ixz2, ixz3, ixz4, ixz5, ixz6, ixz7, wkL, wkT, ln_seqL, ln_seqT, ln_fix, Option.isSome_some, e3, eq_told1])
end
end G

/-! S1: how the evaluator's values and states lie to the machine's. -/
namespace Ev
open PySem PySem.Spec PyProof.Rows L2

/-- what stands behind the numbers: the written part, the classes' addresses, the symbols, the module's objects -/
structure Tb where
  K : PySem.W.Frag
  ca : Nat → Addr
  sy : Nat → Str
  gv : Nat → V
  fa : Nat → Addr
  /-- the table of the law's code object; the name that its lambdas bear -/
  ta : Addr
  tq : Str
abbrev tS (x : Tx) : Str := SX.S x
/-- a list of the written part -/
def KL (K : PySem.W.Frag) (a : Addr) (xs : List V) : Prop := ∃ (o : Obj) (its : Array Value) (n : Nat), K.lookup a = some o ∧ o.cls = .type "list" ∧ o.dict = none ∧ o.data = .seq its n ∧ its.size ≤ sizeLine ∧ Vals xs its.toList
def kS : Ky → L2.Key
  | .inl i => .inl i
  | .inr x => .inr (tS x)
section
variable (T : Tb) (lv : List Addr) (nf : Addr → Prop) (H : Hp)
mutual
def RW : W → V → Prop
  | .non, v => v = .non
  | .bl b, v => v = .bl b
  | .int i, v => v = .int i
  | .str x, v => v = .str (tS x) ∧ tOk x = true
  | .tup ws, v => ∃ a vs, v = .ref a ∧ H a = some (.tup vs) ∧ ¬ nf a ∧ RWs ws vs
  | .lst ws, v => ∃ a vs, v = .ref a ∧ H a = some (.lst vs) ∧ ¬ nf a ∧ RWs ws vs
  | .dct ks ws, v => ∃ a vs, v = .ref a ∧ H a = some (.dK ((ks.map kS).zip vs)) ∧ ¬ nf a ∧ ks.length = vs.length ∧ RWs ws vs
  | .obj C ns ws, v => ∃ a dx vs, v = .ref a ∧ H a = some (.ins (T.ca C) dx ((ns.map T.sy).zip vs)) ∧ ¬ nf a ∧ ns.length = vs.length ∧ RWs ws vs
  | .loc n, v => ∃ a, v = .ref a ∧ lv[n]? = some a
  | .sl _, _ => False
  | .glo x, v => v = T.gv x
  | .scr ns, v => ∃ a, v = .ref a ∧ ((Rd H a (.lst (ns.map V.int)) ∧ ¬ nf a) ∨ KL T.K a (ns.map V.int))
def RWs : List W → List V → Prop
  | [], vs => vs = []
  | w :: ws, vs => ∃ v r, vs = v :: r ∧ RW w v ∧ RWs ws r
end
/-- a changeable object -/
def RO : OO → Addr → Prop
  | .lst ws, a => ∃ vs, H a = some (.lst vs) ∧ RWs T lv nf H ws vs
  | .dct ks ws, a => ∃ vs, H a = some (.dK ((ks.map kS).zip vs)) ∧ ks.length = vs.length ∧ RWs T lv nf H ws vs
  | .ins C ns ws, a => ∃ dx vs, H a = some (.ins (T.ca C) dx ((ns.map T.sy).zip vs)) ∧ ns.length = vs.length ∧ RWs T lv nf H ws vs
  | .tab, a => a = T.ta ∧ LamX.TabS H a T.tq
/-- .. of a slot: no table -/
def ROn : OO → Addr → Prop
  | .tab, _ => False
  | o, a => RO T lv nf H o a
structure RSto (s : List OO) : Prop where
  len : s.length = lv.length
  nd : lv.Nodup
  at_ : ∀ (n : Nat) o a, s[n]? = some o → lv[n]? = some a → RO T lv nf H o a
end
section
variable {T : Tb} {lv lv' : List Addr} {nf nf' : Addr → Prop} {H H' : Hp}
theorem RWs.len : ∀ {ws : List W} {vs : List V}, RWs T lv nf H ws vs → ws.length = vs.length
  | [], _, h => by simp only [RWs] at h; subst h; rfl
  | w :: ws, _, h => by
    simp only [RWs] at h
    obtain ⟨v, r, rfl, _, h⟩ := h
    simp [RWs.len h]
theorem RWs.get : ∀ {ws : List W} {vs : List V} {i : Nat} {w : W}, RWs T lv nf H ws vs → ws[i]? = some w → ∃ v, vs[i]? = some v ∧ RW T lv nf H w v
  | [], _, _, _, _, e => by simp at e
  | w :: ws, _, 0, x, h, e => by
    simp only [RWs] at h
    obtain ⟨v, r, rfl, h1, _⟩ := h
    simp at e; subst e
    exact ⟨v, rfl, h1⟩
  | w :: ws, _, i + 1, x, h, e => by
    simp only [RWs] at h
    obtain ⟨v, r, rfl, _, h⟩ := h
    obtain ⟨u, h1, h2⟩ := RWs.get (i := i) h (by simpa using e)
    exact ⟨u, by simpa using h1, h2⟩
theorem RWs.of_get : ∀ {ws : List W} {vs : List V}, ws.length = vs.length → (∀ (i : Nat) w v, ws[i]? = some w → vs[i]? = some v → RW T lv nf H w v) → RWs T lv nf H ws vs
  | [], [], _, _ => by simp [RWs]
  | [], _ :: _, e, _ => by simp at e
  | _ :: _, [], e, _ => by simp at e
  | w :: ws, v :: vs, e, h => by
    simp only [RWs]
    exact ⟨v, vs, rfl, h 0 w v rfl rfl, RWs.of_get (by simpa using e) fun i x y h1 h2 => h (i + 1) x y (by simpa using h1) (by simpa using h2)⟩
theorem RWs.nil : RWs T lv nf H [] [] := by simp [RWs]
theorem RWs.cons {w : W} {v : V} {ws : List W} {vs : List V} (h : RW T lv nf H w v) (t : RWs T lv nf H ws vs) : RWs T lv nf H (w :: ws) (v :: vs) := by
  simp only [RWs]; exact ⟨v, vs, rfl, h, t⟩
theorem RWs.append : ∀ {ws ws' : List W} {vs vs' : List V}, RWs T lv nf H ws vs → RWs T lv nf H ws' vs' → RWs T lv nf H (ws ++ ws') (vs ++ vs')
  | [], _, _, _, h, t => by simp only [RWs] at h; subst h; simpa using t
  | w :: ws, _, _, _, h, t => by
    simp only [RWs] at h
    obtain ⟨v, r, rfl, h1, h⟩ := h
    exact RWs.cons h1 (RWs.append h t)
theorem RWs.take {ws : List W} {vs : List V} (n : Nat) (h : RWs T lv nf H ws vs) : RWs T lv nf H (ws.take n) (vs.take n) := by
  refine RWs.of_get (by simp [h.len]) fun i w v h1 h2 => ?_
  rw [List.getElem?_take] at h1 h2
  split at h1
  · rename_i hi
    rw [if_pos hi] at h2
    obtain ⟨u, e, r⟩ := h.get h1
    rw [e] at h2; cases h2; exact r
  · cases h1
theorem RWs.drop {ws : List W} {vs : List V} (n : Nat) (h : RWs T lv nf H ws vs) : RWs T lv nf H (ws.drop n) (vs.drop n) := by
  refine RWs.of_get (by simp [h.len]) fun i w v h1 h2 => ?_
  rw [List.getElem?_drop] at h1 h2
  obtain ⟨u, e, r⟩ := h.get h1
  rw [e] at h2; cases h2; exact r
theorem RWs.set {ws : List W} {vs : List V} (n : Nat) {w : W} {v : V} (h : RWs T lv nf H ws vs) (r : RW T lv nf H w v) : RWs T lv nf H (ws.set n w) (vs.set n v) := by
  refine RWs.of_get (by simp [h.len]) fun i x y h1 h2 => ?_
  by_cases hi : n = i
  · subst hi
    have l1 : n < ws.length := by
      have := (List.getElem?_eq_some_iff.mp h1).1
      simpa using this
    have l2 : n < vs.length := by rw [← h.len]; exact l1
    rw [List.getElem?_set_self l1] at h1
    rw [List.getElem?_set_self l2] at h2
    cases h1; cases h2; exact r
  · rw [List.getElem?_set_ne hi] at h1 h2
    obtain ⟨u, e, r'⟩ := h.get h1
    rw [e] at h2; cases h2; exact r'
theorem RWs.snoc {ws : List W} {vs : List V} {w : W} {v : V} (h : RWs T lv nf H ws vs) (r : RW T lv nf H w v) : RWs T lv nf H (ws ++ [w]) (vs ++ [v]) := h.append (RWs.cons r RWs.nil)

/-- a table of code objects is no object of the evaluator's: it may grow at any time -/
def noTb : HO → Bool
  | .tbl _ => false
  | _ => true
def tn (o : Option HO) : Prop := ∀ u, o = some u → noTb u = false
theorem tn_none {o : Option HO} (h : o = none) : tn o := fun u e => by rw [h] at e; cases e
theorem tn.no {o : Option HO} {u : HO} (z : tn o) (e : o = some u) (n : noTb u = true) : False := by
  rw [z u e] at n; cases n
/-- more is known, fewer places are open, the rest stands -/
structure Mn (lv : List Addr) (nf : Addr → Prop) (H : Hp) (lv' : List Addr) (nf' : Addr → Prop) (H' : Hp) : Prop where
  fr : ∀ a o, H a = some o → noTb o = true → ¬ nf a → H' a = some o
  nw : ∀ a, nf' a → nf a ∨ tn (H a)
  lv : ∀ (n : Nat) a, lv[n]? = some a → lv'[n]? = some a
  ex : ∀ a f, H a = some (.ext f) → H' a = some (.ext f)
theorem Mn.nn (m : Mn lv nf H lv' nf' H') {a : Addr} {o : HO} (e : H a = some o) (n : noTb o = true) (h : ¬ nf a) : ¬ nf' a := fun q => by
  rcases m.nw a q with z | z
  · exact h z
  · exact z.no e n
theorem Mn.rd (m : Mn lv nf H lv' nf' H') {a : Addr} {o : HO} (e : Rd H a o) (n : noTb o = true) (h : ¬ nf a) : Rd H' a o ∧ ¬ nf' a := by
  rcases e with e | ⟨u, e⟩
  · exact ⟨.inl (m.fr _ _ e n h), m.nn e n h⟩
  · exact ⟨.inr ⟨u, m.fr _ _ e rfl h⟩, m.nn e rfl h⟩
mutual
theorem RW.mono (m : Mn lv nf H lv' nf' H') : ∀ {w : W} {v : V}, RW T lv nf H w v → RW T lv' nf' H' w v
  | .non, _, h => h
  | .bl _, _, h => h
  | .int _, _, h => h
  | .str _, _, h => h
  | .tup ws, _, h => by
    simp only [RW] at h ⊢
    obtain ⟨a, vs, e, e1, e2, h⟩ := h
    exact ⟨a, vs, e, m.fr _ _ e1 rfl e2, m.nn e1 rfl e2, RWs.mono m h⟩
  | .lst ws, _, h => by
    simp only [RW] at h ⊢
    obtain ⟨a, vs, e, e1, e2, h⟩ := h
    exact ⟨a, vs, e, m.fr _ _ e1 rfl e2, m.nn e1 rfl e2, RWs.mono m h⟩
  | .dct ks ws, _, h => by
    simp only [RW] at h ⊢
    obtain ⟨a, vs, e, e1, e2, e3, h⟩ := h
    exact ⟨a, vs, e, m.fr _ _ e1 rfl e2, m.nn e1 rfl e2, e3, RWs.mono m h⟩
  | .obj C ns ws, _, h => by
    simp only [RW] at h ⊢
    obtain ⟨a, dx, vs, e, e1, e2, e3, h⟩ := h
    exact ⟨a, dx, vs, e, m.fr _ _ e1 rfl e2, m.nn e1 rfl e2, e3, RWs.mono m h⟩
  | .loc n, _, h => by
    simp only [RW] at h ⊢
    obtain ⟨a, e, h⟩ := h
    exact ⟨a, e, m.lv _ _ h⟩
  | .sl _, _, h => h
  | .glo _, _, h => h
  | .scr ns, _, h => by
    simp only [RW] at h ⊢
    obtain ⟨a, e, e1⟩ := h
    refine ⟨a, e, ?_⟩
    rcases e1 with ⟨e1, e2⟩ | e1
    · exact .inl (m.rd e1 rfl e2)
    · exact .inr e1
theorem RWs.mono (m : Mn lv nf H lv' nf' H') : ∀ {ws : List W} {vs : List V}, RWs T lv nf H ws vs → RWs T lv' nf' H' ws vs
  | [], _, h => h
  | w :: ws, _, h => by
    simp only [RWs] at h ⊢
    obtain ⟨v, r, e, h1, h2⟩ := h
    exact ⟨v, r, e, RW.mono m h1, RWs.mono m h2⟩
end
/-- an object that stands as it stood -/
theorem RO.mono (m : Mn lv nf H lv' nf' H') {o : OO} {a : Addr} (h : RO T lv nf H o a) (e : H' a = H a) : RO T lv' nf' H' o a := by
  cases o with
  | lst ws =>
    obtain ⟨vs, h1, h2⟩ := h
    exact ⟨vs, by rw [e]; exact h1, h2.mono m⟩
  | dct ks ws =>
    obtain ⟨vs, h1, h2, h3⟩ := h
    exact ⟨vs, by rw [e]; exact h1, h2, h3.mono m⟩
  | ins C ns ws =>
    obtain ⟨dx, vs, h1, h2, h3⟩ := h
    exact ⟨dx, vs, by rw [e]; exact h1, h2, h3.mono m⟩
  | tab =>
    obtain ⟨h0, ps, h1, h2, h3⟩ := h
    refine ⟨h0, ps, by rw [e]; exact h1, h2, fun pos cv z => ?_⟩
    obtain ⟨c, e1, e2⟩ := h3 pos cv z
    exact ⟨c, e1, m.ex _ _ e2⟩
theorem ROn.ro {o : OO} {a : Addr} (h : ROn T lv nf H o a) : RO T lv nf H o a := by
  cases o <;> first | exact h | exact h.elim
theorem RO.n {o : OO} {a : Addr} (h : RO T lv nf H o a) (n : o ≠ .tab) : ROn T lv nf H o a := by
  cases o <;> first | exact h | exact (n rfl).elim
theorem ROn.nt {o : OO} {a : Addr} (h : ROn T lv nf H o a) : o ≠ .tab := fun z => by
  subst z; exact h
theorem ROn.mono (m : Mn lv nf H lv' nf' H') {o : OO} {a : Addr} (h : ROn T lv nf H o a) (e : H' a = H a) : ROn T lv' nf' H' o a := (h.ro.mono m e).n h.nt
theorem ROn.there {o : OO} {a : Addr} (h : ROn T lv nf H o a) : ∃ u, H a = some u ∧ noTb u = true := by
  cases o with
  | lst ws => obtain ⟨vs, h1, _⟩ := h; exact ⟨_, h1, rfl⟩
  | dct ks ws => obtain ⟨vs, h1, _⟩ := h; exact ⟨_, h1, rfl⟩
  | ins C ns ws => obtain ⟨dx, vs, h1, _⟩ := h; exact ⟨_, h1, rfl⟩
  | tab => exact h.elim
theorem RO.there {o : OO} {a : Addr} (h : RO T lv nf H o a) : ∃ u, H a = some u := by
  cases o with
  | lst ws => obtain ⟨vs, h1, _⟩ := h; exact ⟨_, h1⟩
  | dct ks ws => obtain ⟨vs, h1, _⟩ := h; exact ⟨_, h1⟩
  | ins C ns ws => obtain ⟨dx, vs, h1, _⟩ := h; exact ⟨_, h1⟩
  | tab => obtain ⟨_, ps, h1, _⟩ := h; exact ⟨_, h1⟩
end

/-! ### a frame's state -/
structure Cf where
  lv : List Addr
  ow : Nat → Option Addr
  ou : Addr → Prop
def Cf.mu (c : Cf) (a : Addr) : Prop := a ∈ c.lv ∨ ∃ i, c.ow i = some a
def Cf.nf (c : Cf) (a : Addr) : Prop := c.mu a ∨ c.ou a
structure RSt (T : Tb) (c : Cf) (st : St) (σ : L2.St) (H : Hp) : Prop where
  len : st.r.length = σ.length
  val : ∀ (i : Nat) w, st.r[i]? = some (.val w) → ∃ v, σ[i]? = some (some v) ∧ RW T c.lv c.nf H w v
  own : ∀ (i : Nat) o, st.r[i]? = some (.own o) → ∃ a, c.ow i = some a ∧ σ[i]? = some (some (.ref a)) ∧ ROn T c.lv c.nf H o a
  back : ∀ i a, c.ow i = some a → ∃ o, st.r[i]? = some (.own o)
  inj : ∀ i j a, c.ow i = some a → c.ow j = some a → i = j
  dis : ∀ i a, c.ow i = some a → a ∉ c.lv
  ou : ∀ a, c.ou a → ¬ c.mu a
  ouh : ∀ a, c.ou a → ∃ o, H a = some o ∧ noTb o = true
  sto : RSto T c.lv c.nf H st.s
/-- a value as an expression hands it on -/
def RV (T : Tb) (c : Cf) (σ : L2.St) (H : Hp) (w : W) (v : V) : Prop := match w with
  | .sl i => σ[i]? = some (some v)
  | w => RW T c.lv c.nf H w v
theorem RV.rw {T : Tb} {c : Cf} {σ : L2.St} {H : Hp} {w : W} {v : V} (h : RV T c σ H w v) (o : okv w = true) : RW T c.lv c.nf H w v := by
  cases w <;> first | exact h | cases o
theorem RW.rv {T : Tb} {c : Cf} {σ : L2.St} {H : Hp} {w : W} {v : V} (h : RW T c.lv c.nf H w v) : RV T c σ H w v := by
  cases w <;> first | exact h | exact h.elim
def isIns : HO → Option (Option HO)
  | .ins .. => some none
  | .ext f => some (some (.ext f))
  | .tbl _ => some (some (.lst []))
  | _ => none
theorem isIns_ext {o : HO} {f : Heap → Prop} (h : isIns o = isIns (.ext f)) : o = .ext f := by
  cases o <;> simp [isIns] at h
  rw [h]
theorem isIns_tb {o u : HO} (h : isIns o = isIns u) : noTb o = noTb u := by
  cases o <;> cases u <;> first | rfl | (simp [isIns] at h; done)
theorem isIns_non {o : HO} (h : isIns o = none) : noTb o = true := by
  cases o <;> first | rfl | cases h
structure Stp (c : Cf) (H : Hp) (c' : Cf) (H' : Hp) : Prop where
  fr : ∀ a o, H a = some o → noTb o = true → ¬ c.mu a → H' a = some o
  mw : ∀ a, c'.mu a → c.mu a ∨ tn (H a)
  lv : ∀ (n : Nat) a, c.lv[n]? = some a → c'.lv[n]? = some a
  ou : c'.ou = c.ou
  kk : ∀ a o, H a = some o → noTb o = true → ∃ o', H' a = some o' ∧ isIns o' = isIns o
  ow : ∀ i a, c'.ow i = some a → c.ow i = some a ∨ ∃ o, H' a = some o ∧ isIns o = none
section
variable {T : Tb} {c c1 c2 : Cf} {H H1 H2 : Hp} {σ : L2.St} {st : St} {w : W} {v : V}
theorem Stp.refl : Stp c H c H := ⟨fun _ _ e _ _ => e, fun _ h => .inl h, fun _ _ e => e, rfl, fun _ o e _ => ⟨o, e, rfl⟩, fun _ _ e => .inl e⟩
theorem Stp.kp (a : Stp c H c1 H1) : ∀ x o, H x = some o → noTb o = true → ∃ o', H1 x = some o' ∧ noTb o' = true := fun x o e n => by
  obtain ⟨o', e', k⟩ := a.kk x o e n
  exact ⟨o', e', by rw [isIns_tb k]; exact n⟩
theorem Stp.tb (a : Stp c H c1 H1) {x : Addr} (z : tn (H1 x)) : tn (H x) := fun u e => by
  cases q : noTb u with
  | false => rfl
  | true =>
    obtain ⟨o', e', n⟩ := a.kp x u e q
    exact (z.no e' n).elim
theorem Stp.trans (a : Stp c H c1 H1) (b : Stp c1 H1 c2 H2) : Stp c H c2 H2 where
  fr := fun x o e t n => b.fr x o (a.fr x o e t n) t fun q => by
    rcases a.mw x q with z | z
    · exact n z
    · exact z.no e t
  mw := fun x q => by
    rcases b.mw x q with z | z
    · exact a.mw x z
    · exact .inr (a.tb z)
  lv := fun n x e => b.lv n x (a.lv n x e)
  ou := b.ou.trans a.ou
  kk := fun x o e n => by
    obtain ⟨o', e', k'⟩ := a.kk x o e n
    obtain ⟨o2, e2, k2⟩ := b.kk x o' e' (by rw [isIns_tb k']; exact n)
    exact ⟨o2, e2, k2.trans k'⟩
  ow := fun i x e => by
    rcases b.ow i x e with z | z
    · rcases a.ow i x z with y | ⟨o, y, ko⟩
      · exact .inl y
      · obtain ⟨o2, e2, k2⟩ := b.kk x o y (isIns_non ko)
        exact .inr ⟨o2, e2, k2.trans ko⟩
    · exact .inr z
theorem Stp.mn (a : Stp c H c1 H1) : Mn c.lv c.nf H c1.lv c1.nf H1 where
  fr := fun x o e t n => a.fr x o e t fun q => n (.inl q)
  nw := fun x q => by
    rcases q with q | q
    · rcases a.mw x q with z | z
      · exact .inl (.inl z)
      · exact .inr z
    · rw [a.ou] at q; exact .inl (.inr q)
  lv := a.lv
  ex := fun x f e => by
    obtain ⟨o', e', k⟩ := a.kk x _ e rfl
    rw [e', isIns_ext k]
theorem RV.mono (a : Stp c H c1 H1) (h : RV T c σ H w v) : RV T c1 σ H1 w v := by
  cases w <;> first | exact h | exact RW.mono a.mn h
/-- the heap grows by an object that nobody knew -/
theorem Stp.grow {p : Addr} {o : HO} (hp : H p = none) : Stp c H c (upd H p o) where
  fr := fun a u e _ _ => by rw [upd_ne (ne_of_none e hp)]; exact e
  mw := fun _ h => .inl h
  lv := fun _ _ e => e
  ou := rfl
  kk := fun a u e _ => ⟨u, by rw [upd_ne (ne_of_none e hp)]; exact e, rfl⟩
  ow := fun _ _ e => .inl e
theorem RSt.there (h : RSt T c st σ H) {a : Addr} (m : c.nf a) : ∃ o, H a = some o := by
  rcases m with (m | ⟨i, m⟩) | m
  · obtain ⟨n, hn⟩ := List.getElem?_of_mem m
    have l : n < st.s.length := by rw [h.sto.len]; exact (List.getElem?_eq_some_iff.mp hn).1
    exact (h.sto.at_ n _ a (List.getElem?_eq_getElem l) hn).there
  · obtain ⟨o, e⟩ := h.back i a m
    obtain ⟨a', e1, _, r⟩ := h.own i o e
    rw [m] at e1; cases e1
    obtain ⟨u, q, _⟩ := r.there
    exact ⟨u, q⟩
  · obtain ⟨u, q, _⟩ := h.ouh a m
    exact ⟨u, q⟩
/-- what is new is not open -/
theorem RSt.new (h : RSt T c st σ H) {p : Addr} (hp : H p = none) : ¬ c.nf p := fun q => by
  obtain ⟨o, e⟩ := h.there q
  rw [hp] at e; cases e
/-- the open objects stand as they stood -/
theorem RSt.keep (h : RSt T c st σ H) (fr : ∀ a o, H a = some o → H1 a = some o) : RSt T c st σ H1 := by
  have m : Mn c.lv c.nf H c.lv c.nf H1 := ⟨fun a o e _ _ => fr a o e, fun _ q => .inl q, fun _ _ e => e, fun a f e => fr a _ e⟩
  have ke : ∀ a, (∃ o, H a = some o) → H1 a = H a := fun a ⟨o, e⟩ => by rw [fr a o e, e]
  refine ⟨h.len, fun i w e => ?_, fun i o e => ?_, h.back, h.inj, h.dis, h.ou, fun a q => ?_, ⟨h.sto.len, h.sto.nd, fun n o a e1 e2 => ?_⟩⟩
  · obtain ⟨v, e1, r⟩ := h.val i w e
    exact ⟨v, e1, r.mono m⟩
  · obtain ⟨a, e1, e2, r⟩ := h.own i o e
    obtain ⟨u, q, _⟩ := r.there
    exact ⟨a, e1, e2, r.mono m (ke a ⟨u, q⟩)⟩
  · obtain ⟨o, e, n⟩ := h.ouh a q
    exact ⟨o, fr a o e, n⟩
  · have r := h.sto.at_ n o a e1 e2
    exact r.mono m (ke a r.there)
theorem RSt.grow (h : RSt T c st σ H) {p : Addr} {o : HO} (hp : H p = none) : RSt T c st σ (upd H p o) :=
  h.keep fun a u e => by rw [upd_ne (ne_of_none e hp)]; exact e
end

/-! ### what is wanted of a result -/
/-- an exception -/
def RX (T : Tb) (c : Cf) (H : Hp) (x : Xn) (cls : Value) (d : Option Addr) : Prop :=
  cls = .ref (T.ca x.C) ∧ ∃ dx fs, d = some dx ∧ H dx = some (.xd fs) ∧ ¬ c.nf dx ∧ ∀ (i n : Nat) w, x.ns[i]? = some n → x.xs[i]? = some w → ∃ v, fs.lookup (T.sy n) = some v ∧ RW T c.lv c.nf H w v
def Post {α β : Type} (T : Tb) (Wx : WX) (rel : Cf → Hp → α → β → Prop) (c : Cf) (σ : L2.St) (H : Hp) (r : R α) (Q : β → Hp → Prop) : Prop := match r with
  | .ok a st' => ∀ b H' c', Stp c H c' H' → RSt T c' st' σ H' → rel c' H' a b → Q b H'
  | .exc x st' => ∀ cls d H' c', Stp c H c' H' → RSt T c' st' σ H' → RX T c' H' x cls d → Wx cls d σ H'
  | .stk => False
section
variable {α β γ δ : Type} {T : Tb} {Wx : WX} {rel : Cf → Hp → α → β → Prop} {rel2 : Cf → Hp → γ → δ → Prop} {c c1 : Cf} {σ : L2.St} {H H1 : Hp}
theorem Post.mono {r : R α} {Q Q' : β → Hp → Prop} (h : Post T Wx rel c σ H r Q) (q : ∀ b H, Q b H → Q' b H) : Post T Wx rel c σ H r Q' := by
  cases r with
  | ok a st => exact fun b H' c' s h1 h2 => q _ _ (h b H' c' s h1 h2)
  | exc x st => exact h
  | stk => exact h
theorem Post.from {r : R α} {Q : β → Hp → Prop} (h : Post T Wx rel c σ H r Q) (s : Stp c H c1 H1) : Post T Wx rel c1 σ H1 r Q := by
  cases r with
  | ok a st => exact fun b H' c' s' h1 h2 => h b H' c' (s.trans s') h1 h2
  | exc x st => exact fun cls d H' c' s' h1 h2 => h cls d H' c' (s.trans s') h1 h2
  | stk => exact h
theorem Post.bind {m : R α} {f : α → St → R γ} {Q : δ → Hp → Prop} (h : Post T Wx rel2 c σ H (m.bind f) Q) :
    Post T Wx rel c σ H m fun b H1 => ∃ c1 st1 a, Stp c H c1 H1 ∧ RSt T c1 st1 σ H1 ∧ rel c1 H1 a b ∧ Post T Wx rel2 c1 σ H1 (f a st1) Q := by
  cases m with
  | ok a st => exact fun b H' c' s h1 h2 => ⟨c', st, a, s, h1, h2, h.from s⟩
  | exc x st => exact h
  | stk => exact h
/-- a result at hand -/
theorem Post.ret {a : α} {st : St} {b : β} {Q : β → Hp → Prop} (h : Post T Wx rel c σ H (.ok a st) Q) (r : RSt T c st σ H) (q : rel c H a b) : Q b H := h b H c Stp.refl r q
end
/-! ### readings by the evaluator -/
def relV (T : Tb) (σ : L2.St) : Cf → Hp → W → V → Prop := fun c H w v => RV T c σ H w v
def relA (T : Tb) (σ : L2.St) : Cf → Hp → List W → List V → Prop := fun c H ws vs => ws.length = vs.length ∧ ∀ (i : Nat) w v, ws[i]? = some w → vs[i]? = some v → RV T c σ H w v
def relB : Cf → Hp → Bool → Bool → Prop := fun _ _ a b => b = a
def relO : Cf → Hp → Option Int → Option Int → Prop := fun _ _ a b => b = a
def rdE (T : Tb) (Wx : WX) (m : St → R W) : TE := fun σ H Q => ∃ c st, RSt T c st σ H ∧ Post T Wx (relV T σ) c σ H (m st) Q
def rdA (T : Tb) (Wx : WX) (m : St → R (List W)) : TA := fun σ H Q => ∃ c st, RSt T c st σ H ∧ Post T Wx (relA T σ) c σ H (m st) Q
def rdT (T : Tb) (Wx : WX) (m : St → R Bool) : TT := fun σ H Q => ∃ c st, RSt T c st σ H ∧ Post T Wx relB c σ H (m st) Q
def SE (T : Tb) (X : Cx) (Wx : WX) (e : Expr) (m : St → R W) : Prop := PE X e (rdE T Wx m)
def ST (T : Tb) (X : Cx) (Wx : WX) (e : Expr) (m : St → R Bool) : Prop := PT X e (rdT T Wx m)
def SA (T : Tb) (X : Cx) (Wx : WX) (es : List Expr) (m : St → R (List W)) : Prop := PA X es (rdA T Wx m)
theorem PE.imp {X : Cx} {e : Expr} {t t' : TE} (h : PE X e t) (q : ∀ σ H Q, t' σ H Q → t σ H Q) : PE X e t' := ⟨fun pins s σ H Q I z => h.run pins s σ H Q I (q _ _ _ z)⟩
theorem PT.imp {X : Cx} {e : Expr} {t t' : TT} (h : PT X e t) (q : ∀ σ H Q, t' σ H Q → t σ H Q) : PT X e t' := ⟨fun pins s σ H Q I z => h.run pins s σ H Q I (q _ _ _ z)⟩
theorem PA.imp {X : Cx} {es : List Expr} {t t' : TA} (h : PA X es t) (q : ∀ σ H Q, t' σ H Q → t σ H Q) : PA X es t' := ⟨fun pos pins s σ H Q I z => h.run pos pins s σ H Q I (q _ _ _ z)⟩
end Ev

/-! S2: operators and built-ins on values. -/
namespace Ev
open PySem PySem.Spec PyProof.Rows L2
/-- a value looked at: lists and dicts of the frame or the store in line -/
def RVV (T : Tb) (c : Cf) (H : Hp) (w : W) (v : V) : Prop := match w with
  | .lst ws => ∃ a vs, v = .ref a ∧ H a = some (.lst vs) ∧ RWs T c.lv c.nf H ws vs
  | .dct ks ws => ∃ a vs, v = .ref a ∧ H a = some (.dK ((ks.map kS).zip vs)) ∧ ks.length = vs.length ∧ RWs T c.lv c.nf H ws vs
  | .loc _ => True
  | .sl _ => True
  | w => RW T c.lv c.nf H w v
section
variable {T : Tb} {c c1 : Cf} {st : St} {σ : L2.St} {H H1 : Hp} {w : W} {v : V}
/-- an object that is looked at -/
theorem look_ok (h : RSt T c st σ H) (r : RV T c σ H w v) {o : OO} (e : look st w = some o) : ∃ a, v = .ref a ∧ RO T c.lv c.nf H o a := by
  cases w with
  | loc n =>
    obtain ⟨a, e1, e2⟩ : ∃ a, v = .ref a ∧ c.lv[n]? = some a := by simpa [RV, RW] using r
    exact ⟨a, e1, h.sto.at_ n o a e e2⟩
  | sl i =>
    have e1 : σ[i]? = some (some v) := r
    cases q : st.r[i]? with
    | none => simp [look, q] at e
    | some s =>
      cases s with
      | own o' =>
        simp [look, q] at e; subst e
        obtain ⟨a, _, e2, r2⟩ := h.own i o' q
        rw [e1] at e2
        have e3 : v = .ref a := by simpa using e2
        exact ⟨a, e3, r2.ro⟩
      | val _ => simp [look, q] at e
      | un => simp [look, q] at e
  | lst ws =>
    simp [look] at e; subst e
    obtain ⟨a, vs, e1, e2, _, e3⟩ : ∃ a vs, v = .ref a ∧ H a = some (.lst vs) ∧ ¬ c.nf a ∧ RWs T c.lv c.nf H ws vs := by simpa [RV, RW] using r
    exact ⟨a, e1, vs, e2, e3⟩
  | dct ks ws =>
    simp [look] at e; subst e
    obtain ⟨a, vs, e1, e2, _, e3, e4⟩ : ∃ a vs, v = .ref a ∧ H a = some (.dK ((ks.map kS).zip vs)) ∧ ¬ c.nf a ∧ ks.length = vs.length ∧ RWs T c.lv c.nf H ws vs := by simpa [RV, RW] using r
    exact ⟨a, e1, vs, e2, e3, e4⟩
  | obj C ns ws =>
    simp [look] at e; subst e
    obtain ⟨a, dx, vs, e1, e2, _, e3, e4⟩ : ∃ a dx vs, v = .ref a ∧ H a = some (.ins (T.ca C) dx ((ns.map T.sy).zip vs)) ∧ ¬ c.nf a ∧ ns.length = vs.length ∧ RWs T c.lv c.nf H ws vs := by simpa [RV, RW] using r
    exact ⟨a, e1, dx, vs, e2, e3, e4⟩
  | _ => simp [look] at e
theorem rvv (h : RSt T c st σ H) (r : RV T c σ H w v) : RVV T c H (vw st w) v := by
  have far : ∀ {w' : W}, (match look st w' with | some (.lst xs) => W.lst xs | some (.dct ks xs) => W.dct ks xs | _ => w') = vw st w' → RV T c σ H w' v → (∀ n, w' = .loc n ∨ w' = .sl n → True) → True := fun _ _ _ => trivial
  cases w with
  | loc n =>
    unfold vw
    cases q : look st (.loc n) with
    | none => simp [q, RVV]
    | some o =>
      obtain ⟨a, e, ro⟩ := look_ok h r q
      cases o with
      | lst ws =>
        obtain ⟨vs, h1, h2⟩ := ro
        simp only [q, RVV]
        exact ⟨a, vs, e, h1, h2⟩
      | dct ks ws =>
        obtain ⟨vs, h1, h2, h3⟩ := ro
        simp only [q, RVV]
        exact ⟨a, vs, e, h1, h2, h3⟩
      | ins _ _ _ => simp [q, RVV]
      | tab => simp [q, RVV]
  | sl n =>
    unfold vw
    cases q : look st (.sl n) with
    | none => simp [q, RVV]
    | some o =>
      obtain ⟨a, e, ro⟩ := look_ok h r q
      cases o with
      | lst ws =>
        obtain ⟨vs, h1, h2⟩ := ro
        simp only [q, RVV]
        exact ⟨a, vs, e, h1, h2⟩
      | dct ks ws =>
        obtain ⟨vs, h1, h2, h3⟩ := ro
        simp only [q, RVV]
        exact ⟨a, vs, e, h1, h2, h3⟩
      | ins _ _ _ => simp [q, RVV]
      | tab => simp [q, RVV]
  | lst ws =>
    obtain ⟨a, vs, e1, e2, _, e3⟩ : ∃ a vs, v = .ref a ∧ H a = some (.lst vs) ∧ ¬ c.nf a ∧ RWs T c.lv c.nf H ws vs := by simpa [RV, RW] using r
    exact ⟨a, vs, e1, e2, e3⟩
  | dct ks ws =>
    obtain ⟨a, vs, e1, e2, _, e3⟩ : ∃ a vs, v = .ref a ∧ H a = some (.dK ((ks.map kS).zip vs)) ∧ ¬ c.nf a ∧ ks.length = vs.length ∧ RWs T c.lv c.nf H ws vs := by simpa [RV, RW] using r
    exact ⟨a, vs, e1, e2, e3⟩
  | _ => exact r
theorem RVV.mono (s : Stp c H c1 H1) (hn : ∀ ws, w ≠ .lst ws) (hd : ∀ ks ws, w ≠ .dct ks ws) (h : RVV T c H w v) : RVV T c1 H1 w v := by
  cases w <;> first | exact (hn _ rfl).elim | exact (hd _ _ rfl).elim | trivial | exact RW.mono s.mn h
end
/-! ### new objects -/
/-- the new list is open, but not the evaluator's -/
def Cf.opn (c : Cf) (D : Addr) : Cf := ⟨c.lv, c.ow, fun a => c.ou a ∨ a = D⟩
section
variable {T : Tb} {c c1 : Cf} {st : St} {σ : L2.St} {H H1 : Hp} {D : Addr}
theorem opn_mu {a : Addr} : (c.opn D).mu a ↔ c.mu a := Iff.rfl
theorem mn_opn (hD : H D = none) {o : HO} : Mn c.lv c.nf H (c.opn D).lv (c.opn D).nf (upd H D o) := ⟨fun a u e _ _ => by rw [upd_ne (ne_of_none e hD)]; exact e, fun a q => by
    rcases q with q | q | q
    · exact .inl (.inl q)
    · exact .inl (.inr q)
    · subst q; exact .inr (tn_none hD), fun _ _ e => e, fun a f e => by rw [upd_ne (ne_of_none e hD)]; exact e⟩
theorem RSt.opn (h : RSt T c st σ H) (hD : H D = none) {o : HO} (ho : noTb o = true := by rfl) : RSt T (c.opn D) st σ (upd H D o) := by
  have fr : ∀ a u, H a = some u → upd H D o a = some u := fun a u e => by rw [upd_ne (ne_of_none e hD)]; exact e
  have m : Mn c.lv c.nf H (c.opn D).lv (c.opn D).nf (upd H D o) := ⟨fun a u e _ _ => fr a u e, fun a q => by
    rcases q with q | q | q
    · exact .inl (.inl q)
    · exact .inl (.inr q)
    · subst q; exact .inr (tn_none hD), fun _ _ e => e, fun a f e => by rw [upd_ne (ne_of_none e hD)]; exact e⟩
  have ke : ∀ a, (∃ u, H a = some u) → upd H D o a = H a := fun a ⟨u, e⟩ => by rw [fr a u e, e]
  refine ⟨h.len, fun i w e => ?_, fun i u e => ?_, h.back, h.inj, h.dis, fun a q z => ?_, fun a q => ?_, ⟨h.sto.len, h.sto.nd, fun n u a e1 e2 => ?_⟩⟩
  · obtain ⟨v, e1, r⟩ := h.val i w e
    exact ⟨v, e1, r.mono m⟩
  · obtain ⟨a, e1, e2, r⟩ := h.own i u e
    obtain ⟨y, q, _⟩ := r.there
    exact ⟨a, e1, e2, r.mono m (ke a ⟨y, q⟩)⟩
  · rcases q with q | q
    · exact h.ou a q z
    · subst q
      obtain ⟨u, e⟩ := h.there (.inl z)
      rw [hD] at e; cases e
  · rcases q with q | q
    · obtain ⟨u, e, n⟩ := h.ouh a q
      exact ⟨u, fr a u e, n⟩
    · subst q; exact ⟨_, upd_same, ho⟩
  · have r := h.sto.at_ n u a e1 e2
    exact r.mono m (ke a r.there)
end
section
variable {T : Tb} {c : Cf} {st : St} {σ : L2.St} {H : Hp}
/-- what is wanted where a value is handed on and a frozen object may be new -/
abbrev WantsP (T : Tb) (c : Cf) (st : St) (σ : L2.St) (H : Hp) (w : W) (Q : VK) : Prop := ∀ z H' , Stp c H c H' → RSt T c st σ H' → RW T c.lv c.nf H' w z → Q z H'
theorem WantsP.of {w : W} {Q : VK} {Wx : WX} (h : Post T Wx (relV T σ) c σ H (.ok w st) Q) : WantsP T c st σ H w Q := fun z H' s r q => h z H' c s r q.rv
theorem WantsP.same {w : W} {v : V} {Q : VK} (q : WantsP T c st σ H w Q) (h : RSt T c st σ H) (r : RW T c.lv c.nf H w v) : Q v H := q v H Stp.refl h r
/-- .. that nobody else holds -/
def FrW (T : Tb) (c : Cf) (st : St) (σ : L2.St) (H0 H : Hp) (w : W) (z : V) : Prop := isL w = true → ∀ a, z = .ref a → tn (H0 a) ∧ RSt T (c.opn a) st σ H ∧ RO T (c.opn a).lv (c.opn a).nf H (oOf w) a
abbrev Wants (T : Tb) (c : Cf) (st : St) (σ : L2.St) (H : Hp) (w : W) (Q : VK) : Prop := ∀ z H' , Stp c H c H' → RSt T c st σ H' → RW T c.lv c.nf H' w z → FrW T c st σ H H' w z → Q z H'
theorem Wants.of {w : W} {Q : VK} {Wx : WX} (h : Post T Wx (relV T σ) c σ H (.ok w st) Q) : Wants T c st σ H w Q := fun z H' s r q _ => h z H' c s r q.rv
theorem RWs.grow {ws : List W} {vs : List V} {p : Addr} {o : HO} (hp : H p = none) (h : RWs T c.lv c.nf H ws vs) : RWs T c.lv c.nf (upd H p o) ws vs := h.mono (Stp.grow hp).mn
theorem RW.grow {w : W} {v : V} {p : Addr} {o : HO} (hp : H p = none) (h : RW T c.lv c.nf H w v) : RW T c.lv c.nf (upd H p o) w v := h.mono (Stp.grow hp).mn
theorem new_tup (h : RSt T c st σ H) {ws : List W} {vs : List V} {p : Addr} {Q : VK} (hp : H p = none) (r : RWs T c.lv c.nf H ws vs) (q : Wants T c st σ H (.tup ws) Q) : Q (.ref p) (upd H p (.tup vs)) :=
  q _ _ (Stp.grow hp) (h.grow hp) (by simp only [RW]; exact ⟨p, vs, rfl, upd_same, h.new hp, r.grow hp⟩) (fun z => by cases z)
theorem new_lst (h : RSt T c st σ H) {ws : List W} {vs : List V} {p : Addr} {Q : VK} (hp : H p = none) (r : RWs T c.lv c.nf H ws vs) (q : Wants T c st σ H (.lst ws) Q) : Q (.ref p) (upd H p (.lst vs)) :=
  q _ _ (Stp.grow hp) (h.grow hp) (by simp only [RW]; exact ⟨p, vs, rfl, upd_same, h.new hp, r.grow hp⟩) (fun _ a e => by cases e; exact ⟨tn_none hp, h.opn hp, vs, upd_same, r.mono (mn_opn hp)⟩)
theorem Wants.same {w : W} {v : V} {Q : VK} (q : Wants T c st σ H w Q) (h : RSt T c st σ H) (r : RW T c.lv c.nf H w v) (f : isL w = false := by rfl) : Q v H := q v H Stp.refl h r (fun z => by rw [f] at z; cases z)
end
theorem line_eq : lineMax = sizeLine := by decide
/-! ### binary operators -/
def opOf : Bop → Operator
  | .add => .Add | .sub => .Sub | .mul => .Mult | .fdv => .FloorDiv | .mod => .Mod | .pow => .Pow
theorem tOk_app {x y : Tx} (hx : tOk x = true) (hy : tOk y = true) : tOk (x ++ y) = true := by
  unfold tOk at *; rw [List.all_append, hx, hy]; rfl
theorem mulOk_c {i j : Int} (h : mulOk i j = true) : CMul i j := by
  unfold mulOk at h
  simp only [Bool.or_eq_true, Bool.and_eq_true, decide_eq_true_eq] at h
  exact h
section
variable {T : Tb} {X : Cx} {c : Cf} {st : St} {σ : L2.St} {H : Hp} {pins : List (Addr × Obj)} {s : Shared}
theorem tup_at {ws : List W} {v : V} (h : RVV T c H (.tup ws) v) : ∃ a vs, v = .ref a ∧ H a = some (.tup vs) ∧ ¬ c.nf a ∧ RWs T c.lv c.nf H ws vs := by simpa [RVV, RW] using h
theorem bin_ok {op : Bop} {x y w : W} {v u : V} {vv uu : Value} {Q : VK} (e : binW op x y = some w) (I : Inv X pins σ H s) (h : RSt T c st σ H) (rx : RVV T c H x v) (ry : RVV T c H y u) (qv : RelV v vv) (qu : RelV u uu)
    (q : Wants T c st σ H w Q) : wpAny (model X.prog X.w) X.A (binaryOp (opOf op) vv uu) (EP X pins σ Q) X.xe s := by
  unfold binW at e
  split at e
  · cases e; cases rx; cases ry
    exact op_add pins s σ H _ _ vv uu Q I qv qu ⟨_, _, rfl, rfl, q.same h rfl⟩
  · cases e; cases rx; cases ry
    exact op_sub pins s σ H _ _ vv uu Q I qv qu ⟨_, _, rfl, rfl, q.same h rfl⟩
  · split at e
    · rename_i hm
      cases e; cases rx; cases ry
      exact op_mul pins s σ H _ _ vv uu Q I qv qu ⟨_, _, rfl, rfl, mulOk_c hm, q.same h rfl⟩
    · cases e
  · split at e
    · rename_i hm
      cases e; cases rx; cases ry
      exact op_fdiv pins s σ H _ _ vv uu Q I qv qu ⟨_, _, rfl, rfl, hm, q.same h rfl⟩
    · cases e
  · split at e
    · rename_i hm
      cases e; cases rx; cases ry
      exact op_mod pins s σ H _ _ vv uu Q I qv qu ⟨_, _, rfl, rfl, hm, q.same h rfl⟩
    · cases e
  · split at e
    · rename_i hm
      cases e; cases rx; cases ry
      exact op_pow pins s σ H _ _ vv uu Q I qv qu ⟨_, _, rfl, rfl, hm, q.same h rfl⟩
    · cases e
  · split at e
    · rename_i hm
      cases e
      obtain ⟨rfl, o1⟩ := rx
      obtain ⟨rfl, o2⟩ := ry
      refine op_add_str pins s σ H _ _ vv uu Q I qv qu ⟨_, _, rfl, rfl, ?_, ?_⟩
      · rw [SX.S_len, SX.S_len, ← line_eq]; exact hm
      · rw [SX.S_cat]
        exact q.same h ⟨rfl, tOk_app o1 o2⟩
    · cases e
  · split at e
    · rename_i hm
      cases e
      obtain ⟨a, xs, rfl, h1, n1, r1⟩ := tup_at rx
      obtain ⟨b, ys, rfl, h2, n2, r2⟩ := tup_at ry
      refine op_catA pins s σ H _ _ vv uu Q I qv qu ⟨a, b, xs, ys, rfl, rfl, SqT.of h1, SqT.of h2, by rw [← r1.len, ← r2.len, ← line_eq]; exact hm, fun z => ?_, fun _ z => ?_, fun _ _ p hp => ?_⟩
      · subst z
        have e1 := List.eq_nil_of_length_eq_zero (r1.len.trans rfl)
        subst e1
        exact q.same h (by simp only [RW]; exact ⟨b, ys, rfl, h2, n2, by simpa using r2⟩)
      · subst z
        have e1 := List.eq_nil_of_length_eq_zero (r2.len.trans rfl)
        subst e1
        exact q.same h (by simp only [RW]; exact ⟨a, xs, rfl, h1, n1, by simpa using r1⟩)
      · exact new_tup h hp (r1.append r2) q
    · cases e
  · split at e
    · rename_i hm
      cases e
      obtain ⟨a, xs, rfl, h1, r1⟩ := rx
      obtain ⟨b, ys, rfl, h2, r2⟩ := ry
      refine op_cat pins s σ H _ _ vv uu Q I qv qu ⟨a, b, xs, ys, rfl, rfl, h1, h2, by rw [← r1.len, ← r2.len, ← line_eq]; exact hm, fun p hp => ?_⟩
      exact new_lst h hp (r1.append r2) q
    · cases e
  · split at e
    · rename_i hm
      cases e
      obtain ⟨a, xs, rfl, h1, r1⟩ := rx
      cases ry
      refine op_rep pins s σ H _ _ vv uu Q I qv qu ⟨a, _, xs, rfl, rfl, h1, hm.1, hm.2.1, by rw [← r1.len, ← line_eq]; exact hm.2.2, fun p hp => ?_⟩
      refine new_lst h hp ?_ q
      have rep : ∀ n : Nat, RWs T c.lv c.nf H (List.replicate n _).flatten (List.replicate n xs).flatten := fun n => by
        induction n with
        | zero => exact RWs.nil
        | succ n ih =>
          rw [List.replicate_succ, List.replicate_succ, List.flatten_cons, List.flatten_cons]
          exact r1.append ih
      exact rep _
    · cases e
  · cases e
end
end Ev

/-! S3: comparisons, truth, places, slices. -/
namespace Ev
open PySem PySem.Spec PyProof.Rows L2
/-! ### data -/
mutual
def toPD : W → PyData
  | .non => .none
  | .bl b => .bool b
  | .int i => .int i
  | .str x => .str (tS x)
  | .tup xs => .tuple (toPDs xs)
  | .lst xs => .list (toPDs xs)
  | _ => .none
def toPDs : List W → List PyData
  | [] => []
  | x :: xs => toPD x :: toPDs xs
end
mutual
theorem eqv_PD : ∀ (a b : W), isD a = true → isD b = true → PyData.eqv (toPD a) (toPD b) = eqD a b
  | .non, b, _, hb => by cases b <;> first | rfl | simp [isD] at hb | simp [toPD, PyData.eqv, eqD]
  | .bl _, b, _, hb => by cases b <;> first | rfl | simp [isD] at hb | simp [toPD, PyData.eqv, eqD]
  | .int _, b, _, hb => by cases b <;> first | rfl | simp [isD] at hb | simp [toPD, PyData.eqv, eqD]
  | .str x, b, _, hb => by
    cases b with
    | str y => simp only [toPD, PyData.eqv, eqD]; exact SX.S_beq _ _
    | _ => first | rfl | simp [isD] at hb | simp [toPD, PyData.eqv, eqD]
  | .tup xs, b, ha, hb => by
    cases b with
    | tup ys => simp only [toPD, PyData.eqv, eqD]; exact eqv_PDs xs ys (by simpa [isD] using ha) (by simpa [isD] using hb)
    | _ => first | rfl | simp [isD] at hb | simp [toPD, PyData.eqv, eqD]
  | .lst xs, b, ha, hb => by
    cases b with
    | lst ys => simp only [toPD, PyData.eqv, eqD]; exact eqv_PDs xs ys (by simpa [isD] using ha) (by simpa [isD] using hb)
    | _ => first | rfl | simp [isD] at hb | simp [toPD, PyData.eqv, eqD]
  | .dct _ _, _, ha, _ => by simp [isD] at ha
  | .obj _ _ _, _, ha, _ => by simp [isD] at ha
  | .loc _, _, ha, _ => by simp [isD] at ha
  | .sl _, _, ha, _ => by simp [isD] at ha
  | .glo _, _, ha, _ => by simp [isD] at ha
  | .scr _, _, ha, _ => by simp [isD] at ha
theorem eqv_PDs : ∀ (as bs : List W), isDs as = true → isDs bs = true → PyData.eqvAll (toPDs as) (toPDs bs) = eqDs as bs
  | [], [], _, _ => rfl
  | [], _ :: _, _, _ => rfl
  | _ :: _, [], _, _ => rfl
  | a :: as, b :: bs, ha, hb => by
    simp only [isDs, Bool.and_eq_true] at ha hb
    simp only [toPDs, PyData.eqvAll, eqDs]
    rw [eqv_PD a b ha.1 hb.1, eqv_PDs as bs ha.2 hb.2]
end
mutual
theorem dep_PD : ∀ (a : W), isD a = true → (toPD a).depth = dep a
  | .non, _ => rfl
  | .bl _, _ => rfl
  | .int _, _ => rfl
  | .str _, _ => rfl
  | .tup xs, h => by simp only [toPD, PyData.depth, dep]; rw [dep_PDs xs (by simpa [isD] using h)]
  | .lst xs, h => by simp only [toPD, PyData.depth, dep]; rw [dep_PDs xs (by simpa [isD] using h)]
  | .dct _ _, ha => by simp [isD] at ha
  | .obj _ _ _, ha => by simp [isD] at ha
  | .loc _, ha => by simp [isD] at ha
  | .sl _, ha => by simp [isD] at ha
  | .glo _, ha => by simp [isD] at ha
  | .scr _, ha => by simp [isD] at ha
theorem dep_PDs : ∀ (as : List W), isDs as = true → PyData.depthAll (toPDs as) = deps as
  | [], _ => rfl
  | a :: as, h => by
    simp only [isDs, Bool.and_eq_true] at h
    simp only [toPDs, PyData.depthAll, deps]
    rw [dep_PD a h.1, dep_PDs as h.2]
end
section
variable {T : Tb} {lv : List Addr} {nf : Addr → Prop} {H : Hp}
theorem tOk_str {x : Tx} (h : tOk x = true) : PyData.strOk (tS x) = true := by
  unfold PyData.strOk
  show (x.toArray.all fun c => decide (c < 1114112)) = true
  rw [List.all_toArray]
  exact h
mutual
theorem lay_PD : ∀ (w : W) (v : V), RW T lv nf H w v → isD w = true → (toPD w).canLay0 = true ∧ Dp T.K H v (toPD w)
  | .non, v, h, _ => by cases h; exact ⟨rfl, .non⟩
  | .bl _, v, h, _ => by cases h; exact ⟨rfl, .bl _⟩
  | .int _, v, h, _ => by cases h; exact ⟨rfl, .int _⟩
  | .str x, v, h, _ => by
    obtain ⟨rfl, o⟩ := h
    exact ⟨tOk_str o, .str _⟩
  | .tup ws, v, h, hd => by
    obtain ⟨a, vs, rfl, e, _, r⟩ : ∃ a vs, v = .ref a ∧ H a = some (.tup vs) ∧ ¬ nf a ∧ RWs T lv nf H ws vs := by simpa [RW] using h
    obtain ⟨h1, h2⟩ := lay_PDs ws vs r (by simpa [isD] using hd)
    exact ⟨h1, .tup (SqT.of e) h2⟩
  | .lst ws, v, h, hd => by
    obtain ⟨a, vs, rfl, e, _, r⟩ : ∃ a vs, v = .ref a ∧ H a = some (.lst vs) ∧ ¬ nf a ∧ RWs T lv nf H ws vs := by simpa [RW] using h
    obtain ⟨h1, h2⟩ := lay_PDs ws vs r (by simpa [isD] using hd)
    exact ⟨h1, .lst (SqL.of e) h2⟩
  | .dct _ _, _, _, ha => by simp [isD] at ha
  | .obj _ _ _, _, _, ha => by simp [isD] at ha
  | .loc _, _, _, ha => by simp [isD] at ha
  | .sl _, _, _, ha => by simp [isD] at ha
  | .glo _, _, _, ha => by simp [isD] at ha
  | .scr _, _, _, ha => by simp [isD] at ha
theorem lay_PDs : ∀ (ws : List W) (vs : List V), RWs T lv nf H ws vs → isDs ws = true → PyData.canLayAll0 (toPDs ws) = true ∧ DpAll T.K H vs (toPDs ws)
  | [], vs, h, _ => by
    simp only [RWs] at h; subst h
    exact ⟨rfl, .nil⟩
  | w :: ws, vs, h, hd => by
    simp only [RWs] at h
    obtain ⟨v, r, rfl, h1, h2⟩ := h
    simp only [isDs, Bool.and_eq_true] at hd
    obtain ⟨a1, a2⟩ := lay_PD w v h1 hd.1
    obtain ⟨b1, b2⟩ := lay_PDs ws r h2 hd.2
    exact ⟨by simp only [toPDs, PyData.canLayAll0, a1, b1]; rfl, .cons a2 b2⟩
end
end
section
variable {T : Tb} {c : Cf} {H : Hp}
/-- a look at data -/
theorem lay_V {w : W} {v : V} (h : RVV T c H w v) (d : isD w = true) : (toPD w).canLay0 = true ∧ Dp T.K H v (toPD w) := by
  cases w with
  | lst ws =>
    obtain ⟨a, vs, rfl, e, r⟩ := h
    obtain ⟨h1, h2⟩ := lay_PDs ws vs r (by simpa [isD] using d)
    exact ⟨h1, .lst (SqL.of e) h2⟩
  | dct _ _ => simp [isD] at d
  | loc _ => simp [isD] at d
  | sl _ => simp [isD] at d
  | _ => exact lay_PD (lv := c.lv) (nf := c.nf) _ v h d
end
theorem dOk_i {w : W} (h : dOk w = true) : isD w = true ∧ dep w ≤ 128 := by simpa [dOk] using h
/-- room for deep comparisons -/
def Deep (X : Cx) : Prop := X.A.units + 140 < cLine
section
variable {T : Tb} {X : Cx} {c : Cf} {st : St} {σ : L2.St} {H : Hp} {pins : List (Addr × Obj)} {s : Shared}
theorem eq_ok {x y : W} {v u : V} {vv uu : Value} {Q : VK} (hK : T.K = X.K) (hu : Deep X) (dx : dOk x = true) (dy : dOk y = true) (I : Inv X pins σ H s) (rx : RVV T c H x v) (ry : RVV T c H y u) (qv : RelV v vv) (qu : RelV u uu)
    (q : Q (.bl (eqD x y)) H) : wpAny (model X.prog X.w) X.A (compareOp .Eq vv uu) (EP X pins σ Q) X.xe s := by
  obtain ⟨d1, d2⟩ := dOk_i dx
  obtain ⟨e1, e2⟩ := dOk_i dy
  obtain ⟨l1, p1⟩ := lay_V rx d1
  obtain ⟨l2, p2⟩ := lay_V ry e1
  rw [hK] at p1 p2
  obtain ⟨as, r1⟩ := Dp.reads I _ v vv p1 qv
  obtain ⟨bs, r2⟩ := Dp.reads I _ u uu p2 qu
  refine SeqAt.compareEq_reads r1 r2 l1 l2 ?_ ⟨.bl _, H, I, rfl, by rw [eqv_PD x y d1 e1]; exact q⟩
  rw [dep_PD x d1]
  unfold Deep at hu; omega
theorem ne_ok {x y : W} {v u : V} {vv uu : Value} {Q : VK} (hK : T.K = X.K) (hu : Deep X) (dx : dOk x = true) (dy : dOk y = true) (I : Inv X pins σ H s) (rx : RVV T c H x v) (ry : RVV T c H y u) (qv : RelV v vv) (qu : RelV u uu)
    (q : Q (.bl (!eqD x y)) H) : wpAny (model X.prog X.w) X.A (compareOp .NotEq vv uu) (EP X pins σ Q) X.xe s := by
  obtain ⟨d1, d2⟩ := dOk_i dx
  obtain ⟨e1, e2⟩ := dOk_i dy
  obtain ⟨l1, p1⟩ := lay_V rx d1
  obtain ⟨l2, p2⟩ := lay_V ry e1
  rw [hK] at p1 p2
  obtain ⟨as, r1⟩ := Dp.reads I _ v vv p1 qv
  obtain ⟨bs, r2⟩ := Dp.reads I _ u uu p2 qu
  refine SeqAt.compareNe_reads r1 r2 l1 l2 ?_ ⟨.bl _, H, I, rfl, by rw [eqv_PD x y d1 e1]; exact q⟩
  rw [dep_PD x d1]
  unfold Deep at hu; omega
end

/-! ### in -/
section
variable {T : Tb} {X : Cx} {c : Cf} {st : St} {σ : L2.St} {H : Hp} {pins : List (Addr × Obj)} {s : Shared}
theorem any_PD {x : W} (hx : isD x = true) : ∀ {ys : List W}, isDs ys = true → ((toPDs ys).any fun y => PyData.eqv y (toPD x)) = memD x ys
  | [], _ => rfl
  | y :: ys, h => by
    simp only [isDs, Bool.and_eq_true] at h
    simp only [toPDs, List.any_cons, memD]
    rw [eqv_PD y x h.1 hx, any_PD hx h.2]
    rfl
theorem in_ok {neg : Bool} {x y : W} {ys : List W} {v u : V} {vv uu : Value} {Q : VK} (hy : y = .lst ys ∨ y = .tup ys) (hK : T.K = X.K) (hu : Deep X) (dx : dOk x = true) (dy : dOk y = true) (I : Inv X pins σ H s) (rx : RVV T c H x v) (ry : RVV T c H y u) (qv : RelV v vv) (qu : RelV u uu)
    (q : Q (.bl (if neg then !memD x ys else memD x ys)) H) : wpAny (model X.prog X.w) X.A (compareOp (if neg then .NotIn else .In) vv uu) (EP X pins σ Q) X.xe s := by
  obtain ⟨d1, d2⟩ := dOk_i dx
  obtain ⟨e1, e2⟩ := dOk_i dy
  have e3 : isDs ys = true := by rcases hy with rfl | rfl <;> simpa [isD] using e1
  obtain ⟨l1, p1⟩ := lay_V rx d1
  obtain ⟨l2, p2⟩ := lay_V ry e1
  rw [hK] at p1 p2
  obtain ⟨as, r1⟩ := Dp.reads I _ v vv p1 qv
  obtain ⟨bs, r2⟩ := Dp.reads I _ u uu p2 qu
  have hu' : X.A.units + 1 + min (PyData.depthAll (toPDs ys)) (toPD x).depth < cLine := by
    rw [dep_PD x d1]
    unfold Deep at hu; omega
  have l3 : PyData.canLayAll0 (toPDs ys) = true := by rcases hy with rfl | rfl <;> exact l2
  cases neg with
  | false =>
    have z : EP X pins σ Q (.bool ((toPDs ys).any fun y => PyData.eqv y (toPD x))) s := ⟨.bl _, H, I, rfl, by rw [any_PD d1 e3]; exact q⟩
    rcases hy with rfl | rfl
    · exact SeqAt.in_list_reads r2 r1 l3 l1 hu' z
    · exact SeqAt.in_tuple_reads r2 r1 l3 l1 hu' z
  | true =>
    have z : EP X pins σ Q (.bool (!(toPDs ys).any fun y => PyData.eqv y (toPD x))) s := ⟨.bl _, H, I, rfl, by rw [any_PD d1 e3]; exact q⟩
    rcases hy with rfl | rfl
    · exact SeqAt.notIn_list_reads r2 r1 l3 l1 hu' z
    · exact SeqAt.notIn_tuple_reads r2 r1 l3 l1 hu' z
/-! ### keys -/
theorem kS_inj {a b : Ky} (h : kS a = kS b) : a = b := by
  cases a with
  | inl i => cases b with
    | inl j => exact congrArg _ (Sum.inl.inj h)
    | inr y => cases h
  | inr x => cases b with
    | inl j => cases h
    | inr y => exact congrArg _ (SX.S_inj (Sum.inr.inj h))
theorem key_of {k : W} {q : Ky} {v : V} (e : kyOf k = some q) (r : RVV T c H k v) : v = kV (kS q) := by
  unfold kyOf at e
  split at e
  · cases e; exact r
  · cases e; exact r.1
  · cases e
theorem kget_ok {lv : List Addr} {nf : Addr → Prop} {q : Ky} : ∀ {ks : List Ky} {ws : List W} {vs : List V}, ks.length = vs.length → RWs T lv nf H ws vs →
    (match kget q ks ws with
      | some w => ∃ v, valV ((ks.map kS).zip vs) (kS q) = some v ∧ RW T lv nf H w v
      | none => valV ((ks.map kS).zip vs) (kS q) = none)
  | [], ws, vs, e, r => by simp [kget, valV]
  | g :: ks, ws, [], e, r => by simp at e
  | g :: ks, [], v :: vs, e, r => by simp [RWs] at r
  | g :: ks, w :: ws, v :: vs, e, r => by
    simp only [RWs] at r
    obtain ⟨v', vs', e1, r1, r2⟩ := r
    cases e1
    have ih := kget_ok (q := q) (ks := ks) (by simpa using e) r2
    simp only [List.map_cons, List.zip_cons_cons, kget]
    by_cases hg : g = q
    · rw [if_pos hg]
      subst hg
      exact ⟨v, valV_pos rfl, r1⟩
    · rw [if_neg hg]
      rw [valV_neg (fun z => hg (kS_inj z))]
      exact ih
theorem din_ok {neg : Bool} {k : W} {q : Ky} {ks : List Ky} {ws : List W} {v u : V} {vv uu : Value} {Q : VK} (hu : Deep X) (e : kyOf k = some q) (I : Inv X pins σ H s) (rx : RVV T c H k v) (ry : RVV T c H (.dct ks ws) u) (qv : RelV v vv) (qu : RelV u uu)
    (hq : Q (.bl (if neg then !(kget q ks ws).isSome else (kget q ks ws).isSome)) H) : wpAny (model X.prog X.w) X.A (compareOp (if neg then .NotIn else .In) vv uu) (EP X pins σ Q) X.xe s := by
  obtain ⟨a, vs, rfl, h1, h2, h3⟩ := ry
  have ev := key_of e rx
  subst ev
  cases qu
  have hu' : X.A.units + 1 < cLine := by unfold Deep at hu; omega
  have g := DGet.k (k := kS q) h1
  have iss : (valV ((ks.map kS).zip vs) (kS q)).isSome = (kget q ks ws).isSome := by
    have z := kget_ok (T := T) (q := q) h2 h3
    cases y : kget q ks ws with
    | some w =>
      rw [y] at z
      obtain ⟨v, z1, _⟩ := z
      rw [z1]; rfl
    | none =>
      rw [y] at z
      rw [show valV ((ks.map kS).zip vs) (kS q) = none from z]; rfl
  cases neg with
  | false => exact d_in hu' I g qv fun s' I' => ⟨.bl _, H, I', rfl, by rw [iss]; exact hq⟩
  | true => exact d_notIn hu' I g qv fun s' I' => ⟨.bl _, H, I', rfl, by rw [iss]; exact hq⟩
/-! ### all comparisons of built-in values -/
def cpOf : Cop → CmpOp
  | .eq => .Eq | .ne => .NotEq | .lt => .Lt | .le => .LtE | .gt => .Gt | .ge => .GtE | .isn => .Is | .ntn => .IsNot | .inn => .In | .nin => .NotIn
theorem isn_of {x : W} {v : V} {k : Bool} (e : isnW x = some k) (r : RV T c σ H x v) : decide (v = .non) = k := by
  cases x with
  | non => cases e; cases r; rfl
  | bl _ => cases e; cases r; rfl
  | int _ => cases e; cases r; rfl
  | str _ => cases e; obtain ⟨rfl, _⟩ := r; rfl
  | tup _ => cases e; obtain ⟨a, vs, rfl, _⟩ := tup_at r; rfl
  | lst ws => cases e; obtain ⟨a, vs, rfl, _⟩ : ∃ a vs, v = .ref a ∧ H a = some (.lst vs) ∧ ¬ c.nf a ∧ RWs T c.lv c.nf H ws vs := by simpa [RV, RW] using r
              rfl
  | dct ks ws => cases e; obtain ⟨a, vs, rfl, _⟩ : ∃ a vs, v = .ref a ∧ H a = some (.dK ((ks.map kS).zip vs)) ∧ ¬ c.nf a ∧ ks.length = vs.length ∧ RWs T c.lv c.nf H ws vs := by simpa [RV, RW] using r
                 rfl
  | obj C ns ws =>
    cases e
    obtain ⟨a, dx, vs, rfl, _⟩ : ∃ a dx vs, v = .ref a ∧ H a = some (.ins (T.ca C) dx ((ns.map T.sy).zip vs)) ∧ ¬ c.nf a ∧ ns.length = vs.length ∧ RWs T c.lv c.nf H ws vs := by simpa [RV, RW] using r
    rfl
  | loc n =>
    cases e
    obtain ⟨a, rfl, _⟩ : ∃ a, v = .ref a ∧ c.lv[n]? = some a := by simpa [RV, RW] using r
    rfl
  | sl n => cases e
  | glo n => cases e
  | scr ns =>
    cases e
    obtain ⟨a, rfl, _⟩ : ∃ a, v = .ref a ∧ ((Rd H a (.lst (ns.map V.int)) ∧ ¬ c.nf a) ∨ KL T.K a (ns.map V.int)) := by simpa [RV, RW] using r
    rfl
theorem isn_ok {x : W} {k : Bool} {v : V} {vv uu : Value} {Q : VK} (e : isnW x = some k) (I : Inv X pins σ H s) (rx : RV T c σ H x v) (qv : RelV v vv) (qu : RelV .non uu) (q : Q (.bl k) H) :
    wpAny (model X.prog X.w) X.A (compareOp .Is vv uu) (EP X pins σ Q) X.xe s :=
  op_isN pins s σ H v .non vv uu Q I qv qu ⟨rfl, by rw [isn_of e rx]; exact q⟩
theorem ntn_ok {x : W} {k : Bool} {v : V} {vv uu : Value} {Q : VK} (e : isnW x = some k) (I : Inv X pins σ H s) (rx : RV T c σ H x v) (qv : RelV v vv) (qu : RelV .non uu) (q : Q (.bl !k) H) :
    wpAny (model X.prog X.w) X.A (compareOp .IsNot vv uu) (EP X pins σ Q) X.xe s :=
  op_notN pins s σ H v .non vv uu Q I qv qu ⟨rfl, by rw [isn_of e rx]; exact q⟩
theorem cmp_ok {op : Cop} {x y : W} {k : Bool} {v u : V} {vv uu : Value} {Q : VK} (hK : T.K = X.K) (hu : Deep X) (e : cmpW op x y = some k) (I : Inv X pins σ H s) (rx : RVV T c H x v) (ry : RVV T c H y u) (qv : RelV v vv) (qu : RelV u uu)
    (q : Q (.bl k) H) : wpAny (model X.prog X.w) X.A (compareOp (cpOf op) vv uu) (EP X pins σ Q) X.xe s := by
  unfold cmpW at e
  split at e
  · cases e; cases rx; cases ry
    exact op_lt pins s σ H _ _ vv uu Q I qv qu ⟨_, _, rfl, rfl, q⟩
  · cases e; cases rx; cases ry
    exact op_le pins s σ H _ _ vv uu Q I qv qu ⟨_, _, rfl, rfl, q⟩
  · cases e; cases rx; cases ry
    exact op_gt pins s σ H _ _ vv uu Q I qv qu ⟨_, _, rfl, rfl, q⟩
  · cases e; cases rx; cases ry
    exact op_ge pins s σ H _ _ vv uu Q I qv qu ⟨_, _, rfl, rfl, q⟩
  · split at e
    · rename_i hd
      simp only [Bool.and_eq_true] at hd
      cases e
      exact eq_ok hK hu hd.1 hd.2 I rx ry qv qu q
    · cases e
  · split at e
    · rename_i hd
      simp only [Bool.and_eq_true] at hd
      cases e
      exact ne_ok hK hu hd.1 hd.2 I rx ry qv qu q
    · cases e
  · cases e
    obtain ⟨rfl, _⟩ := rx
    obtain ⟨rfl, _⟩ := ry
    exact op_in_sign pins s σ H _ _ vv uu Q I qv qu ⟨_, _, rfl, rfl, q⟩
  · cases e
    obtain ⟨rfl, _⟩ := rx
    obtain ⟨rfl, _⟩ := ry
    exact op_notIn_sign pins s σ H _ _ vv uu Q I qv qu ⟨_, _, rfl, rfl, q⟩
  · split at e
    · rename_i hd
      simp only [Bool.and_eq_true] at hd
      cases e
      exact in_ok (neg := false) (.inl rfl) hK hu hd.1 hd.2 I rx ry qv qu q
    · cases e
  · split at e
    · rename_i hd
      simp only [Bool.and_eq_true] at hd
      cases e
      exact in_ok (neg := true) (.inl rfl) hK hu hd.1 hd.2 I rx ry qv qu q
    · cases e
  · split at e
    · rename_i hd
      simp only [Bool.and_eq_true] at hd
      cases e
      exact in_ok (neg := false) (.inr rfl) hK hu hd.1 hd.2 I rx ry qv qu q
    · cases e
  · split at e
    · rename_i hd
      simp only [Bool.and_eq_true] at hd
      cases e
      exact in_ok (neg := true) (.inr rfl) hK hu hd.1 hd.2 I rx ry qv qu q
    · cases e
  · obtain ⟨z, e1, e2⟩ := Option.map_eq_some_iff.mp e
    subst e2
    exact din_ok (neg := false) hu e1 I rx ry qv qu q
  · obtain ⟨z, e1, e2⟩ := Option.map_eq_some_iff.mp e
    subst e2
    exact din_ok (neg := true) hu e1 I rx ry qv qu q
  · cases e
/-! ### truth, places, slices -/
theorem tru_ok' {w : W} {k : Bool} {v : V} (e : truW w = some k) (r : RVV T c H w v) (hK : T.K = X.K) : TruV X.K v H k := by
  unfold truW at e
  split at e
  · cases e; cases r; rfl
  · cases e; cases r; rfl
  · cases e; cases r; rfl
  · split at e
    · rename_i x hl
      cases e
      obtain ⟨rfl, _⟩ := r
      refine ⟨by rw [SX.S_len, ← line_eq]; exact hl, ?_⟩
      rw [SX.S_len]
      clear hl
      cases x with
      | nil => rfl
      | cons a b => simp; omega
    · cases e
  · rename_i xs
    cases e
    obtain ⟨a, vs, rfl, h1, _, h2⟩ := tup_at r
    refine .inr (.inl ⟨vs, SqT.of h1, ?_⟩)
    have l := h2.len
    cases xs <;> cases vs <;> simp_all
  · rename_i xs
    cases e
    obtain ⟨a, vs, rfl, h1, h2⟩ := r
    refine .inl ⟨vs, SqL.of h1, ?_⟩
    have l := h2.len
    cases xs <;> cases vs <;> simp_all
  · rename_i ks _
    cases e
    obtain ⟨a, vs, rfl, h1, h2, h3⟩ := r
    refine .inr (.inr ⟨_, h1, ?_⟩)
    cases ks <;> cases vs <;> simp_all
  · cases e
theorem sub_ok {x y w : W} {v u : V} {vv uu : Value} {Q : VK} {a b : Expr} (hu : Deep X) (e : subW x y = some w) (I : Inv X pins σ H s) (h : RSt T c st σ H) (rx : RVV T c H x v) (ry : RVV T c H y u) (qv : RelV v vv) (qu : RelV u uu)
    (hs : subscripted b false vv uu = operate [vv, uu] (getItem vv uu)) (q : WantsP T c st σ H w Q) : wpAny (model X.prog X.w) X.A (subscriptTail a b vv uu) (EP X pins σ Q) X.xe s := by
  unfold subW at e
  split at e
  · obtain ⟨j, e1, e2⟩ := Option.bind_eq_some_iff.mp e
    obtain ⟨p, vs, rfl, h1, n1, h2⟩ := tup_at rx
    cases ry
    obtain ⟨z, g1, g2⟩ := h2.get e2
    exact ix_tup a b pins s σ H _ _ vv uu Q I qv qu ⟨p, vs, _, z, rfl, rfl, SqT.of h1, by rw [L2.atI, ← h2.len]; exact Option.bind_eq_some_iff.mpr ⟨j, e1, g1⟩, q.same h g2⟩ hs
  · obtain ⟨j, e1, e2⟩ := Option.bind_eq_some_iff.mp e
    obtain ⟨p, vs, rfl, h1, h2⟩ := rx
    cases ry
    obtain ⟨z, g1, g2⟩ := h2.get e2
    exact ix_list a b pins s σ H _ _ vv uu Q I qv qu ⟨p, vs, _, z, rfl, rfl, SqL.of h1, by rw [L2.atI, ← h2.len]; exact Option.bind_eq_some_iff.mpr ⟨j, e1, g1⟩, q.same h g2⟩ hs
  · split at e
    · rename_i hl
      obtain ⟨j, e1, e2⟩ := Option.bind_eq_some_iff.mp e
      obtain ⟨c', e3, e4⟩ := Option.map_eq_some_iff.mp e2
      subst e4
      obtain ⟨rfl, ok⟩ := rx
      cases ry
      refine ix_str a b pins s σ H _ _ vv uu Q I qv qu ⟨_, _, c', rfl, rfl, by rw [SX.S_len, ← line_eq]; exact hl, ?_, q.same h ⟨rfl, ?_⟩⟩ hs
      · exact Option.bind_eq_some_iff.mpr ⟨j, e1, by simpa using e3⟩
      · have m : c' ∈ _ := List.mem_of_getElem? e3
        have z := List.all_eq_true.mp ok c' m
        simpa [tOk] using z
    · cases e
  · obtain ⟨k, e1, e2⟩ := Option.bind_eq_some_iff.mp e
    obtain ⟨p, vs, rfl, h1, h2, h3⟩ := rx
    have ev := key_of e1 ry
    subst ev
    have z := kget_ok (T := T) (q := k) h2 h3
    rw [e2] at z
    obtain ⟨x', z1, z2⟩ := z
    have g := DGet.k (k := kS k) h1
    rw [z1] at g
    cases qv
    have hu' : X.A.units + 1 < cLine := by unfold Deep at hu; omega
    exact tail_any (dict_typeIs I g) PySem.F.slot_dict_getitem.lookup (d_getItem hu' I g qu fun w' s3 I3 rw' => ⟨x', H, I3, rw', q.same h z2⟩) hs
  · cases e
theorem tOk_cut {x : Tx} {lo hi : Option Int} (h : tOk x = true) : tOk (Ev.cut x lo hi) = true := by
  unfold tOk at *
  refine List.all_eq_true.mpr fun c hc => List.all_eq_true.mp h c ?_
  exact List.mem_of_mem_drop (List.mem_of_mem_take hc)
theorem RWs.cut {lv : List Addr} {nf : Addr → Prop} {ws : List W} {vs : List V} {lo hi : Option Int} (h : RWs T lv nf H ws vs) : RWs T lv nf H (Ev.cut ws lo hi) (cutV vs lo hi) := by
  unfold Ev.cut cutV
  rw [← h.len]
  exact (h.drop _).take _
theorem cutV_map (ns : List Int) (lo hi : Option Int) : cutV (ns.map V.int) lo hi = (Ev.cut ns lo hi).map V.int := by
  unfold cutV Ev.cut
  rw [List.length_map, ← List.map_drop, ← List.map_take]
  rfl
theorem RWs.ints {lv : List Addr} {nf : Addr → Prop} : ∀ ns : List Int, RWs T lv nf H (ns.map .int) (ns.map V.int)
  | [] => RWs.nil
  | n :: ns => RWs.cons rfl (RWs.ints ns)
theorem slc_ok {x w : W} {v : V} {vv vl vu : Value} {lo hi : Option Int} {sl : Addr} {Q : VK} (e : slcW x lo hi = some w) (hK : T.K = X.K) (I : Inv X pins σ H s) (h : RSt T c st σ H) (rx : RVV T c H x v) (qv : RelV v vv)
    (hs : s.heap.IsSliceOf sl vl vu .none) (pl : IsPart vl lo) (pu : IsPart vu hi) (q : Wants T c st σ H w Q) :
    ∃ T id, typeLookup (.type T) "__getitem__" = pure (some (.builtin id)) ∧ s.TypeIs vv T ∧ wpAny (model X.prog X.w) X.A (getItem vv (.ref sl)) (EP X pins σ Q) X.xe s := by
  unfold slcW at e
  split at e
  · rename_i xs
    cases e
    obtain ⟨a, vs, rfl, h1, n1, h2⟩ := tup_at rx
    refine sl_tupA pins s σ H _ vv vl vu lo hi sl Q I qv hs pl pu ⟨a, vs, rfl, SqT.of h1, fun z => ?_, fun _ p hp => ?_⟩
    · refine q.same h ?_
      simp only [RW]
      refine ⟨a, vs, rfl, h1, n1, ?_⟩
      have z2 : cutV vs lo hi = vs := by unfold cutV; rw [z.1, z.2]; simp
      have z3 := h2.cut (lo := lo) (hi := hi)
      rw [z2] at z3
      exact z3
    · exact new_tup h hp (h2.cut) q
  · rename_i xs
    cases e
    obtain ⟨a, vs, rfl, h1, h2⟩ := rx
    exact sl_list pins s σ H _ vv vl vu lo hi sl Q I qv hs pl pu ⟨a, vs, rfl, SqL.of h1, fun p hp => new_lst h hp h2.cut q⟩
  · split at e
    · rename_i x hl
      cases e
      obtain ⟨rfl, ok⟩ := rx
      refine sl_str pins s σ H _ vv vl vu lo hi sl Q I qv hs pl pu ⟨_, rfl, by rw [SX.S_len, ← line_eq]; exact hl, ?_⟩
      have z : cutS (tS x) lo hi = tS (Ev.cut x lo hi) := by
        unfold cutS Ev.cut
        rw [SX.S_len]
        rfl
      rw [z]
      exact q.same h ⟨rfl, tOk_cut ok⟩
    · cases e
  · rename_i ns
    cases e
    obtain ⟨a, rfl, h1⟩ : ∃ a, v = .ref a ∧ ((Rd H a (.lst (ns.map V.int)) ∧ ¬ c.nf a) ∨ KL T.K a (ns.map V.int)) := by simpa [RVV, RW] using rx
    have h2 : SqL X.K H a (ns.map V.int) := by
      rcases h1 with h1 | h1
      · exact .inl h1.1
      · rw [← hK]; exact .inr h1
    refine sl_list pins s σ H _ vv vl vu lo hi sl Q I qv hs pl pu ⟨a, _, rfl, h2, fun p hp => ?_⟩
    rw [cutV_map]
    exact new_lst h hp (RWs.ints _) q
  · cases e
end
end Ev

/-! S4: built-in functions and methods on values. -/
namespace Ev
open PySem PySem.Spec PyProof.Rows L2
section
variable {T : Tb} {X : Cx} {c : Cf} {st st' : St} {σ : L2.St} {H : Hp} {pins : List (Addr × Obj)} {s : Shared}
/-! ### an object is changed -/
theorem mn_put {a : Addr} {ho : HO} (m : c.nf a) (hkd : ∀ u, H a = some u → isIns ho = isIns u) : Mn c.lv c.nf H c.lv c.nf (upd H a ho) where
  fr := fun b o e _ n => by
    rw [upd_ne]
    · exact e
    · intro z; subst z; exact n m
  nw := fun _ q => .inl q
  lv := fun _ _ e => e
  ex := fun b f e => by
    by_cases hb : b = a
    · subst hb
      rw [upd_same, isIns_ext (hkd _ e)]
    · rw [upd_ne hb]; exact e
theorem RSt.put {x : W} {v : V} {o o' : OO} {ho : HO} (h : RSt T c st σ H) (r : RV T c σ H x v) (e : look st x = some o) (ep : Ev.put st o' x = some st') {a : Addr} (ev : v = .ref a) (ro : RO T c.lv c.nf (upd H a ho) o' a) (hkd : ∀ u, H a = some u → isIns ho = isIns u) :
    c.mu a ∧ Stp c H c (upd H a ho) ∧ RSt T c st' σ (upd H a ho) := by
  obtain ⟨a', e', ro0⟩ := look_ok h r e
  have ea : a' = a := by rw [ev] at e'; simpa using e'.symm
  subst ea
  have stp : c.mu a' → Stp c H c (upd H a' ho) := fun m => ⟨fun b u e _ n => by
      rw [upd_ne]
      · exact e
      · intro z; subst z; exact n m, fun _ q => .inl q, fun _ _ e => e, rfl, fun b u e _ => by
      by_cases hb : b = a'
      · subst hb; exact ⟨ho, upd_same, hkd u e⟩
      · exact ⟨u, by rw [upd_ne hb]; exact e, rfl⟩, fun _ _ e => .inl e⟩
  cases x with
  | loc n =>
    obtain ⟨a2, e2, hn⟩ : ∃ a2, v = .ref a2 ∧ c.lv[n]? = some a2 := by simpa [RV, RW] using r
    have : a2 = a' := by rw [ev] at e2; simpa using e2.symm
    subst this
    have mu : c.mu a2 := .inl (List.mem_of_getElem? hn)
    have m := mn_put (H := H) (ho := ho) (c := c) (.inl mu : c.nf a2) hkd
    have hln : n < st.s.length := by rw [h.sto.len]; exact (List.getElem?_eq_some_iff.mp hn).1
    simp only [Ev.put, if_pos hln, Option.some.injEq] at ep
    subst ep
    refine ⟨mu, stp mu, h.len, fun i w q => ?_, fun i u q => ?_, h.back, h.inj, h.dis, h.ou, fun b q => ?_, ?_, h.sto.nd, fun k u b q1 q2 => ?_⟩
    · obtain ⟨z, z1, z2⟩ := h.val i w q
      exact ⟨z, z1, z2.mono m⟩
    · obtain ⟨b, b1, b2, b3⟩ := h.own i u q
      have hb : b ≠ a2 := fun z => by subst z; exact h.dis i b b1 (List.mem_of_getElem? hn)
      exact ⟨b, b1, b2, b3.mono m (upd_ne hb)⟩
    · by_cases hb : b = a2
      · subst hb; exact (h.ou b q mu).elim
      · rw [upd_ne hb]; exact h.ouh b q
    · simp [h.sto.len]
    · by_cases hk : n = k
      · subst hk
        rw [List.getElem?_set_self hln] at q1
        cases q1
        rw [hn] at q2; cases q2
        exact ro
      · rw [List.getElem?_set_ne hk] at q1
        have hb : b ≠ a2 := fun z => by
          subst z
          exact hk (nodup_ix' h.sto.nd hn q2)
        exact (h.sto.at_ k u b q1 q2).mono m (upd_ne hb)
  | sl i =>
    cases q0 : st.r[i]? with
    | none => simp [Ev.put, q0] at ep
    | some sl =>
      cases sl with
      | own o0 =>
        simp only [Ev.put, q0, Option.some.injEq] at ep
        subst ep
        obtain ⟨a2, b1, b2, b3⟩ := h.own i o0 q0
        have e2 : σ[i]? = some (some v) := r
        have : a2 = a' := by rw [e2, ev] at b2; simpa using b2.symm
        subst this
        have mu : c.mu a2 := .inr ⟨i, b1⟩
        have m := mn_put (H := H) (ho := ho) (c := c) (.inl mu : c.nf a2) hkd
        have hli : i < st.r.length := (List.getElem?_eq_some_iff.mp q0).1
        refine ⟨mu, stp mu, by simpa using h.len, fun j w q => ?_, fun j u q => ?_, fun j b q => ?_, h.inj, h.dis, h.ou, fun b q => ?_, h.sto.len, h.sto.nd, fun k u b q1 q2 => ?_⟩
        · by_cases hj : i = j
          · subst hj
            rw [List.getElem?_set_self hli] at q; cases q
          · rw [List.getElem?_set_ne hj] at q
            obtain ⟨z, z1, z2⟩ := h.val j w q
            exact ⟨z, z1, z2.mono m⟩
        · by_cases hj : i = j
          · subst hj
            rw [List.getElem?_set_self hli] at q; cases q
            refine ⟨a2, b1, by rw [e2, ev], ro.n fun z => ?_⟩
            subst z
            obtain ⟨_, pz, h1, _⟩ := ro
            rw [upd_same] at h1
            cases h1
            obtain ⟨u, g1, g2⟩ := b3.there
            have := isIns_tb (hkd u g1)
            rw [g2] at this
            cases this
          · rw [List.getElem?_set_ne hj] at q
            obtain ⟨b, c1, c2, c3⟩ := h.own j u q
            have hb : b ≠ a2 := fun z => by subst z; exact hj (h.inj _ _ _ b1 c1)
            exact ⟨b, c1, c2, c3.mono m (upd_ne hb)⟩
        · by_cases hj : i = j
          · subst hj; exact ⟨o', List.getElem?_set_self hli⟩
          · rw [List.getElem?_set_ne hj]; exact h.back j b q
        · by_cases hb : b = a2
          · subst hb; exact (h.ou b q mu).elim
          · rw [upd_ne hb]; exact h.ouh b q
        · have hb : b ≠ a2 := fun z => by subst z; exact h.dis i b b1 (List.mem_of_getElem? q2)
          exact (h.sto.at_ k u b q1 q2).mono m (upd_ne hb)
      | val _ => simp [Ev.put, q0] at ep
      | un => simp [Ev.put, q0] at ep
  | _ => simp [Ev.put] at ep
where
  nodup_ix' {l : List Addr} (hN : l.Nodup) {i j : Nat} {x : Addr} (a : l[i]? = some x) (b : l[j]? = some x) : i = j := by
    obtain ⟨h1, e1⟩ := List.getElem?_eq_some_iff.mp a
    obtain ⟨h2, e2⟩ := List.getElem?_eq_some_iff.mp b
    exact (List.getElem_inj hN).mp (e1.trans e2.symm)
end
/-! ### what a built-in method needs of its receiver -/
def cmOf : Cmt → String
  | .append => "list.append" | .extend => "list.extend" | .pop => "list.pop" | .insert => "list.insert" | .clear => "list.clear" | .reverse => "list.reverse" | .setdefault => "dict.setdefault"
section
variable {T : Tb} {X : Cx} {c : Cf} {st st' : St} {σ : L2.St} {H : Hp} {pins : List (Addr × Obj)} {s : Shared}
theorem ixN_seq' {n : Nat} {i : Int} {j : Nat} (h : Ev.ixN n i = some j) : seqIndex? i n = some j := (L2.ixN_seq (n := n) (i := i) (j := j) h).1
theorem RWs.eraseIdx {lv : List Addr} {nf : Addr → Prop} : ∀ {ws : List W} {vs : List V} (n : Nat), RWs T lv nf H ws vs → RWs T lv nf H (ws.eraseIdx n) (vs.eraseIdx n)
  | [], _, _, h => by simp only [RWs] at h; subst h; exact RWs.nil
  | w :: ws, _, 0, h => by
    simp only [RWs] at h
    obtain ⟨v, r, rfl, _, h⟩ := h
    simpa using h
  | w :: ws, _, n + 1, h => by
    simp only [RWs] at h
    obtain ⟨v, r, rfl, h1, h⟩ := h
    simpa using RWs.cons h1 (RWs.eraseIdx n h)
theorem RWs.dropLast {lv : List Addr} {nf : Addr → Prop} {ws : List W} {vs : List V} (h : RWs T lv nf H ws vs) : RWs T lv nf H ws.dropLast vs.dropLast := by
  rw [List.dropLast_eq_take, List.dropLast_eq_take, ← h.len]
  exact h.take _
theorem RWs.reverse {lv : List Addr} {nf : Addr → Prop} : ∀ {ws : List W} {vs : List V}, RWs T lv nf H ws vs → RWs T lv nf H ws.reverse vs.reverse
  | [], _, h => by simp only [RWs] at h; subst h; exact RWs.nil
  | w :: ws, _, h => by
    simp only [RWs] at h
    obtain ⟨v, r, rfl, h1, h⟩ := h
    rw [List.reverse_cons, List.reverse_cons]
    exact (RWs.reverse h).snoc h1
/-- the list at a is written -/
theorem cm_fin {x : W} {v : V} {o : OO} {ys : List W} {zs : List V} {w : W} {a : Addr} {z : V} {Q : VK} (h : RSt T c st σ H) (r : RV T c σ H x v) (e : look st x = some o) (ep : Ev.put st (.lst ys) x = some st') (ev : v = .ref a) (rr : RWs T c.lv c.nf H ys zs)
    (rz : RW T c.lv c.nf H w z) (q : ∀ z H', Stp c H c H' → RSt T c st' σ H' → RW T c.lv c.nf H' w z → Q z H') (hl : ∃ l, o = .lst l := by exact ⟨_, rfl⟩) : Q z (upd H a (.lst zs)) := by
  have mu : c.nf a := by
    cases x with
    | loc n =>
      obtain ⟨a2, e2, hn⟩ : ∃ a2, v = .ref a2 ∧ c.lv[n]? = some a2 := by simpa [RV, RW] using r
      have : a2 = a := by rw [ev] at e2; simpa using e2.symm
      subst this
      exact .inl (.inl (List.mem_of_getElem? hn))
    | sl i =>
      cases q0 : st.r[i]? with
      | none => simp [Ev.put, q0] at ep
      | some sl =>
        cases sl with
        | own o0 =>
          obtain ⟨a2, b1, b2, b3⟩ := h.own i o0 q0
          have e2 : σ[i]? = some (some v) := r
          have : a2 = a := by rw [e2, ev] at b2; simpa using b2.symm
          subst this
          exact .inl (.inr ⟨i, b1⟩)
        | val _ => simp [Ev.put, q0] at ep
        | un => simp [Ev.put, q0] at ep
    | _ => simp [Ev.put] at ep
  have hk : ∀ u, H a = some u → isIns (.lst zs) = isIns u := fun u eu => by
    obtain ⟨l, rfl⟩ := hl
    obtain ⟨a2, e2, vs, g1, _⟩ := look_ok h r e
    have : a2 = a := by rw [ev] at e2; simpa using e2.symm
    subst this
    rw [g1] at eu; cases eu; rfl
  have m := mn_put (H := H) (ho := .lst zs) mu hk
  obtain ⟨_, s1, r1⟩ := h.put (ho := .lst zs) r e ep ev ⟨zs, upd_same, rr.mono m⟩ hk
  exact q _ _ s1 r1 (rz.mono m)
theorem rw_non {lv : List Addr} {nf : Addr → Prop} : RW T lv nf H .non .non := by simp [RW]
theorem okv_rw {ws : List W} {vs : List V} (o : okvs ws = true) (h : relA T σ c H ws vs) : RWs T c.lv c.nf H ws vs := by
  refine RWs.of_get h.1 fun i w v e1 e2 => (h.2 i w v e1 e2).rw ?_
  exact List.all_eq_true.mp o w (List.mem_of_getElem? e1)
theorem relA_one {w : W} {vs : List V} (h : relA T σ c H [w] vs) : ∃ v, vs = [v] ∧ RV T c σ H w v := by
  obtain ⟨l, g⟩ := h
  match vs, l with
  | [v], _ => exact ⟨v, rfl, g 0 w v rfl rfl⟩
theorem relA_nil {vs : List V} (h : relA T σ c H [] vs) : vs = [] := List.eq_nil_of_length_eq_zero h.1.symm
theorem relA_two {w w2 : W} {vs : List V} (h : relA T σ c H [w, w2] vs) : ∃ v v2, vs = [v, v2] ∧ RV T c σ H w v ∧ RV T c σ H w2 v2 := by
  obtain ⟨l, g⟩ := h
  match vs, l with
  | [v, v2], _ => exact ⟨v, v2, rfl, g 0 w v rfl rfl, g 1 w2 v2 rfl rfl⟩
theorem cmt_ok {k : Cmt} {x : W} {v : V} {vv : Value} {ws : List W} {vs : List V} {us : List Value} {o o' : OO} {w : W} {Q : VK} (h : RSt T c st σ H) (I : Inv X pins σ H s) (r : RV T c σ H x v) (qv : RelV v vv) (e : look st x = some o)
    (ok : okvs ws = true ∨ k = .extend) (ra : relA T σ c H ws vs) (qa : Vals vs us) (ec : cmtW k o (ws.map fun w => if k = .extend then vw st w else w) = some (w, o')) (ep : Ev.put st o' x = some st')
    (q : ∀ z H', Stp c H c H' → RSt T c st' σ H' → RW T c.lv c.nf H' w z → Q z H') : wpAny (model X.prog X.w) X.A (call (.builtin (cmOf k)) (vv :: us)) (EP X pins σ Q) X.xe s := by
  obtain ⟨a, ev, ro⟩ := look_ok h r e
  subst ev
  by_cases hk : k = .extend
  · subst hk
    simp only [if_true] at ec
    unfold cmtW at ec
    split at ec <;> try (simp at ec; done)
    · rename_i h1 h2; cases h1
    · rename_i xs ys _ h2
      split at ec
      · rename_i hl
        simp only [Option.some.injEq, Prod.mk.injEq] at ec
        obtain ⟨rfl, rfl⟩ := ec
        cases ws with
        | nil => cases h2
        | cons w0 wr =>
          obtain rfl : wr = [] := by cases wr with
            | nil => rfl
            | cons _ _ => simp at h2
          obtain ⟨v0, rfl, r0⟩ := relA_one ra
          have h3 : vw st w0 = .lst ys := by simpa using h2
          have rv0 := rvv h r0
          rw [h3] at rv0
          obtain ⟨b, zs, rfl, b1, b2⟩ := rv0
          obtain ⟨xs', a1, a2⟩ := ro
          refine mt_extend pins s σ H _ _ vv us Q I qv qa ⟨a, b, xs', zs, rfl, rfl, a1, b1, by rw [← a2.len, ← b2.len, ← line_eq]; exact hl, ?_⟩
          exact cm_fin h r e ep rfl (a2.append b2) rw_non q
      · cases ec
    all_goals first | (rename_i h1 _; cases h1; done) | (cases ec; done) | skip
  · have ok' : okvs ws = true := ok.resolve_right hk
    have rw' := okv_rw ok' ra
    have em : (ws.map fun w => if k = .extend then vw st w else w) = ws := by
      rw [show (fun w => if k = .extend then vw st w else w) = id from funext fun w => if_neg hk, List.map_id]
    rw [em] at ec
    unfold cmtW at ec
    split at ec
    · split at ec
      · rename_i hl
        simp only [Option.some.injEq, Prod.mk.injEq] at ec
        obtain ⟨rfl, rfl⟩ := ec
        obtain ⟨xs', a1, a2⟩ := ro
        obtain ⟨v0, rfl, r0⟩ := relA_one ra
        have r1 := rw'
        simp only [RWs] at r1
        obtain ⟨v1, t, e1, r1, _⟩ := r1
        cases e1
        exact mt_append pins s σ H _ _ vv us Q I qv qa ⟨a, xs', v0, rfl, rfl, a1, by rw [← a2.len, ← line_eq]; exact hl, cm_fin h r e ep rfl (a2.snoc r1) rw_non q⟩
      · cases ec
    · exact (hk rfl).elim
    · obtain ⟨y, g1, g2⟩ := Option.map_eq_some_iff.mp ec
      cases g2
      obtain ⟨xs', a1, a2⟩ := ro
      have e0 := relA_nil ra
      subst e0
      obtain ⟨z, z1, z2⟩ := a2.get g1
      rw [a2.len] at z1
      exact mt_pop pins s σ H _ _ vv us Q I qv qa ⟨a, xs', z, rfl, rfl, a1, z1, cm_fin h r e ep rfl a2.dropLast z2 q⟩
    · split at ec
      · rename_i hb
        obtain ⟨n, g0, g3⟩ := Option.bind_eq_some_iff.mp ec
        obtain ⟨y, g1, g2⟩ := Option.map_eq_some_iff.mp g3
        cases g2
        obtain ⟨xs', a1, a2⟩ := ro
        obtain ⟨v0, rfl, r0⟩ := relA_one ra
        cases r0
        obtain ⟨z, z1, z2⟩ := a2.get g1
        rw [a2.len] at g0
        exact mt_popAt pins s σ H _ _ vv us Q I qv qa ⟨a, xs', _, n, z, rfl, rfl, a1, hb.1, hb.2, ixN_seq' g0, z1, cm_fin h r e ep rfl (a2.eraseIdx n) z2 q⟩
      · cases ec
    · split at ec
      · rename_i hl
        simp only [Option.some.injEq, Prod.mk.injEq] at ec
        obtain ⟨rfl, rfl⟩ := ec
        obtain ⟨xs', a1, a2⟩ := ro
        obtain ⟨v0, v1, rfl, r0, r1⟩ := relA_two ra
        cases r0
        have r2 := rw'
        simp only [RWs] at r2
        obtain ⟨_, _, e1, _, _, _, e2, r2, _⟩ := r2
        cases e1
        cases e2
        exact mt_insert pins s σ H _ _ vv us Q I qv qa ⟨a, xs', _, _, rfl, rfl, a1, by rw [← a2.len, ← line_eq]; exact hl.1, hl.2.1, hl.2.2, cm_fin h r e ep rfl (((a2.take _).snoc r2).append (a2.drop _)) rw_non q⟩
      · cases ec
    · simp only [Option.some.injEq, Prod.mk.injEq] at ec
      obtain ⟨rfl, rfl⟩ := ec
      obtain ⟨xs', a1, a2⟩ := ro
      have e0 := relA_nil ra
      subst e0
      exact mt_clear pins s σ H _ _ vv us Q I qv qa ⟨a, xs', rfl, rfl, a1, cm_fin h r e ep rfl RWs.nil rw_non q⟩
    · simp only [Option.some.injEq, Prod.mk.injEq] at ec
      obtain ⟨rfl, rfl⟩ := ec
      obtain ⟨xs', a1, a2⟩ := ro
      have e0 := relA_nil ra
      subst e0
      exact mt_reverse pins s σ H _ _ vv us Q I qv qa ⟨a, xs', rfl, rfl, a1, cm_fin h r e ep rfl a2.reverse rw_non q⟩
    · cases ec

/-! ### built-in functions -/
theorem ints_ok {lv : List Addr} {nf : Addr → Prop} : ∀ {ws : List W} {vs : List V} {ns : List Int}, intsW ws = some ns → RWs T lv nf H ws vs → vs = ns.map V.int
  | [], _, _, e, h => by simp only [intsW] at e; cases e; simp only [RWs] at h; exact h
  | w :: ws, _, _, e, h => by
    simp only [RWs] at h
    obtain ⟨v, r, rfl, h1, h⟩ := h
    cases w with
    | int i =>
      simp only [intsW] at e
      obtain ⟨ns, e1, rfl⟩ := Option.map_eq_some_iff.mp e
      cases h1
      rw [ints_ok e1 h]; rfl
    | _ => simp [intsW] at e
theorem bls_ok {lv : List Addr} {nf : Addr → Prop} : ∀ {ws : List W} {vs : List V} {ns : List Bool}, Ev.bls ws = some ns → RWs T lv nf H ws vs → vs = ns.map V.bl
  | [], _, _, e, h => by simp only [Ev.bls] at e; cases e; simp only [RWs] at h; exact h
  | w :: ws, _, _, e, h => by
    simp only [RWs] at h
    obtain ⟨v, r, rfl, h1, h⟩ := h
    cases w with
    | bl i =>
      simp only [Ev.bls] at e
      obtain ⟨ns, e1, rfl⟩ := Option.map_eq_some_iff.mp e
      cases h1
      rw [bls_ok e1 h]; rfl
    | _ => simp [Ev.bls] at e
theorem maxI_ok : ∀ (ns : List Int) (x : Int), (ns.foldl max x ∈ x :: ns) ∧ ∀ y ∈ x :: ns, y ≤ ns.foldl max x
  | [], x => by simp
  | n :: ns, x => by
    obtain ⟨h1, h2⟩ := maxI_ok ns (max x n)
    rw [List.foldl_cons]
    refine ⟨?_, fun y hy => ?_⟩
    · rcases List.mem_cons.mp h1 with h | h
      · rw [h]
        rcases Int.le_total x n with q | q
        · rw [Int.max_eq_right q]; simp
        · rw [Int.max_eq_left q]; simp
      · simp [h]
    · rcases List.mem_cons.mp hy with rfl | hy
      · exact Int.le_trans (Int.le_max_left _ _) (h2 _ (List.mem_cons_self ..))
      · rcases List.mem_cons.mp hy with rfl | hy
        · exact Int.le_trans (Int.le_max_right _ _) (h2 _ (List.mem_cons_self ..))
        · exact h2 y (List.mem_cons_of_mem _ hy)
theorem minI_ok : ∀ (ns : List Int) (x : Int), (ns.foldl min x ∈ x :: ns) ∧ ∀ y ∈ x :: ns, ns.foldl min x ≤ y
  | [], x => by simp
  | n :: ns, x => by
    obtain ⟨h1, h2⟩ := minI_ok ns (min x n)
    rw [List.foldl_cons]
    refine ⟨?_, fun y hy => ?_⟩
    · rcases List.mem_cons.mp h1 with h | h
      · rw [h]
        rcases Int.le_total x n with q | q
        · rw [Int.min_eq_left q]; simp
        · rw [Int.min_eq_right q]; simp
      · simp [h]
    · rcases List.mem_cons.mp hy with rfl | hy
      · exact Int.le_trans (h2 _ (List.mem_cons_self ..)) (Int.min_le_left _ _)
      · rcases List.mem_cons.mp hy with rfl | hy
        · exact Int.le_trans (h2 _ (List.mem_cons_self ..)) (Int.min_le_right _ _)
        · exact h2 y (List.mem_cons_of_mem _ hy)
theorem insI_perm (x : Int) : ∀ l : List Int, (insI x l).Perm (x :: l)
  | [] => .refl _
  | y :: r => by
    unfold insI
    split
    · exact .refl _
    · exact ((insI_perm x r).cons y).trans (.swap ..)
theorem sortI_perm : ∀ l : List Int, (sortI l).Perm l
  | [] => .refl _
  | x :: r => (insI_perm x _).trans ((sortI_perm r).cons x)
theorem insI_sorted (x : Int) : ∀ l : List Int, l.Pairwise (· ≤ ·) → (insI x l).Pairwise (· ≤ ·)
  | [], _ => by simp [insI]
  | y :: r, h => by
    unfold insI
    rw [List.pairwise_cons] at h
    split
    · rename_i q
      refine List.pairwise_cons.mpr ⟨fun z hz => ?_, List.pairwise_cons.mpr h⟩
      rcases List.mem_cons.mp hz with rfl | hz
      · exact q
      · exact Int.le_trans q (h.1 z hz)
    · rename_i q
      refine List.pairwise_cons.mpr ⟨fun z hz => ?_, insI_sorted x r h.2⟩
      rcases List.mem_cons.mp ((insI_perm x r).mem_iff.mp hz) with rfl | hz
      · omega
      · exact h.1 z hz
theorem sortI_sorted : ∀ l : List Int, (sortI l).Pairwise (· ≤ ·)
  | [] => by simp [sortI]
  | x :: r => insI_sorted x _ (sortI_sorted r)
theorem sort_uniq {a b : List Int} (p : a.Perm b) (ha : a.Pairwise (· ≤ ·)) (hb : b.Pairwise (· ≤ ·)) : a = b := p.eq_of_pairwise (fun x y _ _ h1 h2 => Int.le_antisymm h1 h2) ha hb
theorem dig_ok (i : Int) : (Str.ofString (toString i)) = tS (dig i) ∧ tOk (dig i) = true := by
  refine ⟨Str.ofString_eq_toList _, ?_⟩
  unfold tOk dig
  refine List.all_eq_true.mpr fun c hc => ?_
  obtain ⟨d, _, rfl⟩ := List.mem_map.mp hc
  have h := d.valid
  simp only [UInt32.isValidChar, Nat.isValidChar] at h
  have e : d.toNat = d.val.toNat := rfl
  rw [decide_eq_true_iff, e]
  omega
def bfOf : Bif → Value
  | .len => .builtin "len" | .sum => .builtin "sum" | .max => .builtin "max" | .min => .builtin "min" | .max2 => .builtin "max" | .min2 => .builtin "min" | .all => .builtin "all" | .any => .builtin "any"
  | .sorted => .builtin "sorted" | .list => .type "list" | .tuple => .type "tuple" | .int => .type "int" | .str => .type "str" | .repr => .builtin "repr" | .set => .type "set" | .dict => .type "dict"
theorem bif_ok {b : Bif} {ws : List W} {vs : List V} {us : List Value} {w : W} {Q : VK} (hK : T.K = X.K) (hc : X.calm = true) (h : RSt T c st σ H) (I : Inv X pins σ H s) (hl : ws.length = vs.length) (ra : ∀ (i : Nat) w v, ws[i]? = some w → vs[i]? = some v → RVV T c H w v)
    (qa : Vals vs us) (e : bifW b ws = some w) (q : Wants T c st σ H w Q) : wpAny (model X.prog X.w) X.A (call (bfOf b) us) (EP X pins σ Q) X.xe s := by
  have one : ∀ {w : W}, ws = [w] → ∃ v, vs = [v] ∧ RVV T c H w v := fun {w} e => by
    subst e
    match vs, hl with
    | [v], _ => exact ⟨v, rfl, ra 0 w v rfl rfl⟩
  have two : ∀ {w w2 : W}, ws = [w, w2] → ∃ v v2, vs = [v, v2] ∧ RVV T c H w v ∧ RVV T c H w2 v2 := fun {w w2} e => by
    subst e
    match vs, hl with
    | [v, v2], _ => exact ⟨v, v2, rfl, ra 0 w v rfl rfl, ra 1 w2 v2 rfl rfl⟩
  unfold bifW at e
  split at e
  · -- len
    obtain ⟨v, rfl, r⟩ := one rfl
    obtain ⟨n, e1, e2⟩ := Option.map_eq_some_iff.mp e
    subst e2
    unfold lenW at e1
    split at e1
    · split at e1
      · rename_i hll
        cases e1
        obtain ⟨rfl, _⟩ := r
        exact call_len pins s σ H _ us Q I qa ⟨_, _, rfl, ⟨by rw [SX.S_len, ← line_eq]; exact hll, rfl⟩, by rw [SX.S_len]; exact q.same h rfl⟩
      · cases e1
    · cases e1
      obtain ⟨a, xs, rfl, h1, _, h2⟩ := tup_at r
      exact call_len pins s σ H _ us Q I qa ⟨_, _, rfl, .inr ⟨xs, SqT.of h1, rfl⟩, by rw [← h2.len]; exact q.same h rfl⟩
    · cases e1
      obtain ⟨a, xs, rfl, h1, h2⟩ := r
      exact call_len pins s σ H _ us Q I qa ⟨_, _, rfl, .inl ⟨xs, SqL.of h1, rfl⟩, by rw [← h2.len]; exact q.same h rfl⟩
    · cases e1
      obtain ⟨a, xs, rfl, h1, h2, h3⟩ := r
      exact call_lenD pins s σ H _ us Q I qa ⟨a, _, rfl, h1, by rw [List.length_zip, List.length_map, ← h2, Nat.min_self]; exact q.same h rfl⟩
    · cases e1
  · -- sum
    obtain ⟨v, rfl, r⟩ := one rfl
    obtain ⟨ns, e1, e2⟩ := Option.map_eq_some_iff.mp e
    subst e2
    obtain ⟨a, xs, rfl, h1, h2⟩ := r
    have e3 := ints_ok e1 h2
    subst e3
    exact cr_sum hc pins s σ H _ us Q I qa ⟨a, ns, rfl, SqL.of h1, q.same h rfl⟩
  · obtain ⟨v, rfl, r⟩ := one rfl
    obtain ⟨m, e1, e2⟩ := Option.map_eq_some_iff.mp e
    subst e2
    obtain ⟨ns, e3, e4⟩ := Option.bind_eq_some_iff.mp e1
    obtain ⟨a, xs, rfl, h1, h2⟩ := r
    have e5 := ints_ok e3 h2
    subst e5
    cases ns with
    | nil => cases e4
    | cons n ns =>
      cases e4
      refine cr_max hc pins s σ H _ us Q I qa ⟨a, n :: ns, rfl, SqL.of h1, by simp, fun m hm hall => ?_⟩
      obtain ⟨k1, k2⟩ := maxI_ok ns n
      have : m = ns.foldl max n := Int.le_antisymm (k2 m hm) (hall _ k1)
      subst this
      exact q.same h rfl
  · obtain ⟨v, rfl, r⟩ := one rfl
    obtain ⟨m, e1, e2⟩ := Option.map_eq_some_iff.mp e
    subst e2
    obtain ⟨ns, e3, e4⟩ := Option.bind_eq_some_iff.mp e1
    obtain ⟨a, xs, rfl, h1, h2⟩ := r
    have e5 := ints_ok e3 h2
    subst e5
    cases ns with
    | nil => cases e4
    | cons n ns =>
      cases e4
      refine cr_min hc pins s σ H _ us Q I qa ⟨a, n :: ns, rfl, SqL.of h1, by simp, fun m hm hall => ?_⟩
      obtain ⟨k1, k2⟩ := minI_ok ns n
      have : m = ns.foldl min n := Int.le_antisymm (hall _ k1) (k2 m hm)
      subst this
      exact q.same h rfl
  · cases e
    obtain ⟨v, v2, rfl, r, r2⟩ := two rfl
    cases r; cases r2
    exact call_max2 hc pins s σ H _ us Q I qa ⟨_, _, rfl, q.same h rfl⟩
  · cases e
    obtain ⟨v, v2, rfl, r, r2⟩ := two rfl
    cases r; cases r2
    exact call_min2 hc pins s σ H _ us Q I qa ⟨_, _, rfl, q.same h rfl⟩
  · obtain ⟨v, rfl, r⟩ := one rfl
    obtain ⟨ns, e1, e2⟩ := Option.map_eq_some_iff.mp e
    subst e2
    obtain ⟨a, xs, rfl, h1, h2⟩ := r
    have e3 := bls_ok e1 h2
    subst e3
    exact cr_all hc pins s σ H _ us Q I qa ⟨a, ns, rfl, SqL.of h1, q.same h rfl⟩
  · obtain ⟨v, rfl, r⟩ := one rfl
    obtain ⟨ns, e1, e2⟩ := Option.map_eq_some_iff.mp e
    subst e2
    obtain ⟨a, xs, rfl, h1, h2⟩ := r
    have e3 := bls_ok e1 h2
    subst e3
    exact cr_any hc pins s σ H _ us Q I qa ⟨a, ns, rfl, SqL.of h1, q.same h rfl⟩
  · cases e
    obtain ⟨v, rfl, r⟩ := one rfl
    obtain ⟨a, xs, rfl, h1, h2⟩ := r
    exact call_list_of pins s σ H _ us Q I qa ⟨a, xs, rfl, .inl (SqL.of h1), fun p hp => new_lst h hp h2 q⟩
  · cases e
    obtain ⟨v, rfl, r⟩ := one rfl
    obtain ⟨a, xs, rfl, h1, _, h2⟩ := tup_at r
    exact call_list_of pins s σ H _ us Q I qa ⟨a, xs, rfl, .inr (SqT.of h1), fun p hp => new_lst h hp h2 q⟩
  · cases e
    obtain ⟨v, rfl, r⟩ := one rfl
    obtain ⟨a, xs, rfl, h1, h2⟩ := r
    refine call_tuple_of pins s σ H _ us Q I qa ⟨a, xs, rfl, .inl ⟨SqL.of h1, fun p hp => new_tup h hp h2 q⟩⟩
  · cases e
    obtain ⟨v, rfl, r⟩ := one rfl
    obtain ⟨a, xs, rfl, h1, n1, h2⟩ := tup_at r
    exact call_tuple_of pins s σ H _ us Q I qa ⟨a, xs, rfl, .inr ⟨SqT.of h1, q.same h (by simp only [RW]; exact ⟨a, xs, rfl, h1, n1, h2⟩)⟩⟩
  · cases e
    obtain ⟨v, rfl, r⟩ := one rfl
    cases r
    exact call_int1 pins s σ H _ us Q I qa (.inl ⟨_, rfl, q.same h rfl⟩)
  · cases e
    obtain ⟨v, rfl, r⟩ := one rfl
    cases r
    exact call_int1 pins s σ H _ us Q I qa (.inr ⟨_, rfl, q.same h rfl⟩)
  · obtain ⟨v, rfl, r⟩ := one rfl
    cases r
    split at e
    · rename_i hl
      cases e
      obtain ⟨d1, d2⟩ := dig_ok ‹Int›
      exact call_str_int pins s σ H _ us Q I qa ⟨_, rfl, hl, q.same h ⟨congrArg V.str d1, d2⟩⟩
    · cases e
  · cases e
    obtain ⟨v, rfl, r⟩ := one rfl
    obtain ⟨rfl, o⟩ := r
    exact SkE.call_str_str pins s σ H _ us Q I qa ⟨_, rfl, q.same h ⟨rfl, o⟩⟩
  · obtain ⟨v, rfl, r⟩ := one rfl
    obtain ⟨ns, e1, e2⟩ := Option.map_eq_some_iff.mp e
    subst e2
    obtain ⟨a, xs, rfl, h1, h2⟩ := r
    have e3 := ints_ok e1 h2
    subst e3
    refine cr_sortedI pins s σ H _ us Q I qa ⟨a, ns, rfl, SqL.of h1, fun ns' p h3 h4 hp => ?_⟩
    have e4 : ns' = sortI ns := sort_uniq (h3.trans (sortI_perm ns).symm) h4 (sortI_sorted ns)
    subst e4
    exact new_lst h hp (RWs.ints _) q
  · cases e

/-! ### methods that look -/
def bmOf : Bmt → W → String
  | .count, .tup _ => "tuple.count"
  | .count, _ => "list.count"
  | .index, .tup _ => "tuple.index"
  | .index, _ => "list.index"
  | .get, _ => "dict.get"
  | .split, _ => "str.split"
  | .join, _ => "str.join"
  | .partition, _ => "str.partition"
  | .items, _ => "dict.items"
  | .values, _ => "dict.values"
theorem PDs_length : ∀ ws : List W, (toPDs ws).length = ws.length
  | [] => rfl
  | w :: ws => by simp [toPDs, PDs_length ws]
theorem PDs_get : ∀ (ws : List W) (i : Nat), (toPDs ws)[i]? = (ws[i]?).map toPD
  | [], _ => by simp [toPDs]
  | w :: ws, 0 => by simp [toPDs]
  | w :: ws, i + 1 => by simpa [toPDs] using PDs_get ws i
theorem isDs_mem : ∀ {ws : List W} {w : W}, isDs ws = true → w ∈ ws → isD w = true
  | [], _, _, h => nomatch h
  | x :: ws, w, h, m => by
    simp only [isDs, Bool.and_eq_true] at h
    rcases List.mem_cons.mp m with rfl | m
    · exact h.1
    · exact isDs_mem h.2 m
theorem countP_PD {y : W} (hy : isD y = true) : ∀ {ws : List W}, isDs ws = true → ((toPDs ws).countP fun z => PyData.eqv z (toPD y)) = ws.countP fun x => eqD x y
  | [], _ => rfl
  | x :: ws, h => by
    simp only [isDs, Bool.and_eq_true] at h
    simp only [toPDs, List.countP_cons, eqv_PD x y h.1 hy, countP_PD hy h.2]
theorem idx_PD {y : W} {j : Nat} : ∀ {ws : List W}, (ws.findIdx? fun x => eqD x y) = some j → (∃ x, ws[j]? = some x ∧ eqD x y = true) ∧ ∀ (m : Nat) x, m < j → ws[m]? = some x → eqD x y = false := fun {ws} h => by
  rw [List.findIdx?_eq_some_iff_getElem] at h
  obtain ⟨h1, h2, h3⟩ := h
  refine ⟨⟨ws[j], by simp [h1], h2⟩, fun m x hm hx => ?_⟩
  obtain ⟨h4, h5⟩ := List.getElem?_eq_some_iff.mp hx
  have := h3 m hm
  rw [h5] at this
  simpa using this
theorem bmt_ok {b : Bmt} {x : W} {v : V} {vv : Value} {ws : List W} {vs : List V} {us : List Value} {w : W} {Q : VK} (hK : T.K = X.K) (hu : Deep X) (hc : X.calm = true) (h : RSt T c st σ H) (I : Inv X pins σ H s) (r : RVV T c H x v) (qv : RelV v vv)
    (hl : ws.length = vs.length) (ra : ∀ (i : Nat) w v, ws[i]? = some w → vs[i]? = some v → RVV T c H w v) (qa : Vals vs us) (e : bmtW b x ws = some w) (q : WantsP T c st σ H w Q) :
    wpAny (model X.prog X.w) X.A (call (.builtin (bmOf b x)) (vv :: us)) (EP X pins σ Q) X.xe s := by
  have one : ∀ {w : W}, ws = [w] → ∃ v, vs = [v] ∧ RVV T c H w v := fun {w} e => by
    subst e
    match vs, hl with
    | [v], _ => exact ⟨v, rfl, ra 0 w v rfl rfl⟩
  unfold bmtW at e
  split at e
  · -- list.count
    rename_i xs y
    split at e
    · rename_i hd
      cases e
      simp only [Bool.and_eq_true] at hd
      obtain ⟨d1, d2⟩ := dOk_i hd.1
      obtain ⟨e1, e2⟩ := dOk_i hd.2
      obtain ⟨v0, rfl, r0⟩ := one rfl
      obtain ⟨l1, p1⟩ := lay_V r0 d1
      obtain ⟨l2, p2⟩ := lay_V r e1
      rw [hK] at p1 p2
      obtain ⟨u0, rfl, qu⟩ := Vals.one qa
      obtain ⟨as, r1⟩ := Dp.reads I _ v0 u0 p1 qu
      obtain ⟨a, zs, rfl, a1, a2⟩ := r
      cases qv
      have dxs : isDs xs = true := by simpa [isD] using e1
      obtain ⟨lx, px⟩ := lay_PDs xs zs a2 dxs
      rw [hK] at px
      obtain ⟨its, rv, ⟨⟨cls, dd, data, sls⟩, n, ho, hcl, hdn, hdt⟩, hlen⟩ := I.list (SqL.of a1)
      simp only at hcl hdt
      subst hcl hdt
      obtain ⟨bs, h4⟩ := Dp.readsAll I _ _ its px rv
      have hu' : X.A.units + 1 + min (PyData.depthAll (toPDs xs)) (toPD y).depth < cLine := by
        rw [dep_PD y d1]; unfold Deep at hu; omega
      show wpAny _ _ (call (.builtin "list.count") _) _ _ _
      refine call_meets PySem.F.slot_list_count ⟨_, ho, rfl⟩ PySem.F.entry_list_count (PySem.F.args_list_count_2 _ _)
        (SeqAt.list_countAt a its.toArray n dd sls u0 (fun u => PyData.eqv (SeqAt.readOf s.heap u) (toPD y))) ⟨ho, SeqAt.items_eqAt (vs := its.toArray) (show ReadsAll s.heap its.toArray.toList _ bs from h4) r1 lx l1 hu', ?_⟩
      refine ⟨.int _, H, I.tok _, ⟨_, rfl⟩, ?_⟩
      have ec : its.countP (fun u => PyData.eqv (SeqAt.readOf s.heap u) (toPD y)) = xs.countP fun x => eqD x y := by
        rw [← countP_PD d1 dxs, ← SeqAt.readsAll_map _ its bs lx h4, List.countP_map]
        rfl
      rw [show its.toArray.toList = its from rfl, ec]
      exact q.same h rfl
    · cases e
  · -- tuple.count
    rename_i xs y
    split at e
    · rename_i hd
      cases e
      simp only [Bool.and_eq_true] at hd
      obtain ⟨d1, d2⟩ := dOk_i hd.1
      obtain ⟨e1, e2⟩ := dOk_i hd.2
      obtain ⟨v0, rfl, r0⟩ := one rfl
      obtain ⟨l1, p1⟩ := lay_V r0 d1
      obtain ⟨l2, p2⟩ := lay_V r e1
      rw [hK] at p1 p2
      obtain ⟨u0, rfl, qu⟩ := Vals.one qa
      obtain ⟨as, r1⟩ := Dp.reads I _ v0 u0 p1 qu
      obtain ⟨a, zs, rfl, a1, _, a2⟩ := tup_at r
      cases qv
      have dxs : isDs xs = true := by simpa [isD] using e1
      obtain ⟨lx, px⟩ := lay_PDs xs zs a2 dxs
      rw [hK] at px
      obtain ⟨its, rv, ⟨⟨cls, dd, data, sls⟩, ho, hcl, n, hdt⟩, hlen⟩ := I.tuple (SqT.of a1)
      simp only at hcl hdt
      subst hcl hdt
      obtain ⟨bs, h4⟩ := Dp.readsAll I _ _ its px rv
      have hu' : X.A.units + 1 + min (PyData.depthAll (toPDs xs)) (toPD y).depth < cLine := by
        rw [dep_PD y d1]; unfold Deep at hu; omega
      show wpAny _ _ (call (.builtin "tuple.count") _) _ _ _
      refine call_meets PySem.F.slot_tuple_count ⟨_, ho, rfl⟩ PySem.F.entry_tuple_count (PySem.F.args_tuple_count_2 _ _)
        (SeqAt.tuple_countAt a its.toArray n dd sls u0 (fun u => PyData.eqv (SeqAt.readOf s.heap u) (toPD y))) ⟨ho, SeqAt.items_eqAt (vs := its.toArray) (show ReadsAll s.heap its.toArray.toList _ bs from h4) r1 lx l1 hu', ?_⟩
      refine ⟨.int _, H, I.tok _, ⟨_, rfl⟩, ?_⟩
      have ec : its.countP (fun u => PyData.eqv (SeqAt.readOf s.heap u) (toPD y)) = xs.countP fun x => eqD x y := by
        rw [← countP_PD d1 dxs, ← SeqAt.readsAll_map _ its bs lx h4, List.countP_map]
        rfl
      rw [show its.toArray.toList = its from rfl, ec]
      exact q.same h rfl
    · cases e
  · -- list.index
    rename_i xs y
    split at e
    · rename_i hd
      simp only [Bool.and_eq_true] at hd
      obtain ⟨d1, d2⟩ := dOk_i hd.1
      obtain ⟨e1, e2⟩ := dOk_i hd.2
      obtain ⟨j, g1, g2⟩ := Option.map_eq_some_iff.mp e
      subst g2
      obtain ⟨⟨z, k1, k2⟩, k3⟩ := idx_PD g1
      obtain ⟨v0, rfl, r0⟩ := one rfl
      obtain ⟨l1, p1⟩ := lay_V r0 d1
      obtain ⟨l2, p2⟩ := lay_V r e1
      rw [hK] at p1 p2
      obtain ⟨u0, rfl, qu⟩ := Vals.one qa
      obtain ⟨as, r1⟩ := Dp.reads I _ v0 u0 p1 qu
      obtain ⟨a, zs, rfl, a1, a2⟩ := r
      cases qv
      have dxs : isDs xs = true := by simpa [isD] using e1
      obtain ⟨lx, px⟩ := lay_PDs xs zs a2 dxs
      rw [hK] at px
      obtain ⟨its, rv, ⟨⟨cls, dd, data, sls⟩, n, ho, hcl, hdn, hdt⟩, hlen⟩ := I.list (SqL.of a1)
      simp only at hcl hdt
      subst hcl hdt
      obtain ⟨bs, h4⟩ := Dp.readsAll I _ _ its px rv
      have hu' : X.A.units + 1 + min (PyData.depthAll (toPDs xs)) (toPD y).depth < cLine := by
        rw [dep_PD y d1]; unfold Deep at hu; omega
      have hmap : its.map (SeqAt.readOf s.heap) = toPDs xs := SeqAt.readsAll_map _ its bs lx h4
      have hn : its.length = xs.length := by
        have := congrArg List.length hmap
        rw [List.length_map, PDs_length] at this
        exact this
      have hsl := sizeLine_eq
      have hvl := rv.length
      obtain ⟨hjx, hjz⟩ := List.getElem?_eq_some_iff.mp k1
      have at_ : ∀ (m : Nat) (hm : m < its.toArray.size) (x' : W), xs[m]? = some x' → SeqAt.readOf s.heap its.toArray[m] = toPD x' := by
        intro m hm x' hx'
        have hml : m < its.length := by simpa using hm
        have z1 := congrArg (fun l => l[m]?) hmap
        simp only [List.getElem?_map, PDs_get, hx', List.getElem?_eq_getElem hml, Option.map_some] at z1
        have z2 := Option.some.inj z1
        simpa using z2
      have hj : j < its.toArray.size := by simp; omega
      have de : ∀ x', x' ∈ xs → isD x' = true := fun x' hx' => isDs_mem dxs hx'
      show wpAny _ _ (call (.builtin "list.index") _) _ _ _
      refine call_meets PySem.F.slot_list_index ⟨_, ho, rfl⟩ PySem.F.entry_list_index (PySem.F.args_list_index_2 _ _)
        (SeqAt.list_indexAt a its.toArray n dd sls u0 (fun u => PyData.eqv (SeqAt.readOf s.heap u) (toPD y)) j hj (by omega) ?_ ?_) ⟨ho, SeqAt.items_eqAt (vs := its.toArray) (show ReadsAll s.heap its.toArray.toList _ bs from h4) r1 lx l1 hu', ?_⟩
      · show PyData.eqv (SeqAt.readOf s.heap its.toArray[j]) (toPD y) = true
        rw [at_ j hj z k1, eqv_PD z y (de z (List.mem_of_getElem? k1)) d1]
        exact k2
      · intro m hm hmj
        have hmx : m < xs.length := by omega
        have hz' : xs[m]? = some xs[m] := List.getElem?_eq_getElem hmx
        show PyData.eqv (SeqAt.readOf s.heap its.toArray[m]) (toPD y) = false
        rw [at_ m hm _ hz', eqv_PD _ y (de _ (List.mem_of_getElem? hz')) d1]
        exact k3 m _ hmj hz'
      · exact ⟨.int (j : Nat), H, I.tok _, ⟨_, rfl⟩, q.same h rfl⟩
    · cases e
  · -- dict.get
    rename_i ks xs k
    obtain ⟨ky, g1, g2⟩ := Option.map_eq_some_iff.mp e
    subst g2
    obtain ⟨v0, rfl, r0⟩ := one rfl
    obtain ⟨a, zs, rfl, a1, a2, a3⟩ := r
    have ev := key_of g1 r0
    subst ev
    cases qv
    obtain ⟨u0, rfl, qu⟩ := Vals.one qa
    have hu' : X.A.units + 1 < cLine := by unfold Deep at hu; omega
    have z := kget_ok (T := T) (q := ky) a2 a3
    refine d_get1 hu' I (DGet.k (k := kS ky) a1) qu fun w' s' I' rw' => ⟨_, H, I', rw', ?_⟩
    cases hk : kget ky ks xs with
    | some w0 =>
      rw [hk] at z
      obtain ⟨v1, z1, z2⟩ := z
      rw [z1]
      exact WantsP.same (by rw [hk] at q; exact q) h z2
    | none =>
      rw [hk] at z
      rw [show valV ((ks.map kS).zip zs) (kS ky) = none from z]
      exact WantsP.same (by rw [hk] at q; exact q) h rw_non
  · cases e
end
end Ev

/-! S5: expressions, node by node. -/
namespace Ev
open PySem PySem.Spec PyProof.Rows L2 Calls
section
variable {γ δ : Type} {T : Tb} {Wx : WX} {rel2 : Cf → Hp → γ → δ → Prop} {c : Cf} {st : St} {σ : L2.St} {H : Hp} {Q : δ → Hp → Prop}
/-- a step is left: what was found, what is still to be run -/
def At1 (T : Tb) (Wx : WX) (rel2 : Cf → Hp → γ → δ → Prop) (σ : L2.St) (f : W → St → R γ) (Q : δ → Hp → Prop) : VK := fun v H => ∃ c st a, RSt T c st σ H ∧ RV T c σ H a v ∧ Post T Wx rel2 c σ H (f a st) Q
def At2 (T : Tb) (Wx : WX) (rel2 : Cf → Hp → γ → δ → Prop) (σ : L2.St) (f : W → W → St → R γ) (Q : δ → Hp → Prop) (v u : V) (H : Hp) : Prop := ∃ c st a b, RSt T c st σ H ∧ RV T c σ H a v ∧ RV T c σ H b u ∧ Post T Wx rel2 c σ H (f a b st) Q
def AtA (T : Tb) (Wx : WX) (rel2 : Cf → Hp → γ → δ → Prop) (σ : L2.St) (f : List W → St → R γ) (Q : δ → Hp → Prop) : List V → Hp → Prop := fun vs H => ∃ c st ws, RSt T c st σ H ∧ relA T σ c H ws vs ∧ Post T Wx rel2 c σ H (f ws st) Q
def AtT (T : Tb) (Wx : WX) (rel2 : Cf → Hp → γ → δ → Prop) (σ : L2.St) (f : Bool → St → R γ) (Q : δ → Hp → Prop) : Bool → Hp → Prop := fun b H => ∃ c st, RSt T c st σ H ∧ Post T Wx rel2 c σ H (f b st) Q
theorem one {ma : St → R W} {f : W → St → R γ} (h : RSt T c st σ H) (q : Post T Wx rel2 c σ H ((ma st).bind f) Q) : rdE T Wx ma σ H (At1 T Wx rel2 σ f Q) :=
  ⟨c, st, h, (Post.bind (rel := relV T σ) q).mono fun v H1 ⟨c1, st1, a, s1, h1, r1, q1⟩ => ⟨c1, st1, a, h1, r1, q1⟩⟩
theorem two {ma mb : St → R W} {f : W → W → St → R γ} (h : RSt T c st σ H) (q : Post T Wx rel2 c σ H ((ma st).bind fun x st1 => (mb st1).bind fun y st2 => f x y st2) Q) :
    rdE T Wx ma σ H fun v H1 => rdE T Wx mb σ H1 fun u H2 => At2 T Wx rel2 σ f Q v u H2 :=
  ⟨c, st, h, (Post.bind (rel := relV T σ) q).mono fun v H1 ⟨c1, st1, a, s1, h1, r1, q1⟩ => ⟨c1, st1, h1, (Post.bind (rel := relV T σ) q1).mono fun u H2 ⟨c2, st2, b, s2, h2, r2, q2⟩ => ⟨c2, st2, a, b, h2, RV.mono s2 r1, r2, q2⟩⟩⟩
theorem oneA {ma : St → R (List W)} {f : List W → St → R γ} (h : RSt T c st σ H) (q : Post T Wx rel2 c σ H ((ma st).bind f) Q) : rdA T Wx ma σ H (AtA T Wx rel2 σ f Q) :=
  ⟨c, st, h, (Post.bind (rel := relA T σ) q).mono fun v H1 ⟨c1, st1, a, s1, h1, r1, q1⟩ => ⟨c1, st1, a, h1, r1, q1⟩⟩
theorem oneT {ma : St → R Bool} {f : Bool → St → R γ} (h : RSt T c st σ H) (q : Post T Wx rel2 c σ H ((ma st).bind f) Q) : rdT T Wx ma σ H (AtT T Wx rel2 σ f Q) :=
  ⟨c, st, h, (Post.bind (rel := relB) q).mono fun v H1 ⟨c1, st1, a, s1, h1, r1, q1⟩ => by cases r1; exact ⟨c1, st1, h1, q1⟩⟩
theorem relA.mono {c1 : Cf} {H1 : Hp} {ws : List W} {vs : List V} (s : Stp c H c1 H1) (h : relA T σ c H ws vs) : relA T σ c1 H1 ws vs := ⟨h.1, fun i w v e1 e2 => RV.mono s (h.2 i w v e1 e2)⟩
/-- a receiver, then arguments -/
theorem oneVA {ma : St → R W} {mb : St → R (List W)} {f : W → List W → St → R γ} (h : RSt T c st σ H) (q : Post T Wx rel2 c σ H ((ma st).bind fun x st1 => (mb st1).bind fun ys st2 => f x ys st2) Q) :
    rdE T Wx ma σ H fun v H1 => rdA T Wx mb σ H1 fun us H2 => ∃ c st a ws, RSt T c st σ H2 ∧ RV T c σ H2 a v ∧ relA T σ c H2 ws us ∧ Post T Wx rel2 c σ H2 (f a ws st) Q :=
  ⟨c, st, h, (Post.bind (rel := relV T σ) q).mono fun v H1 ⟨c1, st1, a, s1, h1, r1, q1⟩ => ⟨c1, st1, h1, (Post.bind (rel := relA T σ) q1).mono fun u H2 ⟨c2, st2, b, s2, h2, r2, q2⟩ => ⟨c2, st2, a, b, h2, RV.mono s2 r1, r2, q2⟩⟩⟩
end
section
variable {T : Tb} {X : Cx} {Wx : WX} {p : Pg} {cal : Bool → Nat → List W → List OO → RC} {a b e : Expr} {ea eb : E} {pos : Pos}
theorem stk_no {α β : Type} {rel : Cf → Hp → α → β → Prop} {c : Cf} {σ : L2.St} {H : Hp} {Q : β → Hp → Prop} (h : Post T Wx rel c σ H .stk Q) : False := h
/-! ### names, constants -/
theorem se_var {i : Nat} {x : Str} (hN : X.N[i]? = some x) (hv : Vis X.env.scope x) (h1 : (x == ("__debug__" : Str)) = false) (h2 : (x == ("__classdict__" : Str)) = false) : SE T X Wx (.Name x pos) (evE p cal (.var i)) :=
  PE.imp (pe_var hN hv h1 h2) fun σ H Q ⟨c, st, h, q⟩ => by
    simp only [evE] at q
    cases e : st.r[i]? with
    | none => simp [e] at q; exact q.elim
    | some s =>
      cases s with
      | un => simp [e] at q; exact q.elim
      | val w =>
        simp [e] at q
        obtain ⟨v, e1, r⟩ := h.val i w e
        exact ⟨v, e1, Post.ret q h r.rv⟩
      | own o =>
        simp [e] at q
        obtain ⟨a, e1, e2, r⟩ := h.own i o e
        exact ⟨.ref a, e2, Post.ret q h (show σ[i]? = some (some (V.ref a)) from e2)⟩
/-- a plain value of a constant -/
def vC : W → Option V
  | .non => some .non
  | .bl b => some (.bl b)
  | .int i => some (.int i)
  | .str x => if tOk x then some (.str (tS x)) else none
  | _ => none
theorem vC_ok {w : W} {v : V} {lv : List Addr} {nf : Addr → Prop} {H : Hp} (h : vC w = some v) : RW T lv nf H w v := by
  cases w <;> simp [vC] at h <;> first | (subst h; rfl) | skip
  obtain ⟨h1, h2⟩ := h
  subst h2
  exact ⟨rfl, h1⟩
theorem se_of {e : Expr} {w : W} {v : V} {x : E} (hp : PE X e (tC v)) (hv : vC w = some v) (hx : ∀ st, evE p cal x st = .ok w st) : SE T X Wx e (evE p cal x) :=
  PE.imp hp fun σ H Q ⟨c, st, h, q⟩ => by
    rw [hx] at q
    exact Post.ret q h (vC_ok hv).rv
theorem se_cst {e : Expr} {w : W} {v : V} (hp : PE X e (tC v)) (hv : vC w = some v) : SE T X Wx e (evE p cal (.cst w)) := se_of hp hv fun _ => by simp [evE]
theorem se_glo {g : Nat} {e : Expr} {w : W} {v : V} (hp : PE X e (tC v)) (hv : vC w = some v) : SE T X Wx e (evE p cal (.glo g w)) := se_of hp hv fun _ => by simp [evE]
/-! ### operators -/
theorem lift_some {α β : Type} {rel : Cf → Hp → α → β → Prop} {c : Cf} {σ : L2.St} {H : Hp} {Q : β → Hp → Prop} {st : St} {o : Option α} (q : Post T Wx rel c σ H (.lift st o) Q) : ∃ a, o = some a ∧ Post T Wx rel c σ H (.ok a st) Q := by
  cases o with
  | none => exact (show False from q).elim
  | some a => exact ⟨a, rfl, q⟩
theorem se_bin {op : Bop} (hn : ∀ x y st, binR p cal op x y st = .lift st (binW op (vw st x) (vw st y))) (ha : SE T X Wx a (evE p cal ea)) (hb : SE T X Wx b (evE p cal eb)) : SE T X Wx (.BinOp a (opOf op) b pos) (evE p cal (.bin op ea eb)) :=
  ⟨fun pins s σ H Q I ⟨c, st, h, q⟩ => by
    simp only [evE] at q
    refine wpAny_BinOp (binT ha hb I (two h q) fun v u s2 x y H2 I2 rx ry ⟨c, st, wa, wb, h, r1, r2, q⟩ => ?_)
    rw [hn] at q
    obtain ⟨w, e, q⟩ := lift_some q
    exact bin_ok e I2 h (rvv h r1) (rvv h r2) rx ry (Wants.of q)⟩
theorem se_neg (ha : SE T X Wx a (evE p cal ea)) : SE T X Wx (.UnaryOp .USub a pos) (evE p cal (.neg ea)) :=
  PE.imp (pe_un un_neg ha) fun σ H Q ⟨c, st, h, q⟩ => by
    simp only [evE] at q
    obtain ⟨c0, st0, h0, q0⟩ := one h q
    refine ⟨c0, st0, h0, q0.mono fun v H1 ⟨c, st, w, h, r, q⟩ => ?_⟩
    cases w <;> first | exact (show False from q).elim | skip
    rename_i i
    exact ⟨i, r, Post.ret q h (show RV T c σ H1 (.int (-i)) (.int (-i)) from rfl)⟩
theorem se_notE (ha : SE T X Wx a (evE p cal ea)) (hK : T.K = X.K) : SE T X Wx (.UnaryOp .Not a pos) (evE p cal (.bnt ea)) :=
  ⟨fun pins s σ H Q I ⟨c, st, h, q⟩ => by
    simp only [evE] at q
    refine UnaryOp_ (thn (ha.run pins s σ H _ I (one h q)) fun v s1 ⟨x, H1, I1, r1, c, st, w, h, r, q⟩ => ?_)
    unfold truR at q
    cases e : truW (vw st w) with
    | none => simp [e, R.lift, R.bind] at q; exact q.elim
    | some k =>
      simp only [e, R.lift, R.bind] at q
      exact PySem.not_value (thn (tru_ok pins s1 σ H1 x v (fun k H => Q (.bl !k) H) I1 r1 ⟨k, tru_ok' e (rvv h r) hK, Post.ret q h (show RV T c σ H1 (.bl !k) (.bl !k) from rfl)⟩) fun b s2 ⟨H2, I2, q2⟩ => ⟨.bl !b, H2, I2, rfl, q2⟩)⟩
/-! ### tests -/
def tst (p : Pg) (cal : Bool → Nat → List W → List OO → RC) (e : E) (st : St) : R Bool := (evE p cal e st).bind fun w st1 => truR w st1
theorem st_truth (ha : SE T X Wx a (evE p cal ea)) (hK : T.K = X.K) (he : ∀ whole, isTrue a X.env whole = (do let v ← whole; standAt a.pos; holding [v] (truthy v))) : ST T X Wx a (tst p cal ea) :=
  PT.imp (pt_truth ha he) fun σ H Q ⟨c, st, h, q⟩ => by
    unfold tst at q
    obtain ⟨c0, st0, h0, q0⟩ := one h q
    refine ⟨c0, st0, h0, q0.mono fun v H1 ⟨c, st, w, h, r, q⟩ => ?_⟩
    unfold truR at q
    obtain ⟨k, e, q⟩ := lift_some q
    exact ⟨k, tru_ok' e (rvv h r) hK, Post.ret q h rfl⟩
theorem st_not (ha : ST T X Wx a (tst p cal ea)) : ST T X Wx (.UnaryOp .Not a pos) (tst p cal (.bnt ea)) :=
  PT.imp (pt_not ha) fun σ H Q ⟨c, st, h, q⟩ => by
    have e : tst p cal (.bnt ea) st = (tst p cal ea st).bind fun k st1 => .ok (!k) st1 := by
      simp only [tst, evE]
      cases h1 : evE p cal ea st with
      | ok w st1 =>
        simp only [R.bind]
        cases h2 : truR w st1 <;> simp [truR, R.lift, truW, vw]
      | exc x st1 => rfl
      | stk => rfl
    rw [e] at q
    obtain ⟨c0, st0, h0, q0⟩ := oneT h q
    exact ⟨c0, st0, h0, q0.mono fun k H1 ⟨c, st, h, q⟩ => Post.ret q h rfl⟩
/-- and, or: both sides are bools -/
theorem tst_bnd (st : St) {α β : Type} {rel : Cf → Hp → α → β → Prop} {c : Cf} {σ : L2.St} {H : Hp} {Q : Bool → Hp → Prop} (q : Post T Wx relB c σ H (tst p cal (.bnd ea eb) st) Q) :
    Post T Wx relB c σ H ((tst p cal ea st).bind fun k st1 => if k then tst p cal eb st1 else .ok false st1) Q := by
  simp only [tst, evE] at q ⊢
  cases h1 : evE p cal ea st with
  | ok w st1 =>
    simp only [h1, R.bind] at q ⊢
    cases w <;> first | exact (show False from q).elim | skip
    rename_i k
    cases k
    · simpa [truR, R.lift, truW, vw, R.bind] using q
    · simpa [truR, R.lift, truW, vw, R.bind] using q
  | exc x st1 => simpa [h1, R.bind] using q
  | stk => simp only [h1, R.bind] at q; exact (show False from q).elim
theorem tst_bor (st : St) {α β : Type} {rel : Cf → Hp → α → β → Prop} {c : Cf} {σ : L2.St} {H : Hp} {Q : Bool → Hp → Prop} (q : Post T Wx relB c σ H (tst p cal (.bor ea eb) st) Q) :
    Post T Wx relB c σ H ((tst p cal ea st).bind fun k st1 => if k then .ok true st1 else tst p cal eb st1) Q := by
  simp only [tst, evE] at q ⊢
  cases h1 : evE p cal ea st with
  | ok w st1 =>
    simp only [h1, R.bind] at q ⊢
    cases w <;> first | exact (show False from q).elim | skip
    rename_i k
    cases k
    · simpa [truR, R.lift, truW, vw, R.bind] using q
    · simpa [truR, R.lift, truW, vw, R.bind] using q
  | exc x st1 => simpa [h1, R.bind] using q
  | stk => simp only [h1, R.bind] at q; exact (show False from q).elim
def SW (T : Tb) (X : Cx) (Wx : WX) (e : Expr) (m : St → R Bool) : Prop := PW X e (rdT T Wx m)
theorem PW.imp {X : Cx} {e : Expr} {t t' : TT} (h : PW X e t) (q : ∀ σ H Q, t' σ H Q → t σ H Q) : PW X e t' := ⟨fun wh pins s σ H Q I z => h.run wh pins s σ H Q I (q _ _ _ z)⟩
variable {rest : List Expr}
theorem sw_and (ha : ST T X Wx a (tst p cal ea)) (hb : SW T X Wx (.BoolOp .And (b :: rest) pos) (tst p cal eb)) : SW T X Wx (.BoolOp .And (a :: b :: rest) pos) (tst p cal (.bnd ea eb)) :=
  PW.imp (pw_and ha hb) fun σ H Q ⟨c, st, h, q⟩ => by
    obtain ⟨c0, st0, h0, q0⟩ := oneT h (tst_bnd (rel := relB) st q)
    refine ⟨c0, st0, h0, q0.mono fun k H1 ⟨c, st, h, q⟩ => ?_⟩
    cases k
    · exact Post.ret q h rfl
    · exact ⟨c, st, h, q⟩
theorem sw_or (ha : ST T X Wx a (tst p cal ea)) (hb : SW T X Wx (.BoolOp .Or (b :: rest) pos) (tst p cal eb)) : SW T X Wx (.BoolOp .Or (a :: b :: rest) pos) (tst p cal (.bor ea eb)) :=
  PW.imp (pw_or ha hb) fun σ H Q ⟨c, st, h, q⟩ => by
    obtain ⟨c0, st0, h0, q0⟩ := oneT h (tst_bor (rel := relB) st q)
    refine ⟨c0, st0, h0, q0.mono fun k H1 ⟨c, st, h, q⟩ => ?_⟩
    cases k
    · exact ⟨c, st, h, q⟩
    · exact Post.ret q h rfl
theorem se_and (ha : SE T X Wx a (evE p cal ea)) (hb : SE T X Wx (.BoolOp .And (b :: rest) pos) (evE p cal eb)) : SE T X Wx (.BoolOp .And (a :: b :: rest) pos) (evE p cal (.bnd ea eb)) :=
  PE.imp (pe_and ha hb) fun σ H Q ⟨c, st, h, q⟩ => by
    simp only [evE] at q
    obtain ⟨c0, st0, h0, q0⟩ := one h q
    refine ⟨c0, st0, h0, q0.mono fun v H1 ⟨c, st, w, h, r, q⟩ => ?_⟩
    cases w <;> first | exact (show False from q).elim | skip
    rename_i k
    refine ⟨k, r, ?_⟩
    cases k
    · exact Post.ret q h (show RV T c σ H1 (.bl false) (.bl false) from rfl)
    · exact ⟨c, st, h, q⟩
theorem se_or (ha : SE T X Wx a (evE p cal ea)) (hb : SE T X Wx (.BoolOp .Or (b :: rest) pos) (evE p cal eb)) : SE T X Wx (.BoolOp .Or (a :: b :: rest) pos) (evE p cal (.bor ea eb)) :=
  PE.imp (pe_or ha hb) fun σ H Q ⟨c, st, h, q⟩ => by
    simp only [evE] at q
    obtain ⟨c0, st0, h0, q0⟩ := one h q
    refine ⟨c0, st0, h0, q0.mono fun v H1 ⟨c, st, w, h, r, q⟩ => ?_⟩
    cases w <;> first | exact (show False from q).elim | skip
    rename_i k
    refine ⟨k, r, ?_⟩
    cases k
    · exact ⟨c, st, h, q⟩
    · exact Post.ret q h (show RV T c σ H1 (.bl true) (.bl true) from rfl)
theorem se_ite {d : Expr} {ed : E} (hd : ST T X Wx d (tst p cal ed)) (ha : SE T X Wx a (evE p cal ea)) (hb : SE T X Wx b (evE p cal eb)) : SE T X Wx (.IfExp d a b pos) (evE p cal (.ite ed ea eb)) :=
  PE.imp (pe_ifExp hd ha hb) fun σ H Q ⟨c, st, h, q⟩ => by
    have e : evE p cal (.ite ed ea eb) st = (tst p cal ed st).bind fun k st2 => if k then evE p cal ea st2 else evE p cal eb st2 := by
      simp only [evE, tst]
      cases evE p cal ed st <;> rfl
    rw [e] at q
    obtain ⟨c0, st0, h0, q0⟩ := oneT h q
    refine ⟨c0, st0, h0, q0.mono fun k H1 ⟨c, st, h, q⟩ => ?_⟩
    cases k
    · exact ⟨c, st, h, q⟩
    · exact ⟨c, st, h, q⟩
/-! ### lists of expressions, displays -/
theorem sa_nil : SA T X Wx [] (evEs p cal []) :=
  PA.imp pa_nil fun σ H Q ⟨c, st, h, q⟩ => by
    simp only [evEs] at q
    exact Post.ret q h ⟨rfl, fun i w v e => by simp at e⟩
theorem sa_cons {es : List Expr} {xs : List E} (ha : SE T X Wx a (evE p cal ea)) (hr : SA T X Wx es (evEs p cal xs)) (hs : starEach (a :: es) X.env = (false, eval a X.env) :: starEach es X.env) : SA T X Wx (a :: es) (evEs p cal (ea :: xs)) :=
  PA.imp (pa_cons ha hr hs) fun σ H Q ⟨c, st, h, q⟩ => by
    simp only [evEs] at q
    obtain ⟨c0, st0, h0, q0⟩ := oneVA h q
    refine ⟨c0, st0, h0, q0.mono fun v H1 ⟨c1, st1, h1, q1⟩ => ⟨c1, st1, h1, q1.mono fun us H2 ⟨c, st, w, ws, h, r, ra, q⟩ => ?_⟩⟩
    refine Post.ret q h ⟨by simp [ra.1], fun i x v e1 e2 => ?_⟩
    cases i with
    | zero => simp at e1 e2; subst e1; subst e2; exact r
    | succ i => exact ra.2 i x v (by simpa using e1) (by simpa using e2)
theorem se_tup {es : List Expr} {xs : List E} {k : Nat} (hs : SA T X Wx es (evEs p cal xs)) : SE T X Wx (.Tuple es k pos) (evE p cal (.tup xs)) :=
  PE.imp (pe_tup hs) fun σ H Q ⟨c, st, h, q⟩ => by
    simp only [evE] at q
    obtain ⟨c0, st0, h0, q0⟩ := oneA h q
    refine ⟨c0, st0, h0, q0.mono fun vs H1 ⟨c, st, ws, h, ra, q⟩ => ?_⟩
    cases ho : okvs ws && decide (ws.length ≤ lineMax) with
    | false => simp [ho] at q; exact q.elim
    | true =>
      simp only [ho, if_true] at q
      obtain ⟨o1, o2⟩ := Bool.and_eq_true_iff.mp ho
      refine ⟨by rw [← ra.1, ← line_eq]; exact of_decide_eq_true o2, fun pp hp => ?_⟩
      exact new_tup h hp (okv_rw o1 ra) (Wants.of q)
theorem se_lst {es : List Expr} {xs : List E} (hs : SA T X Wx es (evEs p cal xs)) : SE T X Wx (.List es pos) (evE p cal (.lst xs)) :=
  PE.imp (pe_lst hs) fun σ H Q ⟨c, st, h, q⟩ => by
    simp only [evE] at q
    obtain ⟨c0, st0, h0, q0⟩ := oneA h q
    refine ⟨c0, st0, h0, q0.mono fun vs H1 ⟨c, st, ws, h, ra, q⟩ => ?_⟩
    cases ho : okvs ws && decide (ws.length ≤ lineMax) with
    | false => simp [ho] at q; exact q.elim
    | true =>
      simp only [ho, if_true] at q
      obtain ⟨o1, o2⟩ := Bool.and_eq_true_iff.mp ho
      refine ⟨by rw [← ra.1, ← line_eq]; exact of_decide_eq_true o2, fun pp hp => ?_⟩
      exact new_lst h hp (okv_rw o1 ra) (Wants.of q)
/-! ### places, slices -/
theorem se_sub (hu : Deep X) (ha : SE T X Wx a (evE p cal ea)) (hb : SE T X Wx b (evE p cal eb)) (hs : PlainIx b) : SE T X Wx (.Subscript a b pos) (evE p cal (.sub ea eb)) :=
  ⟨fun pins s σ H Q I ⟨c, st, h, q⟩ => by
    simp only [evE] at q
    refine Subscript_ (binT ha hb I (two h q) fun v u s2 x y H2 I2 rx ry ⟨c, st, wa, wb, h, r1, r2, q⟩ => ?_)
    obtain ⟨w, e, q⟩ := lift_some q
    have nk : RVV T c H2 wb y := by
      cases wb <;> first | exact r2 | trivial | (simp [subW] at e; done) | skip
      all_goals (cases hq : vw st wa <;> simp [subW, hq, kyOf] at e)
    exact sub_ok hu e I2 h (rvv h r1) nk rx ry (hs _ _) (WantsP.of q)⟩
end
/-! ### expressions whose lists are new -/
/-- what is wanted of a result whose list is new -/
def PostF (T : Tb) (Wx : WX) (c : Cf) (σ : L2.St) (H : Hp) (r : R W) (Q : VK) : Prop := match r with
  | .ok a st' => ∀ b H' c', Stp c H c' H' → RSt T c' st' σ H' → RV T c' σ H' a b → FrW T c' st' σ H H' a b → Q b H'
  | .exc x st' => ∀ cls d H' c', Stp c H c' H' → RSt T c' st' σ H' → RX T c' H' x cls d → Wx cls d σ H'
  | .stk => False
def rdF (T : Tb) (Wx : WX) (m : St → R W) : TE := fun σ H Q => ∃ c st, RSt T c st σ H ∧ PostF T Wx c σ H (m st) Q
def SF (T : Tb) (X : Cx) (Wx : WX) (e : Expr) (m : St → R W) : Prop := PE X e (rdF T Wx m)
section
variable {α β γ : Type} {T : Tb} {X : Cx} {Wx : WX} {p : Pg} {cal : Bool → Nat → List W → List OO → RC} {c c1 c2 : Cf} {st : St} {σ : L2.St} {H H0 H1 H2 : Hp} {pins : List (Addr × Obj)} {s : Shared} {k : Nat} {D : Addr}
variable {a b d e : Expr} {ea eb ed : E} {pos : Pos}
theorem PostF.of {r : R W} {Q : VK} (h : Post T Wx (relV T σ) c σ H r Q) : PostF T Wx c σ H r Q := by
  cases r with
  | ok a st => exact fun b H' c' s h1 h2 _ => h b H' c' s h1 h2
  | exc x st => exact h
  | stk => exact h
theorem PostF.from {r : R W} {Q : VK} (h : PostF T Wx c σ H r Q) (s : Stp c H c1 H1) : PostF T Wx c1 σ H1 r Q := by
  cases r with
  | ok a st => exact fun b H' c' s' h1 h2 f => h b H' c' (s.trans s') h1 h2 fun z x e => ⟨s.tb (f z x e).1, (f z x e).2⟩
  | exc x st => exact fun cls d H' c' s' h1 h2 => h cls d H' c' (s.trans s') h1 h2
  | stk => exact h
theorem PostF.bind {rel : Cf → Hp → α → β → Prop} {m : R α} {f : α → St → R W} {Q : VK} (h : PostF T Wx c σ H (m.bind f) Q) :
    Post T Wx rel c σ H m fun b H1 => ∃ c1 st1 a, Stp c H c1 H1 ∧ RSt T c1 st1 σ H1 ∧ rel c1 H1 a b ∧ PostF T Wx c1 σ H1 (f a st1) Q := by
  cases m with
  | ok a st => exact fun b H' c' s h1 h2 => ⟨c', st, a, s, h1, h2, h.from s⟩
  | exc x st => exact h
  | stk => exact h
theorem SF.se {m : St → R W} (h : SF T X Wx e m) : SE T X Wx e m := PE.imp h fun σ H Q ⟨c, st, g, q⟩ => ⟨c, st, g, PostF.of q⟩
theorem WantsF.of {w : W} {Q : VK} (h : PostF T Wx c σ H (.ok w st) Q) : Wants T c st σ H w Q := fun z H' s r q f => h z H' c s r q.rv f
theorem liftF_some {Q : VK} {o : Option W} (q : PostF T Wx c σ H (.lift st o) Q) : ∃ a, o = some a ∧ PostF T Wx c σ H (.ok a st) Q := by
  cases o with
  | none => exact (show False from q).elim
  | some a => exact ⟨a, rfl, q⟩
def At2F (T : Tb) (Wx : WX) (σ : L2.St) (f : W → W → St → R W) (Q : VK) (v u : V) (H : Hp) : Prop := ∃ c st a b, RSt T c st σ H ∧ RV T c σ H a v ∧ RV T c σ H b u ∧ PostF T Wx c σ H (f a b st) Q
theorem twoF {Q : VK} {ma mb : St → R W} {f : W → W → St → R W} (h : RSt T c st σ H) (q : PostF T Wx c σ H ((ma st).bind fun x st1 => (mb st1).bind fun y st2 => f x y st2) Q) :
    rdE T Wx ma σ H fun v H1 => rdE T Wx mb σ H1 fun u H2 => At2F T Wx σ f Q v u H2 :=
  ⟨c, st, h, (PostF.bind (rel := relV T σ) q).mono fun v H1 ⟨c1, st1, a, s1, h1, r1, q1⟩ => ⟨c1, st1, h1, (PostF.bind (rel := relV T σ) q1).mono fun u H2 ⟨c2, st2, b, s2, h2, r2, q2⟩ => ⟨c2, st2, a, b, h2, RV.mono s2 r1, r2, q2⟩⟩⟩
theorem noL_ok {r : R W} {Q : VK} (q : PostF T Wx c σ H (noL r) Q) : Post T Wx (relV T σ) c σ H r Q := by
  refine (PostF.bind (rel := relV T σ) q).mono fun v H1 ⟨c1, st1, w, S, h1, r1, q1⟩ => ?_
  cases e : isL w with
  | true => rw [e] at q1; exact (show False from q1).elim
  | false =>
    rw [e] at q1
    exact q1 v H1 c1 Stp.refl h1 r1 fun z => by rw [e] at z; cases z
end
end Ev

/-! S6: calls of own defs. -/
namespace Ev
open PySem PySem.Spec PyProof.Rows L2 Calls
/-- a callee's view of the caller's objects -/
def Cf.out (c : Cf) : Cf := ⟨c.lv, fun _ => none, fun a => c.ou a ∨ ∃ i, c.ow i = some a⟩
theorem nf_out (c : Cf) (lv : List Addr) : (⟨lv, fun _ => none, c.out.ou⟩ : Cf).nf = (⟨lv, c.ow, c.ou⟩ : Cf).nf := by
  funext a
  apply propext
  unfold Cf.nf Cf.mu Cf.out
  simp only [reduceCtorEq, exists_false, or_false]
  constructor
  · rintro (h | h | h)
    · exact .inl (.inl h)
    · exact .inr h
    · exact .inl (.inr h)
  · rintro ((h | h) | h)
    · exact .inl h
    · exact .inr (.inr h)
    · exact .inr (.inl h)
theorem nf_out' (c : Cf) : c.out.nf = c.nf := nf_out c c.lv
/-- the state at a call -/
structure CalSt (T : Tb) (c : Cf) (H : Hp) (s : List OO) : Prop where
  ow : c.ow = fun _ => none
  sto : RSto T c.lv c.nf H s
  ou : ∀ a, c.ou a → ¬ c.mu a
  ouh : ∀ a, c.ou a → ∃ o, H a = some o ∧ noTb o = true
/-- what a call may change: nothing but open objects, and x -/
structure StpX (x : Addr) (c : Cf) (H : Hp) (c' : Cf) (H' : Hp) : Prop where
  fr : ∀ a o, H a = some o → noTb o = true → ¬ c.mu a → a ≠ x → H' a = some o
  mw : ∀ a, c'.mu a → c.mu a ∨ tn (H a) ∨ a = x
  lv : ∀ (n : Nat) a, c.lv[n]? = some a → c'.lv[n]? = some a
  ou : c'.ou = c.ou
  kk : ∀ a o, H a = some o → noTb o = true → ∃ o', H' a = some o' ∧ isIns o' = isIns o
abbrev Cf.at (c : Cf) (lv : List Addr) : Cf := ⟨lv, c.ow, c.ou⟩
/-- what a def promises -/
def spF (T : Tb) (np : Nat) (r : List W → List OO → RC) : Sp := fun vs H Q E => vs.length = np ∧ ∃ c ws s, CalSt T c H s ∧ RWs T c.lv c.nf H ws vs ∧ (match r ws s with
  | .ok w s' => ∀ v H' lv', Stp c H (c.at lv') H' → RSto T lv' (c.at lv').nf H' s' → RW T lv' (c.at lv').nf H' w v → Q v H'
  | .exc x s' => ∀ cls d H' lv', Stp c H (c.at lv') H' → RSto T lv' (c.at lv').nf H' s' → RX T (c.at lv') H' x cls d → E cls d H'
  | .stk => False)
/-- what an __init__ promises -/
def spI (T : Tb) (np C : Nat) (r : List W → List OO → RC) : Sp := fun vs H Q E => vs.length = np ∧ ∃ x dx vs' c ws s, vs = .ref x :: vs' ∧ H x = some (.ins (T.ca C) dx []) ∧ CalSt T (c.opn x) H s ∧ ¬ c.nf x ∧ RWs T (c.opn x).lv (c.opn x).nf H ws vs' ∧ (match r ws s with
  | .ok w s' => ∀ H' lv', StpX x c H (c.at lv') H' → RSto T lv' (c.at lv').nf H' s' → RW T lv' (c.at lv').nf H' w (.ref x) → Q .non H'
  | .exc e s' => ∀ cls d H' lv', StpX x c H (c.at lv') H' → RSto T lv' (c.at lv').nf H' s' → RX T (c.at lv') H' e cls d → E cls d H'
  | .stk => False)
section
variable {T : Tb} {c : Cf} {st : St} {σ : L2.St} {H H' : Hp} {lv' : List Addr} {s' : List OO}
theorem calSt_of (h : RSt T c st σ H) : CalSt T c.out H st.s where
  ow := rfl
  sto := by
    have e := nf_out' c
    rw [e]
    exact h.sto
  ou := fun a q m => by
    have m' : a ∈ c.lv := by
      rcases m with m | ⟨i, m⟩
      · exact m
      · cases m
    rcases q with q | ⟨i, q⟩
    · exact h.ou a q (.inl m')
    · exact h.dis i a q m'
  ouh := fun a q => by
    rcases q with q | q
    · exact h.ouh a q
    · obtain ⟨i, q⟩ := q
      obtain ⟨o, e4⟩ := h.back i a q
      obtain ⟨b, g1, _, r⟩ := h.own i o e4
      rw [q] at g1; cases g1
      exact r.there
theorem out_mu {a : Addr} (m : c.out.mu a) : a ∈ c.lv := by
  rcases m with m | ⟨i, m⟩
  · exact m
  · cases m
/-- back in the caller -/
theorem back_ok (h : RSt T c st σ H) (S : Stp c.out H (c.out.at lv') H') (so : RSto T lv' (c.out.at lv').nf H' s') : Stp c H (c.at lv') H' ∧ RSt T (c.at lv') ⟨st.r, s'⟩ σ H' := by
  have S2 : Stp c H (c.at lv') H' := {
    fr := fun a o e t n => S.fr a o e t fun m => n (.inl (out_mu m))
    mw := fun a m => by
      rcases m with m | m
      · rcases S.mw a (.inl m) with z | z
        · exact .inl (.inl (out_mu z))
        · exact .inr z
      · exact .inl (.inr m)
    lv := S.lv
    ou := rfl
    kk := S.kk
    ow := fun _ _ e => .inl e }
  refine ⟨S2, h.len, fun i w e => ?_, fun i o e => ?_, h.back, h.inj, fun i a e m => ?_, fun a q m => ?_, fun a q => ?_, ?_⟩
  · obtain ⟨v, e1, r⟩ := h.val i w e
    exact ⟨v, e1, r.mono S2.mn⟩
  · obtain ⟨a, e1, e2, r⟩ := h.own i o e
    obtain ⟨u, e3, t3⟩ := r.there
    refine ⟨a, e1, e2, r.mono S2.mn ?_⟩
    rw [e3]
    exact S.fr a u e3 t3 fun m => h.dis i a e1 (out_mu m)
  · rcases S.mw a (.inl m) with z | z
    · exact h.dis i a e (out_mu z)
    · obtain ⟨o, e4⟩ := h.back i a e
      obtain ⟨b, g1, _, r⟩ := h.own i o e4
      rw [e] at g1; cases g1
      obtain ⟨u, e3, t3⟩ := r.there
      exact z.no e3 t3
  · rcases m with m | m
    · rcases S.mw a (.inl m) with z | z
      · exact h.ou a q (.inl (out_mu z))
      · obtain ⟨u, e3, t3⟩ := h.ouh a q
        exact z.no e3 t3
    · exact h.ou a q (.inr m)
  · obtain ⟨o, e, t⟩ := h.ouh a q
    exact S.kp a o e t
  · have e := nf_out c lv'
    rw [← e]
    exact so
end
section
variable {T : Tb} {X : Cx} {Wx : WX} {cal : Bool → Nat → List W → List OO → RC} {c : Cf} {st : St} {σ : L2.St} {H : Hp} {pins : List (Addr × Obj)} {s : Shared} {k fi np : Nat} {f : Addr} {fd : FuncData} {ps : List Str} {args : Args} {ws : List W} {vs : List V} {us : List Value} {Q : VK} {A : Around}
/-- a def called, from anywhere below the running frame -/
theorem call_run (hA : A.frames = X.A.frames) (hr : Room k A) (tk : Takes X Wx) (F : FnOk X.prog X.w X.K X.mg X.base (L2.CX X.prog X.w) k f fd ps (spF T np (cal false fi))) (hb : BindsTo s fd args (ps.zip us)) (ol : vs.length = np)
    (I : Inv X pins σ H s) (h : RSt T c st σ H) (ra : relA T σ c H ws vs) (qa : Vals vs us) (q : Post T Wx (relV T σ) c σ H (callR cal false fi ws st) Q) :
    codeAny (model X.prog X.w) A (.call (.ref f) args) (fun r s' => match r with | .ok (.ret v) => EP X pins σ Q v s' | .ok _ => False | .error e => X.xe e s') s := by
  have hsp : spF T np (cal false fi) vs H Q (WE Wx σ) := by
    refine ⟨ol, c.out, ws, st.s, calSt_of h, ?_, ?_⟩
    · unfold callR at q
      cases ho : okvs ws with
      | false => rw [ho] at q; exact (show False from q).elim
      | true => rw [nf_out']; exact okv_rw ho ra
    · unfold callR at q
      cases ho : okvs ws with
      | false => rw [ho] at q; exact (show False from q).elim
      | true =>
        simp only [ho, if_true] at q
        cases hc : cal false fi ws st.s with
        | ok w s' =>
          simp only [hc, RC.at] at q ⊢
          intro v H' lv' S so rw'
          obtain ⟨S2, h2⟩ := back_ok h S so
          refine q v H' _ S2 h2 (RW.rv ?_)
          have e := nf_out c lv'
          rw [← e]; exact rw'
        | exc x s' =>
          simp only [hc, RC.at] at q ⊢
          intro cls d H' lv' S so rx
          obtain ⟨S2, h2⟩ := back_ok h S so
          refine q cls d H' _ S2 h2 ?_
          obtain ⟨e1, dx, fs, e2, e3, e4, e5⟩ := rx
          have e := nf_out c lv'
          exact ⟨e1, dx, fs, e2, e3, by rw [← e]; exact e4, fun i n w a b => by
            obtain ⟨v, g1, g2⟩ := e5 i n w a b
            exact ⟨v, g1, by rw [← e]; exact g2⟩⟩
        | stk => rw [hc] at q; exact (show False from q).elim
  have e0 : Env0 X.prog X.w X.K X.mg X.base A X.stack s H := by
    have e := I.env0
    exact ⟨by rw [hA]; exact e.frames, e.mod, e.bs, e.bsz, e.funs, e.frf, e.hok, e.bare⟩
  refine codeAny_mono (F.run A X.stack s H args us vs Q (WE Wx σ) hr e0 hb qa hsp) fun r s' hq => ?_
  cases r with
  | error e => exact passAt tk σ pins H s e s' I hq
  | ok fl =>
    cases fl with
    | ret w =>
      obtain ⟨z, H', I', rz, ez⟩ := I.after hq
      exact ⟨z, H', I', rz, ez⟩
    | next => exact False.elim hq
    | brk => exact False.elim hq
    | cont => exact False.elim hq
/-- an instance made -/
theorem make_run {C : Nat} (M : Mk X.K (T.ca C) f) (hr : Room (k + 1) X.A) (tk : Takes X Wx) (F : FnOk X.prog X.w X.K X.mg X.base (L2.CX X.prog X.w) k f fd ps (spI T np C (cal true C))) {kw : List (Str × Value)} {ps' : List Value}
    (hb : ∀ x s', X.K.In s'.heap → BindsTo s' fd ⟨.ref x :: ps', kw⟩ (ps.zip (.ref x :: us))) (ol : vs.length + 1 = np)
    (I : Inv X pins σ H s) (h : RSt T c st σ H) (ra : relA T σ c H ws vs) (qa : Vals vs us) (q : Post T Wx (relV T σ) c σ H (callR cal true C ws st) Q) :
    wpAny (model X.prog X.w) X.A (call (.ref (T.ca C)) ps' kw) (EP X pins σ Q) X.xe s := by
  have n1 : H (s.heap.objs.size + 1) = none := I.hok.fresh (Nat.le_succ _)
  have n2 : H s.heap.objs.size = none := I.hok.fresh (Nat.le_refl _)
  generalize hx : s.heap.objs.size + 1 = x at n1
  generalize hdx : s.heap.objs.size = dx at n2
  have ne : dx ≠ x := by omega
  let Hm := upd (upd H dx (.own x)) x (.ins (T.ca C) dx [])
  have grow : ∀ a o, H a = some o → Hm a = some o := fun a o e => by
    have g1 : a ≠ x := ne_of_none e n1
    have g2 : a ≠ dx := ne_of_none e n2
    show upd (upd H dx _) x _ a = _
    rw [upd_ne g1, upd_ne g2]; exact e
  have hm : RSt T c st σ Hm := h.keep grow
  have hxx : Hm x = some (.ins (T.ca C) dx []) := upd_same
  have nd : upd H dx (.own x) x = none := by rw [upd_ne (Ne.symm ne)]; exact n1
  have ho : RSt T (c.opn x) st σ Hm := (h.grow (p := dx) (o := .own x) n2).opn nd
  have eo : (c.opn x).out = c.out.opn x := by
    unfold Cf.out Cf.opn
    simp only [Cf.mk.injEq, true_and]
    funext a
    apply propext
    constructor
    · rintro ((z | z) | z)
      · exact .inl (.inl z)
      · exact .inr z
      · exact .inl (.inr z)
    · rintro ((z | z) | z)
      · exact .inl (.inl z)
      · exact .inr z
      · exact .inl (.inr z)
  have hsp : spI T np C (cal true C) (.ref x :: vs) Hm (fun v H2 => v = .non ∧ Q (.ref x) H2) (WE Wx σ) := by
    refine ⟨by simpa using ol, x, dx, vs, c.out, ws, st.s, rfl, hxx, by rw [← eo]; exact calSt_of ho, by rw [nf_out']; exact h.new n1, ?_, ?_⟩
    · unfold callR at q
      cases ho' : okvs ws with
      | false => rw [ho'] at q; exact (show False from q).elim
      | true =>
        rw [← eo, nf_out']
        refine (okv_rw ho' ra).mono ⟨fun a o e _ _ => grow a o e, fun a z => ?_, fun _ _ z => z, fun a f e => grow a _ e⟩
        rcases z with z | z | z
        · exact .inl (.inl z)
        · exact .inl (.inr z)
        · subst z; exact .inr (tn_none n1)
    · have conv : ∀ {lv' H'}, StpX x c.out Hm (c.out.at lv') H' → Stp c.out H (c.out.at lv') H' := fun {lv' H'} S => {
        fr := fun a o e t n => S.fr a o (grow a o e) t n (ne_of_none e n1)
        mw := fun a m => by
          rcases S.mw a m with z | z | z
          · exact .inl z
          · exact .inr fun o e => z o (grow a o e)
          · subst z; exact .inr (tn_none n1)
        lv := S.lv
        ou := S.ou
        kk := fun a o e => S.kk a o (grow a o e)
        ow := fun _ _ e => .inl e }
      unfold callR at q
      cases ho : okvs ws with
      | false => rw [ho] at q; exact (show False from q).elim
      | true =>
        simp only [ho, if_true] at q
        cases hc : cal true C ws st.s with
        | ok w s' =>
          simp only [hc, RC.at] at q ⊢
          intro H' lv' S so rw'
          obtain ⟨S2, h2⟩ := back_ok h (conv S) so
          refine ⟨trivial, q _ H' _ S2 h2 (RW.rv ?_)⟩
          have e := nf_out c lv'
          rw [← e]; exact rw'
        | exc xx s' =>
          simp only [hc, RC.at] at q ⊢
          intro cls d H' lv' S so rx
          obtain ⟨S2, h2⟩ := back_ok h (conv S) so
          refine q cls d H' _ S2 h2 ?_
          obtain ⟨e1, dx, fs, e2, e3, e4, e5⟩ := rx
          have e := nf_out c lv'
          exact ⟨e1, dx, fs, e2, e3, by rw [← e]; exact e4, fun i n w a b => by
            obtain ⟨v, g1, g2⟩ := e5 i n w a b
            exact ⟨v, g1, by rw [← e]; exact g2⟩⟩
        | stk => rw [hc] at q; exact (show False from q).elim
  have I2 := Inv.made (C := T.ca C) I
  subst hx hdx
  have r2 : Vals (V.ref (s.heap.objs.size + 1) :: vs) (Value.ref (s.heap.objs.size + 1) :: us) := .cons rfl qa
  refine wpAny_call (make_map (f := f) I.kIn M.makes M.init (beq_iff_eq.mp M.fn) (codeAny_mono (F.run _ X.stack _ _ ⟨Value.ref (s.heap.objs.size + 1) :: ps', kw⟩ (Value.ref (s.heap.objs.size + 1) :: us) _ _ (WE Wx σ) (hr.make _ ps' kw)
    (I2.env0.make _ ps' kw) (hb _ _ I2.kIn) r2 hsp) fun r s' hq' => ?_))
  cases r with
  | error e => exact passAt tk σ pins _ _ e s' I2 hq'
  | ok fl =>
    cases fl with
    | ret u =>
      obtain ⟨v, H', I3, rv, ev, q3⟩ := I2.after hq'
      subst ev
      exact ⟨rv, ⟨V.ref (s.heap.objs.size + 1), H', I3, rfl, q3⟩⟩
    | next => exact False.elim hq'
    | brk => exact False.elim hq'
    | cont => exact False.elim hq'
end
end Ev

/-! S7: what is known of defs and classes; own operators, fields, properties, isinstance. -/
namespace Ev
open PySem PySem.Spec PyProof.Rows L2 Calls
/-! ### != by an own == -/
section
variable {prog : Program} {w : World} {A : Around} {E : Value → Shared → Prop} {s : Shared} {K : PySem.W.Frag} {x C f : Addr} {ox : Obj} {od : Option Obj} {b tb : Value}
theorem ifBound_objNe {M : Model} {args : List Value} {Q : Option Value → Shared → Prop} (X : K.In s.heap) (I : PySem.W.InstAt s.heap x ox C od) (hs : PySem.W.findIn K (.ref C) "__ne__" = some (some (.builtin "object.__ne__")))
    (h : wpAny M A (call (.builtin "object.__ne__") (.ref x :: args)) (fun v => Q (some v)) E s) : wpAny M A (callSpecialIfBound? (.ref x) "__ne__" args) Q E s := by
  simp only [callSpecialIfBound?, bindSpecialIfBound?]
  refine wpAny_holding (wpAny_bind (wpAny_bind (wpAny_bind (I.type.here ((PySem.W.looks_findIn X hs).here ?_)))))
  refine wpAny_bind (wpAny_askSetting (wpAny_ite ?_))
  have fin : wpAny M A (call (.builtin "object.__ne__") ([.ref x] ++ args) >>= fun v => pure (some v)) Q E s := wpAny_bind (wpAny_mono h (fun v s' h' => wpAny_pure h') fun _ _ h' => h')
  split
  · exact wpAny_bind (wpAny_of_eq (F.cmp_object.ne.bind _) (wpAny_pure (by exact fin)))
  · exact wpAny_tryCatch (wpAny_bind (wpAny_of_eq (F.cmp_object.ne.bind _) (wpAny_pure (by exact fin))))
theorem chk_ne {M : Model} {rest : List Value} {Q : Unit → Shared → Prop} (hi : PySem.W.Looks M s.heap (isInstance (.ref x) (.type "object")) true) (ha : argsOk "object.__ne__" ⟨.ref x :: rest, []⟩) (q : Q () s) :
    wpAny M A (checkBuiltinCall "object.__ne__" ⟨.ref x :: rest, []⟩) Q E s := PySem.W.check_slot F.cmpKind_ne F.cmpSplit_ne hi ha q
theorem ne_own {Q : Value → Shared → Prop} (hu : A.units + 1 < cLine) (X : K.In s.heap) (I : PySem.W.InstAt s.heap x ox C od) (hm : PySem.W.mroIn K C (.type "object") = some true) (hb : PySem.W.Looks (model prog w) s.heap (typeOf b) tb) (hn : PySem.W.notFirst K C tb = true)
    (hs : PySem.W.findIn K (.ref C) "__ne__" = some (some (.builtin "object.__ne__"))) (he : PySem.W.findIn K (.ref C) "__eq__" = some (some (.ref f))) (hf : PySem.W.isFn K (.ref f) = true)
    (h : wpAny (model prog w) A.in1 (call (.ref f) [.ref x, b]) (fun v s' => ∃ k, v = .bool k ∧ Q (.bool !k) s') E s) : wpAny (model prog w) A (compareOp .NotEq (.ref x) b) Q E s := by
  have ent : wpAny (model prog w) A.in1 (Builtin.«object.__ne__» ⟨[.ref x, b], []⟩) (fun fin s' => ∃ k, fin = .done (.ret (.bool !k)) ∧ Q (.bool !k) s') E s := by
    unfold Builtin.«object.__ne__»
    repeat (first
      | with_reducible refine wpAny_cRoomFor hu ?_
      | (refine wpAny_bind (m := callSpecialIfBound? (.ref x) (Str.ofString "__eq__") [b])
          (PySem.W.ifBound_K X I he hf (wpAny_mono h (fun r s' hr => by
            obtain ⟨k, rfl, hq⟩ := hr
            repeat (first | exact ⟨k, rfl, hq⟩ | exact wpAny_pure ⟨k, rfl, hq⟩ | (refine wpAny_bind (m := truthy (.bool _)) (wpAny_truthy_bool ?_)) | wp_step)) fun _ _ e => e)))
      | wp_step)
  have hi : PySem.W.Looks (model prog w) s.heap (isInstance (.ref x) (.type "object")) true := I.type.andThen (PySem.W.looks_mroIn X hm)
  have ha : argsOk "object.__ne__" ⟨.ref x :: [b], []⟩ := F.cmpArgs_ne _ _
  have cl : wpAny (model prog w) A (call (.builtin "object.__ne__") [.ref x, b]) (fun v s' => ∃ k, v = .bool k ∧ Q (.bool k) s') E s := by
    refine wpAny_call (codeAny_call_builtin F.cmp_object.ne.plain F.cmpEntry_ne (chk_ne hi ha (wpAny_mono ent ?_ ?_)))
    · intro fin s' hf'
      obtain ⟨k, rfl, hq⟩ := hf'
      exact ⟨_, rfl, hq⟩
    · exact fun _ _ e => e
  have one : wpAny (model prog w) A (tryCompare (.ref x) "__ne__" b) (fun r s' => ∃ v, r = some v ∧ Q v s') E s := by
    unfold tryCompare
    refine wpAny_bind (ifBound_objNe X I hs (wpAny_mono cl (fun v s' hv => ?_) fun _ _ e => e))
    obtain ⟨k, rfl, hq⟩ := hv
    exact wpAny_pure ⟨_, rfl, hq⟩
  unfold compareOp richCompare
  simp only [oneThing_ref]
  refine wpAny_holding (wpAny_bind (wpAny_cRoomFor (Nat.lt_of_succ_lt hu) ?_))
  rw [cmpInfo_NotEq]
  dsimp only
  refine wpAny_bind (I.type.here (wpAny_bind (hb.here ?_)))
  split
  · rename_i q
    have e : PySem.W.subIn K tb (.ref C) = some false := by
      rcases Bool.or_eq_true_iff.mp hn with e | e
      · rw [beq_iff_eq.mp e] at q; simp at q
      · exact beq_iff_eq.mp e
    refine wpAny_bind ((PySem.W.looks_subIn X e).here ?_)
    simp only [Bool.false_eq_true, if_false]
    refine wpAny_bind (wpAny_mono one (fun r s' z => ?_) fun _ _ e => e)
    obtain ⟨v, rfl, hq⟩ := z
    exact wpAny_pure hq
  · refine wpAny_bind (wpAny_pure ?_)
    simp only [Bool.false_eq_true, if_false]
    refine wpAny_bind (wpAny_mono one (fun r s' z => ?_) fun _ _ e => e)
    obtain ⟨v, rfl, hq⟩ := z
    exact wpAny_pure hq
end
end Ev

/-! S8: what is known of defs and classes; own operators, fields, properties, isinstance. -/
namespace Ev
open PySem PySem.Spec PyProof.Rows L2 Calls
/-- built-in types by number -/
def tyN : Nat → String
  | 0 => "NoneType" | 1 => "bool" | 2 => "int" | 3 => "str" | 4 => "tuple" | 5 => "list" | _ => "dict"
def tyV (T : Tb) : Sum Nat Nat → Value
  | .inl n => .type (tyN n)
  | .inr C => .ref (T.ca C)
/-- what is known of a class whose instances are looked at -/
structure ClsF (T : Tb) (K : PySem.W.Frag) (p : Pg) (C : Nat) (c : Cl) : Prop where
  cl : Cls K (T.ca C)
  ha : PySem.W.findIn K (.ref (T.ca C)) "__class__" = some (some (.builtin "object.__class__"))
  hn : PySem.W.specialIn K (.builtin "object.__class__") "__get__" = some (some (.builtin "getset_descriptor.__get__"))
  tk : PySem.W.takesIn K (.builtin "object.__class__") = some true
  hm : PySem.W.mroIn K (T.ca C) (.type "object") = some true
  kit1 : ∀ n, 1 ≤ n → n ≤ 5 → PySem.W.kitOne K (.ref (T.ca C)) (.type (tyN n)) = some false
  kit2 : ∀ n, PySem.W.kitOne K (.type (tyN n)) (.ref (T.ca C)) = some false
  kit3 : ∀ D d, clsG p D = some d → PySem.W.kitOne K (.ref (T.ca C)) (.ref (T.ca D)) = some (subC p C D)
  nfT : c.meths.lookup p.sEq ≠ none → ∀ n, PySem.W.notFirst K (T.ca C) (.type (tyN n)) = true
  nfC : c.meths.lookup p.sEq ≠ none → ∀ D d, clsG p D = some d → PySem.W.notFirst K (T.ca C) (.ref (T.ca D)) = true
  ne : c.meths.lookup p.sEq ≠ none → PySem.W.findIn K (.ref (T.ca C)) "__ne__" = some (some (.builtin "object.__ne__"))
  sf : PySem.W.selfFirst K (T.ca C) = true
  na : ∀ f, c.flds.contains f = true → NoAttr K (T.ca C) (T.sy f)
  mt : ∀ m f, c.meths.lookup m = some f → Meth K (T.ca C) (T.sy m) (T.fa f)
  pr : ∀ x f, c.props.lookup x = some f → ∃ q, PropOf K (T.ca C) (T.sy x) q (T.fa f)
  co : ∀ x w, c.consts.lookup x = some w → ∃ v u, vC w = some v ∧ Con K (T.ca C) (T.sy x) v u
/-- what is known of the classes and names -/
structure GF (T : Tb) (p : Pg) (K : PySem.W.Frag) : Prop where
  hK : T.K = K
  inj : ∀ i j, T.sy i = T.sy j → i = j
  cls : ∀ C c, clsG p C = some c → ClsF T K p C c
  sEq : T.sy p.sEq = "__eq__"
  sLen : T.sy p.sLen = "__len__"
  sIn : T.sy p.sIn = "__contains__"
  sRepr : T.sy p.sRepr = "__repr__"
  sAdd : T.sy p.sAdd = "__add__"
  sMul : T.sy p.sMul = "__mul__"
/-- a def with all its arguments -/
def FullF (T : Tb) (X : Cx) (k : Nat) (cal : Bool → Nat → List W → List OO → RC) (f np : Nat) : Prop :=
  ∃ fd ps, FnOk X.prog X.w X.K X.mg X.base (L2.CX X.prog X.w) k (T.fa f) fd ps (spF T np (cal false f)) ∧ (∀ ws s, ws.length ≠ np → cal false f ws s = .stk) ∧ ∀ (s : Shared) (us : List Value), X.K.In s.heap → us.length = np → BindsTo s fd ⟨us, []⟩ (ps.zip us)
/-- what is known of the defs that methods and properties name -/
structure CalM (T : Tb) (p : Pg) (X : Cx) (k : Nat) (cal : Bool → Nat → List W → List OO → RC) : Prop where
  room : Room (k + 1) X.A
  mt : ∀ C c m f, clsG p C = some c → c.meths.lookup m = some f → ∃ np, FullF T X k cal f np
  pr : ∀ C c m f, clsG p C = some c → c.props.lookup m = some f → ∃ np, FullF T X k cal f np
section
variable {T : Tb} {X : Cx} {Wx : WX} {p : Pg} {cal : Bool → Nat → List W → List OO → RC} {c : Cf} {st : St} {σ : L2.St} {H : Hp} {pins : List (Addr × Obj)} {s : Shared} {k f np : Nat} {A : Around} {Q : VK}
/-- a method called, below the running frame -/
theorem own_run (F : FullF T X k cal f np) (hA : A.frames = X.A.frames) (hr : Room k A) (tk : Takes X Wx) {ws : List W} {vs : List V} {us : List Value} (I : Inv X pins σ H s) (h : RSt T c st σ H) (ra : relA T σ c H ws vs) (qa : Vals vs us)
    (q : Post T Wx (relV T σ) c σ H (callR cal false f ws st) Q) : wpAny (model X.prog X.w) A (call (.ref (T.fa f)) us) (EP X pins σ Q) X.xe s := by
  obtain ⟨fd, ps, F1, ar, hb⟩ := F
  by_cases ol : vs.length = np
  · refine wpAny_call (codeAny_mono (call_run (args := ⟨us, []⟩) hA hr tk F1 (hb s us I.kIn (by rw [← qa.length]; exact ol)) ol I h ra qa q) fun r s' z => ?_)
    cases r with
    | error e => exact z
    | ok fl => cases fl <;> first | exact z | exact z.elim
  · unfold callR at q
    rw [ar _ _ (by rw [ra.1]; exact ol)] at q
    exact (show False from by
      cases ho : okvs ws <;> simp [ho, RC.at] at q <;> exact q).elim
theorem relA_cons {w : W} {v : V} {ws : List W} {vs : List V} (h : RV T c σ H w v) (t : relA T σ c H ws vs) : relA T σ c H (w :: ws) (v :: vs) := ⟨by simp [t.1], fun i x y e1 e2 => by
  cases i with
  | zero => simp at e1 e2; subst e1; subst e2; exact h
  | succ i => exact t.2 i x y (by simpa using e1) (by simpa using e2)⟩
theorem relA_nil' : relA T σ c H [] [] := ⟨rfl, fun i w v e => by simp at e⟩
theorem clsOf_ok (h : RSt T c st σ H) {w : W} {v : V} (r : RV T c σ H w v) {C : Nat} (e : clsOf st w = some C) : ∃ a dx ns xs vs, v = .ref a ∧ look st w = some (.ins C ns xs) ∧ H a = some (.ins (T.ca C) dx ((ns.map T.sy).zip vs)) ∧ ns.length = vs.length ∧ RWs T c.lv c.nf H xs vs := by
  unfold clsOf at e
  cases q : look st w with
  | none => simp [q] at e
  | some o =>
    cases o with
    | ins C' ns xs =>
      simp [q] at e; subst e
      obtain ⟨a, e1, dx, vs, h1, h2, h3⟩ := look_ok h r q
      exact ⟨a, dx, ns, xs, vs, e1, rfl, h1, h2, h3⟩
    | lst _ => simp [q] at e
    | dct _ _ => simp [q] at e
    | tab => simp [q] at e
/-- an instance as the library wants it -/
theorem inst_of (I : Inv X pins σ H s) {a C dx : Addr} {fs : List (Str × V)} (e : H a = some (.ins C dx fs)) : ∃ od, PySem.W.InstAt s.heap a (PySem.W.instObj C dx) C (some od) := by
  obtain ⟨mA, J, _⟩ := ins_get I.hok e
  obtain ⟨od, J, _⟩ := J.look
  exact ⟨od, J⟩
/-- a value's type -/
theorem tyx_of (G : GF T p X.K) (h : RSt T c st σ H) {w : W} {v : V} (r : RV T c σ H w v) {t : Sum Nat Nat} (e : tyW st w = some t) (hc : ∀ C, t = .inr C → ∃ cc, clsG p C = some cc) : TyX X.K H v (tyV T t) := by
  have lk : (∀ o, look st w = some o → some t = (match o with | .lst _ => some (.inl 5) | .dct _ _ => some (.inl 6) | .ins C _ _ => some (.inr C) | .tab => none) → TyX X.K H v (tyV T t)) := fun o q e2 => by
    obtain ⟨a, e1, ro⟩ := look_ok h r q
    subst e1
    cases o with
    | lst ws =>
      obtain ⟨vs, h1, _⟩ := ro
      cases e2
      exact .base (.lst h1)
    | dct ks ws =>
      obtain ⟨vs, h1, _⟩ := ro
      cases e2
      exact .base (.dK h1)
    | ins C ns ws =>
      obtain ⟨dx, vs, h1, _⟩ := ro
      cases e2
      obtain ⟨cc, e3⟩ := hc C rfl
      have f := G.cls C cc e3
      exact .base (.ins h1 f.cl f.ha f.hn f.tk f.hm)
    | tab => cases e2
  have go : ∀ o, look st w = some o → tyW st w = (match look st w with | some (.lst _) => some (.inl 5) | some (.dct _ _) => some (.inl 6) | some (.ins C _ _) => some (.inr C) | some .tab => none | none => none) → TyX X.K H v (tyV T t) := fun o q e2 => by
    refine lk o q ?_
    rw [e, q] at e2
    cases o <;> exact e2
  cases w with
  | non => simp [tyW] at e; subst e; cases r; exact .base .non
  | bl b => simp [tyW] at e; subst e; cases r; exact .base (.bl b)
  | int i => simp [tyW] at e; subst e; cases r; exact .base (.int i)
  | str x => simp [tyW] at e; subst e; obtain ⟨rfl, _⟩ := r; exact .base (.str _)
  | tup ws =>
    simp [tyW] at e; subst e
    obtain ⟨a, vs, e1, e2, _⟩ : ∃ a vs, v = .ref a ∧ H a = some (.tup vs) ∧ ¬ c.nf a ∧ RWs T c.lv c.nf H ws vs := by simpa [RV, RW] using r
    subst e1
    exact .base (.tup e2)
  | scr ns =>
    simp [tyW] at e; subst e
    obtain ⟨a, e1, e2⟩ : ∃ a, v = .ref a ∧ ((Rd H a (.lst (ns.map V.int)) ∧ ¬ c.nf a) ∨ KL T.K a (ns.map V.int)) := by simpa [RV, RW] using r
    subst e1
    rcases e2 with ⟨e2 | ⟨u, e2⟩, _⟩ | ⟨o, its, n, e2, e3, _⟩
    · exact .base (.lst e2)
    · exact .base (.frz e2)
    · rw [G.hK] at e2; exact .kList e2 e3
  | glo _ => simp [tyW] at e
  | lst ws => exact go (.lst ws) rfl rfl
  | dct ks ws => exact go (.dct ks ws) rfl rfl
  | obj C ns ws => exact go (.ins C ns ws) rfl rfl
  | loc n =>
    cases q : look st (.loc n) with
    | none => simp [tyW, q] at e
    | some o => exact go o q rfl
  | sl n =>
    cases q : look st (.sl n) with
    | none => simp [tyW, q] at e
    | some o => exact go o q rfl
theorem looks_ty (I : Inv X pins σ H s) {v : V} {u t : Value} (rx : RelV v u) (ty : TyX X.K H v t) : PySem.W.Looks (model X.prog X.w) s.heap (typeOf u) t := by
  obtain ⟨P, kx, hp, _⟩ := kit_of I rx ty
  exact kx.ty _ _ I.kIn hp
theorem relV_cmp {pins : List (Addr × Obj)} {v : Value} {s' : Shared} {Q : VK} (h : EP X pins σ Q v s') : PySem.W.CmpBack (EP X pins σ Q) v s' := by
  obtain ⟨z, H', I', rz, q⟩ := h
  cases v <;> first | exact ⟨z, H', I', rz, q⟩ | skip
  exfalso
  cases z <;> simp [L2.RelV] at rz
/-! ### own operators -/
theorem metOf_ok (G : GF T p X.K) {C m f : Nat} (e : metOf p C m = some f) : ∃ cc, clsG p C = some cc ∧ cc.meths.lookup m = some f := by
  unfold metOf at e
  cases q : clsG p C with
  | none => simp [q] at e
  | some cc => exact ⟨cc, rfl, by simpa [q] using e⟩
theorem ownR_ok {m : Nat} {a : W} {ws : List W} {els : R W} {C : Nat} {rel : Cf → Hp → W → V → Prop} (e : clsOf st a = some C) (q : Post T Wx rel c σ H (ownR p cal m a ws st els) Q) : ∃ f, metOf p C m = some f ∧ Post T Wx rel c σ H (callR cal false f (a :: ws) st) Q := by
  unfold ownR at q
  simp only [e] at q
  cases q2 : metOf p C m with
  | none => simp [q2] at q; exact q.elim
  | some f => exact ⟨f, rfl, by simpa [q2] using q⟩
/-- what is left behind an own operator: a bool -/
def blQ (T : Tb) (σ : L2.St) (Q : VK) (g : Bool → Bool) : VK := fun z H => ∃ k, z = .bl k ∧ Q (.bl (g k)) H
theorem blR_ok {r : R W} (q : Post T Wx (relV T σ) c σ H (blR r) Q) : Post T Wx (relV T σ) c σ H r (blQ T σ Q id) := by
  refine (Post.bind (rel := relV T σ) q).mono fun v H1 ⟨c1, st1, w, _, h1, r1, q1⟩ => ?_
  cases w <;> first | exact (show False from q1).elim | skip
  rename_i b
  exact ⟨b, r1, Post.ret q1 h1 (show RV T c1 σ H1 (.bl b) (.bl b) from rfl)⟩
theorem notR_ok {r : R W} (q : Post T Wx (relV T σ) c σ H (notR r) Q) : Post T Wx (relV T σ) c σ H r (blQ T σ Q not) := by
  refine (Post.bind (rel := relV T σ) q).mono fun v H1 ⟨c1, st1, w, _, h1, r1, q1⟩ => ?_
  cases w <;> first | exact (show False from q1).elim | skip
  rename_i b
  exact ⟨b, r1, Post.ret q1 h1 (show RV T c1 σ H1 (.bl !b) (.bl !b) from rfl)⟩
variable {a b : W} {v u : V} {vv uu : Value}
theorem right_ok (G : GF T p X.K) (h : RSt T c st σ H) (I : Inv X pins σ H s) (r : RV T c σ H b u) (qu : RelV u uu) {t : Sum Nat Nat} (e : tyW st b = some t) {C : Nat} {cc : Cl} (hc : clsG p C = some cc) (hm : cc.meths.lookup p.sEq ≠ none) (hg : ∀ D, t = .inr D → ∃ d, clsG p D = some d) :
    PySem.W.Looks (model X.prog X.w) s.heap (typeOf uu) (tyV T t) ∧ PySem.W.notFirst X.K (T.ca C) (tyV T t) = true := by
  refine ⟨looks_ty I qu (tyx_of G h r e hg), ?_⟩
  have f := G.cls C cc hc
  cases t with
  | inl n => exact f.nfT hm n
  | inr D =>
    obtain ⟨d, hd⟩ := hg D rfl
    exact f.nfC hm D d hd
theorem eq_own (G : GF T p X.K) (CM : CalM T p X k cal) (tk : Takes X Wx) (I : Inv X pins σ H s) (h : RSt T c st σ H) (r1 : RV T c σ H a v) (r2 : RV T c σ H b u) (qv : RelV v vv) (qu : RelV u uu) {C : Nat} (e : clsOf st a = some C) {t : Sum Nat Nat} (et : tyW st b = some t) (hg : ∀ D, t = .inr D → ∃ d, clsG p D = some d)
    (q : Post T Wx (relV T σ) c σ H (ownR p cal p.sEq a [b] st .stk) Q) : wpAny (model X.prog X.w) X.A (compareOp .Eq vv uu) (EP X pins σ Q) X.xe s := by
  obtain ⟨f, ef, q⟩ := ownR_ok e q
  obtain ⟨cc, hc, hm⟩ := metOf_ok G ef
  obtain ⟨x, dx, ns, xs, vs, rfl, _, hx, _, _⟩ := clsOf_ok h r1 e
  cases qv
  obtain ⟨np, Ff⟩ := CM.mt C cc _ f hc hm
  obtain ⟨m, hF⟩ := I.fr
  obtain ⟨od, J⟩ := inst_of I hx
  have me := (G.cls C cc hc).mt _ _ hm
  rw [G.sEq] at me
  obtain ⟨l1, l2⟩ := right_ok G h I r2 qu et hc (by rw [hm]; simp) hg
  show wpAny (model X.prog X.w) X.A (richCompare .Eq (.ref x) uu) (EP X pins σ Q) X.xe s
  refine PySem.W.cmp_K (op := .Eq) CM.room.units0 hF I.ok.mod.kin J l1 l2 me.at_ me.fn ?_
  exact wpAny_mono (own_run Ff rfl (CM.room.mono (Nat.le_succ _)) tk I h (relA_cons r1 (relA_cons r2 relA_nil')) (.cons rfl (.cons qu .nil)) q) (fun v s' z => relV_cmp z) fun _ _ z => z
theorem room_in1 {A : Around} (r : Room (k + 1) A) : A.units + 1 < cLine := by have := r.un; omega
theorem nee_own (G : GF T p X.K) (CM : CalM T p X k cal) (tk : Takes X Wx) (I : Inv X pins σ H s) (h : RSt T c st σ H) (r1 : RV T c σ H a v) (r2 : RV T c σ H b u) (qv : RelV v vv) (qu : RelV u uu) {C : Nat} (e : clsOf st a = some C) {t : Sum Nat Nat} (et : tyW st b = some t) (hg : ∀ D, t = .inr D → ∃ d, clsG p D = some d)
    (q : Post T Wx (relV T σ) c σ H (ownR p cal p.sEq a [b] st .stk) (blQ T σ Q not)) : wpAny (model X.prog X.w) X.A (compareOp .NotEq vv uu) (EP X pins σ Q) X.xe s := by
  obtain ⟨f, ef, q⟩ := ownR_ok e q
  obtain ⟨cc, hc, hm⟩ := metOf_ok G ef
  obtain ⟨x, dx, ns, xs, vs, rfl, _, hx, _, _⟩ := clsOf_ok h r1 e
  cases qv
  obtain ⟨np, Ff⟩ := CM.mt C cc _ f hc hm
  obtain ⟨od, J⟩ := inst_of I hx
  have cf := G.cls C cc hc
  have me := cf.mt _ _ hm
  rw [G.sEq] at me
  obtain ⟨l1, l2⟩ := right_ok G h I r2 qu et hc (by rw [hm]; simp) hg
  refine ne_own (room_in1 CM.room) I.kIn J cf.hm l1 l2 (cf.ne (by rw [hm]; simp)) me.at_ me.fn ?_
  refine wpAny_mono (own_run (A := X.A.in1) Ff rfl CM.room.in1 tk I h (relA_cons r1 (relA_cons r2 relA_nil')) (.cons rfl (.cons qu .nil)) q) (fun v s' z => ?_) fun _ _ z => z
  obtain ⟨y, H', I', ry, kk, rfl, q'⟩ := z
  cases ry
  exact ⟨kk, rfl, .bl !kk, H', I', rfl, q'⟩
theorem in_own (G : GF T p X.K) (CM : CalM T p X k cal) (tk : Takes X Wx) (I : Inv X pins σ H s) (h : RSt T c st σ H) (r1 : RV T c σ H a v) (r2 : RV T c σ H b u) (qv : RelV v vv) (qu : RelV u uu) {C : Nat} (e : clsOf st b = some C) {neg : Bool}
    (q : Post T Wx (relV T σ) c σ H (ownR p cal p.sIn b [a] st .stk) (blQ T σ Q fun k => if neg then !k else k)) : wpAny (model X.prog X.w) X.A (compareOp (if neg then .NotIn else .In) vv uu) (EP X pins σ Q) X.xe s := by
  obtain ⟨f, ef, q⟩ := ownR_ok e q
  obtain ⟨cc, hc, hm⟩ := metOf_ok G ef
  obtain ⟨x, dx, ns, xs, vs, rfl, _, hx, _, _⟩ := clsOf_ok h r2 e
  cases qu
  obtain ⟨np, Ff⟩ := CM.mt C cc _ f hc hm
  obtain ⟨m, hF⟩ := I.fr
  obtain ⟨od, J⟩ := inst_of I hx
  have cf := G.cls C cc hc
  have me := cf.mt _ _ hm
  rw [G.sIn] at me
  have run := own_run Ff rfl (CM.room.mono (Nat.le_succ _)) tk I h (relA_cons r2 (relA_cons r1 relA_nil')) (.cons rfl (.cons qv .nil)) q
  cases neg with
  | false =>
    refine PySem.W.in_K hF I.ok.mod.kin J me.at_ me.fn (wpAny_mono run (fun v s' z => ?_) fun _ _ z => z)
    obtain ⟨y, H', I', ry, kk, rfl, q'⟩ := z
    cases ry
    exact wpAny_truthy_bool ⟨.bl kk, H', I', rfl, by simpa using q'⟩
  | true =>
    refine PySem.W.notIn_K hF I.ok.mod.kin J me.at_ me.fn (wpAny_mono run (fun v s' z => ?_) fun _ _ z => z)
    obtain ⟨y, H', I', ry, kk, rfl, q'⟩ := z
    cases ry
    exact wpAny_truthy_bool ⟨.bl !kk, H', I', rfl, by simpa using q'⟩
theorem bin_own (G : GF T p X.K) (CM : CalM T p X k cal) (tk : Takes X Wx) (I : Inv X pins σ H s) (h : RSt T c st σ H) (r1 : RV T c σ H a v) (r2 : RV T c σ H b u) (qv : RelV v vv) (qu : RelV u uu) {C : Nat} (e : clsOf st a = some C) (e2 : clsOf st b = some C) {m : Nat} {op : Operator} (hop : T.sy m = PySem.dunder op.info.2)
    (q : Post T Wx (relV T σ) c σ H (ownR p cal m a [b] st .stk) Q) : wpAny (model X.prog X.w) X.A (binaryOp op vv uu) (EP X pins σ Q) X.xe s := by
  obtain ⟨f, ef, q⟩ := ownR_ok e q
  obtain ⟨cc, hc, hm⟩ := metOf_ok G ef
  obtain ⟨x, dx, ns, xs, vs, rfl, _, hx, _, _⟩ := clsOf_ok h r1 e
  obtain ⟨y, dy, ns', xs', vs', rfl, _, hy, _, _⟩ := clsOf_ok h r2 e2
  cases qv
  cases qu
  obtain ⟨np, Ff⟩ := CM.mt C cc _ f hc hm
  obtain ⟨m', hF⟩ := I.fr
  obtain ⟨od, J⟩ := inst_of I hx
  obtain ⟨od', J'⟩ := inst_of I hy
  have cf := G.cls C cc hc
  have me := cf.mt _ _ hm
  rw [hop] at me
  refine PySem.W.binop_K hF I.ok.mod.kin J J'.type cf.sf me.at_ me.fn ?_
  exact wpAny_mono (own_run Ff rfl (CM.room.mono (Nat.le_succ _)) tk I h (relA_cons r1 (relA_cons r2 relA_nil')) (.cons rfl (.cons rfl .nil)) q) (fun v s' z => relV_cmp z) fun _ _ z => z
theorem len_own (G : GF T p X.K) (CM : CalM T p X k cal) (tk : Takes X Wx) (I : Inv X pins σ H s) (h : RSt T c st σ H) (r1 : RV T c σ H a v) (qv : RelV v vv) {C : Nat} (e : clsOf st a = some C)
    (q : Post T Wx (relV T σ) c σ H (ownR p cal p.sLen a [] st .stk) fun z H => ∃ i : Int, z = .int i ∧ 0 ≤ i ∧ i < 2 ^ 63 ∧ Q (.int i) H) : wpAny (model X.prog X.w) X.A (call (.builtin "len") [vv]) (EP X pins σ Q) X.xe s := by
  obtain ⟨f, ef, q⟩ := ownR_ok e q
  obtain ⟨cc, hc, hm⟩ := metOf_ok G ef
  obtain ⟨x, dx, ns, xs, vs, rfl, _, hx, _, _⟩ := clsOf_ok h r1 e
  cases qv
  obtain ⟨np, Ff⟩ := CM.mt C cc _ f hc hm
  obtain ⟨m, hF⟩ := I.fr
  obtain ⟨od, J⟩ := inst_of I hx
  have cf := G.cls C cc hc
  have me := cf.mt _ _ hm
  rw [G.sLen] at me
  refine PySem.W.len_K hF I.ok.mod.kin J me.at_ me.fn (wpAny_mono (own_run (A := X.A.in1) Ff rfl CM.room.in1 tk I h (relA_cons r1 relA_nil') (.cons rfl .nil) q) (fun v s' z => ?_) fun _ _ z => z)
  obtain ⟨y, H', I', ry, i, rfl, h0, h1, q'⟩ := z
  obtain ⟨t, rfl⟩ := ry
  exact ⟨⟨h0, h1⟩, .int i, H', I'.tok _, ⟨_, rfl⟩, q'⟩
theorem repr_own (G : GF T p X.K) (CM : CalM T p X k cal) (tk : Takes X Wx) (I : Inv X pins σ H s) (h : RSt T c st σ H) (r1 : RV T c σ H a v) (qv : RelV v vv) {C : Nat} (e : clsOf st a = some C)
    (q : Post T Wx (relV T σ) c σ H (ownR p cal p.sRepr a [] st .stk) fun z H => ∃ x, z = .str x ∧ Q (.str x) H) : wpAny (model X.prog X.w) X.A (call (.builtin "repr") [vv]) (EP X pins σ Q) X.xe s := by
  obtain ⟨f, ef, q⟩ := ownR_ok e q
  obtain ⟨cc, hc, hm⟩ := metOf_ok G ef
  obtain ⟨x, dx, ns, xs, vs, rfl, _, hx, _, _⟩ := clsOf_ok h r1 e
  cases qv
  obtain ⟨np, Ff⟩ := CM.mt C cc _ f hc hm
  obtain ⟨m, hF⟩ := I.fr
  obtain ⟨od, J⟩ := inst_of I hx
  have cf := G.cls C cc hc
  have me := cf.mt _ _ hm
  rw [G.sRepr] at me
  refine PySem.W.repr_K (room_in1 CM.room) hF I.ok.mod.kin J me.at_ me.fn (wpAny_mono (own_run (A := X.A.in1) Ff rfl CM.room.in1 tk I h (relA_cons r1 relA_nil') (.cons rfl .nil) q) (fun v s' z => ?_) fun _ _ z => z)
  obtain ⟨y, H', I', ry, x, rfl, q'⟩ := z
  obtain ⟨t, rfl⟩ := ry
  exact ⟨.str x, H', I', ⟨_, rfl⟩, q'⟩
end
end Ev

/-! S9: expressions with comparisons, calls, methods. -/
namespace Ev
open PySem PySem.Spec PyProof.Rows L2 Calls
/-! ### side conditions -/
def notStar : Expr → Bool
  | .Starred .. => false
  | _ => true
theorem star_ok {e : Expr} {es : List Expr} {env : Env} (h : notStar e = true) : starEach (e :: es) env = (false, eval e env) :: starEach es env := by
  cases e <;> first | rfl | cases h
theorem star_any {pos : Pos} {env : Env} : ∀ {es : List Expr}, es.all notStar = true → (backTo pos (starEach es env)).any (·.1) = false
  | [], _ => rfl
  | e :: es, h => by
    rw [List.all_cons, Bool.and_eq_true] at h
    rw [star_ok h.1]
    have ih := star_any (pos := pos) (env := env) h.2
    unfold backTo at ih ⊢
    rw [List.map_cons, List.any_cons, ih]
    rfl
theorem star_all {pos : Pos} {env : Env} : ∀ {es : List Expr}, es.all notStar = true → (backTo pos (starEach es env)).all (fun x => !x.1) = true
  | [], _ => rfl
  | e :: es, h => by
    rw [List.all_cons, Bool.and_eq_true] at h
    rw [star_ok h.1]
    have ih := star_all (pos := pos) (env := env) h.2
    unfold backTo at ih ⊢
    rw [List.map_cons, List.all_cons, ih]
    rfl
def plainT : Expr → Bool
  | .UnaryOp .Not .. => false
  | .BoolOp .. => false
  | .IfExp .. => false
  | .Compare .. => false
  | _ => true
theorem plainT_ok {e : Expr} {env : Env} (h : plainT e = true) : ∀ whole, isTrue e env whole = (do let v ← whole; standAt e.pos; holding [v] (truthy v)) := by
  intro whole
  cases e <;> first | rfl | cases h | skip
  rename_i op x pos
  cases op <;> first | rfl | cases h
/-- not super() -/
def noSup : Expr → Bool
  | .Call (.Name _ _) [] [] _ => false
  | _ => true
theorem noSup_ok {e : Expr} {f : Str} {env : Env} (h : noSup e = true) : attributeBase e f env (eval e env) = eval e env := by
  unfold attributeBase
  split
  · cases h
  · rfl
def notSlice : Expr → Bool
  | .Slice .. => false
  | _ => true
theorem plainIx_ok {b : Expr} (h : notSlice b = true) : PlainIx b := by
  intro o i
  cases b <;> first | rfl | cases h
def notSet : Expr → Bool
  | .Set .. => false
  | _ => true
theorem behind_ok {op : CmpOp} {b : Expr} (h : notSet b = true) : behindInMarks op b = false := by
  cases b <;> first | rfl | cases h
section
variable {T : Tb} {X : Cx} {Wx : WX} {p : Pg} {cal : Bool → Nat → List W → List OO → RC} {c : Cf} {st : St} {σ : L2.St} {H : Hp} {pins : List (Addr × Obj)} {s : Shared} {k : Nat}
/-- what the rules ask of the running frame -/
structure XO (T : Tb) (p : Pg) (X : Cx) (Wx : WX) (k : Nat) (cal : Bool → Nat → List W → List OO → RC) : Prop where
  G : GF T p X.K
  M : CalM T p X k cal
  tk : Takes X Wx
  deep : Deep X
  calm : X.calm = true
  nd : X.N.Nodup
theorem tyG_ok {w : W} {t : Sum Nat Nat} (e : tyG p st w = some t) : tyW st w = some t ∧ ∀ D, t = .inr D → ∃ d, clsG p D = some d := by
  unfold tyG at e
  cases q : tyW st w with
  | none => simp [q] at e
  | some t' =>
    cases t' with
    | inl n => simp [q] at e; subst e; exact ⟨rfl, fun D z => nomatch z⟩
    | inr D =>
      cases q2 : clsG p D with
      | none => simp [q, q2] at e
      | some d => simp [q, q2] at e; subst e; exact ⟨rfl, fun D' z => by cases z; exact ⟨d, q2⟩⟩
theorem cmp_all (O : XO T p X Wx k cal) {op : Cop} {a b : W} {v u : V} {vv uu : Value} {Q : VK} (I : Inv X pins σ H s) (h : RSt T c st σ H) (r1 : RV T c σ H a v) (r2 : RV T c σ H b u) (qv : RelV v vv) (qu : RelV u uu)
    (q : Post T Wx (relV T σ) c σ H (cmpR p cal op a b st) Q) : wpAny (model X.prog X.w) X.A (compareOp (cpOf op) vv uu) (EP X pins σ Q) X.xe s := by
  have plain : Post T Wx (relV T σ) c σ H (.lift st ((cmpW op (vw st a) (vw st b)).map .bl)) Q → wpAny (model X.prog X.w) X.A (compareOp (cpOf op) vv uu) (EP X pins σ Q) X.xe s := fun q => by
    obtain ⟨w, e, q⟩ := lift_some q
    cases e2 : cmpW op (vw st a) (vw st b) with
    | none => simp [e2] at e
    | some kk =>
      simp [e2] at e
      subst e
      exact cmp_ok O.G.hK O.deep e2 I (rvv h r1) (rvv h r2) qv qu (Post.ret q h (show RV T c σ H (.bl kk) (.bl kk) from rfl))
  cases op with
  | eq =>
    simp only [cmpR] at q
    cases e : clsOf st a with
    | none => simp only [e] at q; exact plain q
    | some C =>
      simp only [e] at q
      cases et : tyG p st b with
      | none => simp only [et] at q; exact (show False from q).elim
      | some t =>
        simp only [et] at q
        obtain ⟨g1, g2⟩ := tyG_ok et
        exact eq_own O.G O.M O.tk I h r1 r2 qv qu e g1 g2 ((blR_ok q).mono fun z H ⟨kk, e, q⟩ => by subst e; exact q)
  | ne =>
    simp only [cmpR] at q
    cases e : clsOf st a with
    | none => simp only [e] at q; exact plain q
    | some C =>
      simp only [e] at q
      cases et : tyG p st b with
      | none => simp only [et] at q; exact (show False from q).elim
      | some t =>
        simp only [et] at q
        obtain ⟨g1, g2⟩ := tyG_ok et
        exact nee_own O.G O.M O.tk I h r1 r2 qv qu e g1 g2 (notR_ok q)
  | inn =>
    simp only [cmpR] at q
    cases e : clsOf st b with
    | none => simp only [e] at q; exact plain q
    | some C =>
      simp only [e] at q
      exact in_own (neg := false) O.G O.M O.tk I h r1 r2 qv qu e ((blR_ok q).mono fun z H ⟨kk, e, q⟩ => ⟨kk, e, by simpa using q⟩)
  | nin =>
    simp only [cmpR] at q
    cases e : clsOf st b with
    | none => simp only [e] at q; exact plain q
    | some C =>
      simp only [e] at q
      exact in_own (neg := true) O.G O.M O.tk I h r1 r2 qv qu e ((notR_ok q).mono fun z H ⟨kk, e, q⟩ => ⟨kk, e, by simpa using q⟩)
  | isn =>
    simp only [cmpR] at q
    obtain ⟨w, e, q⟩ := lift_some q
    cases b <;> first | cases e; done | skip
    cases e1 : isnW a with
    | none => simp [e1] at e
    | some kk =>
    obtain rfl : W.bl kk = w := by simpa [e1] using e
    cases r2
    exact isn_ok e1 I r1 qv qu (Post.ret q h (show RV T c σ H (.bl kk) (.bl kk) from rfl))
  | ntn =>
    simp only [cmpR] at q
    obtain ⟨w, e, q⟩ := lift_some q
    cases b <;> first | cases e; done | skip
    cases e1 : isnW a with
    | none => simp [e1] at e
    | some kk =>
    obtain rfl : W.bl (!kk) = w := by simpa [e1] using e
    cases r2
    exact ntn_ok e1 I r1 qv qu (Post.ret q h (show RV T c σ H (.bl !kk) (.bl !kk) from rfl))
  | lt => exact plain (by simpa only [cmpR] using q)
  | le => exact plain (by simpa only [cmpR] using q)
  | gt => exact plain (by simpa only [cmpR] using q)
  | ge => exact plain (by simpa only [cmpR] using q)
variable {a b d e : Expr} {ea eb ed : E} {pos : Pos}
theorem se_cmp (O : XO T p X Wx k cal) {op : Cop} (ha : SE T X Wx a (evE p cal ea)) (hb : SE T X Wx b (evE p cal eb)) (hm : notSet b = true) : SE T X Wx (.Compare a [cpOf op] [b] pos) (evE p cal (.cmp op ea eb)) :=
  ⟨fun pins s σ H Q I ⟨c, st, h, q⟩ => by
    simp only [evE] at q
    exact wpAny_Compare1 (binT ha hb I (two h q) fun v u s2 x y H2 I2 rx ry ⟨c, st, wa, wb, h, r1, r2, q⟩ => cmp_all O I2 h r1 r2 rx ry q) (behind_ok hm)⟩
/-- the result of a comparison is a bool -/
theorem cmpR_bl {op : Cop} {x y w : W} {st st1 : St} (e : cmpR p cal op x y st = .ok w st1) : ∃ b, w = .bl b := by
  have pl : ∀ {o : Option Bool}, R.lift st (o.map W.bl) = .ok w st1 → ∃ b, w = .bl b := fun {o} e => by
    cases o <;> simp [R.lift] at e
    exact ⟨_, e.1.symm⟩
  have bl : ∀ {r : R W}, blR r = .ok w st1 → ∃ b, w = .bl b := fun {r} e => by
    cases r <;> simp [blR, R.bind] at e
    split at e <;> simp at e
    exact ⟨_, e.1.symm⟩
  have nt : ∀ {r : R W}, notR r = .ok w st1 → ∃ b, w = .bl b := fun {r} e => by
    cases r <;> simp [notR, R.bind] at e
    split at e <;> simp at e
    exact ⟨_, e.1.symm⟩
  cases op <;> simp only [cmpR] at e
  · split at e
    · split at e
      · exact bl e
      · cases e
    · exact pl e
  · split at e
    · split at e
      · exact nt e
      · cases e
    · exact pl e
  · exact pl e
  · exact pl e
  · exact pl e
  · exact pl e
  · split at e
    · exact pl e
    · simp [R.lift] at e
  · split at e
    · cases q : isnW x <;> simp [R.lift, q] at e
      exact ⟨_, e.1.symm⟩
    · simp [R.lift] at e
  · split at e
    · exact bl e
    · exact pl e
  · split at e
    · exact nt e
    · exact pl e
theorem st_cmp (O : XO T p X Wx k cal) {op : Cop} (ha : SE T X Wx a (evE p cal ea)) (hb : SE T X Wx b (evE p cal eb)) (hm : notSet b = true) : ST T X Wx (.Compare a [cpOf op] [b] pos) (tst p cal (.cmp op ea eb)) :=
  ⟨fun pins s σ H Q I ⟨c, st, h, q⟩ => by
    have q' : Post T Wx relB c σ H ((evE p cal ea st).bind fun x st1 => (evE p cal eb st1).bind fun y st2 => (cmpR p cal op x y st2).bind fun w st3 => truR w st3) Q := by
      simp only [tst, evE] at q
      revert q
      cases evE p cal ea st with
      | ok x st1 =>
        simp only [R.bind]
        cases evE p cal eb st1 <;> exact fun q => q
      | exc x st1 => exact fun q => q
      | stk => exact fun q => q
    refine wpAny_isTrue_Compare1 (thn (ha.run pins s σ H _ I (two h q')) ?_) (behind_ok hm)
    rintro v s1 ⟨x, H1, I1, rx, z1⟩
    refine thn (hb.run pins s1 σ H1 _ I1 z1) ?_
    rintro u s2 ⟨y, H2, I2, ry, c, st, wa, wb, h, r1, r2, q⟩
    have q2 : Post T Wx (relV T σ) c σ H2 (cmpR p cal op wa wb st) fun z H => ∃ kk, z = .bl kk ∧ Q kk H := by
      cases ec : cmpR p cal op wa wb st with
      | ok w st1 =>
        obtain ⟨kk, rfl⟩ := cmpR_bl ec
        simp only [ec, R.bind, truR, truW, vw, R.lift] at q
        exact fun z H' c' s' h' r' => ⟨kk, r', q kk H' c' s' h' rfl⟩
      | exc x st1 => simp only [ec, R.bind] at q; exact q
      | stk => simp only [ec, R.bind] at q; exact (show False from q).elim
    refine thn (cmp_all O I2 h r1 r2 rx ry q2) ?_
    rintro w s3 ⟨z, H3, I3, rz, kk, rfl, q3⟩
    cases rz
    exact wpAny_truthy_bool ⟨H3, I3, q3⟩⟩
theorem se_chn (O : XO T p X Wx k cal) {o1 o2 : Cop} (ha : SE T X Wx a (evE p cal ea)) (hb : SE T X Wx b (evE p cal eb)) (hd : SE T X Wx d (evE p cal ed)) (hm : notSet d = true) : SE T X Wx (.Compare a [cpOf o1, cpOf o2] [b, d] pos) (evE p cal (.chn o1 o2 ea eb ed)) :=
  ⟨fun pins s σ H Q I ⟨c, st, h, q⟩ => by
    simp only [evE] at q
    refine Compare_chain (thn (ha.run pins s σ H _ I (two h q)) ?_) (by
      show behindInMarks _ d = false
      exact behind_ok hm)
    rintro v s1 ⟨x, H1, I1, rx, z1⟩
    refine chain_link (thn (hb.run pins s1 σ H1 _ I1 z1) ?_)
    rintro u s2 ⟨y, H2, I2, ry, c, st, wa, wb, h, r1, r2, q⟩
    refine thn (cmp_all O I2 h r1 r2 rx ry (Post.bind (rel := relV T σ) q)) ?_
    rintro w s3 ⟨z, H3, I3, rz, c3, st3, w3, S3, h3, r3, q3⟩
    cases w3 <;> first | exact (show False from q3).elim | skip
    rename_i kk
    cases r3
    cases rz
    refine wpAny_truthy_bool ?_
    cases kk with
    | false => exact ite_ff ⟨.bl false, H3, I3, rfl, Post.ret q3 h3 (show RV T c3 σ H3 (.bl false) (.bl false) from rfl)⟩
    | true =>
      refine ite_tt (chain_last (thn (hd.run pins s3 σ H3 _ I3 ⟨c3, st3, h3, Post.bind (rel := relV T σ) q3⟩) ?_))
      rintro w' s4 ⟨z', H4, I4, r4, c4, st4, w4, S4, h4, rw4, q4⟩
      exact cmp_all O I4 h4 (RV.mono S4 (RV.mono S3 r2)) rw4 ry r4 q4⟩
theorem tst_chn (O : XO T p X Wx k cal) {o1 o2 : Cop} (hm : notSet d = true) (ha : SE T X Wx a (evE p cal ea)) (hb : SE T X Wx b (evE p cal eb)) (hd : SE T X Wx d (evE p cal ed)) : ST T X Wx (.Compare a [cpOf o1, cpOf o2] [b, d] pos) (tst p cal (.chn o1 o2 ea eb ed)) :=
  ⟨fun pins s σ H Q I ⟨c, st, h, q⟩ => by
    have q' : Post T Wx relB c σ H ((evE p cal ea st).bind fun x st1 => (evE p cal eb st1).bind fun y st2 => (cmpR p cal o1 x y st2).bind fun k st3 => match k with
      | .bl true => (evE p cal ed st3).bind fun z st4 => (cmpR p cal o2 y z st4).bind fun w st5 => truR w st5
      | .bl false => .ok false st3
      | _ => .stk) Q := by
      simp only [tst, evE] at q
      revert q
      cases evE p cal ea st with
      | ok x st1 =>
        simp only [R.bind]
        cases evE p cal eb st1 with
        | ok y st2 =>
          try simp only []
          cases cmpR p cal o1 x y st2 with
          | ok kk st3 =>
            try simp only []
            cases kk <;> (try simp only []) <;> intro q <;> first | exact q | skip
            rename_i kk
            cases kk
            · exact q
            · revert q
              cases evE p cal ed st3 <;> exact fun q => q
          | exc x st1 => exact fun q => q
          | stk => exact fun q => q
        | exc x st1 => exact fun q => q
        | stk => exact fun q => q
      | exc x st1 => exact fun q => q
      | stk => exact fun q => q
    refine isTrue_chain (thn (ha.run pins s σ H _ I (two h q')) ?_) (by
      show behindInMarks _ d = false
      exact behind_ok hm)
    rintro v s1 ⟨x, H1, I1, rx, z1⟩
    refine test_link (thn (hb.run pins s1 σ H1 _ I1 z1) ?_)
    rintro u s2 ⟨y, H2, I2, ry, c, st, wa, wb, h, r1, r2, q⟩
    refine thn (cmp_all O I2 h r1 r2 rx ry (Post.bind (rel := relV T σ) q)) ?_
    rintro w s3 ⟨z, H3, I3, rz, c3, st3, w3, S3, h3, r3, q3⟩
    cases w3 <;> first | exact (show False from q3).elim | skip
    rename_i kk
    cases r3
    cases rz
    refine wpAny_truthy_bool ?_
    cases kk with
    | false => exact ite_ff ⟨H3, I3, Post.ret q3 h3 rfl⟩
    | true =>
      refine ite_tt (test_last (thn (hd.run pins s3 σ H3 _ I3 ⟨c3, st3, h3, Post.bind (rel := relV T σ) q3⟩) ?_))
      rintro w' s4 ⟨z', H4, I4, r4, c4, st4, w4, S4, h4, rw4, q4⟩
      have q5 : Post T Wx (relV T σ) c4 σ H4 (cmpR p cal o2 wb w4 st4) fun z H => ∃ kk, z = .bl kk ∧ Q kk H := by
        cases ec : cmpR p cal o2 wb w4 st4 with
        | ok w st1 =>
          obtain ⟨kk, rfl⟩ := cmpR_bl ec
          simp only [ec, R.bind, truR, truW, vw, R.lift] at q4
          exact fun z H' c' s' h' r' => ⟨kk, r', q4 kk H' c' s' h' rfl⟩
        | exc x st1 => simp only [ec, R.bind] at q4; exact q4
        | stk => simp only [ec, R.bind] at q4; exact (show False from q4).elim
      refine thn (cmp_all O I4 h4 (RV.mono S4 (RV.mono S3 r2)) rw4 ry r4 q5) ?_
      rintro w s5 ⟨z, H5, I5, rz, kk, rfl, q6⟩
      cases rz
      exact wpAny_truthy_bool ⟨H5, I5, q6⟩⟩
end
end Ev

/-! S10: slices, fields, calls, methods, built-ins, f-strings. -/
namespace Ev
open PySem PySem.Spec PyProof.Rows L2 Calls ClX
section
variable {T : Tb} {X : Cx} {Wx : WX} {p : Pg} {cal : Bool → Nat → List W → List OO → RC} {c : Cf} {st : St} {σ : L2.St} {H : Hp} {pins : List (Addr × Obj)} {s : Shared} {k : Nat}
variable {a b d e : Expr} {ea eb ed : E} {pos : Pos}
/-! ### slices -/
def rdO (T : Tb) (Wx : WX) (m : St → R (Option Int)) : TO := fun σ H Q => ∃ c st, RSt T c st σ H ∧ Post T Wx relO c σ H (m st) Q
def SO (T : Tb) (X : Cx) (Wx : WX) (e : Option Expr) (m : St → R (Option Int)) : Prop := PO X e (rdO T Wx m)
theorem PO.imp {X : Cx} {e : Option Expr} {t t' : TO} (h : PO X e t) (q : ∀ σ H Q, t' σ H Q → t σ H Q) : PO X e t' := ⟨fun pins s σ H Q I z => h.run pins s σ H Q I (q _ _ _ z)⟩
theorem so_none : SO T X Wx none (evO p cal none) := PO.imp po_none fun σ H Q ⟨c, st, h, q⟩ => by
  simp only [evO] at q
  exact Post.ret q h rfl
theorem so_some (ha : SE T X Wx a (evE p cal ea)) : SO T X Wx (some a) (evO p cal (some ea)) := PO.imp (po_some ha) fun σ H Q ⟨c, st, h, q⟩ => by
  simp only [evO] at q
  obtain ⟨c0, st0, h0, q0⟩ := one h q
  refine ⟨c0, st0, h0, q0.mono fun v H1 ⟨c, st, w, h, r, q⟩ => ?_⟩
  cases w <;> first | exact (show False from q).elim | skip
  rename_i i
  exact ⟨i, r, Post.ret q h rfl⟩
theorem se_slc {lo hi : Option Expr} {l u : Option E} {p2 : Pos} (hK : T.K = X.K) (ha : SE T X Wx a (evE p cal ea)) (hl : SO T X Wx lo (evO p cal l)) (hh : SO T X Wx hi (evO p cal u)) : SE T X Wx (.Subscript a (.Slice lo hi none p2) pos) (evE p cal (.slc ea l u)) :=
  ⟨fun pins s σ H Q I ⟨c, st, h, q⟩ => by
    simp only [evE] at q
    refine Subscript_ (thn (ha.run pins s σ H _ I ⟨c, st, h, Post.bind (rel := relV T σ) q⟩) ?_)
    rintro v s1 ⟨x, H1, I1, r1, c1, st1, w1, S1, h1, rw1, q1⟩
    refine wpAny_Slice (thn (hl.run pins s1 σ H1 _ I1 ⟨c1, st1, h1, Post.bind (rel := relO) q1⟩) ?_)
    rintro vl s2 ⟨l', H2, I2, pl, c2, st2, w2, S2, h2, rw2, q2⟩
    cases rw2
    refine thn (hh.run pins s2 σ H2 _ I2 ⟨c2, st2, h2, Post.bind (rel := relO) q2⟩) ?_
    rintro vu s3 ⟨u', H3, I3, pu, c3, st3, w3, S3, h3, rw3, q3⟩
    cases rw3
    rw [evalPart_none]
    refine wpAny_pure ?_
    obtain ⟨w, ew, q4⟩ := lift_some q3
    have I4 : Inv X pins σ H3 { s3 with heap := s3.heap.push { cls := .type "slice", data := .fields #[vl, vu, .none] } } := I3.kept (t' := s3.toks) fun b ob q => Heap.get?_push_of_some _ q
    obtain ⟨T', id, hT, ht, hg⟩ := slc_ok (s := { s3 with heap := s3.heap.push { cls := .type "slice", data := .fields #[vl, vu, .none] } }) ew hK I4 h3 (rvv h3 (RV.mono S3 (RV.mono S2 rw1))) r1 (Heap.IsSliceOf.new ..) pl pu (Wants.of q4)
    show wpAny (model X.prog X.w) X.A (subscriptTail a (.Slice lo hi none p2) v (.ref s3.heap.objs.size)) (EP X pins σ Q) X.xe { s3 with heap := s3.heap.push { cls := .type "slice", data := .fields #[vl, vu, .none] } }
    exact tail_any (ops := [.ref s3.heap.objs.size, v]) ht hT hg (by with_unfolding_all rfl)⟩
/-! ### fields -/
theorem fget_ok {T : Tb} (inj : ∀ i j, T.sy i = T.sy j → i = j) {lv : List Addr} {nf : Addr → Prop} {H : Hp} {f : Nat} : ∀ {ns : List Nat} {ws : List W} {vs : List V}, ns.length = vs.length → RWs T lv nf H ws vs →
    (match fget f ns ws with
      | some w => ∃ v, ((ns.map T.sy).zip vs).lookup (T.sy f) = some v ∧ RW T lv nf H w v
      | none => ((ns.map T.sy).zip vs).lookup (T.sy f) = none)
  | [], ws, vs, e, h => by
    cases ws <;> simp [fget]
  | g :: ns, [], vs, e, h => by
    simp only [RWs] at h
    subst h
    simp at e
  | g :: ns, w :: ws, vs, e, h => by
    simp only [RWs] at h
    obtain ⟨v, r, rfl, h1, h2⟩ := h
    simp only [fget]
    by_cases hg : g = f
    · subst hg
      simp only [if_true]
      refine ⟨v, ?_, h1⟩
      simp [List.lookup_cons]
    · simp only [hg, if_false]
      have ne : (T.sy f == T.sy g) = false := by
        rw [beq_eq_false_iff_ne]
        exact fun z => hg (inj _ _ z).symm
      have ih := fget_ok inj (f := f) (by simpa using e) h2
      simp only [List.map_cons, List.zip_cons_cons, List.lookup_cons, ne]
      exact ih
theorem fget_none {f : Nat} : ∀ {ns : List Nat} {ws : List W}, ns.contains f = false → fget f ns ws = none
  | [], ws, _ => by cases ws <;> simp [fget]
  | g :: ns, [], _ => by simp [fget]
  | g :: ns, w :: ws, h => by
    simp only [List.contains_cons, Bool.or_eq_false_iff, beq_eq_false_iff_ne] at h
    simp only [fget, if_neg (Ne.symm h.1)]
    exact fget_none h.2
theorem calm_ok {α β : Type} {rel : Cf → Hp → α → β → Prop} {Q : β → Hp → Prop} {r : R α} (q : Post T Wx rel c σ H r.calm Q) : Post T (fun _ _ _ _ => False) rel c σ H r Q := by
  cases r with
  | ok a st => exact q
  | exc x st => exact (show False from q).elim
  | stk => exact q
theorem takes_no {X : Cx} : Takes X (fun _ _ _ _ => False) := fun u s' ⟨a, B, sI, pins, σ, H, cls, d, e, I, nb, up, sky, na, os, ag, w⟩ => w.elim
theorem se_att (O : XO T p X Wx k cal) {f : Nat} {x : Str} (hx : x = T.sy f) (ha : SE T X Wx a (evE p cal ea)) (hs : noSup a = true) : SE T X Wx (.Attribute a x pos) (evE p cal (.att ea f)) :=
  ⟨fun pins s σ H Q I ⟨c, st, h, q⟩ => by
    subst hx
    simp only [evE] at q
    refine attr_of (noSup_ok hs) (thn (ha.run pins s σ H _ I (one h q)) ?_)
    rintro u s1 ⟨v, H1, I1, rx, c, st, w, h, r, q⟩
    unfold attR at q
    cases e : look st w with
    | none => simp only [e] at q; exact (show False from q).elim
    | some o =>
    cases o with
    | lst _ => simp only [e] at q; exact (show False from q).elim
    | dct _ _ => simp only [e] at q; exact (show False from q).elim
    | tab => simp only [e] at q; exact (show False from q).elim
    | ins C ns xs =>
    simp only [e] at q
    obtain ⟨aa, e1, dx, vs, h1, h2, h3⟩ := look_ok h r e
    subst e1
    cases rx
    cases ec : clsG p C with
    | none => simp only [ec] at q; exact (show False from q).elim
    | some cc =>
    simp only [ec] at q
    have cf := O.G.cls C cc ec
    cases ep : cc.props.lookup f with
    | some g =>
      simp only [ep] at q
      obtain ⟨qa, hp⟩ := cf.pr f g ep
      obtain ⟨np, Ff⟩ := O.M.pr C cc f g ec ep
      obtain ⟨od, J⟩ := inst_of I1 h1
      obtain ⟨rest, hrec⟩ := hp.rec_
      have I2 := I1.tok (s1.toks + 1)
      have hc : (PySem.W.clsIn X.K (T.ca C)).isSome = true := by
        obtain ⟨cd, hc, _⟩ := PySem.W.any_some cf.cl.hd
        rw [hc]; rfl
      obtain ⟨fd, ps, F1, ar, hb⟩ := Ff
      have q := calm_ok q
      by_cases ol : 1 = np
      · refine PySem.W.get_bind I1.kIn J (PySem.W.plainGet_of (cf.cl.get (T.sy f))).1 (PySem.W.findObj_data hc hp.at_ hp.get hp.tak) (PySem.W.plainGet_of (cf.cl.get (T.sy f))).2 (wpAny_call (PySem.W.prop_get (s := { s1 with toks := s1.toks + 1 }) I1.kIn hrec ?_))
        refine codeAny_mono (call_run (X := X.nox) (A := X.A.in1) (s := { s1 with toks := s1.toks + 1 }) (args := ⟨[.ref aa], []⟩) (us := [.ref aa]) (vs := [.ref aa]) rfl O.M.room.in1 takes_no F1 (hb _ [.ref aa] I2.kIn (by simpa using ol)) (by simpa using ol) (I2.wish _) h (relA_cons r relA_nil') (.cons rfl .nil) q) fun rr s' z => ?_
        cases rr with
        | error e => exact (show False from z).elim
        | ok fl =>
          cases fl <;> first | exact (show False from z).elim | skip
          obtain ⟨v', H', I3, rv, q3⟩ := z
          have I3 := I3.unwish
          show wpAny _ _ (handedOut _) _ _ _
          rw [PySem.W.handedOut_of (handed_of rv)]
          exact wpAny_pure ⟨v', H', I3, rv, q3⟩
      · unfold callR at q
        rw [ar _ _ (by simpa using ol)] at q
        exact (show False from by cases ho : okvs [w] <;> simp [ho, RC.at] at q <;> exact q).elim
    | none =>
      simp only [ep] at q
      have fo := fget_ok (f := f) O.G.inj h2 h3
      cases ef : fget f ns xs with
      | some w' =>
        simp only [ef] at q fo
        obtain ⟨v', l1, l2⟩ := fo
        cases hf : cc.flds.contains f with
        | false => simp only [hf] at q; exact (show False from q).elim
        | true =>
          simp only [hf, if_true] at q
          exact getattr_ok I1 h1 cf.cl (cf.na f hf) l1 fun u' s2 I2 ru => ⟨v', H1, I2, ru, Post.ret q h l2.rv⟩
      | none =>
        simp only [ef] at q fo
        obtain ⟨w', ew, q⟩ := lift_some q
        obtain ⟨v', u', hv, hc⟩ := cf.co f w' ew
        exact getcon_ok I1 h1 cf.cl hc fo fun s2 I2 => ⟨v', H1, I2, hc.rel, Post.ret q h (vC_ok hv).rv⟩⟩
/-- C.f of a class -/
theorem se_kon {C f : Nat} {x nm : Str} {np : Pos} (hx : x = T.sy f) (hg : Gl X nm) (hm : X.mg nm = some (.ref (T.ca C))) (hd : (nm == ("__debug__" : Str)) = false)
    (hv : ∀ w, ((p.cls[C]?).bind fun c => c.consts.lookup f) = some w → ∃ mc v u, vC w = some v ∧ CRead X.K (T.ca C) mc ∧ CVal X.K (T.ca C) mc (T.sy f) v u) :
    SE T X Wx (.Attribute (.Name nm np) x pos) (evE p cal (.kon C f)) := by
  subst hx
  refine PE.imp (pe_cval (pe_glob (v := .ref (T.ca C)) hg hm rfl hd) (noSup_ok rfl)) fun σ H Q ⟨c, st, h, q⟩ => ?_
  simp only [evE] at q
  obtain ⟨w, ew, q⟩ := lift_some q
  obtain ⟨mc, v, u, e1, e2, e3⟩ := hv w ew
  exact ⟨T.ca C, mc, v, u, rfl, e2, e3, Post.ret q h (vC_ok e1).rv⟩
/-! ### calls by name -/
/-- the values of the keywords -/
def SK (T : Tb) (X : Cx) (Wx : WX) (kws : List Keyword) (m : St → R (List W)) : Prop := PK X kws (rdA T Wx m)
theorem PK.imp {X : Cx} {kws : List Keyword} {t t' : TA} (h : PK X kws t) (q : ∀ σ H Q, t' σ H Q → t σ H Q) : PK X kws t' := ⟨fun pos pins s σ H Q I z => h.run pos pins s σ H Q I (q _ _ _ z)⟩
theorem sk_nil : SK T X Wx [] (evEs p cal []) := PK.imp pk_nil fun σ H Q ⟨c, st, h, q⟩ => by
  simp only [evEs] at q
  exact Post.ret q h relA_nil'
theorem sk_cons {kws : List Keyword} {xs : List E} {nm : Option Str} {kp : Pos} (ha : SE T X Wx a (evE p cal ea)) (hr : SK T X Wx kws (evEs p cal xs)) : SK T X Wx (⟨nm, a, kp⟩ :: kws) (evEs p cal (ea :: xs)) :=
  PK.imp (pk_cons ha hr) fun σ H Q ⟨c, st, h, q⟩ => by
    simp only [evEs] at q
    obtain ⟨c0, st0, h0, q0⟩ := oneVA h q
    exact ⟨c0, st0, h0, q0.mono fun v H1 ⟨c1, st1, h1, q1⟩ => ⟨c1, st1, h1, q1.mono fun us H2 ⟨c, st, w, ws, h, r, ra, q⟩ => Post.ret q h (relA_cons r ra)⟩⟩
theorem evEs_app : ∀ (xs ys : List E) (st : St), evEs p cal (xs ++ ys) st = (evEs p cal xs st).bind fun as st1 => (evEs p cal ys st1).bind fun bs st2 => .ok (as ++ bs) st2
  | [], ys, st => by
    simp only [List.nil_append, evEs, R.bind]
    cases evEs p cal ys st <;> rfl
  | x :: xs, ys, st => by
    simp only [List.cons_append, evEs]
    cases evE p cal x st with
    | ok w st1 =>
      simp only [R.bind]
      rw [evEs_app xs ys st1]
      cases evEs p cal xs st1 with
      | ok ws st2 =>
        simp only [R.bind]
        cases evEs p cal ys st2 <;> rfl
      | exc x st2 => rfl
      | stk => rfl
    | exc x st1 => rfl
    | stk => rfl
theorem relA.app {ws ws' : List W} {vs vs' : List V} (h : relA T σ c H ws vs) (t : relA T σ c H ws' vs') : relA T σ c H (ws ++ ws') (vs ++ vs') := by
  induction ws generalizing vs with
  | nil =>
    obtain rfl := relA_nil h
    exact t
  | cons w ws ih =>
    obtain ⟨hl, hr⟩ := h
    cases vs with
    | nil => simp at hl
    | cons v vs => exact relA_cons (hr 0 w v rfl rfl) (ih ⟨by simpa using hl, fun i x y e1 e2 => hr (i + 1) x y (by simpa using e1) (by simpa using e2)⟩)
/-- constants that fill up -/
theorem evEs_cst : ∀ (ds : List W) (st : St), evEs p cal (ds.map .cst) st = .ok ds st
  | [], st => rfl
  | d :: ds, st => by simp only [List.map_cons, evEs, evE, R.bind, evEs_cst ds st]
theorem relA_cst : ∀ {ds : List W} {vs : List V}, ds.mapM vC = some vs → relA T σ c H ds vs
  | [], vs, h => by
    simp at h; subst h; exact relA_nil'
  | d :: ds, vs, h => by
    simp only [List.mapM_cons] at h
    cases e1 : vC d with
    | none => simp [e1] at h
    | some v =>
      cases e2 : ds.mapM vC with
      | none => simp [e1, e2] at h
      | some vs' =>
        simp [e1, e2] at h
        subst h
        exact relA_cons (vC_ok e1).rv (relA_cst e2)
/-- arguments, keywords, defaults -/
theorem argsKW {f : Value} {first : List Value} {args : List Expr} {kws : List Keyword} {xs ys : List E} {ds : List W} {dvs : List V} {ks : List Str} {Q : VK} {F : List W → St → R W} (hk : PySem.W.keepIn X.K f = true) (hz : args = [] → xs = []) (hs : args.all notStar = true) (hn : (kws.all fun q => q.arg.isSome) = true) (hks : kws.filterMap (·.arg) = ks)
    (ha : SA T X Wx args (evEs p cal xs)) (hkw : SK T X Wx kws (evEs p cal ys)) (hd : ds.mapM vC = some dvs) (I : Inv X pins σ H s) (h : RSt T c st σ H) (q : Post T Wx (relV T σ) c σ H ((evEs p cal (xs ++ ys ++ ds.map .cst) st).bind F) Q)
    (run : ∀ us1 us2 vs1 vs2 ws s H' c' st, Stp c H c' H' → Inv X pins σ H' s → RSt T c' st σ H' → Vals vs1 us1 → Vals vs2 us2 → vs2.length = ys.length → vs1.length = xs.length → relA T σ c' H' ws (vs1 ++ vs2 ++ dvs) → Post T Wx (relV T σ) c' σ H' (F ws st) Q → wpAny (model X.prog X.w) X.A (call f (first ++ us1) (ks.zip us2)) (EP X pins σ Q) X.xe s) :
    wpAny (model X.prog X.w) X.A (callWith pos f first (backTo pos (starEach args X.env)) (backToKw pos (keywordEach kws X.env))) (EP X pins σ Q) X.xe s := by
  have hlen : ∀ {zs : List E} {st st1 : St} {ws : List W}, evEs p cal zs st = .ok ws st1 → ws.length = zs.length := by
    intro zs
    induction zs with
    | nil => intro st st1 ws e; simp only [evEs] at e; cases e; rfl
    | cons z zs ih =>
      intro st st1 ws e
      simp only [evEs] at e
      cases e1 : evE p cal z st with
      | ok w st2 =>
        simp only [e1, R.bind] at e
        cases e2 : evEs p cal zs st2 with
        | ok ws' st3 => simp only [e2] at e; cases e; simp [ih e2]
        | exc x st3 => simp only [e2] at e; cases e
        | stk => simp only [e2] at e; cases e
      | exc x st2 => simp only [e1, R.bind] at e; cases e
      | stk => simp only [e1, R.bind] at e; cases e
  have kall : ∀ {l : List Keyword}, (l.all fun q => q.arg.isSome) = true → (backToKw pos (keywordEach l X.env)).all (·.1.isSome) = true ∧ (backToKw pos (keywordEach l X.env)).any (·.1.isNone) = false ∧ (backToKw pos (keywordEach l X.env)).filterMap (·.1) = l.filterMap (·.arg) := by
    intro l
    induction l with
    | nil => intro _; exact ⟨rfl, rfl, rfl⟩
    | cons q l ih =>
      intro hl
      rw [List.all_cons, Bool.and_eq_true] at hl
      obtain ⟨i1, i2, i3⟩ := ih hl.2
      obtain ⟨nm, v, pp⟩ := q
      cases nm with
      | none => simp at hl
      | some nm =>
        have e : backToKw pos (keywordEach (⟨some nm, v, pp⟩ :: l) X.env) = (some nm, do let v ← eval v X.env; standAt pos; pure v) :: backToKw pos (keywordEach l X.env) := rfl
        rw [e, List.all_cons, List.any_cons, List.filterMap_cons, i1, i2, i3]
        exact ⟨rfl, rfl, rfl⟩
  obtain ⟨k1, k2, k3⟩ := kall hn
  have q1 : Post T Wx (relV T σ) c σ H ((evEs p cal xs st).bind fun as st1 => (evEs p cal ys st1).bind fun bs st2 => F (as ++ bs ++ ds) st2) Q := by
    rw [evEs_app, evEs_app] at q
    revert q
    cases evEs p cal xs st with
    | ok as st1 =>
      simp only [R.bind]
      cases evEs p cal ys st1 with
      | ok bs st2 => simp only [R.bind, evEs_cst]; exact fun q => q
      | exc x st2 => exact fun q => q
      | stk => exact fun q => q
    | exc x st1 => exact fun q => q
    | stk => exact fun q => q
  have q2 : rdA T Wx (evEs p cal xs) σ H fun us H1 => ∃ c1 st1 as, Stp c H c1 H1 ∧ RSt T c1 st1 σ H1 ∧ relA T σ c1 H1 as us ∧ as.length = xs.length ∧ Post T Wx (relV T σ) c1 σ H1 ((evEs p cal ys st1).bind fun bs st2 => F (as ++ bs ++ ds) st2) Q := by
    refine ⟨c, st, h, ?_⟩
    cases e1 : evEs p cal xs st with
    | ok as st1 =>
      simp only [e1, R.bind] at q1
      exact fun b H' c' s' h' r' => ⟨c', st1, as, s', h', r', hlen e1, q1.from s'⟩
    | exc x st1 => simp only [e1, R.bind] at q1; exact q1
    | stk => simp only [e1, R.bind] at q1; exact q1
  have fin : ∀ us1 vs1 (s1 : Shared) (H1 : Hp), Vals vs1 us1 → Inv X pins σ H1 s1 → (∃ c1 st1 as, Stp c H c1 H1 ∧ RSt T c1 st1 σ H1 ∧ relA T σ c1 H1 as vs1 ∧ as.length = xs.length ∧ Post T Wx (relV T σ) c1 σ H1 ((evEs p cal ys st1).bind fun bs st2 => F (as ++ bs ++ ds) st2) Q) →
      wpAny (model X.prog X.w) X.A (evalAll ((backToKw pos (keywordEach kws X.env)).map (·.2))) (fun ks' s₂ => X.K.In s₂.heap ∧ wpAny (model X.prog X.w) X.A (call f (first ++ us1) (((backToKw pos (keywordEach kws X.env)).filterMap (·.1)).zip ks')) (EP X pins σ Q) X.xe s₂) X.xe s1 := by
    rintro us1 vs1 s1 H1 rv1 I1 ⟨c1, st1, as, S1, h1, ra1, l1, q3⟩
    have q4 : rdA T Wx (evEs p cal ys) σ H1 fun us H2 => ∃ c2 st2 bs, Stp c1 H1 c2 H2 ∧ RSt T c2 st2 σ H2 ∧ relA T σ c2 H2 bs us ∧ bs.length = ys.length ∧ Post T Wx (relV T σ) c2 σ H2 (F (as ++ bs ++ ds) st2) Q := by
      refine ⟨c1, st1, h1, ?_⟩
      cases e1 : evEs p cal ys st1 with
      | ok bs st2 =>
        simp only [e1, R.bind] at q3
        exact fun b H' c' s' h' r' => ⟨c', st2, bs, s', h', r', hlen e1, q3.from s'⟩
      | exc x st2 => simp only [e1, R.bind] at q3; exact q3
      | stk => simp only [e1, R.bind] at q3; exact q3
    refine thn (hkw.run pos pins s1 σ H1 _ I1 q4) ?_
    rintro us2 s2 ⟨vs2, H2, I2, rv2, c2, st2, bs, S2, h2, ra2, l2, q5⟩
    refine ⟨I2.kIn, ?_⟩
    rw [k3, hks]
    exact run us1 us2 vs1 vs2 _ s2 H2 c2 st2 (S1.trans S2) I2 h2 rv1 rv2 (by rw [← ra2.1]; exact l2) (by rw [← ra1.1]; exact l1) (((ra1.mono S2).app ra2).app (relA_cst hd)) q5
  cases args with
  | nil =>
    refine PySem.W.callWith_KW0 (h₀ := X.base) I.ok.mod.kin hk k1 ?_ (by rw [k2]; rfl)
    have hx := hz rfl
    subst hx
    simp only [evEs, R.bind] at q1
    exact fin [] [] s H .nil I ⟨c, st, [], Stp.refl, h, relA_nil', rfl, q1⟩
  | cons e0 es =>
    rw [List.all_cons, Bool.and_eq_true] at hs
    refine PySem.W.callWith_KW (h₀ := X.base) I.ok.mod.kin hk k1 (thn (ha.run pos pins s σ H _ I q2) ?_) ?_ (star_ok hs.1)
    · rintro us1 s1 ⟨vs1, H1, I1, rv1, z⟩
      exact fin us1 vs1 s1 H1 rv1 I1 z
    · rw [k2, star_any (by rw [List.all_cons, hs.1, hs.2]; rfl)]; rfl
end
end Ev

/-! S11: calls, methods, built-ins, f-strings. -/
namespace Ev
open PySem PySem.Spec PyProof.Rows L2 Calls ClX
section
variable {T : Tb} {X : Cx} {Wx : WX} {p : Pg} {cal : Bool → Nat → List W → List OO → RC} {c : Cf} {st : St} {σ : L2.St} {H : Hp} {pins : List (Addr × Obj)} {s : Shared} {k : Nat}
variable {a b d e : Expr} {ea eb ed : E} {pos : Pos}
/-- a call of the def f with n arguments by place, ks by name, the last ones filled up -/
def SiteF (T : Tb) (X : Cx) (k : Nat) (cal : Bool → Nat → List W → List OO → RC) (f n : Nat) (ks : List Str) (ds : List W) : Prop :=
  ∃ fd ps np dvs dus, FnOk X.prog X.w X.K X.mg X.base (L2.CX X.prog X.w) k (T.fa f) fd ps (spF T np (cal false f)) ∧ np = n + ks.length + ds.length ∧ ds.mapM vC = some dvs ∧ Vals dvs dus ∧
    ∀ (s : Shared) (us ws : List Value), X.K.In s.heap → us.length = n → ws.length = ks.length → BindsTo s fd ⟨us, ks.zip ws⟩ (ps.zip (us ++ ws ++ dus))
/-- .. of the class C -/
def MakeF (T : Tb) (X : Cx) (k : Nat) (cal : Bool → Nat → List W → List OO → RC) (C n : Nat) (ks : List Str) (ds : List W) : Prop :=
  ∃ f fd ps np dvs dus, Mk X.K (T.ca C) f ∧ FnOk X.prog X.w X.K X.mg X.base (L2.CX X.prog X.w) k f fd ps (spI T np C (cal true C)) ∧ np = n + ks.length + ds.length + 1 ∧ ds.mapM vC = some dvs ∧ Vals dvs dus ∧
    ∀ (s : Shared) (x : Addr) (us ws : List Value), X.K.In s.heap → us.length = n → ws.length = ks.length → BindsTo s fd ⟨.ref x :: us, ks.zip ws⟩ (ps.zip (.ref x :: (us ++ ws ++ dus)))
theorem se_cal (O : XO T p X Wx k cal) {f n : Nat} {x : Str} {np : Pos} {args : List Expr} {kws : List Keyword} {xs ys : List E} {ds : List W} {ks : List Str} (hg : Gl X x) (hm : X.mg x = some (.ref (T.fa f))) (hk : PySem.W.keepIn X.K (.ref (T.fa f)) = true) (hd : (x == ("__debug__" : Str)) = false)
    (S : SiteF T X k cal f n ks ds) (hn : xs.length = n) (hy : ys.length = ks.length) (hz : args = [] → xs = []) (hs : args.all notStar = true) (hkn : (kws.all fun q => q.arg.isSome) = true) (hks : kws.filterMap (·.arg) = ks)
    (ha : SA T X Wx args (evEs p cal xs)) (hkw : SK T X Wx kws (evEs p cal ys)) : SE T X Wx (.Call (.Name x np) args kws pos) (evE p cal (.cal f (xs ++ ys ++ ds.map .cst))) :=
  ⟨fun pins s σ H Q I ⟨c, st, h, q⟩ => by
    simp only [evE] at q
    obtain ⟨fd, ps, np', dvs, dus, F, hnp, hdv, rd, hb⟩ := S
    refine wpAny_Call_Name_kw (ld_glob I hg hm ?_ hd)
    refine argsKW (first := []) hk hz hs hkn hks ha hkw hdv I h q ?_
    rintro us1 us2 vs1 vs2 ws s H c st S' I h r1 r2 l2 l1 ra q
    have e1 : us1.length = n := by rw [← r1.length, l1, hn]
    have e2 : us2.length = ks.length := by rw [← r2.length, l2, hy]
    refine wpAny_call (codeAny_mono (call_run (args := ⟨us1, ks.zip us2⟩) (us := us1 ++ us2 ++ dus) rfl (O.M.room.mono (Nat.le_succ _)) O.tk F (hb s us1 us2 I.kIn e1 e2) ?_ I h ra ((r1.append r2).append rd) q) fun r s' z => ?_)
    · have l3 : dvs.length = ds.length := by
        have := (relA_cst (T := T) (σ := σ) (c := c) (H := H) hdv).1
        exact this.symm
      simp only [List.length_append]
      rw [l1, l2, hn, hy, l3, hnp]
    · cases r with
      | error e => exact z
      | ok fl => cases fl <;> first | exact z | exact z.elim⟩
theorem se_new (O : XO T p X Wx k cal) {C n : Nat} {x : Str} {np : Pos} {args : List Expr} {kws : List Keyword} {xs ys : List E} {ds : List W} {ks : List Str} (hg : Gl X x) (hm : X.mg x = some (.ref (T.ca C))) (hd : (x == ("__debug__" : Str)) = false)
    (S : MakeF T X k cal C n ks ds) (hn : xs.length = n) (hy : ys.length = ks.length) (hz : args = [] → xs = []) (hs : args.all notStar = true) (hkn : (kws.all fun q => q.arg.isSome) = true) (hks : kws.filterMap (·.arg) = ks)
    (ha : SA T X Wx args (evEs p cal xs)) (hkw : SK T X Wx kws (evEs p cal ys)) : SE T X Wx (.Call (.Name x np) args kws pos) (evE p cal (.new C (xs ++ ys ++ ds.map .cst))) :=
  ⟨fun pins s σ H Q I ⟨c, st, h, q⟩ => by
    simp only [evE] at q
    obtain ⟨f, fd, ps, np', dvs, dus, Mk, F, hnp, hdv, rd, hb⟩ := S
    refine wpAny_Call_Name_kw (ld_glob I hg hm ?_ hd)
    refine argsKW (first := []) Mk.kp hz hs hkn hks ha hkw hdv I h q ?_
    rintro us1 us2 vs1 vs2 ws s H c st S' I h r1 r2 l2 l1 ra q
    have e1 : us1.length = n := by rw [← r1.length, l1, hn]
    have e2 : us2.length = ks.length := by rw [← r2.length, l2, hy]
    refine make_run (us := us1 ++ us2 ++ dus) Mk O.M.room O.tk F (fun x s' kin => hb s' x us1 us2 kin e1 e2) ?_ I h ra ((r1.append r2).append rd) q
    have l3 : dvs.length = ds.length := (relA_cst (T := T) (σ := σ) (c := c) (H := H) hdv).1.symm
    simp only [List.length_append]
    rw [l1, l2, hn, hy, l3, hnp]⟩
/-! ### methods -/
theorem meth_of {prog : Program} {w : World} {A : Around} {env : Env} {E' : Value → Shared → Prop} {o : Expr} {m : Str} {apos pos : Pos} {args : List Expr} {Q : Value → Shared → Prop} {s : Shared} (hsp : noSup o = true) (hs : args.all notStar = true) (hfew : args.length < 29) (hline : (apos.endLine == pos.line) = true)
    (h : wpAny (model prog w) A (eval o env) (fun ov s₁ => ∀ pl, wpAny (model prog w) A (getMethod ov m pl) (fun fx s₂ => wpAny (model prog w) A (callWith pos fx.1 fx.2 (backTo pos (starEach args env)) (backToKw pos (keywordEach [] env))) Q E' s₂) E' s₁) E' s) :
    wpAny (model prog w) A (eval (.Call (.Attribute o m apos) args [] pos) env) Q E' s := by
  rw [arm_eval_Call, noSup_ok hsp]
  refine wpAny_bind (wpAny_mono h (fun ov s₁ h₁ => wpAny_bind (wpAny_standAt ?_)) fun _ _ e => e)
  have hform : methodCallForm (args.length + ([] : List Keyword).length) (backTo pos (starEach args env)) (backToKw pos (keywordEach [] env)) = true := by
    unfold methodCallForm
    rw [star_all hs]
    have : (backToKw pos (keywordEach [] env)) = [] := rfl
    rw [this]
    simp
    omega
  have hpos : methodCallPos true o env apos pos = pure pos := by unfold methodCallPos; simp [hline]
  unfold methodCall
  rw [hform, hpos]
  unfold calleeOf
  refine wpAny_bind (wpAny_holding (wpAny_mono (h₁ _) (fun fx s₂ z => ?_) fun _ _ e => e))
  exact wpAny_bind (wpAny_pure z)
theorem se_mth (O : XO T p X Wx k cal) {m : Nat} {x : Str} {apos : Pos} {args : List Expr} {xs : List E} (hx : x = T.sy m) (hsp : noSup a = true) (hs : args.all notStar = true) (hz : args = [] → xs = []) (hfew : args.length < 29) (hline : (apos.endLine == pos.line) = true)
    (hm : ∀ C c f, clsG p C = some c → c.meths.lookup m = some f → PySem.W.keepIn X.K (.ref (T.fa f)) = true)
    (ho : SE T X Wx a (evE p cal ea)) (ha : SA T X Wx args (evEs p cal xs)) : SE T X Wx (.Call (.Attribute a x apos) args [] pos) (evE p cal (.mth ea m xs)) :=
  ⟨fun pins s σ H Q I ⟨c, st, h, q⟩ => by
    subst hx
    simp only [evE] at q
    refine meth_of hsp hs hfew hline (thn (ho.run pins s σ H _ I ⟨c, st, h, Post.bind (rel := relV T σ) q⟩) ?_)
    rintro u s1 ⟨v, H1, I1, rx, c1, st1, w, S1, h1, r1, q1⟩ pl
    cases em : mthF p m w st1 with
    | none => simp only [em] at q1; exact (show False from q1).elim
    | some f =>
    simp only [em] at q1
    have em' := em
    unfold mthF at em
    cases e : look st1 w with
    | none => simp only [e] at em; cases em
    | some o =>
    cases o with
    | lst _ => simp only [e] at em; cases em
    | dct _ _ => simp only [e] at em; cases em
    | tab => simp only [e] at em; cases em
    | ins C ns fs =>
    simp only [e] at em
    cases hc : ns.contains m with
    | true => rw [if_pos hc] at em; cases em
    | false =>
    rw [if_neg (by rw [hc]; simp)] at em
    obtain ⟨aa, e1, dx, vs, g1, g2, g3⟩ := look_ok h1 r1 e
    subst e1
    cases rx
    obtain ⟨cc, hcc, hmm⟩ := metOf_ok O.G em
    have cf := O.G.cls C cc hcc
    have me := cf.mt m f hmm
    have nl := fget_ok (f := m) O.G.inj g2 g3
    rw [fget_none hc] at nl
    obtain ⟨np, Ff⟩ := O.M.mt C cc m f hcc hmm
    refine getmeth_ok I1 g1 cf.cl me nl ?_
    refine argsKW (first := [.ref aa]) (ks := []) (ys := []) (ds := []) (dvs := []) (F := fun ws st2 => callR cal false f (w :: ws) st2) (hm C cc f hcc hmm) hz hs rfl rfl ha sk_nil rfl I1 h1 (by simpa using q1) ?_
    rintro us1 us2 vs1 vs2 ws s H c st S' I h rv1 rv2 l2 l1 ra q
    have hS : RV T c σ H w (.ref aa) := RV.mono S' r1
    have l3 : vs2 = [] := List.eq_nil_of_length_eq_zero l2
    subst l3
    exact own_run Ff rfl (O.M.room.mono (Nat.le_succ _)) O.tk I h (relA_cons hS (by simpa using ra)) (.cons rfl rv1) q⟩
end
end Ev

/-! S12: built-ins, f-strings. -/
namespace Ev
open PySem PySem.Spec PyProof.Rows L2 Calls ClX
section
variable {T : Tb} {X : Cx} {Wx : WX} {p : Pg} {cal : Bool → Nat → List W → List OO → RC} {c : Cf} {st : St} {σ : L2.St} {H : Hp} {pins : List (Addr × Obj)} {s : Shared} {k : Nat}
variable {a b d e : Expr} {ea eb ed : E} {pos : Pos}
/-! ### built-in functions by name -/
def bfNm : Bif → Str
  | .len => "len" | .sum => "sum" | .max => "max" | .min => "min" | .max2 => "max" | .min2 => "min" | .all => "all" | .any => "any"
  | .sorted => "sorted" | .list => "list" | .tuple => "tuple" | .int => "int" | .str => "str" | .repr => "repr" | .set => "set" | .dict => "dict"
theorem bf_boot (f : Bif) : bootBuiltins (bfNm f) = some (bfOf f) := by cases f <;> kernel_rfl
theorem bf_nn (f : Bif) : bfNm f ≠ "__name__" ∧ ((bfNm f) == ("__debug__" : Str)) = false := by cases f <;> decide
theorem relA_vv (h : RSt T c st σ H) {ws : List W} {vs : List V} (ra : relA T σ c H ws vs) : (ws.map (vw st)).length = vs.length ∧ ∀ (i : Nat) w v, (ws.map (vw st))[i]? = some w → vs[i]? = some v → RVV T c H w v := by
  refine ⟨by simp [ra.1], fun i w v e1 e2 => ?_⟩
  rw [List.getElem?_map] at e1
  cases e3 : ws[i]? with
  | none => simp [e3] at e1
  | some w' =>
    simp [e3] at e1
    subst e1
    exact rvv h (ra.2 i w' v e3 e2)
theorem bif_all (O : XO T p X Wx k cal) {f : Bif} {ws : List W} {vs : List V} {us : List Value} {Q : VK} (I : Inv X pins σ H s) (h : RSt T c st σ H) (ra : relA T σ c H ws vs) (qa : Vals vs us) (q : Post T Wx (relV T σ) c σ H (bifR p cal f ws st) Q) :
    wpAny (model X.prog X.w) X.A (call (bfOf f) us) (EP X pins σ Q) X.xe s := by
  have plain : ∀ {g : Bif}, Post T Wx (relV T σ) c σ H (.lift st (bifW g (ws.map (vw st)))) Q → wpAny (model X.prog X.w) X.A (call (bfOf g) us) (EP X pins σ Q) X.xe s := fun {g} q => by
    obtain ⟨w, e, q⟩ := lift_some q
    obtain ⟨l1, l2⟩ := relA_vv h ra
    exact bif_ok O.G.hK O.calm h I l1 l2 qa e (Wants.of q)
  unfold bifR at q
  split at q
  · -- len
    rename_i w
    obtain ⟨v, rfl, r⟩ := relA_one ra
    obtain ⟨u, rfl, ru⟩ := Vals.one qa
    cases e : clsOf st w with
    | none => simp only [e] at q; exact plain (g := .len) (by simpa using q)
    | some C =>
      simp only [e] at q
      refine len_own O.G O.M O.tk I h r ru e ((Post.bind (rel := relV T σ) q).mono fun z H1 ⟨c1, st1, w1, S1, h1, r1, q1⟩ => ?_)
      cases w1 <;> first | exact (show False from q1).elim | skip
      rename_i i
      by_cases hi : 0 ≤ i ∧ i < 2 ^ 63
      · simp only [hi, and_self, if_true] at q1
        exact ⟨i, r1, hi.1, hi.2, Post.ret q1 h1 (show RV T c1 σ H1 (.int i) (.int i) from rfl)⟩
      · simp only [hi, if_false] at q1
        exact (show False from q1).elim
  · -- repr
    rename_i w
    obtain ⟨v, rfl, r⟩ := relA_one ra
    obtain ⟨u, rfl, ru⟩ := Vals.one qa
    have e : ∃ C, clsOf st w = some C := by
      cases e : clsOf st w with
      | none => unfold ownR at q; simp only [e, R.bind] at q; exact (show False from q).elim
      | some C => exact ⟨C, rfl⟩
    obtain ⟨C, e⟩ := e
    refine repr_own O.G O.M O.tk I h r ru e ((Post.bind (rel := relV T σ) q).mono fun z H1 ⟨c1, st1, w1, S1, h1, r1, q1⟩ => ?_)
    cases w1 <;> first | exact (show False from q1).elim | skip
    rename_i x
    obtain ⟨rfl, hx⟩ := (show z = .str (tS x) ∧ tOk x = true from r1)
    exact ⟨tS x, rfl, Post.ret q1 h1 (show RV T c1 σ H1 (.str x) (.str (tS x)) from ⟨rfl, hx⟩)⟩
  · exact plain q
theorem bf_form (f : Bif) : (∃ id, bfOf f = .builtin id) ∨ ∃ t, bfOf f = .type t := by
  cases f <;> first | exact .inl ⟨_, rfl⟩ | exact .inr ⟨_, rfl⟩
theorem se_bif (O : XO T p X Wx k cal) {f : Bif} {np : Pos} {a : Expr} {args : List Expr} {xs : List E} (hg : Gl X (bfNm f)) (hm : X.mg (bfNm f) = none) (hs : (a :: args).all notStar = true) (ha : SA T X Wx (a :: args) (evEs p cal xs)) :
    SE T X Wx (.Call (.Name (bfNm f) np) (a :: args) [] pos) (evE p cal (.bif f xs)) :=
  ⟨fun pins s σ H Q I ⟨c, st, h, q⟩ => by
    simp only [evE] at q
    refine wpAny_Call_Name_kw (ld_blt I hg hm (bf_boot f) ?_ (bf_nn f).1 (bf_nn f).2)
    have run : wpAny (model X.prog X.w) X.A (spliced (backTo pos (starEach (a :: args) X.env))) (fun us s1 => wpAny (model X.prog X.w) X.A (call (bfOf f) us) (EP X pins σ Q) X.xe s1) X.xe s := by
      refine thn (ha.run pos pins s σ H _ I (oneA h q)) ?_
      rintro us s1 ⟨vs, H1, I1, rv, c, st, ws, h, ra, q⟩
      exact bif_all O I1 h ra rv q
    have hs' := hs
    rw [List.all_cons, Bool.and_eq_true] at hs'
    rcases bf_form f with ⟨id, e⟩ | ⟨t, e⟩
    · rw [e] at run ⊢
      exact PyProof.Rows.callWith_builtin1 run (star_ok hs'.1) (star_any hs'.2)
    · rw [e] at run ⊢
      exact PyProof.Rows.callWith_type1 run (star_ok hs'.1) (star_any hs'.2)⟩
/-! ### isinstance -/
def kdV (T : Tb) : Kd → V
  | .cls C => .ref (T.ca C)
  | q => .ty (tyN (kdN q))
def kdU (T : Tb) : Kd → Value
  | .cls C => .ref (T.ca C)
  | q => .type (tyN (kdN q))
theorem kd_cls (q : Kd) : ClsV (kdV T q) (kdU T q) := by cases q <;> first | exact .own _ | exact .ty _
theorem kit_N {K : PySem.W.Frag} : ∀ n m, n ≤ 6 → 1 ≤ m → m ≤ 5 → PySem.W.kitOne K (Value.type (tyN n)) (Value.type (tyN m)) = some (n == m || (n == 1 && m == 2)) := by
  intro n m h1 h2 h3
  refine kit_ty ?_
  match n, h1, m, h2, h3 with
  | 0, _, 1, _, _ => decide +kernel
  | 0, _, 2, _, _ => decide +kernel
  | 0, _, 3, _, _ => decide +kernel
  | 0, _, 4, _, _ => decide +kernel
  | 0, _, 5, _, _ => decide +kernel
  | 1, _, 1, _, _ => decide +kernel
  | 1, _, 2, _, _ => decide +kernel
  | 1, _, 3, _, _ => decide +kernel
  | 1, _, 4, _, _ => decide +kernel
  | 1, _, 5, _, _ => decide +kernel
  | 2, _, 1, _, _ => decide +kernel
  | 2, _, 2, _, _ => decide +kernel
  | 2, _, 3, _, _ => decide +kernel
  | 2, _, 4, _, _ => decide +kernel
  | 2, _, 5, _, _ => decide +kernel
  | 3, _, 1, _, _ => decide +kernel
  | 3, _, 2, _, _ => decide +kernel
  | 3, _, 3, _, _ => decide +kernel
  | 3, _, 4, _, _ => decide +kernel
  | 3, _, 5, _, _ => decide +kernel
  | 4, _, 1, _, _ => decide +kernel
  | 4, _, 2, _, _ => decide +kernel
  | 4, _, 3, _, _ => decide +kernel
  | 4, _, 4, _, _ => decide +kernel
  | 4, _, 5, _, _ => decide +kernel
  | 5, _, 1, _, _ => decide +kernel
  | 5, _, 2, _, _ => decide +kernel
  | 5, _, 3, _, _ => decide +kernel
  | 5, _, 4, _, _ => decide +kernel
  | 5, _, 5, _, _ => decide +kernel
  | 6, _, 1, _, _ => decide +kernel
  | 6, _, 2, _, _ => decide +kernel
  | 6, _, 3, _, _ => decide +kernel
  | 6, _, 4, _, _ => decide +kernel
  | 6, _, 5, _, _ => decide +kernel
theorem tyW_le {w : W} {n : Nat} (e : tyW st w = some (.inl n)) : n ≤ 6 := by
  unfold tyW at e
  split at e <;> first | (cases e; omega) | (cases e; done) | skip
  all_goals (split at e <;> first | (cases e; omega) | cases e)
theorem isK_ok (G : GF T p X.K) {t : Sum Nat Nat} {q : Kd} {b : Bool} (e : isK p t q = some b) (hn : ∀ n, t = .inl n → n ≤ 6) : PySem.W.kitOne X.K (tyV T t) (kdU T q) = some b ∧ ∀ C, t = .inr C → ∃ cc, clsG p C = some cc := by
  cases q with
  | none => cases t <;> simp [isK] at e
  | cls D =>
    cases t with
    | inl n =>
      simp only [isK] at e
      cases hd : clsG p D with
      | none => simp [hd] at e
      | some d =>
        obtain rfl : false = b := by simpa [hd] using e
        exact ⟨(G.cls D d hd).kit2 n, fun C z => nomatch z⟩
    | inr C =>
      simp only [isK] at e
      cases hc : clsG p C with
      | none => simp [hc] at e
      | some cc =>
        cases hd : clsG p D with
        | none => simp [hc, hd] at e
        | some d =>
          obtain rfl : subC p C D = b := by simpa [hc, hd] using e
          exact ⟨(G.cls C cc hc).kit3 D d hd, fun C' z => by cases z; exact ⟨cc, hc⟩⟩
  | bool =>
    cases t with
    | inl n =>
      obtain rfl := Option.some.inj e
      exact ⟨kit_N n 1 (hn n rfl) (by decide) (by decide), fun C z => nomatch z⟩
    | inr C =>
      simp only [isK] at e
      cases hc : clsG p C with
      | none => simp [hc] at e
      | some cc =>
        obtain rfl : false = b := by simpa [hc] using e
        exact ⟨(G.cls C cc hc).kit1 1 (by decide) (by decide), fun C' z => by cases z; exact ⟨cc, hc⟩⟩
  | int =>
    cases t with
    | inl n =>
      obtain rfl := Option.some.inj e
      exact ⟨kit_N n 2 (hn n rfl) (by decide) (by decide), fun C z => nomatch z⟩
    | inr C =>
      simp only [isK] at e
      cases hc : clsG p C with
      | none => simp [hc] at e
      | some cc =>
        obtain rfl : false = b := by simpa [hc] using e
        exact ⟨(G.cls C cc hc).kit1 2 (by decide) (by decide), fun C' z => by cases z; exact ⟨cc, hc⟩⟩
  | str =>
    cases t with
    | inl n =>
      obtain rfl := Option.some.inj e
      exact ⟨kit_N n 3 (hn n rfl) (by decide) (by decide), fun C z => nomatch z⟩
    | inr C =>
      simp only [isK] at e
      cases hc : clsG p C with
      | none => simp [hc] at e
      | some cc =>
        obtain rfl : false = b := by simpa [hc] using e
        exact ⟨(G.cls C cc hc).kit1 3 (by decide) (by decide), fun C' z => by cases z; exact ⟨cc, hc⟩⟩
  | tuple =>
    cases t with
    | inl n =>
      obtain rfl := Option.some.inj e
      exact ⟨kit_N n 4 (hn n rfl) (by decide) (by decide), fun C z => nomatch z⟩
    | inr C =>
      simp only [isK] at e
      cases hc : clsG p C with
      | none => simp [hc] at e
      | some cc =>
        obtain rfl : false = b := by simpa [hc] using e
        exact ⟨(G.cls C cc hc).kit1 4 (by decide) (by decide), fun C' z => by cases z; exact ⟨cc, hc⟩⟩
  | list =>
    cases t with
    | inl n =>
      obtain rfl := Option.some.inj e
      exact ⟨kit_N n 5 (hn n rfl) (by decide) (by decide), fun C z => nomatch z⟩
    | inr C =>
      simp only [isK] at e
      cases hc : clsG p C with
      | none => simp [hc] at e
      | some cc =>
        obtain rfl : false = b := by simpa [hc] using e
        exact ⟨(G.cls C cc hc).kit1 5 (by decide) (by decide), fun C' z => by cases z; exact ⟨cc, hc⟩⟩
/-- isinstance(x, c), one class -/
theorem se_isi (O : XO T p X Wx k cal) {q0 : Kd} {np : Pos} {ce : Expr} (hg : Gl X "isinstance") (hm : X.mg "isinstance" = none) (hs : notStar a = true) (hs2 : notStar ce = true) (ha : SE T X Wx a (evE p cal ea)) (hc : PE X ce (tC (kdV T q0))) :
    SE T X Wx (.Call (.Name "isinstance" np) [a, ce] [] pos) (evE p cal (.isi ea [q0])) :=
  PE.imp (pe_callB call_isi hg hm (by kernel_rfl) (pa_cons ha (pa_cons hc pa_nil (star_ok hs2)) (star_ok hs)) (by decide) (by decide) (star_ok hs) (star_any (by simp [hs2]))) fun σ H Q ⟨c, st, h, q⟩ => by
    simp only [evE] at q
    obtain ⟨c0, st0, h0, q0'⟩ := one h q
    refine ⟨c0, st0, h0, q0'.mono fun v H1 ⟨c, st, w, h, r, q⟩ => ?_⟩
    obtain ⟨w', e, q⟩ := lift_some q
    cases et : tyW st w with
    | none => simp [isKs, et] at e
    | some t =>
      cases ek : isK p t q0 with
      | none => simp [isKs, et, ek] at e
      | some b =>
        have e2 : W.bl b = w' := by
          cases b <;> simpa [isKs, et, ek] using e
        subst e2
        obtain ⟨k1, k2⟩ := isK_ok O.G ek fun n z => tyW_le (z ▸ et)
        exact ⟨v, kdV T q0, tyV T t, kdU T q0, b, rfl, kd_cls q0, tyx_of O.G h r et k2, k1, Post.ret q h (show RV T c σ H1 (.bl b) (.bl b) from rfl)⟩
/-! ### f-strings -/
theorem fmt_rel {w : W} {y : Tx} {v : V} (e : fmtW w = some y) (r : RV T c σ H w v) : ((∃ z : Str, v = .str z ∧ z.length ≤ sizeLine ∧ z = tS y) ∨ ∃ i : Int, v = .int i ∧ i.natAbs.log2 < 1920 ∧ Str.ofString (toString i) = tS y) ∧ tOk y = true := by
  cases w with
  | str x =>
    simp only [fmtW] at e
    split at e
    · rename_i hl
      cases e
      obtain ⟨rfl, ho⟩ := r
      exact ⟨.inl ⟨_, rfl, by rw [SX.S_len, ← line_eq]; exact hl, rfl⟩, ho⟩
    · cases e
  | int i =>
    simp only [fmtW] at e
    split at e
    · rename_i hl
      cases e
      cases r
      exact ⟨.inr ⟨i, rfl, hl, (dig_ok i).1⟩, (dig_ok i).2⟩
    · cases e
  | _ => simp [fmtW] at e
def SJ (T : Tb) (X : Cx) (Wx : WX) (p : Pg) (cal : Bool → Nat → List W → List OO → RC) (es : List Expr) (xs : List E) : Prop :=
  ∃ ts, PJ X es ts ∧ ∀ (acc : Tx) (st : St) (c : Cf) (σ : L2.St) (H : Hp) (Q : VK), tOk acc = true → RSt T c st σ H → Post T Wx (relV T σ) c σ H (evJ p cal xs acc st) Q → tJs ts (tS acc) σ H fun out H1 => Q (.str out) H1
theorem sj_nil : SJ T X Wx p cal [] [] := ⟨[], .nil, fun acc st c σ H Q ho h q => by
  simp only [evJ] at q
  exact Post.ret q h (show RV T c σ H (.str acc) (.str (tS acc)) from ⟨rfl, ho⟩)⟩
theorem sj_cst {x : Tx} {z : Str} {j : Nat} {es : List Expr} {xs : List E} (hz : z = tS x) (hx : tOk x = true) (r : SJ T X Wx p cal es xs) : SJ T X Wx p cal (.Constant (.str z) j pos :: es) (.cst (.str x) :: xs) := by
  obtain ⟨ts, h1, h2⟩ := r
  refine ⟨tC (.str z) :: ts, .cons pe_str h1, fun acc st c σ H Q ho h q => ?_⟩
  subst hz
  simp only [evJ, evE, R.bind, fmtW] at q
  by_cases hl : x.length ≤ lineMax
  · simp only [hl, if_true] at q
    by_cases hl2 : acc.length + x.length ≤ lineMax
    · simp only [hl2, if_true] at q
      refine ⟨tS x, rfl, ?_, ?_⟩
      · rw [SX.S_cat, SX.S_len, List.length_append, ← line_eq]; exact hl2
      · rw [SX.S_cat]
        exact h2 _ _ _ _ _ _ (tOk_app ho hx) h q
    · simp only [hl2, if_false] at q; exact (show False from q).elim
  · simp only [hl, if_false] at q; exact (show False from q).elim
theorem sj_fmt {es : List Expr} {xs : List E} (ha : SE T X Wx a (evE p cal ea)) (r : SJ T X Wx p cal es xs) : SJ T X Wx p cal (.FormattedValue a (-1) none pos :: es) (ea :: xs) := by
  obtain ⟨ts, h1, h2⟩ := r
  refine ⟨_ :: ts, .cons (pe_fmt ha) h1, fun acc st c σ H Q ho h q => ?_⟩
  simp only [evJ] at q
  obtain ⟨c0, st0, h0, q0⟩ := one h q
  refine ⟨c0, st0, h0, q0.mono fun v H1 ⟨c, st, w, h, r, q⟩ => ?_⟩
  cases ef : fmtW w with
  | none => simp only [ef] at q; exact (show False from q).elim
  | some y =>
    simp only [ef] at q
    obtain ⟨hv, ho2⟩ := fmt_rel ef r
    by_cases hl2 : acc.length + y.length ≤ lineMax
    · simp only [hl2, if_true] at q
      have fin : ∃ z : Str, V.str (tS y) = V.str z ∧ (tS acc ++ z).length ≤ sizeLine ∧ tJs ts (tS acc ++ z) σ H1 fun out H1 => Q (.str out) H1 := by
        refine ⟨tS y, rfl, ?_, ?_⟩
        · rw [SX.S_cat, SX.S_len, List.length_append, ← line_eq]; exact hl2
        · rw [SX.S_cat]
          exact h2 _ _ _ _ _ _ (tOk_app ho ho2) h q
      rcases hv with ⟨z, rfl, hz, rfl⟩ | ⟨i, rfl, hi, e⟩
      · exact .inl ⟨_, rfl, hz, fin⟩
      · refine .inr ⟨i, rfl, hi, ?_⟩
        rw [show ((toString i : String) : Str) = tS y from e]
        exact fin
    · simp only [hl2, if_false] at q; exact (show False from q).elim
theorem se_fst {v1 v2 : Expr} {rest : List Expr} {xs : List E} (h : SJ T X Wx p cal (v1 :: v2 :: rest) xs) : SE T X Wx (.JoinedStr (v1 :: v2 :: rest) pos) (evE p cal (.fst xs)) := by
  obtain ⟨ts, h1, h2⟩ := h
  refine PE.imp (pe_joined h1) fun σ H Q ⟨c, st, h, q⟩ => ?_
  simp only [evE] at q
  exact h2 [] st c σ H Q rfl h q
/-! ### methods of built-in types -/
def cmNm : Cmt → Str
  | .append => "append" | .extend => "extend" | .pop => "pop" | .insert => "insert" | .clear => "clear" | .reverse => "reverse" | .setdefault => "setdefault"
theorem cm_road {kk : Cmt} (hk : kk ≠ .setdefault) : Slot "list" (cmNm kk) (cmOf kk) ∧ typeOf (.builtin (cmOf kk)) = pure (.type "method_descriptor") := by
  cases kk with
  | append => exact ⟨PySem.F.slot_list_append, PySem.F.type_list_append⟩
  | extend => exact ⟨PySem.F.slot_list_extend, PySem.F.type_list_extend⟩
  | pop => exact ⟨PySem.F.slot_list_pop, PySem.F.type_list_pop⟩
  | insert => exact ⟨PySem.F.slot_list_insert, PySem.F.type_list_insert⟩
  | clear => exact ⟨PySem.F.slot_list_clear, PySem.F.type_list_clear⟩
  | reverse => exact ⟨PySem.F.slot_list_reverse, PySem.F.type_list_reverse⟩
  | setdefault => exact absurd rfl hk
/-- a method of a built-in type, called -/
theorem bm_run {T' : String} {id : String} {m : Str} {apos : Pos} {o : Expr} {args : List Expr} {Q : Value → Shared → Prop} {ta : TA} {to : TE} (pa : PlainAttrs T') (slot : Slot T' m id) (hty : typeOf (.builtin id) = pure (.type "method_descriptor")) (hsp : noSup o = true) (hs : args.all notStar = true) (hfew : args.length < 29)
    (hline : (apos.endLine == pos.line) = true) (ho : PE X o to) (ha : PA X args ta) (hz : args = [] → ∀ σ H R, ta σ H R → R [] H) (I : Inv X pins σ H s) {R : V → List V → Hp → Prop}
    (h : to σ H fun x H1 => L2.tyV X.K T' x H1 ∧ ta σ H1 fun xs H2 => R x xs H2) (hr : ∀ x xs v us s H, Inv X pins σ H s → L2.RelV x v → Vals xs us → R x xs H → wpAny (model X.prog X.w) X.A (call (.builtin id) (v :: us)) Q X.xe s) :
    wpAny (model X.prog X.w) X.A (eval (.Call (.Attribute o m apos) args [] pos) X.env) Q X.xe s := by
  refine meth_of hsp hs hfew hline (thn (ho.run pins s σ H _ I h) ?_)
  rintro v s1 ⟨x, H1, I1, r1, ty, q1⟩ pl
  obtain ⟨h1, h2⟩ := tyV_is I1 r1 ty
  refine getMethod_builtin h1 pa slot hty h2 ?_
  show wpAny _ _ (callWith pos (.builtin id) [v] (backTo pos (starEach args X.env)) []) _ _ _
  have hA := ha.run pos pins s1 σ H1 _ I1 q1
  cases args with
  | nil =>
    refine Calls.callWith_builtin rfl (PySem.evalArgs_none ?_)
    exact hr x [] v [] s1 H1 I1 r1 .nil (hz rfl _ _ _ q1)
  | cons a es =>
    rw [List.all_cons, Bool.and_eq_true] at hs
    rw [star_ok hs.1] at hA ⊢
    refine Calls.callWith_builtin (by show (false || (backTo pos (starEach es X.env)).any (·.1)) = false; rw [star_any hs.2] <;> rfl) (Calls.evalArgs_plain ?_)
    exact thn hA fun us s2 ⟨vs, H2, I2, r2, q2⟩ => hr x vs v us s2 H2 I2 r1 r2 q2
theorem nil_rd {args : List Expr} {xs : List E} (hz : args = [] → xs = []) : args = [] → ∀ σ H (R : List V → Hp → Prop), rdA T Wx (evEs p cal xs) σ H R → R [] H := fun e σ H R ⟨c, st, h, q⟩ => by
  rw [hz e] at q
  simp only [evEs] at q
  exact Post.ret q h relA_nil'
theorem se_cmt {kk : Cmt} {apos : Pos} {args : List Expr} {xs : List E} (hsp : noSup a = true) (hs : args.all notStar = true) (hfew : args.length < 29) (hline : (apos.endLine == pos.line) = true) (hz : args = [] → xs = []) (hk : kk ≠ .setdefault) (ho : SE T X Wx a (evE p cal ea)) (ha : SA T X Wx args (evEs p cal xs)) :
    SE T X Wx (.Call (.Attribute a (cmNm kk) apos) args [] pos) (evE p cal (.cmt kk ea xs)) :=
  ⟨fun pins s σ H Q I ⟨c, st, h, q⟩ => by
    simp only [evE] at q
    obtain ⟨slot, hty⟩ := cm_road hk
    refine bm_run (R := fun v us H => ∃ c st x ws, RSt T c st σ H ∧ RV T c σ H x v ∧ relA T σ c H ws us ∧ Post T Wx (relV T σ) c σ H (match look st x with
      | some o => if okvs ws || kk = .extend then (match cmtW kk o (ws.map fun w => if kk = .extend then vw st w else w) with
        | some (w, o') => (match put st o' x with
          | some st3 => .ok w st3
          | none => .stk)
        | none => .stk) else .stk
      | none => .stk) Q) PySem.F.plainAttrs_list slot hty hsp hs hfew hline ho ha (nil_rd hz) I ⟨c, st, h, (Post.bind (rel := relV T σ) q).mono ?_⟩ ?_
    · rintro v H1 ⟨c1, st1, x, S1, h1, r1, q1⟩
      cases hc : cmT kk (look st1 x) with
      | false => simp only [hc] at q1; exact (show False from q1).elim
      | true =>
      simp only [hc, if_true] at q1
      have hl : ∃ l, look st1 x = some (.lst l) := by
        cases e : look st1 x with
        | none => rw [e] at hc; cases kk <;> simp [cmT] at hc
        | some o => rw [e] at hc; cases o <;> cases kk <;> simp [cmT] at hc <;> exact ⟨_, rfl⟩
      obtain ⟨l, el⟩ := hl
      obtain ⟨aa, e1, vs, g1, g2⟩ := look_ok h1 r1 el
      subst e1
      refine ⟨.inl ⟨rfl, vs, SqL.of g1⟩, c1, st1, h1, (Post.bind (rel := relA T σ) q1).mono ?_⟩
      rintro us H2 ⟨c2, st2, ws, S2, h2, ra, q2⟩
      exact ⟨c2, st2, x, ws, h2, RV.mono S2 r1, ra, q2⟩
    · rintro v us vv uu s H I rv ru ⟨c, st, x, ws, h, r, ra, q⟩
      cases e : look st x with
      | none => simp only [e] at q; exact (show False from q).elim
      | some o =>
      simp only [e] at q
      cases hok : (okvs ws || decide (kk = .extend)) with
      | false => simp only [hok] at q; exact (show False from q).elim
      | true =>
      simp only [hok, if_true] at q
      cases ec : cmtW kk o (ws.map fun w => if kk = .extend then vw st w else w) with
      | none => simp only [ec] at q; exact (show False from q).elim
      | some wo =>
      obtain ⟨w, o'⟩ := wo
      simp only [ec] at q
      cases ep : put st o' x with
      | none => simp only [ep] at q; exact (show False from q).elim
      | some st' =>
      simp only [ep] at q
      have ok2 : okvs ws = true ∨ kk = .extend := by
        simpa using hok
      exact cmt_ok h I r rv e ok2 ra ru ec ep fun z H' S' h' rw' => q z H' c S' h' rw'.rv⟩
def bmNm : Bmt → Str
  | .count => "count" | .index => "index" | .split => "split" | .join => "join" | .partition => "partition" | .get => "get" | .items => "items" | .values => "values"
def bmTy : Bmt → String
  | .get | .items | .values => "dict"
  | .split | .join | .partition => "str"
  | _ => "list"
def bmId : Bmt → String
  | .count => "list.count" | .index => "list.index" | .get => "dict.get" | .split => "str.split" | .join => "str.join" | .partition => "str.partition" | .items => "dict.items" | .values => "dict.values"
theorem bmT_ok {bb : Bmt} {w : W} (h : bmT bb w = true) : bmOf bb w = bmId bb ∧ ((bmTy bb = "list" ∧ ∃ l, w = .lst l) ∨ (bmTy bb = "dict" ∧ ∃ ks l, w = .dct ks l)) := by
  cases bb <;> cases w <;> simp [bmT] at h
  · exact ⟨rfl, .inl ⟨rfl, _, rfl⟩⟩
  · exact ⟨rfl, .inl ⟨rfl, _, rfl⟩⟩
  · exact ⟨rfl, .inr ⟨rfl, _, _, rfl⟩⟩
theorem bm_road {bb : Bmt} (h : bb = .count ∨ bb = .index ∨ bb = .get) : Slot (bmTy bb) (bmNm bb) (bmId bb) ∧ typeOf (.builtin (bmId bb)) = pure (.type "method_descriptor") ∧ PlainAttrs (bmTy bb) := by
  rcases h with rfl | rfl | rfl
  · exact ⟨PySem.F.slot_list_count, PySem.F.type_list_count, PySem.F.plainAttrs_list⟩
  · exact ⟨PySem.F.slot_list_index, PySem.F.type_list_index, PySem.F.plainAttrs_list⟩
  · exact ⟨PySem.F.slot_dict_get, PySem.F.type_dict_get, PySem.F.plainAttrs_dict⟩
theorem se_bmt (O : XO T p X Wx k cal) {bb : Bmt} {apos : Pos} {args : List Expr} {xs : List E} (hb : bb = .count ∨ bb = .index ∨ bb = .get) (hsp : noSup a = true) (hs : args.all notStar = true) (hfew : args.length < 29) (hline : (apos.endLine == pos.line) = true) (hz : args = [] → xs = []) (ho : SE T X Wx a (evE p cal ea)) (ha : SA T X Wx args (evEs p cal xs)) :
    SE T X Wx (.Call (.Attribute a (bmNm bb) apos) args [] pos) (evE p cal (.bmt bb ea xs)) :=
  ⟨fun pins s σ H Q I ⟨c, st, h, q⟩ => by
    simp only [evE] at q
    obtain ⟨slot, hty, pa⟩ := bm_road hb
    refine bm_run (R := fun v us H => ∃ c st x ws, RSt T c st σ H ∧ RV T c σ H x v ∧ relA T σ c H ws us ∧ bmT bb (vw st x) = true ∧ Post T Wx (relV T σ) c σ H (.lift st (bmtW bb (vw st x) (ws.map (vw st)))) Q) pa slot hty hsp hs hfew hline ho ha (nil_rd hz) I ⟨c, st, h, (Post.bind (rel := relV T σ) q).mono ?_⟩ ?_
    · rintro v H1 ⟨c1, st1, x, S1, h1, r1, q1⟩
      cases hc : bmT bb (vw st1 x) with
      | false => simp only [hc] at q1; exact (show False from q1).elim
      | true =>
      simp only [hc, if_true] at q1
      have rv := rvv h1 r1
      refine ⟨?_, c1, st1, h1, (Post.bind (rel := relA T σ) q1).mono ?_⟩
      · rcases (bmT_ok hc).2 with ⟨e, l, el⟩ | ⟨e, ks, l, el⟩
        · rw [el] at rv
          obtain ⟨aa, vs, e1, g1, g2⟩ := rv
          subst e1
          exact .inl ⟨e, vs, SqL.of g1⟩
        · rw [el] at rv
          obtain ⟨aa, vs, e1, g1, g2⟩ := rv
          subst e1
          exact .inr (.inr (.inl ⟨e, .inl ⟨_, g1⟩⟩))
      · rintro us H2 ⟨c2, st2, ws, S2, h2, ra, q2⟩
        cases hc2 : bmT bb (vw st2 x) with
        | false => simp only [hc2] at q2; exact (show False from q2).elim
        | true =>
        simp only [hc2, if_true] at q2
        exact ⟨c2, st2, x, ws, h2, RV.mono S2 r1, ra, hc2, q2⟩
    · rintro v us vv uu s H I rv ru ⟨c, st, x, ws, h, r, ra, e0, q⟩
      obtain ⟨w, e, q⟩ := lift_some q
      obtain ⟨l1, l2⟩ := relA_vv h ra
      have z := bmt_ok O.G.hK O.deep O.calm h I (rvv h r) rv l1 l2 ru e (WantsP.of q)
      rw [(bmT_ok e0).1] at z
      exact z⟩
end
end Ev

/-! S13: what is walked. -/
namespace Ev
open PySem PySem.Spec PyProof.Rows L2 Calls ClX RZ
/-- the machine's iterator goes as the source says, from now on -/
def Wk (T : Tb) (c0 : Cf) (H0 : Hp) (q : Src) (J : It) : Prop := ∀ (c : Cf) (st : St) (σ : L2.St) (H : Hp) (i : Nat), Mn c0.lv c0.nf H0 c.lv c.nf H → RSt T c st σ H →
  (q.at st i = some none → J.stop i H) ∧ ∀ w, q.at st i = some (some w) → J.go i H ∧ ∀ v H', J.yld i H v H' → Stp c H c H' ∧ RSt T c st σ H' ∧ RW T c.lv c.nf H' w v
def relI (T : Tb) : Cf → Hp → Src → It → Prop := fun c H q J => Wk T c H q J
def rdI (T : Tb) (Wx : WX) (m : St → R Src) : TI := fun σ H R => ∃ c st, RSt T c st σ H ∧ Post T Wx (relI T) c σ H (m st) R
def SI (T : Tb) (X : Cx) (Wx : WX) (tg it : Expr) (m : St → R Src) : Prop := PI X tg it (rdI T Wx m)
theorem PI.imp {X : Cx} {tg it : Expr} {t t' : TI} (h : PI X tg it t) (q : ∀ σ H Q, t' σ H Q → t σ H Q) : PI X tg it t' := ⟨fun pins s σ H R I z => h.run pins s σ H R I (q _ _ _ z)⟩
section
variable {T : Tb} {X : Cx} {Wx : WX} {p : Pg} {cal : Bool → Nat → List W → List OO → RC} {c : Cf} {st : St} {σ : L2.St} {H : Hp} {pins : List (Addr × Obj)} {s : Shared} {k : Nat}
variable {a b d e tg : Expr} {ea eb ed : E} {pos : Pos}
/-- a list or tuple that may be walked, as it stands -/
theorem wk_ok (h : RSt T c st σ H) {w : W} {v : V} (r : RW T c.lv c.nf H w v) {xs : List W} (e : wkOf st w = some xs) : ∃ a vs, v = .ref a ∧ ((H a = some (.lst vs) ∧ lstOf st w = some xs) ∨ (H a = some (.tup vs) ∧ w = .tup xs)) ∧ RWs T c.lv c.nf H xs vs := by
  unfold wkOf at e
  split at e
  · rename_i ho
    have lk : ∀ {o}, seqOf st w = (match look st w with | some (.lst xs) => some xs | _ => none) → look st w = some o → ∃ a vs, v = .ref a ∧ ((H a = some (.lst vs) ∧ lstOf st w = some xs) ∨ (H a = some (.tup vs) ∧ w = .tup xs)) ∧ RWs T c.lv c.nf H xs vs := fun {o} e2 q => by
      rw [e2, q] at e
      cases o with
      | lst ys =>
        cases e
        obtain ⟨a, e1, vs, g1, g2⟩ := look_ok h r.rv q
        exact ⟨a, vs, e1, .inl ⟨g1, by unfold lstOf; rw [q]⟩, g2⟩
      | dct _ _ => cases e
      | ins _ _ _ => cases e
      | tab => cases e
    cases w with
    | tup ys =>
      obtain rfl : ys = xs := by simpa [seqOf] using e
      obtain ⟨a, vs, e1, e2, _, e3⟩ : ∃ a vs, v = .ref a ∧ H a = some (.tup vs) ∧ ¬ c.nf a ∧ RWs T c.lv c.nf H ys vs := by simpa [RW] using r
      exact ⟨a, vs, e1, .inr ⟨e2, rfl⟩, e3⟩
    | lst ys => exact lk rfl rfl
    | dct _ _ => exact lk rfl rfl
    | obj _ _ _ => exact lk rfl rfl
    | loc n =>
      cases q : look st (.loc n) with
      | none => simp [seqOf, q] at e
      | some o => exact lk rfl q
    | sl n => cases ho
    | non => simp [seqOf, look] at e
    | bl _ => simp [seqOf, look] at e
    | int _ => simp [seqOf, look] at e
    | str _ => simp [seqOf, look] at e
    | glo _ => simp [seqOf, look] at e
    | scr _ => simp [seqOf, look] at e
  · cases e
theorem wk_seq {w : W} {aa : Addr} (r : RW T c.lv c.nf H w (.ref aa)) (ht : ∀ xs, w ≠ .tup xs) : Wk T c H (.seq w) (Itl X.K aa) := fun c1 st1 σ1 H1 i S h1 => by
  have r1 := r.mono S
  have get : ∀ xs, wkOf st1 w = some xs → ∃ vs, H1 aa = some (.lst vs) ∧ RWs T c1.lv c1.nf H1 xs vs := fun xs e => by
    obtain ⟨a', vs, e1, e2, e3⟩ := wk_ok h1 r1 e
    cases e1
    rcases e2 with ⟨e2, _⟩ | ⟨_, e2⟩
    · exact ⟨vs, e2, e3⟩
    · exact (ht xs e2).elim
  refine ⟨fun e => ?_, fun w' e => ?_⟩
  · simp only [Src.at, Option.map_eq_some_iff] at e
    obtain ⟨xs, e1, e2⟩ := e
    obtain ⟨vs, g1, g2⟩ := get xs e1
    exact ⟨vs, SqL.of g1, by rw [← g2.len]; exact List.getElem?_eq_none_iff.mp e2⟩
  · simp only [Src.at, Option.map_eq_some_iff] at e
    obtain ⟨xs, e1, e2⟩ := e
    obtain ⟨vs, g1, g2⟩ := get xs e1
    obtain ⟨v, g3, g4⟩ := g2.get e2
    refine ⟨⟨vs, v, SqL.of g1, g3⟩, ?_⟩
    rintro v' H' ⟨rfl, hy⟩
    have := hy vs (SqL.of g1)
    rw [g3] at this; cases this
    exact ⟨Stp.refl, h1, g4⟩
theorem wk_tup {xs : List W} {aa : Addr} (r : RW T c.lv c.nf H (.tup xs) (.ref aa)) : Wk T c H (.seq (.tup xs)) (Itt X.K aa) := fun c1 st1 σ1 H1 i S h1 => by
  have r1 := r.mono S
  obtain ⟨a', vs, e1, g1, _, g2⟩ : ∃ a vs, V.ref aa = .ref a ∧ H1 a = some (.tup vs) ∧ ¬ c1.nf a ∧ RWs T c1.lv c1.nf H1 xs vs := by simpa [RW] using r1
  cases e1
  refine ⟨fun e => ?_, fun w' e => ?_⟩
  · have e2 : xs[i]? = none := by simpa [Src.at, wkOf, seqOf, okv] using e
    exact ⟨vs, SqT.of g1, by rw [← g2.len]; exact List.getElem?_eq_none_iff.mp e2⟩
  · have e2 : xs[i]? = some w' := by simpa [Src.at, wkOf, seqOf, okv] using e
    obtain ⟨v, g3, g4⟩ := g2.get e2
    refine ⟨⟨vs, v, SqT.of g1, g3⟩, ?_⟩
    rintro v' H' ⟨rfl, hy⟩
    have := hy vs (SqT.of g1)
    rw [g3] at this; cases this
    exact ⟨Stp.refl, h1, g4⟩
theorem wk_str {x : Tx} (ho : tOk x = true) : Wk T c H (.fix (x.map fun c => .str [c])) (Its (tS x)) := fun c1 st1 σ1 H1 i S h1 => by
  have sz : (tS x).cps.size = x.length := by
    show (SX.S x).cps.size = x.length
    rw [← SX.S_len]; rfl
  have gt : ∀ j : Nat, (tS x).cps[j]? = x[j]? := fun j => by
    show (SX.S x).cps[j]? = _
    simp [SX.S]
  refine ⟨fun e => ?_, fun w' e => ?_⟩
  · have e2 : x[i]? = none := by
      simp only [Src.at, Option.some.injEq, List.getElem?_map, Option.map_eq_none_iff] at e
      exact e
    show (tS x).cps.size ≤ i
    rw [sz]; exact List.getElem?_eq_none_iff.mp e2
  · simp only [Src.at, Option.some.injEq, List.getElem?_map, Option.map_eq_some_iff] at e
    obtain ⟨cc, e1, e2⟩ := e
    subst e2
    refine ⟨by show i < (tS x).cps.size; rw [sz]; exact (List.getElem?_eq_some_iff.mp e1).1, ?_⟩
    rintro v' H' ⟨rfl, c', hc, rfl⟩
    rw [gt, e1] at hc
    cases hc
    refine ⟨Stp.refl, h1, ?_⟩
    refine (show V.str _ = V.str (tS [cc]) ∧ tOk [cc] = true from ⟨rfl, ?_⟩)
    unfold tOk at ho ⊢
    rw [List.all_eq_true] at ho
    simp only [List.all_cons, List.all_nil, Bool.and_true]
    exact ho cc (List.mem_of_getElem? e1)
theorem wk_rng {lo : Int} {n : Nat} : Wk T c H (.fix ((List.range n).map fun (k : Nat) => W.int (lo + (k : Int)))) (Itr lo n) := fun c1 st1 σ1 H1 i S h1 => by
  refine ⟨fun e => ?_, fun w' e => ?_⟩
  · simp only [Src.at, Option.some.injEq, List.getElem?_map, Option.map_eq_none_iff, List.getElem?_eq_none_iff, List.length_range] at e
    exact e
  · simp only [Src.at, Option.some.injEq, List.getElem?_map, Option.map_eq_some_iff] at e
    obtain ⟨j, e1, e2⟩ := e
    have hi : i < n := by simpa using (List.getElem?_eq_some_iff.mp e1).1
    have hj : j = i := by
      rw [List.getElem?_range hi] at e1
      exact (Option.some.inj e1).symm
    subst hj e2
    refine ⟨hi, ?_⟩
    rintro v' H' ⟨rfl, rfl⟩
    exact ⟨Stp.refl, h1, rfl⟩
theorem new_pair {x y : W} {v u : V} {q : Addr} (h : RSt T c st σ H) (hq : H q = none) (r1 : RW T c.lv c.nf H x v) (r2 : RW T c.lv c.nf H y u) : Stp c H c (upd H q (.tup [v, u])) ∧ RSt T c st σ (upd H q (.tup [v, u])) ∧ RW T c.lv c.nf (upd H q (.tup [v, u])) (.tup [x, y]) (.ref q) := by
  refine ⟨Stp.grow hq, h.grow hq, ?_⟩
  simp only [RW]
  exact ⟨q, [v, u], rfl, upd_same, h.new hq, (RWs.cons r1 (RWs.cons r2 RWs.nil)).grow hq⟩
theorem wk_enu {w : W} {aa : Addr} (r : RW T c.lv c.nf H w (.ref aa)) (ht : ∀ xs, w ≠ .tup xs) : Wk T c H (.enu w) (Ite X.K aa) := fun c1 st1 σ1 H1 i S h1 => by
  have r1 := r.mono S
  have get : ∀ xs, wkOf st1 w = some xs → ∃ vs, H1 aa = some (.lst vs) ∧ RWs T c1.lv c1.nf H1 xs vs := fun xs e => by
    obtain ⟨a', vs, e1, e2, e3⟩ := wk_ok h1 r1 e
    cases e1
    rcases e2 with ⟨e2, _⟩ | ⟨_, e2⟩
    · exact ⟨vs, e2, e3⟩
    · exact (ht xs e2).elim
  refine ⟨fun e => ?_, fun w' e => ?_⟩
  · simp only [Src.at, Option.map_eq_some_iff, Option.map_eq_none_iff] at e
    obtain ⟨xs, e1, e2⟩ := e
    obtain ⟨vs, g1, g2⟩ := get xs e1
    exact ⟨vs, SqL.of g1, by rw [← g2.len]; exact List.getElem?_eq_none_iff.mp e2⟩
  · simp only [Src.at, Option.map_eq_some_iff] at e
    obtain ⟨xs, e1, x, e2, e3⟩ := e
    subst e3
    obtain ⟨vs, g1, g2⟩ := get xs e1
    obtain ⟨v, g3, g4⟩ := g2.get e2
    refine ⟨⟨vs, v, SqL.of g1, g3⟩, ?_⟩
    rintro v' H' ⟨q, x', rfl, hq, rfl, hy⟩
    have := hy vs (SqL.of g1)
    rw [g3] at this; cases this
    exact new_pair (x := .int i) h1 hq rfl g4
theorem wl_ok (h : RSt T c st σ H) {w : W} {v : V} (r : RW T c.lv c.nf H w v) {xs : List W} (e : wlOf st w = some xs) : ∃ a vs, v = .ref a ∧ H a = some (.lst vs) ∧ RWs T c.lv c.nf H xs vs := by
  unfold wlOf at e
  split at e
  · unfold lstOf at e
    split at e
    · rename_i ys hl
      cases e
      obtain ⟨a, e1, vs, g1, g2⟩ := look_ok h r.rv hl
      exact ⟨a, vs, e1, g1, g2⟩
    · cases e
  · cases e
theorem wk_zip {w w2 : W} {aa bb : Addr} (r : RW T c.lv c.nf H w (.ref aa)) (r2 : RW T c.lv c.nf H w2 (.ref bb)) (ht : ∀ xs ys, ¬ (w = .tup xs ∧ w2 = .tup ys)) : Wk T c H (.zip w w2) (Itz X.K aa bb) := fun c1 st1 σ1 H1 i S h1 => by
  have q1 := r.mono S
  have q2 := r2.mono S
  have ea : Src.at st1 i (.zip w w2) = (wlOf st1 w).bind fun xs => (wlOf st1 w2).map fun ys => match xs[i]?, ys[i]? with | some x, some y => some (.tup [x, y]) | _, _ => none := by
    cases w <;> cases w2 <;> first | rfl | exact (ht _ _ ⟨rfl, rfl⟩).elim
  rw [ea]
  cases e1 : wlOf st1 w with
  | none => exact ⟨fun e => by simp at e, fun w' e => by simp at e⟩
  | some xs =>
  cases e2 : wlOf st1 w2 with
  | none => exact ⟨fun e => by simp at e, fun w' e => by simp at e⟩
  | some ys =>
  obtain ⟨_, vs, z1, g1, g2⟩ := wl_ok h1 q1 e1
  obtain ⟨_, us, z2, g3, g4⟩ := wl_ok h1 q2 e2
  cases z1; cases z2
  cases f1 : xs[i]? with
  | none =>
    refine ⟨fun _ => ⟨vs, us, SqL.of g1, SqL.of g3, .inl (by rw [← g2.len]; exact List.getElem?_eq_none_iff.mp f1)⟩, fun w' e => by simp [f1] at e⟩
  | some x =>
  cases f2 : ys[i]? with
  | none =>
    refine ⟨fun _ => ⟨vs, us, SqL.of g1, SqL.of g3, .inr (by rw [← g4.len]; exact List.getElem?_eq_none_iff.mp f2)⟩, fun w' e => by simp [f1, f2] at e⟩
  | some y =>
  refine ⟨fun e => by simp [f1, f2] at e, fun w' e => ?_⟩
  obtain rfl : W.tup [x, y] = w' := by simpa [f1, f2] using e
  obtain ⟨v, k1, k2⟩ := g2.get f1
  obtain ⟨u, k3, k4⟩ := g4.get f2
  refine ⟨⟨vs, us, v, u, SqL.of g1, SqL.of g3, k1, k3⟩, ?_⟩
  rintro v' H' ⟨q, x', y', rfl, hq, rfl, hy, hy2⟩
  have a1 := hy vs (SqL.of g1)
  have a2 := hy2 us (SqL.of g3)
  rw [k1] at a1; cases a1
  rw [k3] at a2; cases a2
  exact new_pair h1 hq k2 k4
theorem wk_zipT {xs ys : List W} {aa bb : Addr} (r : RW T c.lv c.nf H (.tup xs) (.ref aa)) (r2 : RW T c.lv c.nf H (.tup ys) (.ref bb)) : Wk T c H (.zip (.tup xs) (.tup ys)) (ItzT X.K aa bb) := fun c1 st1 σ1 H1 i S h1 => by
  have q1 := r.mono S
  have q2 := r2.mono S
  obtain ⟨_, vs, z1, g1, _, g2⟩ : ∃ a vs, V.ref aa = .ref a ∧ H1 a = some (.tup vs) ∧ ¬ c1.nf a ∧ RWs T c1.lv c1.nf H1 xs vs := by simpa [RW] using q1
  obtain ⟨_, us, z2, g3, _, g4⟩ : ∃ a vs, V.ref bb = .ref a ∧ H1 a = some (.tup vs) ∧ ¬ c1.nf a ∧ RWs T c1.lv c1.nf H1 ys vs := by simpa [RW] using q2
  cases z1; cases z2
  simp only [Src.at]
  cases f1 : xs[i]? with
  | none =>
    refine ⟨fun _ => ⟨vs, us, SqT.of g1, SqT.of g3, .inl (by rw [← g2.len]; exact List.getElem?_eq_none_iff.mp f1)⟩, fun w' e => by simp at e⟩
  | some x =>
  cases f2 : ys[i]? with
  | none =>
    refine ⟨fun _ => ⟨vs, us, SqT.of g1, SqT.of g3, .inr (by rw [← g4.len]; exact List.getElem?_eq_none_iff.mp f2)⟩, fun w' e => by simp at e⟩
  | some y =>
  refine ⟨fun e => by simp at e, fun w' e => ?_⟩
  obtain rfl : W.tup [x, y] = w' := by simpa using e
  obtain ⟨v, k1, k2⟩ := g2.get f1
  obtain ⟨u, k3, k4⟩ := g4.get f2
  refine ⟨⟨vs, us, v, u, SqT.of g1, SqT.of g3, k1, k3⟩, ?_⟩
  rintro v' H' ⟨q, x', y', rfl, hq, rfl, hy, hy2⟩
  have a1 := hy vs (SqT.of g1)
  have a2 := hy2 us (SqT.of g3)
  rw [k1] at a1; cases a1
  rw [k3] at a2; cases a2
  exact new_pair h1 hq k2 k4
/-! ### the iterators come -/
theorem it_list {R : It → Hp → Prop} {E : Value → Shared → Prop} {a : Addr} {xs : List V} (I : Inv X pins σ H s) (hq : SqL X.K H a xs) (q : R (Itl X.K a) H) : wpAny (model X.prog X.w) X.A (pyIter (.ref a)) (PIE X pins σ tg R) E s := by
  obtain ⟨its, rv, p, hz⟩ := I.list hq
  refine wpAny_pyIter_list p.isList ?_
  refine ⟨s.heap.objs.size, [s.heap.objs.size], _, _, H, rfl, I.kept (t' := s.toks) fun b o e => Heap.get?_push_of_some _ e, turn_list a _, ⟨_, Heap.get?_push_size _ rfl, rfl, rfl⟩, fun b hb => ?_, q⟩
  have e : b = s.heap.objs.size := by simpa using hb
  subst e
  exact I.fpOk (Nat.le_refl _) (I.hok.fresh (Nat.le_refl _))
theorem it_tup {R : It → Hp → Prop} {E : Value → Shared → Prop} {a : Addr} {xs : List V} (I : Inv X pins σ H s) (hq : SqT X.K H a xs) (q : R (Itt X.K a) H) : wpAny (model X.prog X.w) X.A (pyIter (.ref a)) (PIE X pins σ tg R) E s := by
  obtain ⟨its, rv, p, hz⟩ := I.tuple hq
  refine wpAny_pyIter_tuple (show s.heap.IsTuple a its.toArray from p) ?_
  refine ⟨s.heap.objs.size, [s.heap.objs.size], _, _, H, rfl, I.kept (t' := s.toks) fun b o e => Heap.get?_push_of_some _ e, turn_tuple a _, ⟨_, Heap.get?_push_size _ rfl, rfl, rfl⟩, fun b hb => ?_, q⟩
  have e : b = s.heap.objs.size := by simpa using hb
  subst e
  exact I.fpOk (Nat.le_refl _) (I.hok.fresh (Nat.le_refl _))
theorem it_str {R : It → Hp → Prop} {E : Value → Shared → Prop} {x : Str} {v : Value} (I : Inv X pins σ H s) (r : L2.RelV (.str x) v) (q : R (Its x) H) : wpAny (model X.prog X.w) X.A (pyIter v) (PIE X pins σ tg R) E s := by
  obtain ⟨t, rfl⟩ := r
  cases ha : x.cps.all (· < 128)
  · exact wpAny_pyIter_wide ha (pi_one (tk := s.toks) I _ (turn_str _ x t "str_iterator" (.inr rfl)) ⟨_, Heap.get?_push_size _ rfl, rfl, rfl⟩ q)
  · exact wpAny_pyIter_ascii ha (pi_one (tk := s.toks) I _ (turn_str _ x t "str_ascii_iterator" (.inl rfl)) ⟨_, Heap.get?_push_size _ rfl, rfl, rfl⟩ q)
/-- a list, a tuple or a text walked -/
theorem si_val (ha : SE T X Wx a (evE p cal ea)) : SI T X Wx tg a (evI p cal (.val ea)) :=
  ⟨fun pins s σ H R I ⟨c, st, h, q⟩ => by
    simp only [evI] at q
    refine thn (ha.run pins s σ H _ I (one h q)) ?_
    rintro v s1 ⟨x, H1, I1, rx, c, st, w, h, r, q⟩
    have sq : (match w with | .str _ => False | _ => True) → Post T Wx (relI T) c σ H1 (if (wkOf st w).isSome then .ok (.seq w) st else .stk) R → wpAny (model X.prog X.w) X.A (pyIter v) (PIE X pins σ tg R) X.xe s1 := fun _ q => by
      cases e : wkOf st w with
      | none => simp only [e] at q; exact (show False from q).elim
      | some xs =>
        simp only [e, Option.isSome_some, if_true] at q
        have ho : okv w = true := by
          cases hk : okv w with
          | true => rfl
          | false => simp [wkOf, hk] at e
        have r' := r.rw ho
        obtain ⟨aa, vs, e1, e2, e3⟩ := wk_ok h r' e
        subst e1
        cases rx
        rcases e2 with ⟨e2, e4⟩ | ⟨e2, e4⟩
        · refine it_list I1 (SqL.of e2) (Post.ret q h (wk_seq r' fun ys hy => ?_))
          subst hy
          simp [lstOf, look] at e4
        · subst e4
          exact it_tup I1 (SqT.of e2) (Post.ret q h (wk_tup r'))
    cases w with
    | str y =>
      obtain ⟨rfl, ho⟩ := (show x = .str (tS y) ∧ tOk y = true from r)
      exact it_str I1 rx (Post.ret q h (wk_str ho))
    | _ => exact sq trivial q⟩
end
end Ev

/-! S14: enumerate of a tuple; ranges, enumerate, zip walked. -/
namespace Ev
open PySem PySem.Spec PyProof.Rows L2 Calls ClX RZ
open AutoSeq1 (wpAny_loadPart')
set_option maxHeartbeats 1000000 in
theorem meets_enumerate_newT (l : Addr) (items : Array Value) (n : Nat) (dct : Option Addr) (sl : Array (Option Value)) :
    Meets (Builtin.«enumerate.__new__» ⟨[.type "enumerate", .ref l], []⟩) (fun _ R s => s.heap.get? l = some { cls := .type "tuple", dict := dct, data := .seq items n, slots := sl } ∧
      R (.ok (.ret (.ref (s.heap.push { cls := .type "tuple_iterator", data := .fields #[.ref l, .int 0 0] }).objs.size)))
        { s with heap := (s.heap.push { cls := .type "tuple_iterator", data := .fields #[.ref l, .int 0 0] }).push { cls := .type "enumerate", data := .fields #[.none, .bool false, .ref s.heap.objs.size, rawInt 0, .none, .none] } }) :=
  .of_wp fun prog w A R s h => by
    obtain ⟨hp, g, d, tk, os⟩ := s; obtain ⟨hl, h⟩ := h
    have hsub := sub_enumerate
    have hL : Heap.IsTuple (Shared.heap ⟨hp, g, d, tk, os⟩) l items := ⟨_, hl, rfl, n, rfl⟩
    wp_walk using wpAny_loadPart' hl
    refine wpAny_stack_any fun st => wpAny_pure ?_
    split
    · rename_i c _ _ _ _ _
      cases (c == Value.type "enumerate")
      · wp_walk using wpAny_loadPart' hl, wpAny_pyIter_tuple hL
        exact ⟨_, rfl, h⟩
      · wp_walk using wpAny_loadPart' hl, wpAny_pyIter_tuple hL
        exact ⟨_, rfl, h⟩
    · wp_walk using wpAny_loadPart' hl, wpAny_pyIter_tuple hL
      exact ⟨_, rfl, h⟩
section
variable {prog : Program} {w : World} {A : Around} {E : Value → Shared → Prop} {s : Shared}
theorem call_enumerate_tuple {l : Addr} {items : Array Value} {Q : Value → Shared → Prop} (hL : s.heap.IsTuple l items)
    (h : ∀ h', IsEnum h' (s.heap.objs.size + 1) s.heap.objs.size 0 .none → h'.IsTupleIter s.heap.objs.size l 0 → h'.objs.size = s.heap.objs.size + 2 →
      (∀ b o, s.heap.get? b = some o → h'.get? b = some o) → Q (.ref (s.heap.objs.size + 1)) { s with heap := h' }) :
    wpAny (model prog w) A (call (.type "enumerate") [.ref l]) Q E s := by
  obtain ⟨⟨c, dct, dt, sl⟩, hl, hc, n, hd⟩ := hL
  replace hc : c = .type "tuple" := hc
  replace hd : dt = .seq items n := hd
  subst hc hd
  refine callType_new F.called_enumerate (by decide) (F.typeCall_enumerate_1 _) (F.newCall_enumerate_1 _) (fun obj => F.args_object_init_2 obj _) F.entry_enumerate_new
    (meets_enumerate_newT l items n dct sl) ⟨hl, ?_⟩
  have hz : (s.heap.push { cls := .type "tuple_iterator", data := .fields #[.ref l, .int 0 0] }).objs.size = s.heap.objs.size + 1 := Heap.size_push ..
  show _ ∧ _
  rw [hz]
  have he : IsEnum ((s.heap.push { cls := .type "tuple_iterator", data := .fields #[.ref l, .int 0 0] }).push
      { cls := .type "enumerate", data := .fields #[.none, .bool false, .ref s.heap.objs.size, rawInt 0, .none, .none] }) (s.heap.objs.size + 1) s.heap.objs.size 0 .none := by
    have := Heap.get?_push_size (s.heap.push { cls := .type "tuple_iterator", data := .fields #[.ref l, .int 0 0] })
      (o := { cls := .type "enumerate", data := .fields #[.none, .bool false, .ref s.heap.objs.size, rawInt 0, .none, .none] }) rfl
    rw [hz] at this; exact this
  exact ⟨⟨_, he, rfl⟩, h _ he ⟨_, Heap.get?_push_of_some _ (Heap.get?_push_size _ rfl), rfl, rfl⟩ (by rw [Heap.size_push, hz]) fun b o y => Heap.get?_push_of_some _ (Heap.get?_push_of_some _ y)⟩
/-- a tuple's iterator draws its items -/
theorem draws_tuple (hh : A.handled = none) (it l : Addr) (hne : l ≠ it) (items : Array Value) :
    Draws prog w A it [it, l] items.size (fun i x => items[i]? = some x) (fun i h => h.IsTupleIter it l i ∧ h.IsTuple l items) where
  live := fun i h st => let ⟨⟨o, ho, _⟩, _⟩ := st; ⟨o, ho⟩
  frame := fun i h h' st k => ⟨st.1.at fun o q => k it (by simp) o q, by
    obtain ⟨o, ho, hc, hd⟩ := st.2
    exact ⟨o, k l (by simp) o ho, hc, hd⟩⟩
  item := fun i s Q E hi st hQ => by
    have hx : items[i]? = some items[i] := by simp [hi]
    refine nextOf_tuple_item st.1 st.2 hx fun h' hit' sb => hQ _ h' s.toks hx ⟨hit', ?_⟩ sb
    obtain ⟨o, ho, hc, hd⟩ := st.2
    exact ⟨o, (sb.2 l hne).trans ho, hc, hd⟩
  done := fun s Q E st hE => nextOf_tuple_end hh st.1 st.2 (by simp) hE
theorem pyNext_enum_endT {e it l : Addr} {items : Array Value} {k : Nat} {i : Int} {old : Value} {Q : Option Value → Shared → Prop} (hh : A.handled = none)
    (he : IsEnum s.heap e it i old) (hit : s.heap.IsTupleIter it l k) (hl : s.heap.IsTuple l items) (hx : items[k]? = none)
    (hQ : ∀ h', Heap.ExtBut it s.heap h' → Q none { s with heap := h' }) : wpAny (model prog w) A (pyNext (.ref e)) Q E s := by
  have hT : s.TypeIs (.ref e) "enumerate" := ⟨_, he, rfl⟩
  unfold pyNext
  refine wpAny_bind (wpAny_attempt (wpAny_callSpecial?_slot (name := Str.ofString "__next__") hT F.slot_enumerate_next
    (wpAny_call_entry F.slot_enumerate_next hT F.entry_enumerate_next ?_ (F.args_enumerate_next_1 _))))
  show wpAny _ _ (field (.ref e) 2 >>= _) _ _ _
  refine wpAny_bind (wpAny_field he rfl (x := .ref it) rfl ?_)
  refine wpAny_bind (nextOf_tuple_end (A := A.in1) hh hit hl hx fun h' x he' hx' => ?_)
  obtain ⟨o, ho, hc⟩ := hx'
  refine wpAny_bind (wpAny_isInstance (T := "StopIteration") (b := true) ⟨o, ho, hc⟩ isSubtype_stop ?_)
  exact wpAny_pure (hQ _ he')
end
/-- the tuple at a, each item in a new pair -/
def IteT (K : PySem.W.Frag) (a : Addr) : It :=
  ⟨fun i H => ∃ (xs : List V) (x : V), SqT K H a xs ∧ xs[i]? = some x, fun i H v H' => ∃ T x, v = .ref T ∧ H T = none ∧ H' = upd H T (.tup [.int (i : Nat), x]) ∧ ∀ xs, SqT K H a xs → xs[i]? = some x, fun i H => ∃ xs : List V, SqT K H a xs ∧ xs.length ≤ i⟩
theorem turn_enumT {P : Program} {w : World} {K : PySem.W.Frag} {elts : List Expr} {kk : Nat} {tpos : Pos} (a e it : Addr) (hai : a ≠ it) (hae : a ≠ e) :
    Turn P w K (.Tuple elts kk tpos) (IteT K a) [e, it] e (fun i h => (∃ old, IsEnum h e it ((i : Nat) : Int) old) ∧ h.IsTupleIter it a i ∧ e ≠ it) where
  mem := by simp
  obj := fun i h st b hb => by
    obtain ⟨⟨old, he⟩, ⟨o, ho, hc, hd⟩, _⟩ := st
    have e' : b = e ∨ b = it := by simpa using hb
    rcases e' with z | z
    · rw [z]; exact ⟨_, he, fun v q => nomatch q⟩
    · rw [z]; exact ⟨o, ho, fun v q => by rw [hd] at q; cases q⟩
  keep := fun i h h' st k => let ⟨⟨old, he⟩, hi, hne⟩ := st; ⟨⟨old, k e (by simp) _ he⟩, hi.at fun o q => k it (by simp) o q, hne⟩
  item := by
    intro X hP hw hK hc i pins s σ H E I hf st hg
    subst hP hw hK
    obtain ⟨⟨old, he⟩, hit, hne⟩ := st
    obtain ⟨xs, x, hq, hx⟩ := hg
    obtain ⟨its, rv, p, hz⟩ := I.tuple hq
    obtain ⟨u, hu, ru⟩ := rv.get hx
    have hel : e < s.heap.objs.size := Heap.lt_size he
    have hil : it < s.heap.objs.size := by obtain ⟨_, q, _⟩ := hit; exact Heap.lt_size q
    have hlt : i < its.toArray.size := by
      have := (List.getElem?_eq_some_iff.mp hu).1
      simpa using this
    refine wpAny_pyNext_enum_itemD (draws_tuple (A := X.A.in1) (I.ok.hd hc) it a hai its.toArray) he ⟨hit, (show s.heap.IsTuple a its.toArray from p)⟩ hlt hne (by simp; exact ⟨hne, Ne.symm hae⟩) fun u' h' tk hu' ho hit' hT hsz hk => ?_
    obtain rfl : u = u' := by
      have : its[i]? = some u' := by simpa using hu'
      rw [hu] at this; exact Option.some.inj this
    refine ⟨_, rfl, wpAny_letOwnedTupleGo_enum (s := { s with heap := h', toks := tk + 1 }) ho fun h'' he' sb => ?_⟩
    have hT2 : h''.get? s.heap.objs.size = some { cls := .type "tuple", data := .seq #[.int i tk, u] } := (sb.2 _ (Nat.ne_of_gt hel)).trans hT
    have new : ObjOk X.prog X.w (upd H s.heap.objs.size (.tup [.int (i : Nat), x])) h'' s.heap.objs.size (.tup [.int (i : Nat), x]) :=
      ⟨by show 2 ≤ sizeLine; decide, [.int i tk, u], .cons ⟨_, rfl⟩ (.cons ru .nil), ⟨_, hT2, rfl, _, rfl⟩⟩
    have I1 : Inv X pins σ (upd H s.heap.objs.size (.tup [.int (i : Nat), x])) { s with heap := h'', toks := tk + 1 } :=
      I.turnedNew (ch := [e, it]) (fun b ob hb q => (sb.2 b (fun z => hb (by simp [z]))).trans (hk b ob (fun z => hb (by simp [z])) (fun z => hb (by simp [z])) q)) hf (Nat.le_refl _) new
    refine ⟨.ref s.heap.objs.size, _, I1, rfl, ⟨_, x, rfl, I.hok.fresh (Nat.le_refl _), rfl, fun ys hy => by rw [I.tuple_inj hy hq]; exact hx⟩, ⟨⟨u, ?_⟩, hit'.1.at fun o q => (sb.2 it (Ne.symm hne)).trans q, hne⟩, fun b hb => ?_⟩
    · have e1 : ((i + 1 : Nat) : Int) = (i : Int) + 1 := by omega
      rw [e1]; exact he'
    · have hb' : b < s.heap.objs.size := by
        have e' : b = e ∨ b = it := by simpa using hb
        rcases e' with z | z
        · rw [z]; exact hel
        · rw [z]; exact hil
      rw [upd_ne (Nat.ne_of_lt hb')]
      exact (hf b hb).1
  done := by
    intro X hP hw hK hc i pins s σ H E I hf st hg
    subst hP hw hK
    obtain ⟨⟨old, he⟩, hit, hne⟩ := st
    obtain ⟨xs, hq, hx⟩ := hg
    obtain ⟨its, rv, p, hz⟩ := I.tuple hq
    obtain ⟨f0, f1, f2, f3, f4, f5⟩ := hf it (by simp)
    have hl := rv.length
    exact pyNext_enum_endT (I.ok.hd hc) he hit (show s.heap.IsTuple a its.toArray from p) (by simp; omega) fun h' eb => ⟨rfl, I.turned (t' := s.toks) (fun b o hb q => eb b o hb q) f0 f1 f3 f4 f5⟩
  self := fun A i s Q E st h => let ⟨⟨_, he⟩, _⟩ := st; wpAny_pyIter_enum he h
section
variable {T : Tb} {X : Cx} {Wx : WX} {p : Pg} {cal : Bool → Nat → List W → List OO → RC} {c : Cf} {st : St} {σ : L2.St} {H : Hp} {pins : List (Addr × Obj)} {s : Shared} {k : Nat}
variable {a b d e tg : Expr} {ea eb ed : E} {pos : Pos}
theorem wk_enuT {xs : List W} {aa : Addr} (r : RW T c.lv c.nf H (.tup xs) (.ref aa)) : Wk T c H (.enu (.tup xs)) (IteT X.K aa) := fun c1 st1 σ1 H1 i S h1 => by
  have r1 := r.mono S
  obtain ⟨_, vs, e1, g1, _, g2⟩ : ∃ a vs, V.ref aa = .ref a ∧ H1 a = some (.tup vs) ∧ ¬ c1.nf a ∧ RWs T c1.lv c1.nf H1 xs vs := by simpa [RW] using r1
  cases e1
  refine ⟨fun e => ?_, fun w' e => ?_⟩
  · have e2 : xs[i]? = none := by simpa [Src.at, wkOf, seqOf, okv] using e
    exact ⟨vs, SqT.of g1, by rw [← g2.len]; exact List.getElem?_eq_none_iff.mp e2⟩
  · have e2 : ∃ x, xs[i]? = some x ∧ W.tup [.int i, x] = w' := by
      simp only [Src.at, wkOf, okv, if_true, seqOf, Option.map_some, Option.some.injEq, Option.map_eq_some_iff] at e
      exact e
    obtain ⟨x, e2, rfl⟩ := e2
    obtain ⟨v, g3, g4⟩ := g2.get e2
    refine ⟨⟨vs, v, SqT.of g1, g3⟩, ?_⟩
    rintro v' H' ⟨q, x', rfl, hq, rfl, hy⟩
    have := hy vs (SqT.of g1)
    rw [g3] at this; cases this
    exact new_pair (x := .int i) h1 hq rfl g4
theorem si_enu {elts : List Expr} {kk : Nat} {tpos np : Pos} (hg : Gl X "enumerate") (hm : X.mg "enumerate" = none) (hs : notStar a = true) (ha : SE T X Wx a (evE p cal ea)) :
    SI T X Wx (.Tuple elts kk tpos) (.Call (.Name "enumerate" np) [a] [] pos) (evI p cal (.enu ea none)) :=
  ⟨fun pins s σ H R I ⟨c, st, h, q⟩ => by
    simp only [evI] at q
    have hA : SA T X Wx [a] (evEs p cal [ea]) := sa_cons ha sa_nil (star_ok hs)
    have q' : Post T Wx (relI T) c σ H ((evEs p cal [ea] st).bind fun ws st1 => match ws with
      | [w] => if (wkOf st1 w).isSome then .ok (.enu w) st1 else .stk
      | _ => .stk) R := by
      simp only [evEs]
      revert q
      cases evE p cal ea st <;> exact fun q => q
    refine Call_ (ld_blt I hg hm boot_enumerate (PyProof.Rows.callWith_type1 (thn (hA.run pos pins s σ H _ I (oneA h q')) ?_) (star_ok hs) rfl))
    rintro us s1 ⟨vs, H1, I1, rv, c, st, ws, h, ra, q⟩
    match ws, ra, q with
    | [w], ra, q =>
      obtain ⟨v, rfl, r⟩ := relA_one ra
      obtain ⟨u, rfl, ru⟩ := Vals.one rv
      cases e : wkOf st w with
      | none => simp only [e] at q; exact (show False from q).elim
      | some xs =>
      simp only [e, Option.isSome_some, if_true] at q
      have ho : okv w = true := by
        cases hk : okv w with
        | true => rfl
        | false => simp [wkOf, hk] at e
      have r' := r.rw ho
      obtain ⟨aa, ys, e1, e2, e3⟩ := wk_ok h r' e
      subst e1
      cases ru
      have fp : ∀ b, b ∈ [s1.heap.objs.size + 1, s1.heap.objs.size] → FpOk X pins H1 b := fun b hb => by
        have e' : b = s1.heap.objs.size + 1 ∨ b = s1.heap.objs.size := by simpa using hb
        have hle : s1.heap.objs.size ≤ b := by rcases e' with z | z <;> omega
        exact I1.fpOk hle (I1.hok.fresh hle)
      rcases e2 with ⟨e2, e4⟩ | ⟨e2, e4⟩
      · obtain ⟨its, rv', p', hz⟩ := I1.list (SqL.of e2)
        refine call_enumerate_list p'.isList fun h' he hit hsz hk => wpAny_pyIter_enum he ?_
        have I2 : Inv X pins σ H1 { s1 with heap := h' } := I1.kept (t' := s1.toks) hk
        refine ⟨s1.heap.objs.size + 1, [s1.heap.objs.size + 1, s1.heap.objs.size], _, _, H1, rfl, I2, turn_enum aa (s1.heap.objs.size + 1) s1.heap.objs.size, ⟨⟨.none, he⟩, hit, Nat.succ_ne_self _⟩, fp, Post.ret q h (wk_enu r' fun ys hy => ?_)⟩
        subst hy
        simp [lstOf, look] at e4
      · subst e4
        obtain ⟨its, rv', p', hz⟩ := I1.tuple (SqT.of e2)
        have la : aa < s1.heap.objs.size := by
          obtain ⟨o, ho, _⟩ := (show s1.heap.IsTuple aa its.toArray from p')
          exact Heap.lt_size ho
        refine call_enumerate_tuple (show s1.heap.IsTuple aa its.toArray from p') fun h' he hit hsz hk => wpAny_pyIter_enum he ?_
        have I2 : Inv X pins σ H1 { s1 with heap := h' } := I1.kept (t' := s1.toks) hk
        exact ⟨s1.heap.objs.size + 1, [s1.heap.objs.size + 1, s1.heap.objs.size], _, _, H1, rfl, I2, turn_enumT aa (s1.heap.objs.size + 1) s1.heap.objs.size (Nat.ne_of_lt la) (Nat.ne_of_lt (Nat.lt_succ_of_lt la)), ⟨⟨.none, he⟩, hit, Nat.succ_ne_self _⟩, fp, Post.ret q h (wk_enuT r')⟩
    | [], ra, q => exact (show False from q).elim
    | _ :: _ :: _, ra, q => exact (show False from q).elim⟩
theorem si_zip {b : Expr} {elts : List Expr} {kk : Nat} {tpos np : Pos} (hg : Gl X "zip") (hm : X.mg "zip" = none) (hs : notStar a = true) (hs2 : notStar b = true) (ha : SE T X Wx a (evE p cal ea)) (hb : SE T X Wx b (evE p cal eb)) :
    SI T X Wx (.Tuple elts kk tpos) (.Call (.Name "zip" np) [a, b] [] pos) (evI p cal (.zip ea eb)) :=
  PI.imp (pi_zipA hg hm (sa_cons ha (sa_cons hb sa_nil (star_ok hs2)) (star_ok hs)) (star_ok hs) (star_any (by simp [hs2]))) fun σ H R ⟨c, st, h, q⟩ => by
    simp only [evI] at q
    have q' : Post T Wx (relI T) c σ H ((evEs p cal [ea, eb] st).bind fun ws st2 => match ws with
      | [x, y] => if (Src.at st2 0 (.zip x y)).isSome then .ok (.zip x y) st2 else .stk
      | _ => .stk) R := by
      simp only [evEs]
      revert q
      cases evE p cal ea st with
      | ok x st1 =>
        simp only [Ev.R.bind]
        cases evE p cal eb st1 <;> exact fun q => q
      | exc x st1 => exact fun q => q
      | stk => exact fun q => q
    obtain ⟨c0, st0, h0, q0⟩ := oneA h q'
    refine ⟨c0, st0, h0, q0.mono fun vs H1 ⟨c, st, ws, h, ra, q⟩ => ?_⟩
    match ws, ra, q with
    | [x, y], ra, q =>
      obtain ⟨v, u, rfl, r1, r2⟩ := relA_two ra
      cases e : (Src.at st 0 (.zip x y)).isSome with
      | false => simp only [e] at q; exact (show False from q).elim
      | true =>
      simp only [e, if_true] at q
      by_cases ht : ∃ xs ys, x = .tup xs ∧ y = .tup ys
      · obtain ⟨xs, ys, rfl, rfl⟩ := ht
        have r1' := r1.rw rfl
        have r2' := r2.rw rfl
        obtain ⟨aa, us, e1, g1, _, g2⟩ : ∃ a vs, v = .ref a ∧ H1 a = some (.tup vs) ∧ ¬ c.nf a ∧ RWs T c.lv c.nf H1 xs vs := by simpa [RW] using r1'
        obtain ⟨bb, zs, e2, g3, _, g4⟩ : ∃ a vs, u = .ref a ∧ H1 a = some (.tup vs) ∧ ¬ c.nf a ∧ RWs T c.lv c.nf H1 ys vs := by simpa [RW] using r2'
        subst e1 e2
        exact ⟨aa, bb, us, zs, rfl, .inr ⟨SqT.of g1, SqT.of g3, Post.ret q h (wk_zipT r1' r2')⟩⟩
      · have ht' : ∀ xs ys, ¬ (x = .tup xs ∧ y = .tup ys) := fun xs ys z => ht ⟨xs, ys, z.1, z.2⟩
        have ea' : Src.at st 0 (.zip x y) = (wlOf st x).bind fun xs => (wlOf st y).map fun ys => match xs[0]?, ys[0]? with | some x, some y => some (.tup [x, y]) | _, _ => none := by
          cases x <;> cases y <;> first | rfl | exact (ht' _ _ ⟨rfl, rfl⟩).elim
        rw [ea'] at e
        cases f1 : wlOf st x with
        | none => simp [f1] at e
        | some xs =>
        cases f2 : wlOf st y with
        | none => simp [f1, f2] at e
        | some ys =>
        have o1 : okv x = true := by cases hk : okv x <;> simp_all [wlOf]
        have o2 : okv y = true := by cases hk : okv y <;> simp_all [wlOf]
        have r1' := r1.rw o1
        have r2' := r2.rw o2
        obtain ⟨aa, us, e1, g1, g2⟩ := wl_ok h r1' f1
        obtain ⟨bb, zs, e2, g3, g4⟩ := wl_ok h r2' f2
        subst e1 e2
        exact ⟨aa, bb, us, zs, rfl, .inl ⟨SqL.of g1, SqL.of g3, Post.ret q h (wk_zip r1' r2' ht')⟩⟩
    | [], ra, q => exact (show False from q).elim
    | [_], ra, q => exact (show False from q).elim
    | _ :: _ :: _ :: _, ra, q => exact (show False from q).elim
theorem evEs1 {st st1 : St} {ws : List W} (e : evEs p cal [ea] st = .ok ws st1) : ∃ w, ws = [w] := by
  simp only [evEs] at e
  cases e1 : evE p cal ea st with
  | ok w st2 => simp only [e1, Ev.R.bind] at e; cases e; exact ⟨w, rfl⟩
  | exc x st2 => simp only [e1, Ev.R.bind] at e; cases e
  | stk => simp only [e1, Ev.R.bind] at e; cases e
theorem evEs2 {st st1 : St} {ws : List W} (e : evEs p cal [ea, eb] st = .ok ws st1) : ∃ w w2, ws = [w, w2] := by
  simp only [evEs] at e
  cases e1 : evE p cal ea st with
  | ok w st2 =>
    simp only [e1, Ev.R.bind] at e
    cases e2 : evE p cal eb st2 with
    | ok w2 st3 => simp only [e2] at e; cases e; exact ⟨w, w2, rfl⟩
    | exc x st3 => simp only [e2] at e; cases e
    | stk => simp only [e2] at e; cases e
  | exc x st2 => simp only [e1, Ev.R.bind] at e; cases e
  | stk => simp only [e1, Ev.R.bind] at e; cases e
theorem oneA' {γ δ : Type} {rel2 : Cf → Hp → γ → δ → Prop} {Q : δ → Hp → Prop} {ma : St → Ev.R (List W)} {f : List W → St → Ev.R γ} (h : RSt T c st σ H) (q : Post T Wx rel2 c σ H ((ma st).bind f) Q) :
    rdA T Wx ma σ H fun vs H => ∃ c' st' ws, ma st = .ok ws st' ∧ RSt T c' st' σ H ∧ relA T σ c' H ws vs ∧ Post T Wx rel2 c' σ H (f ws st') Q := by
  refine ⟨c, st, h, ?_⟩
  cases e : ma st with
  | ok ws st1 =>
    simp only [e, Ev.R.bind] at q
    exact fun b H' c' s' h' r' => ⟨c', st1, ws, rfl, h', r', q.from s'⟩
  | exc x st1 => simp only [e, Ev.R.bind] at q; exact q
  | stk => simp only [e, Ev.R.bind] at q; exact q
theorem si_rng1 {np : Pos} (hg : Gl X "range") (hm : X.mg "range" = none) (hs : notStar a = true) (ha : SE T X Wx a (evE p cal ea)) :
    SI T X Wx tg (.Call (.Name "range" np) [a] [] pos) (evI p cal (.rng [ea])) :=
  PI.imp (pi_range1 hg hm (sa_cons ha sa_nil (star_ok hs)) (star_ok hs)) fun σ H R ⟨c, st, h, q⟩ => by
    simp only [evI] at q
    obtain ⟨c0, st0, h0, q0⟩ := oneA' h q
    refine ⟨c0, st0, h0, q0.mono fun vs H1 ⟨c, st, ws, e0, h, ra, q⟩ => ?_⟩
    obtain ⟨w, rfl⟩ := evEs1 e0
    obtain ⟨v, rfl, r⟩ := relA_one ra
    obtain ⟨q1, e, q⟩ := lift_some q
    cases w <;> first | (simp [rngW] at e; done) | skip
    rename_i j
    cases r
    simp only [rngW] at e
    by_cases hj : -(2 ^ 62) ≤ j ∧ j < 2 ^ 62
    · rw [if_pos hj] at e
      cases e
      refine ⟨j, rfl, hj.1, hj.2, Post.ret q h ?_⟩
      have := wk_rng (T := T) (c := c) (H := H1) (lo := 0) (n := j.toNat)
      simp only [Int.zero_add] at this
      exact this
    · rw [if_neg hj] at e; cases e
theorem si_rng2 {b : Expr} {np : Pos} (hg : Gl X "range") (hm : X.mg "range" = none) (hs : notStar a = true) (hs2 : notStar b = true) (ha : SE T X Wx a (evE p cal ea)) (hb : SE T X Wx b (evE p cal eb)) :
    SI T X Wx tg (.Call (.Name "range" np) [a, b] [] pos) (evI p cal (.rng [ea, eb])) :=
  PI.imp (pi_range2 hg hm (sa_cons ha (sa_cons hb sa_nil (star_ok hs2)) (star_ok hs)) (by rw [star_ok hs, star_ok hs2]; rfl) (by rw [star_ok hs2]; rfl)) fun σ H R ⟨c, st, h, q⟩ => by
    simp only [evI] at q
    obtain ⟨c0, st0, h0, q0⟩ := oneA' h q
    refine ⟨c0, st0, h0, q0.mono fun vs H1 ⟨c, st, ws, e0, h, ra, q⟩ => ?_⟩
    obtain ⟨w, w2, rfl⟩ := evEs2 e0
    obtain ⟨v, v2, rfl, r, r2⟩ := relA_two ra
    obtain ⟨q1, e, q⟩ := lift_some q
    cases w <;> cases w2 <;> first | (simp [rngW] at e; done) | skip
    rename_i i j
    cases r
    cases r2
    simp only [rngW] at e
    by_cases hj : -(2 ^ 62) ≤ i ∧ i < 2 ^ 62 ∧ -(2 ^ 62) ≤ j ∧ j < 2 ^ 62
    · rw [if_pos hj] at e
      cases e
      exact ⟨i, j, rfl, hj, Post.ret q h (wk_rng (T := T) (c := c) (H := H1) (lo := i) (n := (j - i).toNat))⟩
    · rw [if_neg hj] at e; cases e
end
end Ev

/-! S15: targets. -/
namespace Ev
open PySem PySem.Spec PyProof.Rows L2 Calls ClX RZ
/-- slot i holds no own object any more -/
def Cf.drop (c : Cf) (i : Nat) : Cf := ⟨c.lv, fun j => if j = i then none else c.ow j, c.ou⟩
section
variable {T : Tb} {X : Cx} {Wx : WX} {p : Pg} {cal : Bool → Nat → List W → List OO → RC} {c : Cf} {st : St} {σ : L2.St} {H : Hp} {pins : List (Addr × Obj)} {s : Shared} {k : Nat}
theorem drop_mu {i : Nat} {a : Addr} (m : (c.drop i).mu a) : c.mu a := by
  rcases m with m | ⟨j, m⟩
  · exact .inl m
  · refine .inr ⟨j, ?_⟩
    unfold Cf.drop at m
    simp only at m
    split at m
    · cases m
    · exact m
theorem Stp.drop {i : Nat} : Stp c H (c.drop i) H := ⟨fun _ _ e _ _ => e, fun _ m => .inl (drop_mu m), fun _ _ e => e, rfl, fun _ o e _ => ⟨o, e, rfl⟩, fun j a e => .inl (by
  unfold Cf.drop at e
  simp only at e
  split at e
  · cases e
  · exact e)⟩
/-- a name takes a value -/
theorem RSt.setV (h : RSt T c st σ H) {i : Nat} {w : W} {v : V} (hi : i < st.r.length) (r : RW T c.lv c.nf H w v) : RSt T (c.drop i) ⟨st.r.set i (.val w), st.s⟩ (σ.set i (some v)) H := by
  have m := (Stp.drop (c := c) (H := H) (i := i)).mn
  have hi' : i < σ.length := by rw [← h.len]; exact hi
  refine ⟨by simp [h.len], fun j w' e => ?_, fun j o e => ?_, fun j a e => ?_, fun j j' a e e' => ?_, fun j a e => ?_, fun a q z => h.ou a q (drop_mu z), h.ouh, ⟨h.sto.len, h.sto.nd, fun n o a e1 e2 => (h.sto.at_ n o a e1 e2).mono m rfl⟩⟩
  · by_cases hj : i = j
    · subst hj
      rw [List.getElem?_set_self hi] at e
      cases e
      exact ⟨v, List.getElem?_set_self hi', r.mono m⟩
    · rw [List.getElem?_set_ne hj] at e
      obtain ⟨v', e1, r'⟩ := h.val j w' e
      exact ⟨v', by rw [List.getElem?_set_ne hj]; exact e1, r'.mono m⟩
  · by_cases hj : i = j
    · subst hj
      rw [List.getElem?_set_self hi] at e
      cases e
    · rw [List.getElem?_set_ne hj] at e
      obtain ⟨a, e1, e2, r'⟩ := h.own j o e
      exact ⟨a, by unfold Cf.drop; simp only; rw [if_neg (Ne.symm hj)]; exact e1, by rw [List.getElem?_set_ne hj]; exact e2, r'.mono m rfl⟩
  · unfold Cf.drop at e
    simp only at e
    split at e
    · cases e
    · rename_i hj
      obtain ⟨o, e1⟩ := h.back j a e
      exact ⟨o, by rw [List.getElem?_set_ne (Ne.symm hj)]; exact e1⟩
  · unfold Cf.drop at e e'
    simp only at e e'
    split at e
    · cases e
    · split at e'
      · cases e'
      · exact h.inj j j' a e e'
  · unfold Cf.drop at e
    simp only at e
    split at e
    · cases e
    · exact h.dis j a e
/-! ### targets -/
/-- what a target does -/
def rdG (T : Tb) (t : Tg) : TG := fun v σ H Q => ∃ c st w, RSt T c st σ H ∧ RW T c.lv c.nf H w v ∧ ∃ r', tgW t w st.r = some r' ∧
  ∀ σ' c', Stp c H c' H → RSt T c' ⟨r', st.s⟩ σ' H → σ'.length = σ.length → (∀ i, i ∉ tgIx t → σ'[i]? = σ[i]?) → Q σ' H
def SG (T : Tb) (X : Cx) (tg : Expr) (t : Tg) : Prop := PG X tg (rdG T t)
theorem PG.imp {X : Cx} {tg : Expr} {t t' : TG} (h : PG X tg t) (q : ∀ v σ H Q, t' v σ H Q → t v σ H Q) : PG X tg t' := ⟨fun pins s σ H v u Q I r z => h.run pins s σ H v u Q I r (q _ _ _ _ z)⟩
theorem sg_nam {i : Nat} {x : Str} {pos : Pos} (hN : X.N.Nodup) (hi : X.N[i]? = some x) (hx : Loc X.env.scope x) (hf : X.fn x = true ∨ X.env.scope.names.lookup x = some .local) : SG T X (.Name x pos) (.nam i) :=
  PG.imp (pg_name hN hi hx hf) fun v σ H Q ⟨c, st, w, h, r, r', e, q⟩ => by
    simp only [tgW] at e
    by_cases hc : i < st.r.length ∧ okv w = true
    · rw [if_pos (by simpa using hc)] at e
      cases e
      exact q _ _ Stp.drop (h.setV hc.1 r) (by simp) fun j hj => by
        have : i ≠ j := fun z => hj (by simp [tgIx, z])
        rw [List.getElem?_set_ne this]
    · rw [if_neg (by simpa using hc)] at e
      cases e
def rdGs (T : Tb) (ts : List Tg) : TGs := fun vs σ H Q => ∃ c st ws, RSt T c st σ H ∧ RWs T c.lv c.nf H ws vs ∧ ∃ r', tgW.tgWs ts ws st.r = some r' ∧
  ∀ σ' c', Stp c H c' H → RSt T c' ⟨r', st.s⟩ σ' H → σ'.length = σ.length → (∀ i, i ∉ tgIx.tgIxs ts → σ'[i]? = σ[i]?) → Q σ' H
def SGs (T : Tb) (X : Cx) (es : List Expr) (ts : List Tg) : Prop := PGs X es (rdGs T ts)
theorem sgs_nil : SGs T X [] [] := ⟨fun pins s σ H vs us Q I r ⟨c, st, ws, h, rr, r', e, q⟩ => by
  refine pgs_nil.run pins s σ H vs us Q I r ?_
  cases ws with
  | nil =>
    simp only [tgW.tgWs] at e
    cases e
    simp only [RWs] at rr
    exact ⟨rr, q σ c Stp.refl h rfl fun _ _ => rfl⟩
  | cons w ws => simp [tgW.tgWs] at e⟩
theorem sgs_cons {e : Expr} {es : List Expr} {t : Tg} {ts : List Tg} (h1 : SG T X e t) (h2 : SGs T X es ts) (hs : (assignEach (e :: es) X.env).map (·.2) = assign e X.env :: (assignEach es X.env).map (·.2)) : SGs T X (e :: es) (t :: ts) :=
  ⟨fun pins s σ H vs us Q I r ⟨c, st, ws, h, rr, r', e', q⟩ => by
    refine (pgs_cons h1 h2 hs).run pins s σ H vs us Q I r ?_
    cases ws with
    | nil => simp [tgW.tgWs] at e'
    | cons w ws =>
      simp only [RWs] at rr
      obtain ⟨v, vr, rfl, g1, g2⟩ := rr
      simp only [tgW.tgWs] at e'
      cases e1 : tgW t w st.r with
      | none => simp [e1] at e'
      | some r1 =>
        simp only [e1, Option.bind_some] at e'
        refine ⟨v, vr, rfl, c, st, w, h, g1, r1, e1, fun σ1 c1 S1 h1 l1 n1 => ?_⟩
        refine ⟨c1, ⟨r1, st.s⟩, ws, h1, g2.mono S1.mn, r', e', fun σ2 c2 S2 h2 l2 n2 => ?_⟩
        refine q σ2 c2 (S1.trans S2) h2 (l2.trans l1) fun i hi => ?_
        simp only [tgIx.tgIxs, List.mem_append, not_or] at hi
        rw [n2 i hi.2, n1 i hi.1]⟩
theorem tgWs_len : ∀ {ts : List Tg} {ws : List W} {r r' : List Sl}, tgW.tgWs ts ws r = some r' → ws.length = ts.length
  | [], [], _, _, _ => rfl
  | [], _ :: _, _, _, e => by simp [tgW.tgWs] at e
  | _ :: _, [], _, _, e => by simp [tgW.tgWs] at e
  | t :: ts, w :: ws, r, r', e => by
    simp only [tgW.tgWs] at e
    cases e1 : tgW t w r with
    | none => simp [e1] at e
    | some r1 =>
      simp only [e1, Option.bind_some] at e
      simp [tgWs_len e]
/-- a, b, .. = a tuple -/
theorem sg_tup {es : List Expr} {kk : Nat} {pos : Pos} {ts : List Tg} (hc : X.calm = true) (h : SGs T X es ts) (hn : (assignEach es X.env).length = ts.length) (hst : (assignEach es X.env).findIdx? (·.1) = none) : SG T X (.Tuple es kk pos) (.tup ts) :=
  PG.imp (pg_tup hc h hn hst) fun v σ H Q ⟨c, st, w, hh, r, r', e, q⟩ => by
    cases w <;> first | (simp [tgW] at e; done) | skip
    rename_i xs
    simp only [tgW] at e
    obtain ⟨a, vs, rfl, g1, _, g2⟩ : ∃ a vs, v = .ref a ∧ H a = some (.tup vs) ∧ ¬ c.nf a ∧ RWs T c.lv c.nf H xs vs := by simpa [RW] using r
    exact ⟨a, vs, rfl, SqT.of g1, by rw [← g2.len]; exact tgWs_len e, c, st, xs, hh, g2, r', e, q⟩
end
end Ev

/-! S16: a comprehension's names. -/
namespace Ev
open PySem PySem.Spec PyProof.Rows L2 Calls ClX RZ
section
variable {T : Tb} {c c1 : Cf} {st : St} {σ : L2.St} {H H1 : Hp}
theorem RSt.unset (h : RSt T c st σ H) {i : Nat} (hi : ∀ o, st.r[i]? ≠ some (.own o)) : RSt T c ⟨st.r.set i .un, st.s⟩ (σ.set i none) H := by
  refine ⟨by simp [h.len], fun j w e => ?_, fun j o e => ?_, fun j a e => ?_, h.inj, h.dis, h.ou, h.ouh, h.sto⟩
  · by_cases hj : i = j
    · subst hj
      have l : i < st.r.length := by
        have := (List.getElem?_eq_some_iff.mp e).1
        simpa using this
      rw [List.getElem?_set_self l] at e
      cases e
    · rw [List.getElem?_set_ne hj] at e
      obtain ⟨v, e1, r⟩ := h.val j w e
      exact ⟨v, by rw [List.getElem?_set_ne hj]; exact e1, r⟩
  · by_cases hj : i = j
    · subst hj
      have l : i < st.r.length := by
        have := (List.getElem?_eq_some_iff.mp e).1
        simpa using this
      rw [List.getElem?_set_self l] at e
      cases e
    · rw [List.getElem?_set_ne hj] at e
      obtain ⟨a, e1, e2, r⟩ := h.own j o e
      exact ⟨a, e1, by rw [List.getElem?_set_ne hj]; exact e2, r⟩
  · obtain ⟨o, e1⟩ := h.back j a e
    have hj : i ≠ j := fun z => by subst z; exact hi o e1
    exact ⟨o, by rw [List.getElem?_set_ne hj]; exact e1⟩
theorem wipeS_len (r : List Sl) : ∀ is, (Ev.wipe r is).length = r.length
  | [] => rfl
  | i :: is => by simp [Ev.wipe, wipeS_len r is]
theorem wipeS_get (r : List Sl) (j : Nat) : ∀ is, (j ∉ is → (Ev.wipe r is)[j]? = r[j]?) ∧ (j ∈ is → ∀ x, (Ev.wipe r is)[j]? = some x → x = .un)
  | [] => ⟨fun _ => rfl, fun h => by simp at h⟩
  | i :: is => by
    obtain ⟨h1, h2⟩ := wipeS_get r j is
    refine ⟨fun hn => ?_, fun hm x e => ?_⟩
    · simp only [List.mem_cons, not_or] at hn
      simp only [Ev.wipe]
      rw [List.getElem?_set_ne (Ne.symm hn.1)]
      exact h1 hn.2
    · simp only [Ev.wipe] at e
      by_cases hj : i = j
      · subst hj
        have l : i < (Ev.wipe r is).length := by
          have := (List.getElem?_eq_some_iff.mp e).1
          simpa using this
        rw [List.getElem?_set_self l] at e
        cases e; rfl
      · rw [List.getElem?_set_ne hj] at e
        rcases List.mem_cons.mp hm with z | z
        · exact (hj z.symm).elim
        · exact h2 z x e
theorem noOwn_at {r : List Sl} : ∀ {is : List Nat}, noOwn r is = true → ∀ i ∈ is, ∀ o, r[i]? ≠ some (.own o)
  | [], _, _, h, _, _ => by simp at h
  | j :: is, h, i, hm, o, e => by
    simp only [noOwn, Bool.and_eq_true] at h
    rcases List.mem_cons.mp hm with z | z
    · subst z
      rw [e] at h
      simp at h
    · exact noOwn_at h.2 i z o e
theorem noOwn_lt {r : List Sl} : ∀ {is : List Nat}, noOwn r is = true → ∀ i ∈ is, i < r.length
  | [], _, _, h => by simp at h
  | j :: is, h, i, hm => by
    simp only [noOwn, Bool.and_eq_true] at h
    rcases List.mem_cons.mp hm with z | z
    · subst z
      cases e : r[i]? with
      | none => rw [e] at h; simp at h
      | some x => exact (List.getElem?_eq_some_iff.mp e).1
    · exact noOwn_lt h.2 i z
theorem RSt.wipe (h : RSt T c st σ H) : ∀ {is : List Nat}, noOwn st.r is = true → RSt T c ⟨Ev.wipe st.r is, st.s⟩ (L2.wipe σ is) H
  | [], _ => h
  | i :: is, hn => by
    have hn' := hn
    simp only [noOwn, Bool.and_eq_true] at hn'
    have ih := RSt.wipe h hn'.2
    refine RSt.unset (i := i) ih fun o e => ?_
    by_cases hm : i ∈ is
    · cases (wipeS_get st.r i is).2 hm _ e
    · rw [(wipeS_get st.r i is).1 hm] at e
      exact noOwn_at hn i (by simp) o e
theorem backS_len (r0 r1 : List Sl) : ∀ is, (backS is r0 r1).length = r1.length
  | [] => rfl
  | i :: is => by simp [backS, backS_len r0 r1 is]
theorem backS_get {r0 r1 : List Sl} (hl : r1.length = r0.length) (j : Nat) : ∀ {is : List Nat}, (∀ i ∈ is, i < r0.length) → (backS is r0 r1)[j]? = if j ∈ is then r0[j]? else r1[j]?
  | [], _ => by simp [backS]
  | i :: is, h => by
    have ih := backS_get hl j (is := is) fun x hx => h x (List.mem_cons_of_mem _ hx)
    simp only [backS]
    by_cases hj : i = j
    · subst hj
      have l : i < (backS is r0 r1).length := by rw [backS_len, hl]; exact h i (by simp)
      rw [List.getElem?_set_self l, if_pos (by simp)]
      have l0 := h i (by simp)
      rw [List.getD_eq_getElem?_getD, List.getElem?_eq_getElem l0]
      rfl
    · rw [List.getElem?_set_ne hj, ih]
      by_cases hm : j ∈ is
      · rw [if_pos hm, if_pos (List.mem_cons_of_mem _ hm)]
      · rw [if_neg hm, if_neg]
        intro z
        rcases List.mem_cons.mp z with z | z
        · exact hj z.symm
        · exact hm z
/-- behind the block the outer slots stand again -/
theorem RSt.backw (h : RSt T c st σ H) {is : List Nat} {r5 : List Sl} {s5 : List OO} (S : Mn c.lv c.nf H c1.lv c1.nf H1) (hn : noOwn st.r is = true) (h1 : RSt T c1 ⟨Ev.wipe r5 is, s5⟩ (L2.wipe σ is) H1) : RSt T c1 ⟨backS is st.r r5, s5⟩ σ H1 := by
  have hl : r5.length = st.r.length := by
    have e := h1.len
    simp only at e
    rw [wipeS_len, L2.wipe_length] at e
    rw [e, h.len]
  have g : ∀ j, (backS is st.r r5)[j]? = if j ∈ is then st.r[j]? else r5[j]? := fun j => backS_get hl j fun i hi => noOwn_lt hn i hi
  refine ⟨by simp only; rw [backS_len, hl, h.len], fun j w e => ?_, fun j o e => ?_, fun j a e => ?_, h1.inj, h1.dis, h1.ou, h1.ouh, h1.sto⟩
  · simp only at e
    rw [g] at e
    by_cases hm : j ∈ is
    · rw [if_pos hm] at e
      obtain ⟨v, e1, r⟩ := h.val j w e
      exact ⟨v, e1, r.mono S⟩
    · rw [if_neg hm] at e
      obtain ⟨v, e1, r⟩ := h1.val j w (by simp only; rw [(wipeS_get r5 j is).1 hm]; exact e)
      exact ⟨v, (L2.wipe_some e1).1, r⟩
  · simp only at e
    rw [g] at e
    by_cases hm : j ∈ is
    · rw [if_pos hm] at e
      exact (noOwn_at hn j hm o e).elim
    · rw [if_neg hm] at e
      obtain ⟨a, e1, e2, r⟩ := h1.own j o (by simp only; rw [(wipeS_get r5 j is).1 hm]; exact e)
      exact ⟨a, e1, (L2.wipe_some e2).1, r⟩
  · obtain ⟨o, e1⟩ := h1.back j a e
    simp only at e1
    have hm : j ∉ is := fun z => by cases (wipeS_get r5 j is).2 z _ e1
    rw [(wipeS_get r5 j is).1 hm] at e1
    exact ⟨o, by simp only; rw [g, if_neg hm]; exact e1⟩
end
end Ev

/-! S17: list comprehensions. -/
namespace Ev
open PySem PySem.Spec PyProof.Rows L2 Calls ClX RZ
def Cf.shut (c : Cf) (ou : Addr → Prop) : Cf := ⟨c.lv, c.ow, ou⟩
section
variable {T : Tb} {X : Cx} {Wx : WX} {p : Pg} {cal : Bool → Nat → List W → List OO → RC} {c c1 : Cf} {st : St} {σ : L2.St} {H H1 : Hp} {pins : List (Addr × Obj)} {s : Shared} {k : Nat} {D : Addr}
/-- the list at D is written, D open and not the evaluator's -/
theorem RSt.wrt (h : RSt T c st σ H) (hD : c.ou D) {o : HO} (hkd : ∀ u, H D = some u → isIns o = isIns u) : RSt T c st σ (upd H D o) := by
  have nD : ¬ c.mu D := h.ou D hD
  have m : Mn c.lv c.nf H c.lv c.nf (upd H D o) := ⟨fun a u e _ n => by
    have z : a ≠ D := fun z => by subst z; exact n (.inr hD)
    rw [upd_ne z]; exact e, fun _ q => .inl q, fun _ _ e => e, fun b f e => by
    by_cases hb : b = D
    · subst hb
      rw [upd_same, isIns_ext (hkd _ e)]
    · rw [upd_ne hb]; exact e⟩
  have ke : ∀ a, a ≠ D → upd H D o a = H a := fun a n => upd_ne n
  refine ⟨h.len, fun i w e => ?_, fun i u e => ?_, h.back, h.inj, h.dis, h.ou, fun a q => ?_, ⟨h.sto.len, h.sto.nd, fun n u a e1 e2 => ?_⟩⟩
  · obtain ⟨v, e1, r⟩ := h.val i w e
    exact ⟨v, e1, r.mono m⟩
  · obtain ⟨a, e1, e2, r⟩ := h.own i u e
    exact ⟨a, e1, e2, r.mono m (ke a fun z => nD (z ▸ .inr ⟨i, e1⟩))⟩
  · by_cases z : a = D
    · subst z
      obtain ⟨u, e, t⟩ := h.ouh a q
      exact ⟨_, upd_same, by rw [isIns_tb (hkd u e)]; exact t⟩
    · obtain ⟨u, e, t⟩ := h.ouh a q
      exact ⟨u, by rw [upd_ne z]; exact e, t⟩
  · have r := h.sto.at_ n u a e1 e2
    exact r.mono m (ke a fun z => nD (z ▸ .inl (List.mem_of_getElem? e2)))
theorem RWs.wrt (h : RSt T c st σ H) (hD : c.ou D) {o : HO} (hkd : ∀ u, H D = some u → isIns o = isIns u) {ws : List W} {vs : List V} (r : RWs T c.lv c.nf H ws vs) : RWs T c.lv c.nf (upd H D o) ws vs :=
  r.mono ⟨fun a u e _ n => by
    have z : a ≠ D := fun z => by subst z; exact n (.inr hD)
    rw [upd_ne z]; exact e, fun _ q => .inl q, fun _ _ e => e, fun b f e => by
    by_cases hb : b = D
    · subst hb
      rw [upd_same, isIns_ext (hkd _ e)]
    · rw [upd_ne hb]; exact e⟩
/-- D is let go: the new list is a frozen one -/
theorem RSt.shut (h : RSt T c1 st σ H1) {ou : Addr → Prop} (ho : ∀ a, ou a → c1.ou a) : RSt T (c1.shut ou) st σ H1 := by
  have m : Mn c1.lv c1.nf H1 (c1.shut ou).lv (c1.shut ou).nf H1 := ⟨fun _ _ e _ _ => e, fun a q => by
    rcases q with q | q
    · exact .inl (.inl q)
    · exact .inl (.inr (ho a q)), fun _ _ e => e, fun _ _ e => e⟩
  refine ⟨h.len, fun i w e => ?_, fun i u e => ?_, h.back, h.inj, h.dis, fun a q => h.ou a (ho a q), fun a q => h.ouh a (ho a q), ⟨h.sto.len, h.sto.nd, fun n u a e1 e2 => (h.sto.at_ n u a e1 e2).mono m rfl⟩⟩
  · obtain ⟨v, e1, r⟩ := h.val i w e
    exact ⟨v, e1, r.mono m⟩
  · obtain ⟨a, e1, e2, r⟩ := h.own i u e
    exact ⟨a, e1, e2, r.mono m rfl⟩
end
end Ev

/-! S18: list comprehensions. -/
namespace Ev
open PySem PySem.Spec PyProof.Rows L2 Calls ClX RZ
theorem look_s {st st' : St} (e : st.s = st'.s) {w : W} (ho : okv w = true) : look st w = look st' w := by
  cases w <;> first | rfl | cases ho | skip
  simp [look, e]
theorem wkOf_s {st st' : St} (e : st.s = st'.s) (w : W) : wkOf st w = wkOf st' w := by
  unfold wkOf
  cases ho : okv w with
  | false => rfl
  | true =>
    simp only [if_true]
    unfold seqOf
    split
    · rfl
    · rw [look_s e ho]
theorem wlOf_s {st st' : St} (e : st.s = st'.s) (w : W) : wlOf st w = wlOf st' w := by
  unfold wlOf
  cases ho : okv w with
  | false => rfl
  | true =>
    simp only [if_true]
    unfold lstOf
    rw [look_s e ho]
theorem at_s {st st' : St} (e : st.s = st'.s) (i : Nat) (q : Src) : q.at st i = q.at st' i := by
  cases q with
  | fix xs => rfl
  | seq w => simp only [Src.at]; rw [wkOf_s e]
  | enu w => simp only [Src.at]; rw [wkOf_s e]
  | zip a b =>
    simp only [Src.at]
    split
    · rfl
    · rw [wlOf_s e a, wlOf_s e b]
/-- no exception leaves -/
abbrev F0 : WX := fun _ _ _ _ => False
theorem calm_exc {α : Type} {r : R α} {x : Xn} {st : St} : r.calm ≠ .exc x st := by cases r <;> simp [R.calm]
theorem mapR_exc {f : W → St → R (Option W)} {q : Src} (hf : ∀ w st x st', f w st ≠ .exc x st') : ∀ (m i : Nat) (st : St) (x : Xn) (st' : St), mapR f q m i st ≠ .exc x st'
  | m, i, st, x, st' => by
    unfold mapR
    cases e : q.at st i with
    | none => simp
    | some o =>
      cases o with
      | none => simp
      | some w =>
        cases m with
        | zero => simp
        | succ m =>
          simp only
          cases e1 : f w st with
          | exc x1 s1 => exact (hf _ _ _ _ e1).elim
          | stk => simp [R.bind]
          | ok o1 s1 =>
            simp only [R.bind]
            cases e2 : mapR f q m (i + 1) s1 with
            | exc x2 s2 => exact (mapR_exc hf _ _ _ _ _ e2).elim
            | stk => simp
            | ok ys s2 => simp
/-- the turn of a comprehension -/
def cTurn (t : Tg) (body : St → R (Option W)) (x : W) (st2 : St) : R (Option W) := match (if noOwn st2.r (tgIx t) then tgW t x (wipe st2.r (tgIx t)) else none) with
  | none => .stk
  | some r => R.calm (body ⟨r, st2.s⟩)
theorem cTurn_exc {t : Tg} {body : St → R (Option W)} (w : W) (st : St) (x : Xn) (st' : St) : cTurn t body w st ≠ .exc x st' := by
  unfold cTurn
  split
  · simp
  · exact calm_exc
section
variable {T : Tb} {X : Cx} {Wx : WX} {p : Pg} {cal : Bool → Nat → List W → List OO → RC} {c c1 c2 : Cf} {st : St} {σ : L2.St} {H H0 H1 H2 : Hp} {pins : List (Addr × Obj)} {s : Shared} {k : Nat} {D : Addr}
theorem stp_next (S : Stp c1 H1 (c.shut c1.ou) H) (S2 : Stp c H c2 H2) (hD : H1 D = none) {o : HO} (ho : isIns o = none) : Stp c1 H1 (c2.shut c1.ou) (upd H2 D o) where
  fr := fun a u e t n => by
    have z : a ≠ D := ne_of_none e hD
    rw [upd_ne z]
    exact S2.fr a u (S.fr a u e t n) t fun m => by
      rcases S.mw a m with y | y
      · exact n y
      · exact y.no e t
  mw := fun a m => by
    rcases S2.mw a m with y | y
    · exact S.mw a y
    · exact .inr (S.tb y)
  lv := fun n a e => S2.lv n a (S.lv n a e)
  ou := rfl
  kk := fun a u e n => by
    obtain ⟨u', e', k'⟩ := S.kk a u e n
    obtain ⟨u2, e2, k2⟩ := S2.kk a u' e' (by rw [isIns_tb k']; exact n)
    have z : a ≠ D := ne_of_none e hD
    exact ⟨u2, by rw [upd_ne z]; exact e2, k2.trans k'⟩
  ow := fun i a e => by
    by_cases z : a = D
    · subst z; exact .inr ⟨_, upd_same, ho⟩
    rcases S2.ow i a e with y | ⟨u, e2, k2⟩
    · rcases S.ow i a y with x | ⟨u, e1, k1⟩
      · exact .inl x
      · obtain ⟨u2, e2, k2⟩ := S2.kk a u e1 (isIns_non k1)
        exact .inr ⟨u2, by rw [upd_ne z]; exact e2, k2.trans k1⟩
    · exact .inr ⟨u, by rw [upd_ne z]; exact e2, k2⟩
theorem stp_next0 (S : Stp c1 H1 (c.shut c1.ou) H) (S2 : Stp c H c2 H2) : Stp c1 H1 (c2.shut c1.ou) H2 where
  fr := fun a u e t n => S2.fr a u (S.fr a u e t n) t fun m => by
      rcases S.mw a m with y | y
      · exact n y
      · exact y.no e t
  mw := fun a m => by
    rcases S2.mw a m with y | y
    · exact S.mw a y
    · exact .inr (S.tb y)
  lv := fun n a e => S2.lv n a (S.lv n a e)
  ou := rfl
  kk := fun a u e n => by
    obtain ⟨u', e', k'⟩ := S.kk a u e n
    obtain ⟨u2, e2, k2⟩ := S2.kk a u' e' (by rw [isIns_tb k']; exact n)
    exact ⟨u2, e2, k2.trans k'⟩
  ow := fun i a e => by
    rcases S2.ow i a e with y | y
    · rcases S.ow i a y with x | ⟨u, e1, k1⟩
      · exact .inl x
      · obtain ⟨u2, e2, k2⟩ := S2.kk a u e1 (isIns_non k1)
        exact .inr ⟨u2, e2, k2.trans k1⟩
    · exact .inr y
theorem mn_open (S : Stp c1 H1 (c.shut c1.ou) H) (hou : c.ou = fun a => c1.ou a ∨ a = D) (hD : H1 D = none) : Mn c1.lv c1.nf H1 c.lv c.nf H where
  fr := fun a o e t n => S.fr a o e t fun m => n (.inl m)
  nw := fun a q => by
    rcases q with q | q
    · rcases S.mw a q with y | y
      · exact .inl (.inl y)
      · exact .inr y
    · rw [hou] at q
      rcases q with q | q
      · exact .inl (.inr q)
      · subst q; exact .inr (tn_none hD)
  lv := S.lv
  ex := fun x f e => by
    obtain ⟨o', e', k⟩ := S.kk x _ e rfl
    rw [e', isIns_ext k]
theorem mn_shut {ou : Addr → Prop} (ho : ∀ a, ou a → c.ou a) : Mn c.lv c.nf H (c.shut ou).lv (c.shut ou).nf H := ⟨fun _ _ e _ _ => e, fun a q => by
    rcases q with q | q
    · exact .inl (.inl q)
    · exact .inl (.inr (ho a q)), fun _ _ e => e, fun _ _ e => e⟩
theorem stp_shut (S : Stp c1 H1 c H) : Stp c1 H1 (c.shut c1.ou) H := ⟨S.fr, S.mw, S.lv, rfl, S.kk, S.ow⟩
theorem stp_open (hD : H D = none) {o : HO} : Stp c H ((c.opn D).shut c.ou) (upd H D o) where
  fr := fun a u e _ _ => by rw [upd_ne (ne_of_none e hD)]; exact e
  mw := fun _ m => .inl m
  lv := fun _ _ e => e
  ou := rfl
  kk := fun a u e _ => ⟨u, by rw [upd_ne (ne_of_none e hD)]; exact e, rfl⟩
  ow := fun _ _ e => .inl e
theorem wipe_get {σ : L2.St} (j : Nat) : ∀ is : List Nat, (L2.wipe σ is)[j]? = if j ∈ is then (σ[j]?).map fun _ => none else σ[j]?
  | [] => by simp [L2.wipe]
  | i :: is => by
    unfold L2.wipe
    by_cases hj : i = j
    · subst hj
      rw [if_pos (by simp)]
      by_cases hl : i < σ.length
      · rw [List.getElem?_set_self (by rw [L2.wipe_length]; exact hl), List.getElem?_eq_getElem hl]
        rfl
      · rw [List.getElem?_eq_none (by rw [List.length_set, L2.wipe_length]; omega), List.getElem?_eq_none (by omega)]
        rfl
    · rw [List.getElem?_set_ne hj, wipe_get j is]
      by_cases hm : j ∈ is
      · rw [if_pos hm, if_pos (List.mem_cons_of_mem _ hm)]
      · rw [if_neg hm, if_neg]
        intro z
        rcases List.mem_cons.mp z with z | z
        · exact hj z.symm
        · exact hm z
theorem wipe_eq {σ σ2 : L2.St} {is : List Nat} (hl : σ2.length = (L2.wipe σ is).length) (h : ∀ i, i ∉ is → σ2[i]? = (L2.wipe σ is)[i]?) : L2.wipe σ2 is = L2.wipe σ is := by
  apply List.ext_getElem?
  intro j
  rw [wipe_get, wipe_get]
  rw [L2.wipe_length] at hl
  by_cases hm : j ∈ is
  · rw [if_pos hm, if_pos hm]
    by_cases hj : j < σ.length
    · rw [List.getElem?_eq_getElem hj, List.getElem?_eq_getElem (by omega)]
      rfl
    · rw [List.getElem?_eq_none (by omega), List.getElem?_eq_none (by omega)]
  · rw [if_neg hm, if_neg hm, h j hm, wipe_get, if_neg hm]
/-- what may be said of a comprehension's rest -/
theorem opn_shut (hou : c.ou = fun a => c1.ou a ∨ a = D) : c = (c.shut c1.ou).opn D := by
  obtain ⟨lv, ow, ou⟩ := c
  simp only at hou
  subst hou
  rfl
theorem tail_noOwn {t : Tg} {body : St → R (Option W)} {q : Src} {m i : Nat} {fin : List W → St → R W} (hfin : ∀ ys st, noOwn st.r (tgIx t) = false → fin ys st = .stk) {Q : VK} (h : PostF T Wx c σ H ((mapR (cTurn t body) q m i st).bind fin) Q) : noOwn st.r (tgIx t) = true := by
  cases e : noOwn st.r (tgIx t) with
  | true => rfl
  | false =>
    exfalso
    unfold mapR at h
    cases e1 : q.at st i with
    | none => simp [e1, R.bind] at h; exact h
    | some o =>
      cases o with
      | none => simp [e1, R.bind, hfin _ _ e] at h; exact h
      | some w =>
        cases m with
        | zero => simp [e1, R.bind] at h; exact h
        | succ m => simp [e1, cTurn, e, R.bind] at h; exact h
end
/-! ### list comprehensions -/
section
variable {T : Tb} {X : Cx} {Wx : WX} {p : Pg} {cal : Bool → Nat → List W → List OO → RC} {c c1 c2 : Cf} {st : St} {σ : L2.St} {H H0 H1 H2 : Hp} {pins : List (Addr × Obj)} {s : Shared} {k : Nat} {D : Addr}
/-- the end of a list comprehension -/
def lFin (is : List Nat) (r0 : List Sl) (ys : List W) (st5 : St) : R W := if decide (ys.length ≤ lineMax) && noOwn st5.r is then .ok (.lst ys) ⟨backS is r0 st5.r, st5.s⟩ else .stk
theorem lFin_no {is : List Nat} {r0 : List Sl} (ys : List W) (st : St) (h : noOwn st.r is = false) : lFin is r0 ys st = .stk := by simp [lFin, h]
/-- one turn's element -/
def lBody (p : Pg) (cal : Bool → Nat → List W → List OO → RC) (e : E) (co : Option E) (st : St) : R (Option W) := (evT p cal co st).bind fun k st3 => if k then (evE p cal e st3).bind fun y st4 => if okv y then .ok (some y) st4 else .stk else .ok none st3
theorem evE_cpr {e : E} {t : Tg} {it : I} {co : Option E} : evE p cal (.cpr e t it co) st = (evI p cal it st).bind fun q st1 => if noOwn st1.r (tgIx t) then (mapR (cTurn t (lBody p cal e co)) q (q.len st1) 0 st1).bind (lFin (tgIx t) st1.r) else .stk := by
  rw [evE]
  rfl
/-- where a list comprehension stands at turn i -/
def LW (T : Tb) (p : Pg) (cal : Bool → Nat → List W → List OO → RC) (e : E) (co : Option E) (t : Tg) (q : Src) (r0 : List Sl) (σ : L2.St) (c1 : Cf) (H1 : Hp) (Wx : WX) (Q : VK) (D : Addr) (i m : Nat) (H : Hp) : Prop :=
  ∃ (c : Cf) (st : St) (ws : List W) (acc : List V), Stp c1 H1 (c.shut c1.ou) H ∧ (c.ou = fun a => c1.ou a ∨ a = D) ∧ RSt T c ⟨Ev.wipe st.r (tgIx t), st.s⟩ (L2.wipe σ (tgIx t)) H ∧ H D = some (.lst acc) ∧ RWs T c.lv c.nf H ws acc ∧
    PostF T Wx c1 σ H1 ((mapR (cTurn t (lBody p cal e co)) q m i st).bind fun ys st5 => lFin (tgIx t) r0 (ws ++ ys) st5) Q
theorem bind_ok {α β : Type} {a : α} {st : St} {f : α → St → R β} : (R.ok a st).bind f = f a st := rfl
theorem bind_exc {α β : Type} {x : Xn} {st : St} {f : α → St → R β} : (R.exc x st).bind f = .exc x st := rfl
theorem bind_stk {α β : Type} {f : α → St → R β} : (R.stk : R α).bind f = .stk := rfl
theorem calmOk {α : Type} {a : α} {st : St} : (R.ok a st).calm = .ok a st := rfl
theorem cTurn_at {t : Tg} {body : St → R (Option W)} {x : W} {r' : List Sl} (no : noOwn st.r (tgIx t) = true) (et : tgW t x (Ev.wipe st.r (tgIx t)) = some r') : cTurn t body x st = R.calm (body ⟨r', st.s⟩) := by
  unfold cTurn
  rw [if_pos no, et]
theorem cTurn_stk {t : Tg} {body : St → R (Option W)} {x : W} (no : noOwn st.r (tgIx t) = true) (et : tgW t x (Ev.wipe st.r (tgIx t)) = none) : cTurn t body x st = .stk := by
  unfold cTurn
  rw [if_pos no, et]
theorem mapR_step {f : W → St → R (Option W)} {q : Src} {m i : Nat} {w : W} (e : q.at st i = some (some w)) : mapR f q (m + 1) i st = (f w st).bind fun o st1 => (mapR f q m (i + 1) st1).bind fun ys st2 => .ok (match o with | some y => y :: ys | none => ys) st2 := by
  rw [mapR.eq_def]; simp only [e]
  all_goals rfl
theorem mapR_none {f : W → St → R (Option W)} {q : Src} {m i : Nat} (e : q.at st i = some none) : mapR f q m i st = .ok [] st := by
  rw [mapR.eq_def]; simp only [e]
theorem mapR_stk {f : W → St → R (Option W)} {q : Src} {m i : Nat} (e : q.at st i = none) : mapR f q m i st = .stk := by
  rw [mapR.eq_def]; simp only [e]
theorem mapR_zero {f : W → St → R (Option W)} {q : Src} {i : Nat} {w : W} (e : q.at st i = some (some w)) : mapR f q 0 i st = .stk := by
  rw [mapR.eq_def]; simp only [e]
theorem bind_assoc' {α β γ : Type} (r : R α) (f : α → St → R β) (g : β → St → R γ) : (r.bind f).bind g = r.bind fun a st => (f a st).bind g := by
  cases r <;> rfl
theorem lc_turn {e : E} {co : Option E} {t : Tg} {q : Src} {J : It} {st1 : St} {Q : VK}
    (hk : Wk T c1 H1 q J) (hR : RSt T c1 st1 σ H1) (hD : H1 D = none) (hn : noOwn st1.r (tgIx t) = true) (i m : Nat) (H : Hp) (w : LW T p cal e co t q st1.r σ c1 H1 Wx Q D i m H) :
    (J.stop i H ∧ Q (.ref D) H) ∨ (J.go i H ∧ ∃ Nx : Hp → Prop, (∀ H', Nx H' → ∃ m', m' < m ∧ LW T p cal e co t q st1.r σ c1 H1 Wx Q D (i + 1) m' H') ∧ ∀ x H', J.yld i H x H' → rdG T t x (L2.wipe σ (tgIx t)) H' fun σ2 H2 => L2.wipe σ2 (tgIx t) = L2.wipe σ (tgIx t) ∧ rdT T F0 (evT p cal co) σ2 H2 fun b H3 =>
      if b = true then rdE T F0 (evE p cal e) σ2 H3 fun y H4 => ∃ acc, H4 D = some (.lst acc) ∧ acc.length < sizeLine ∧ Nx (upd H4 D (.lst (acc ++ [y]))) else Nx H3) := by
  obtain ⟨c, st, ws, acc, S, hou, h, hd, ra, P⟩ := w
  have hcD : c.ou D := by rw [hou]; exact .inr rfl
  have mn := mn_open S hou hD
  have sh := RSt.shut h (ou := c1.ou) fun a z => by rw [hou]; exact .inl z
  have no : noOwn st.r (tgIx t) = true := tail_noOwn (T := T) (Wx := Wx) (c := c1) (σ := σ) (H := H1) (Q := Q) (fin := fun ys st5 => lFin (tgIx t) st1.r (ws ++ ys) st5) (fun ys st h => lFin_no _ _ h) P
  have sat : ∀ j, q.at ⟨Ev.wipe st.r (tgIx t), st.s⟩ j = q.at st j := fun j => at_s (st := ⟨Ev.wipe st.r (tgIx t), st.s⟩) (st' := st) rfl j q
  obtain ⟨k1, k2⟩ := hk c ⟨Ev.wipe st.r (tgIx t), st.s⟩ (L2.wipe σ (tgIx t)) H i mn h
  rw [sat] at k1 k2
  cases ea : q.at st i with
  | none => rw [mapR_stk ea] at P; exact (show False from P).elim
  | some o =>
  cases o with
  | none =>
    refine .inl ⟨k1 ea, ?_⟩
    rw [mapR_none ea] at P
    simp only [R.bind, List.append_nil] at P
    unfold lFin at P
    split at P
    · rename_i hc
      simp only [Bool.and_eq_true, decide_eq_true_eq] at hc
      have hb : RSt T (c.shut c1.ou) ⟨backS (tgIx t) st1.r st.r, st.s⟩ σ H := RSt.backw (st := st1) hR S.mn hn sh
      have hb2 : RSt T c ⟨backS (tgIx t) st1.r st.r, st.s⟩ σ H := RSt.backw (st := st1) hR mn hn h
      refine P (.ref D) H _ S hb ?_ (fun _ a e => by cases e; exact ⟨tn_none hD, opn_shut hou ▸ hb2, opn_shut hou ▸ ⟨acc, hd, ra⟩⟩)
      show RW T _ _ H (.lst ws) (.ref D)
      simp only [RW]
      refine ⟨D, acc, rfl, hd, fun z => ?_, ra.mono (mn_shut fun a z => by rw [hou]; exact .inl z)⟩
      rcases z with z | z
      · exact h.ou D hcD z
      · obtain ⟨u, eu, _⟩ := hR.ouh D z
        rw [hD] at eu; cases eu
    · exact (show False from P).elim
  | some x =>
    cases m with
    | zero => rw [mapR_zero ea] at P; exact (show False from P).elim
    | succ m =>
    obtain ⟨go, yl⟩ := k2 x ea
    refine .inr ⟨go, fun H' => LW T p cal e co t q st1.r σ c1 H1 Wx Q D (i + 1) m H', fun H' z => ⟨m, Nat.lt_succ_self _, z⟩, fun v H' y => ?_⟩
    obtain ⟨S1, h1, rx⟩ := yl v H' y
    rw [mapR_step ea, bind_assoc'] at P
    cases et : tgW t x (Ev.wipe st.r (tgIx t)) with
    | none => rw [cTurn_stk no et] at P; exact (show False from P).elim
    | some r' =>
    rw [cTurn_at no et] at P
    refine ⟨c, ⟨Ev.wipe st.r (tgIx t), st.s⟩, x, h1, rx, r', et, fun σ2 c2 S2 h2 hl hag => ?_⟩
    refine ⟨wipe_eq hl hag, c2, ⟨r', st.s⟩, h2, ?_⟩
    have lb : lBody p cal e co ⟨r', st.s⟩ = (evT p cal co ⟨r', st.s⟩).bind fun k st3 => if k then (evE p cal e st3).bind fun y st4 => if okv y then .ok (some y) st4 else .stk else .ok none st3 := rfl
    rw [lb] at P
    cases e1 : evT p cal co ⟨r', st.s⟩ with
    | exc x1 s1 => rw [e1] at P; exact (show False from P).elim
    | stk => rw [e1] at P; exact (show False from P).elim
    | ok kb st3 =>
    rw [e1, bind_ok] at P
    intro b H3 c3 S3 h3 hb
    cases hb
    have wq : L2.wipe σ2 (tgIx t) = L2.wipe σ (tgIx t) := wipe_eq hl hag
    cases kb with
    | false =>
      simp only [Bool.false_eq_true, if_false, calmOk, bind_ok, bind_assoc'] at P ⊢
      have S' : Stp c H c3 H3 := S1.trans (S2.trans S3)
      have ou3 : c3.ou = c.ou := S'.ou
      have n3 : noOwn st3.r (tgIx t) = true := tail_noOwn (T := T) (Wx := Wx) (c := c1) (σ := σ) (H := H1) (Q := Q) (fin := fun ys st5 => lFin (tgIx t) st1.r (ws ++ ys) st5) (fun ys st h => lFin_no _ _ h) P
      refine ⟨c3, st3, ws, acc, stp_next0 S S', by rw [ou3, hou], ?_, S'.fr D _ hd rfl (h.ou D hcD), ra.mono S'.mn, P⟩
      rw [← wq]
      exact h3.wipe n3
    | true =>
      simp only [if_true] at P ⊢
      refine ⟨c3, st3, h3, ?_⟩
      cases e2 : evE p cal e st3 with
      | exc x1 s1 => rw [e2] at P; exact (show False from P).elim
      | stk => rw [e2] at P; exact (show False from P).elim
      | ok y st4 =>
      rw [e2, bind_ok] at P
      intro u H4 c4 S4 h4 ru
      have S' : Stp c H c4 H4 := S1.trans (S2.trans (S3.trans S4))
      have ou4 : c4.ou = c.ou := S'.ou
      have hd4 : H4 D = some (.lst acc) := S'.fr D _ hd rfl (h.ou D hcD)
      cases oy : okv y with
      | false => rw [oy] at P; exact (show False from P).elim
      | true =>
      simp only [oy, if_true, calmOk, bind_ok, bind_assoc'] at P
      have P' : PostF T Wx c1 σ H1 ((mapR (cTurn t (lBody p cal e co)) q m (i + 1) st4).bind fun ys st5 => lFin (tgIx t) st1.r ((ws ++ [y]) ++ ys) st5) Q := by
        simpa only [List.append_assoc, List.singleton_append] using P
      have n4 : noOwn st4.r (tgIx t) = true := tail_noOwn (T := T) (Wx := Wx) (c := c1) (σ := σ) (H := H1) (Q := Q) (fin := fun ys st5 => lFin (tgIx t) st1.r ((ws ++ [y]) ++ ys) st5) (fun ys st h => lFin_no _ _ h) P'
      have hlen : ws.length < lineMax := by
        cases e3 : mapR (cTurn t (lBody p cal e co)) q m (i + 1) st4 with
        | exc x1 s1 => exact (mapR_exc cTurn_exc _ _ _ _ _ e3).elim
        | stk => rw [e3] at P'; exact (show False from P').elim
        | ok ys st5 =>
          rw [e3] at P'
          simp only [R.bind] at P'
          unfold lFin at P'
          split at P'
          · rename_i hc
            simp only [Bool.and_eq_true, decide_eq_true_eq, List.length_append, List.length_cons, List.length_nil] at hc
            omega
          · exact (show False from P').elim
      refine ⟨acc, hd4, by rw [← ra.len, ← line_eq]; exact hlen, ?_⟩
      have D4 : c4.ou D := by rw [ou4]; exact hcD
      have K4 : ∀ ys u, H4 D = some u → isIns (.lst ys) = isIns u := fun ys u e => by rw [hd4] at e; cases e; rfl
      refine ⟨c4, st4, ws ++ [y], acc ++ [u], stp_next S S' hD rfl, by rw [ou4, hou], ?_, upd_same, RWs.snoc (RWs.wrt h4 D4 (K4 _) (ra.mono S'.mn)) ?_, P'⟩
      · rw [← wq]
        exact (h4.wrt D4 (K4 _)).wipe n4
      · have r1 : RWs T c4.lv c4.nf H4 [y] [u] := RWs.cons (RV.rw ru oy) RWs.nil
        have r2 := RWs.wrt (o := .lst (acc ++ [u])) h4 D4 (K4 _) r1
        simp only [RWs] at r2
        obtain ⟨_, _, e5, r5, _⟩ := r2
        cases e5
        exact r5
/-- what pe_lc asks, from the evaluator's answer -/
theorem lc_read {e : E} {co : Option E} {t : Tg} {it : I} {Q : VK} {vs : List Nat} (ho : vs = tgIx t) (h : RSt T c st σ H) (q : PostF T Wx c σ H (evE p cal (.cpr e t it co) st) Q) :
    tLc (rdI T Wx (evI p cal it)) (rdG T t) (rdT T F0 (evT p cal co)) (rdE T F0 (evE p cal e)) vs σ H Q := by
  subst ho
  rw [evE_cpr] at q
  refine ⟨c, st, h, (PostF.bind (rel := relI T) q).mono fun J H1 ⟨c1, st1, src, S1, h1, hk, q1⟩ D hD => ?_⟩
  cases hn : noOwn st1.r (tgIx t) with
  | false => rw [hn] at q1; exact (show False from q1).elim
  | true =>
  rw [hn] at q1
  simp only [if_true] at q1
  refine ⟨LW T p cal e co t src st1.r σ c1 H1 Wx Q D, ⟨src.len st1, c1.opn D, st1, [], [], stp_open hD, rfl, ?_, upd_same, RWs.nil, by simpa using q1⟩, fun i m H w => lc_turn hk h1 hD hn i m H w⟩
  exact (h1.opn hD).wipe hn
theorem sf_cpr {tg iter elt : Expr} {ifs : List Expr} {scope : Scope} {own : List (Str × Nat)} {pos : Pos} {t : Tg} {it : I} {e : E} {co : Option E} (hc : X.calm = true) (hN : X.N.Nodup) (hi : SI T X Wx tg iter (evI p cal it)) (ok : BlkOk X.N X.env.scope scope own) (ho : own.map (·.2) = tgIx t)
    (hg : ∀ (s : Shared) (H : Hp) (C : Addr) (cl : List (Str × Addr)) (fp : List Addr), SG T (X.blk s H scope (compEnvC scope cl C X.env) fp) tg t) (ht : ∀ (s : Shared) (H : Hp) (C : Addr) (cl : List (Str × Addr)) (fp : List Addr), PTs (X.blk s H scope (compEnvC scope cl C X.env) fp) ifs (rdT T F0 (evT p cal co)))
    (he : ∀ (s : Shared) (H : Hp) (C : Addr) (cl : List (Str × Addr)) (fp : List Addr), SE T (X.blk s H scope (compEnvC scope cl C X.env) fp) F0 elt (evE p cal e)) (hs : ∀ x, foldedSetIterable iter X.env x = pure x) :
    SF T X Wx (.ListComp elt [⟨tg, iter, ifs, 0⟩] scope pos) (evE p cal (.cpr e t it co)) := by
  refine PE.imp (pe_lc hc hN hi ok hg ht he hs) ?_
  rintro σ H Q ⟨c, st, h, q⟩
  exact lc_read ho h q
end
end Ev

/-! S19: a key put into a dict; dict comprehensions. -/
namespace Ev
open PySem PySem.Spec PyProof.Rows L2 Calls ClX RZ
section
variable {T : Tb} {lv : List Addr} {nf : Addr → Prop} {H : Hp} {q : Ky} {w : W} {v : V}
theorem krep_ok (r : RW T lv nf H w v) : ∀ {ks : List Ky} {ws : List W} {vs : List V}, ks.length = vs.length → RWs T lv nf H ws vs →
    ∃ vs', ((ks.map kS).zip vs).map (fun kv => if kv.1 = kS q then (kv.1, v) else kv) = (ks.map kS).zip vs' ∧ ks.length = vs'.length ∧ RWs T lv nf H (krep q w ks ws) vs'
  | [], ws, vs, e, rr => by
    have : vs = [] := List.eq_nil_of_length_eq_zero e.symm
    subst this
    have e2 := rr.len
    have : ws = [] := List.eq_nil_of_length_eq_zero e2
    subst this
    exact ⟨[], rfl, rfl, RWs.nil⟩
  | g :: ks, ws, [], e, rr => by simp at e
  | g :: ks, [], u :: vs, e, rr => by simp [RWs] at rr
  | g :: ks, x :: ws, u :: vs, e, rr => by
    simp only [RWs] at rr
    obtain ⟨u', vs', e1, r1, r2⟩ := rr
    cases e1
    obtain ⟨zs, h1, h2, h3⟩ := krep_ok r (ks := ks) (by simpa using e) r2
    simp only [List.map_cons, List.zip_cons_cons, krep]
    rw [h1]
    by_cases hg : g = q
    · subst hg
      refine ⟨v :: zs, ?_, by simp [h2], ?_⟩
      · simp
      · rw [if_pos rfl]; exact RWs.cons r h3
    · refine ⟨u :: zs, ?_, by simp [h2], ?_⟩
      · have : ¬ kS g = kS q := fun z => hg (kS_inj z)
        simp [this]
      · rw [if_neg hg]; exact RWs.cons r1 h3
theorem any_kS : ∀ {ks : List Ky} {vs : List V}, ks.length = vs.length → (((ks.map kS).zip vs).any fun kv => decide (kv.1 = kS q)) = ks.any fun g => decide (g = q)
  | [], _, _ => by simp
  | g :: ks, [], e => by simp at e
  | g :: ks, u :: vs, e => by
    simp only [List.map_cons, List.zip_cons_cons, List.any_cons]
    rw [any_kS (by simpa using e)]
    congr 1
    by_cases hg : g = q
    · subst hg; simp
    · have : ¬ kS g = kS q := fun z => hg (kS_inj z)
      simp [hg, this]
theorem kput_ok {ks : List Ky} {ws : List W} {vs : List V} (e : ks.length = vs.length) (rr : RWs T lv nf H ws vs) (r : RW T lv nf H w v) :
    ∃ vs', putK ((ks.map kS).zip vs) (kS q) v = ((kput q w ks ws).1.map kS).zip vs' ∧ (kput q w ks ws).1.length = vs'.length ∧ RWs T lv nf H (kput q w ks ws).2 vs' := by
  unfold putK kput
  rw [any_kS e]
  by_cases h : (ks.any fun g => decide (g = q)) = true
  · rw [if_pos h, if_pos h]
    exact krep_ok r e rr
  · rw [if_neg h, if_neg h]
    refine ⟨vs ++ [v], ?_, by simp [e], RWs.snoc rr r⟩
    rw [List.map_append, List.zip_append (by simpa using e)]
    rfl
theorem kput_len {ks : List Ky} {ws : List W} : (kput q w ks ws).1.length ≤ ks.length + 1 := by
  unfold kput
  split
  · simp
  · simp
theorem prsW_snoc {ys : List W} {y z : W} : prsW (ys ++ [.tup [y, z]]) = (prsW ys).bind fun a => (kyOf y).map fun q => kput q z a.1 a.2 := by
  unfold prsW
  rw [List.foldl_append]
  simp only [List.foldl_cons, List.foldl_nil]
  cases (List.foldl _ _ ys) <;> rfl
end
section
variable {T : Tb} {X : Cx} {Wx : WX} {p : Pg} {cal : Bool → Nat → List W → List OO → RC} {c c1 c2 : Cf} {st : St} {σ : L2.St} {H H0 H1 H2 : Hp} {pins : List (Addr × Obj)} {s : Shared} {k : Nat} {D : Addr}
/-- the end of a dict comprehension -/
def dFin (is : List Nat) (r0 : List Sl) (ys : List W) (st5 : St) : R W := match prsW ys with
  | some q => if decide (ys.length ≤ lineMax) && noOwn st5.r is then .ok (.dct q.1 q.2) ⟨backS is r0 st5.r, st5.s⟩ else .stk
  | none => .stk
theorem dFin_no {is : List Nat} {r0 : List Sl} (ys : List W) (st : St) (h : noOwn st.r is = false) : dFin is r0 ys st = .stk := by
  unfold dFin
  split <;> simp [h]
def dBody (p : Pg) (cal : Bool → Nat → List W → List OO → RC) (k v : E) (st : St) : R (Option W) := (evE p cal k st).bind fun y st3 => (evE p cal v st3).bind fun z st4 => if okv z && (kyOf y).isSome then .ok (some (.tup [y, z])) st4 else .stk
theorem evE_dcp {k v : E} {t : Tg} {it : I} : evE p cal (.dcp k v t it) st = (evI p cal it st).bind fun q st1 => if noOwn st1.r (tgIx t) then (mapR (cTurn t (dBody p cal k v)) q (q.len st1) 0 st1).bind (dFin (tgIx t) st1.r) else .stk := by
  rw [evE]
  rfl
/-- where a dict comprehension stands at turn i -/
def DW (T : Tb) (p : Pg) (cal : Bool → Nat → List W → List OO → RC) (ek ev : E) (t : Tg) (q : Src) (r0 : List Sl) (σ : L2.St) (c1 : Cf) (H1 : Hp) (Wx : WX) (Q : VK) (D : Addr) (i m : Nat) (H : Hp) : Prop :=
  ∃ (c : Cf) (st : St) (ws : List W) (ks : List Ky) (xs : List W) (vs : List V), Stp c1 H1 (c.shut c1.ou) H ∧ (c.ou = fun a => c1.ou a ∨ a = D) ∧ RSt T c ⟨Ev.wipe st.r (tgIx t), st.s⟩ (L2.wipe σ (tgIx t)) H ∧ prsW ws = some (ks, xs) ∧ ks.length ≤ ws.length ∧ H D = some (.dK ((ks.map kS).zip vs)) ∧ ks.length = vs.length ∧ RWs T c.lv c.nf H xs vs ∧
    PostF T Wx c1 σ H1 ((mapR (cTurn t (dBody p cal ek ev)) q m i st).bind fun ys st5 => dFin (tgIx t) r0 (ws ++ ys) st5) Q
theorem dc_turn {ek ev : E} {t : Tg} {q : Src} {J : It} {st1 : St} {Q : VK}
    (hk : Wk T c1 H1 q J) (hR : RSt T c1 st1 σ H1) (hD : H1 D = none) (hn : noOwn st1.r (tgIx t) = true) (i m : Nat) (H : Hp) (w : DW T p cal ek ev t q st1.r σ c1 H1 Wx Q D i m H) :
    (J.stop i H ∧ Q (.ref D) H) ∨ (J.go i H ∧ ∃ Nx : Hp → Prop, (∀ H', Nx H' → ∃ m', m' < m ∧ DW T p cal ek ev t q st1.r σ c1 H1 Wx Q D (i + 1) m' H') ∧ ∀ x H', J.yld i H x H' → rdG T t x (L2.wipe σ (tgIx t)) H' fun σ2 H2 => L2.wipe σ2 (tgIx t) = L2.wipe σ (tgIx t) ∧ rdT T F0 (evT p cal none) σ2 H2 fun b H3 =>
      if b = true then rdE T F0 (evE p cal ek) σ2 H3 fun y H4 => rdE T F0 (evE p cal ev) σ2 H4 fun z H5 => ∃ kvs k, y = kV k ∧ H5 D = some (.dK kvs) ∧ kvs.length < sizeLine ∧ Nx (upd H5 D (.dK (putK kvs k z))) else Nx H3) := by
  obtain ⟨c, st, ws, ks, xs, vs, S, hou, h, hp, hle, hd, hl, ra, P⟩ := w
  have hcD : c.ou D := by rw [hou]; exact .inr rfl
  have mn := mn_open S hou hD
  have sh := RSt.shut h (ou := c1.ou) fun a z => by rw [hou]; exact .inl z
  have no : noOwn st.r (tgIx t) = true := tail_noOwn (T := T) (Wx := Wx) (c := c1) (σ := σ) (H := H1) (Q := Q) (fin := fun ys st5 => dFin (tgIx t) st1.r (ws ++ ys) st5) (fun ys st h => dFin_no _ _ h) P
  have sat : ∀ j, q.at ⟨Ev.wipe st.r (tgIx t), st.s⟩ j = q.at st j := fun j => at_s (st := ⟨Ev.wipe st.r (tgIx t), st.s⟩) (st' := st) rfl j q
  obtain ⟨k1, k2⟩ := hk c ⟨Ev.wipe st.r (tgIx t), st.s⟩ (L2.wipe σ (tgIx t)) H i mn h
  rw [sat] at k1 k2
  cases ea : q.at st i with
  | none => rw [mapR_stk ea] at P; exact (show False from P).elim
  | some o =>
  cases o with
  | none =>
    refine .inl ⟨k1 ea, ?_⟩
    rw [mapR_none ea] at P
    simp only [bind_ok, List.append_nil] at P
    unfold dFin at P
    rw [hp] at P
    simp only at P
    split at P
    · rename_i hc
      simp only [Bool.and_eq_true, decide_eq_true_eq] at hc
      have hb : RSt T (c.shut c1.ou) ⟨backS (tgIx t) st1.r st.r, st.s⟩ σ H := RSt.backw (st := st1) hR S.mn hn sh
      have hb2 : RSt T c ⟨backS (tgIx t) st1.r st.r, st.s⟩ σ H := RSt.backw (st := st1) hR mn hn h
      refine P (.ref D) H _ S hb ?_ (fun _ a e => by cases e; exact ⟨tn_none hD, opn_shut hou ▸ hb2, opn_shut hou ▸ ⟨vs, hd, hl, ra⟩⟩)
      show RW T _ _ H (.dct ks xs) (.ref D)
      simp only [RW]
      refine ⟨D, vs, rfl, hd, fun z => ?_, hl, ra.mono (mn_shut fun a z => by rw [hou]; exact .inl z)⟩
      rcases z with z | z
      · exact h.ou D hcD z
      · obtain ⟨u, eu, _⟩ := hR.ouh D z
        rw [hD] at eu; cases eu
    · exact (show False from P).elim
  | some x =>
    cases m with
    | zero => rw [mapR_zero ea] at P; exact (show False from P).elim
    | succ m =>
    obtain ⟨go, yl⟩ := k2 x ea
    refine .inr ⟨go, fun H' => DW T p cal ek ev t q st1.r σ c1 H1 Wx Q D (i + 1) m H', fun H' z => ⟨m, Nat.lt_succ_self _, z⟩, fun v H' y => ?_⟩
    obtain ⟨S1, h1, rx⟩ := yl v H' y
    rw [mapR_step ea, bind_assoc'] at P
    cases et : tgW t x (Ev.wipe st.r (tgIx t)) with
    | none => rw [cTurn_stk no et] at P; exact (show False from P).elim
    | some r' =>
    rw [cTurn_at no et] at P
    refine ⟨c, ⟨Ev.wipe st.r (tgIx t), st.s⟩, x, h1, rx, r', et, fun σ2 c2 S2 h2 hl' hag => ?_⟩
    refine ⟨wipe_eq hl' hag, c2, ⟨r', st.s⟩, h2, ?_⟩
    have lb : dBody p cal ek ev ⟨r', st.s⟩ = (evE p cal ek ⟨r', st.s⟩).bind fun y st3 => (evE p cal ev st3).bind fun z st4 => if okv z && (kyOf y).isSome then .ok (some (.tup [y, z])) st4 else .stk := rfl
    rw [lb] at P
    have wq : L2.wipe σ2 (tgIx t) = L2.wipe σ (tgIx t) := wipe_eq hl' hag
    rw [evT]
    intro b H3 c3 S3 h3 hb
    cases hb
    simp only [if_true]
    cases e1 : evE p cal ek ⟨r', st.s⟩ with
    | exc x1 s1 => rw [e1] at P; exact (show False from P).elim
    | stk => rw [e1] at P; exact (show False from P).elim
    | ok y st3 =>
    rw [e1, bind_ok] at P
    refine ⟨c3, ⟨r', st.s⟩, h3, ?_⟩
    rw [e1]
    intro u H4 c4 S4 h4 ru
    refine ⟨c4, st3, h4, ?_⟩
    cases e2 : evE p cal ev st3 with
    | exc x1 s1 => rw [e2] at P; exact (show False from P).elim
    | stk => rw [e2] at P; exact (show False from P).elim
    | ok z st4 =>
    rw [e2, bind_ok] at P
    intro zz H5 c5 S5 h5 rz
    have S' : Stp c H c5 H5 := S1.trans (S2.trans (S3.trans (S4.trans S5)))
    have ou5 : c5.ou = c.ou := S'.ou
    have hd5 : H5 D = some (.dK ((ks.map kS).zip vs)) := S'.fr D _ hd rfl (h.ou D hcD)
    cases oy : (okv z && (kyOf y).isSome) with
    | false => rw [oy] at P; exact (show False from P).elim
    | true =>
    simp only [oy, if_true, calmOk, bind_ok, bind_assoc'] at P
    simp only [Bool.and_eq_true] at oy
    cases eq : kyOf y with
    | none => rw [eq] at oy; simp at oy
    | some kq =>
    have P' : PostF T Wx c1 σ H1 ((mapR (cTurn t (dBody p cal ek ev)) q m (i + 1) st4).bind fun ys st5 => dFin (tgIx t) st1.r ((ws ++ [.tup [y, z]]) ++ ys) st5) Q := by
      simpa only [List.append_assoc, List.singleton_append] using P
    have n4 : noOwn st4.r (tgIx t) = true := tail_noOwn (T := T) (Wx := Wx) (c := c1) (σ := σ) (H := H1) (Q := Q) (fin := fun ys st5 => dFin (tgIx t) st1.r ((ws ++ [.tup [y, z]]) ++ ys) st5) (fun ys st h => dFin_no _ _ h) P'
    have hlen : ws.length < lineMax := by
      cases e3 : mapR (cTurn t (dBody p cal ek ev)) q m (i + 1) st4 with
      | exc x1 s1 => exact (mapR_exc cTurn_exc _ _ _ _ _ e3).elim
      | stk => rw [e3] at P'; exact (show False from P').elim
      | ok ys st5 =>
        rw [e3] at P'
        simp only [bind_ok] at P'
        unfold dFin at P'
        split at P'
        · split at P'
          · rename_i hc
            simp only [Bool.and_eq_true, decide_eq_true_eq, List.length_append, List.length_cons, List.length_nil] at hc
            omega
          · exact (show False from P').elim
        · exact (show False from P').elim
    have ry := rvv h4 ru
    have ek' : kyOf (vw st3 y) = some kq := by
      unfold kyOf at eq
      split at eq <;> first | (cases eq; done) | exact eq
    have rkey := key_of ek' ry
    have D5 : c5.ou D := by rw [ou5]; exact hcD
    have K5 : ∀ ys u, H5 D = some u → isIns (.dK ys) = isIns u := fun ys u e => by rw [hd5] at e; cases e; rfl
    obtain ⟨vs', g1, g2, g3⟩ := kput_ok (q := kq) hl (ra.mono S'.mn) (RV.rw rz oy.1)
    refine ⟨_, kS kq, rkey, hd5, ?_, ?_⟩
    · rw [List.length_zip, List.length_map, ← hl, Nat.min_self, ← line_eq]; omega
    refine ⟨c5, st4, ws ++ [.tup [y, z]], (kput kq z ks xs).1, (kput kq z ks xs).2, vs', stp_next S S' hD rfl, by rw [ou5, hou], ?_, ?_, ?_, ?_, g2, RWs.wrt h5 D5 (K5 _) g3, P'⟩
    · rw [← wq]
      exact (h5.wrt D5 (K5 _)).wipe n4
    · rw [prsW_snoc, hp, eq]; rfl
    · have := kput_len (q := kq) (w := z) (ks := ks) (ws := xs)
      simp only [List.length_append, List.length_cons, List.length_nil]
      omega
    · rw [g1]; exact upd_same
/-- what pe_dc asks, from the evaluator's answer -/
theorem dc_read {ek ev : E} {t : Tg} {it : I} {Q : VK} {vs : List Nat} (ho : vs = tgIx t) (h : RSt T c st σ H) (q : PostF T Wx c σ H (evE p cal (.dcp ek ev t it) st) Q) :
    tDc (rdI T Wx (evI p cal it)) (rdG T t) (rdT T F0 (evT p cal none)) (rdE T F0 (evE p cal ek)) (rdE T F0 (evE p cal ev)) vs σ H Q := by
  subst ho
  rw [evE_dcp] at q
  refine ⟨c, st, h, (PostF.bind (rel := relI T) q).mono fun J H1 ⟨c1, st1, src, S1, h1, hk', q1⟩ D hD => ?_⟩
  cases hn : noOwn st1.r (tgIx t) with
  | false => rw [hn] at q1; exact (show False from q1).elim
  | true =>
  rw [hn] at q1
  simp only [if_true] at q1
  refine ⟨DW T p cal ek ev t src st1.r σ c1 H1 Wx Q D, ⟨src.len st1, c1.opn D, st1, [], [], [], [], stp_open hD, rfl, ?_, rfl, Nat.le_refl _, upd_same, rfl, RWs.nil, by simpa using q1⟩, fun i m H w => dc_turn hk' h1 hD hn i m H w⟩
  exact (h1.opn hD).wipe hn
theorem sf_dcp {tg iter kx vx : Expr} {scope : Scope} {own : List (Str × Nat)} {pos : Pos} {t : Tg} {it : I} {ek ev : E} (hc : X.calm = true) (hN : X.N.Nodup) (hi : SI T X Wx tg iter (evI p cal it)) (ok : BlkOk X.N X.env.scope scope own) (ho : own.map (·.2) = tgIx t)
    (hg : ∀ (s : Shared) (H : Hp) (C : Addr) (cl : List (Str × Addr)) (fp : List Addr), SG T (X.blk s H scope (compEnvC scope cl C X.env) fp) tg t)
    (hk : ∀ (s : Shared) (H : Hp) (C : Addr) (cl : List (Str × Addr)) (fp : List Addr), SE T (X.blk s H scope (compEnvC scope cl C X.env) fp) F0 kx (evE p cal ek))
    (he : ∀ (s : Shared) (H : Hp) (C : Addr) (cl : List (Str × Addr)) (fp : List Addr), SE T (X.blk s H scope (compEnvC scope cl C X.env) fp) F0 vx (evE p cal ev)) (hs : ∀ x, foldedSetIterable iter X.env x = pure x) :
    SF T X Wx (.DictComp kx vx [⟨tg, iter, [], 0⟩] scope pos) (evE p cal (.dcp ek ev t it)) := by
  refine PE.imp (pe_dc (tt := rdT T F0 (evT p cal none)) hc hN hi ok hg (fun s H C cl fp => ⟨fun pins s σ H Q I h => ?_⟩) hk he hs) ?_
  · obtain ⟨c, st, h, q⟩ := h
    rw [evT] at q
    exact (pts_nil.run pins s σ H Q I (Post.ret q h rfl))
  rintro σ H Q ⟨c, st, h, q⟩
  exact dc_read ho h q
theorem pts_none : PTs X [] (rdT T F0 (evT p cal none)) := ⟨fun pins s σ H Q I h => by
  obtain ⟨c, st, h, q⟩ := h
  rw [evT] at q
  exact (pts_nil.run pins s σ H Q I (Post.ret q h rfl))⟩
theorem pts_some {e : Expr} {x : E} (h : ST T X F0 e (tst p cal x)) : PTs X [e] (rdT T F0 (evT p cal (some x))) := pts_one (PT.imp h fun σ H Q z => by
  obtain ⟨c, st, h, q⟩ := z
  rw [evT] at q
  exact ⟨c, st, h, q⟩)
end
end Ev

/-! S20: expressions whose lists are new. -/
namespace Ev
open PySem PySem.Spec PyProof.Rows L2 Calls ClX RZ
section
variable {α β γ : Type} {T : Tb} {X : Cx} {Wx : WX} {p : Pg} {cal : Bool → Nat → List W → List OO → RC} {c c1 c2 : Cf} {st : St} {σ : L2.St} {H H0 H1 H2 : Hp} {pins : List (Addr × Obj)} {s : Shared} {k : Nat} {D : Addr}
variable {a b d e : Expr} {ea eb ed : E} {pos : Pos}
theorem bin_all (O : XO T p X Wx k cal) {op : Bop} {a b : W} {v u : V} {vv uu : Value} {Q : VK} (I : Inv X pins σ H s) (h : RSt T c st σ H) (r1 : RV T c σ H a v) (r2 : RV T c σ H b u) (qv : RelV v vv) (qu : RelV u uu)
    (q : PostF T Wx c σ H (binR p cal op a b st) Q) : wpAny (model X.prog X.w) X.A (binaryOp (opOf op) vv uu) (EP X pins σ Q) X.xe s := by
  have plain : PostF T Wx c σ H (.lift st (binW op (vw st a) (vw st b))) Q → wpAny (model X.prog X.w) X.A (binaryOp (opOf op) vv uu) (EP X pins σ Q) X.xe s := fun q => by
    obtain ⟨w, e, q⟩ := liftF_some q
    exact bin_ok e I h (rvv h r1) (rvv h r2) qv qu (WantsF.of q)
  cases op with
  | add =>
    simp only [binR] at q
    cases e : clsOf st a with
    | none => simp only [e] at q; exact plain q
    | some C =>
      simp only [e] at q
      by_cases e2 : clsOf st b = some C
      · rw [if_pos e2] at q
        exact bin_own (op := .Add) O.G O.M O.tk I h r1 r2 qv qu e e2 (by rw [O.G.sAdd]; kernel_rfl) (noL_ok q)
      · rw [if_neg e2] at q
        exact (show False from q).elim
  | mul =>
    simp only [binR] at q
    cases e : clsOf st a with
    | none => simp only [e] at q; exact plain q
    | some C =>
      simp only [e] at q
      by_cases e2 : clsOf st b = some C
      · rw [if_pos e2] at q
        exact bin_own (op := .Mult) O.G O.M O.tk I h r1 r2 qv qu e e2 (by rw [O.G.sMul]; kernel_rfl) (noL_ok q)
      · rw [if_neg e2] at q
        exact (show False from q).elim
  | sub => exact plain q
  | fdv => exact plain q
  | mod => exact plain q
  | pow => exact plain q
theorem sf_bin (O : XO T p X Wx k cal) {op : Bop} (ha : SE T X Wx a (evE p cal ea)) (hb : SE T X Wx b (evE p cal eb)) : SF T X Wx (.BinOp a (opOf op) b pos) (evE p cal (.bin op ea eb)) :=
  ⟨fun pins s σ H Q I ⟨c, st, h, q⟩ => by
    simp only [evE] at q
    refine wpAny_BinOp (binT ha hb I (twoF h q) fun v u s2 x y H2 I2 rx ry ⟨c, st, wa, wb, h, r1, r2, q⟩ => ?_)
    exact bin_all O I2 h r1 r2 rx ry q⟩
theorem sf_lst {es : List Expr} {xs : List E} (hs : SA T X Wx es (evEs p cal xs)) : SF T X Wx (.List es pos) (evE p cal (.lst xs)) :=
  PE.imp (pe_lst hs) fun σ H Q ⟨c, st, h, q⟩ => by
    simp only [evE] at q
    refine ⟨c, st, h, (PostF.bind (rel := relA T σ) q).mono fun vs H1 ⟨c, st, ws, S, h, ra, q⟩ => ?_⟩
    cases ho : okvs ws && decide (ws.length ≤ lineMax) with
    | false => simp [ho] at q; exact q.elim
    | true =>
      simp only [ho, if_true] at q
      obtain ⟨o1, o2⟩ := Bool.and_eq_true_iff.mp ho
      refine ⟨by rw [← ra.1, ← line_eq]; exact of_decide_eq_true o2, fun pp hp => ?_⟩
      exact new_lst h hp (okv_rw o1 ra) (WantsF.of q)
theorem sf_slc {lo hi : Option Expr} {l u : Option E} {p2 : Pos} (hK : T.K = X.K) (ha : SE T X Wx a (evE p cal ea)) (hl : SO T X Wx lo (evO p cal l)) (hh : SO T X Wx hi (evO p cal u)) : SF T X Wx (.Subscript a (.Slice lo hi none p2) pos) (evE p cal (.slc ea l u)) :=
  ⟨fun pins s σ H Q I ⟨c, st, h, q⟩ => by
    simp only [evE] at q
    refine Subscript_ (thn (ha.run pins s σ H _ I ⟨c, st, h, PostF.bind (rel := relV T σ) q⟩) ?_)
    rintro v s1 ⟨x, H1, I1, r1, c1, st1, w1, S1, h1, rw1, q1⟩
    refine wpAny_Slice (thn (hl.run pins s1 σ H1 _ I1 ⟨c1, st1, h1, PostF.bind (rel := relO) q1⟩) ?_)
    rintro vl s2 ⟨l', H2, I2, pl, c2, st2, w2, S2, h2, rw2, q2⟩
    cases rw2
    refine thn (hh.run pins s2 σ H2 _ I2 ⟨c2, st2, h2, PostF.bind (rel := relO) q2⟩) ?_
    rintro vu s3 ⟨u', H3, I3, pu, c3, st3, w3, S3, h3, rw3, q3⟩
    cases rw3
    rw [evalPart_none]
    refine wpAny_pure ?_
    obtain ⟨w, ew, q4⟩ := liftF_some q3
    have I4 : Inv X pins σ H3 { s3 with heap := s3.heap.push { cls := .type "slice", data := .fields #[vl, vu, .none] } } := I3.kept (t' := s3.toks) fun b ob q => Heap.get?_push_of_some _ q
    obtain ⟨T', id, hT, ht, hg⟩ := slc_ok (s := { s3 with heap := s3.heap.push { cls := .type "slice", data := .fields #[vl, vu, .none] } }) ew hK I4 h3 (rvv h3 (RV.mono S3 (RV.mono S2 rw1))) r1 (Heap.IsSliceOf.new ..) pl pu (WantsF.of q4)
    show wpAny (model X.prog X.w) X.A (subscriptTail a (.Slice lo hi none p2) v (.ref s3.heap.objs.size)) (EP X pins σ Q) X.xe { s3 with heap := s3.heap.push { cls := .type "slice", data := .fields #[vl, vu, .none] } }
    exact tail_any (ops := [.ref s3.heap.objs.size, v]) ht hT hg (by with_unfolding_all rfl)⟩
/-- list(..), sorted(..) -/
theorem sf_bif (O : XO T p X Wx k cal) {f : Bif} (hf : f = .list ∨ f = .sorted) {np : Pos} {a : Expr} {args : List Expr} {xs : List E} (hg : Gl X (bfNm f)) (hm : X.mg (bfNm f) = none) (hs : (a :: args).all notStar = true) (ha : SA T X Wx (a :: args) (evEs p cal xs)) :
    SF T X Wx (.Call (.Name (bfNm f) np) (a :: args) [] pos) (evE p cal (.bif f xs)) :=
  ⟨fun pins s σ H Q I ⟨c, st, h, q⟩ => by
    simp only [evE] at q
    refine wpAny_Call_Name_kw (ld_blt I hg hm (bf_boot f) ?_ (bf_nn f).1 (bf_nn f).2)
    have run : wpAny (model X.prog X.w) X.A (spliced (backTo pos (starEach (a :: args) X.env))) (fun us s1 => wpAny (model X.prog X.w) X.A (call (bfOf f) us) (EP X pins σ Q) X.xe s1) X.xe s := by
      refine thn (ha.run pos pins s σ H _ I ⟨c, st, h, PostF.bind (rel := relA T σ) q⟩) ?_
      rintro us s1 ⟨vs, H1, I1, rv, c, st, ws, S, h, ra, q⟩
      have e : bifR p cal f ws st = .lift st (bifW f (ws.map (vw st))) := by
        rcases hf with e | e <;> subst e <;> rfl
      rw [e] at q
      obtain ⟨w, e, q⟩ := liftF_some q
      obtain ⟨l1, l2⟩ := relA_vv h ra
      exact bif_ok O.G.hK O.calm h I1 l1 l2 rv e (WantsF.of q)
    have hs' := hs
    rw [List.all_cons, Bool.and_eq_true] at hs'
    rcases bf_form f with ⟨id, e⟩ | ⟨t, e⟩
    · rw [e] at run ⊢
      exact PyProof.Rows.callWith_builtin1 run (star_ok hs'.1) (star_any hs'.2)
    · rw [e] at run ⊢
      exact PyProof.Rows.callWith_type1 run (star_ok hs'.1) (star_any hs'.2)⟩
end
end Ev

/-! S21: statements. -/
namespace Ev
open PySem PySem.Spec PyProof.Rows L2 Calls ClX RZ
/-- slot i holds the object at a, which nobody else holds -/
def Cf.own (c : Cf) (i : Nat) (a : Addr) : Cf := ⟨c.lv, fun j => if j = i then some a else c.ow j, c.ou⟩
section
variable {T : Tb} {c : Cf} {st : St} {σ : L2.St} {H H0 : Hp}
theorem own_nf {i : Nat} {a b : Addr} (q : (c.own i a).nf b) : (c.opn a).nf b := by
  rcases q with (q | ⟨j, q⟩) | q
  · exact .inl (.inl q)
  · unfold Cf.own at q
    simp only at q
    split at q
    · cases q; exact .inr (.inr rfl)
    · exact .inl (.inr ⟨j, q⟩)
  · exact .inr (.inl q)
theorem RSt.setO {i : Nat} {a : Addr} {o : OO} (h : RSt T (c.opn a) st σ H) (na : ¬ c.ou a) (ro : ROn T (c.opn a).lv (c.opn a).nf H o a) (hi : i < st.r.length) : RSt T (c.own i a) ⟨st.r.set i (.own o), st.s⟩ (σ.set i (some (.ref a))) H := by
  have m : Mn (c.opn a).lv (c.opn a).nf H (c.own i a).lv (c.own i a).nf H := ⟨fun _ _ e _ _ => e, fun b q => .inl (own_nf q), fun _ _ e => e, fun _ _ e => e⟩
  have hi' : i < σ.length := by rw [← h.len]; exact hi
  have nm : ¬ c.mu a := h.ou a (.inr rfl)
  refine ⟨by simp [h.len], fun j w e => ?_, fun j o' e => ?_, fun j b e => ?_, fun j j' b e e' => ?_, fun j b e => ?_, fun b q z => ?_, fun b q => h.ouh b (.inl q), ⟨h.sto.len, h.sto.nd, fun n o a e1 e2 => (h.sto.at_ n o a e1 e2).mono m rfl⟩⟩
  · by_cases hj : i = j
    · subst hj
      rw [List.getElem?_set_self hi] at e
      cases e
    · rw [List.getElem?_set_ne hj] at e
      obtain ⟨v', e1, r'⟩ := h.val j w e
      exact ⟨v', by rw [List.getElem?_set_ne hj]; exact e1, r'.mono m⟩
  · by_cases hj : i = j
    · subst hj
      rw [List.getElem?_set_self hi] at e
      cases e
      exact ⟨a, by simp [Cf.own], List.getElem?_set_self hi', ro.mono m rfl⟩
    · rw [List.getElem?_set_ne hj] at e
      obtain ⟨b, e1, e2, r'⟩ := h.own j o' e
      exact ⟨b, by unfold Cf.own; simp only; rw [if_neg (Ne.symm hj)]; exact e1, by rw [List.getElem?_set_ne hj]; exact e2, r'.mono m rfl⟩
  · unfold Cf.own at e
    simp only at e
    split at e
    · rename_i hj
      subst hj
      exact ⟨o, List.getElem?_set_self hi⟩
    · rename_i hj
      obtain ⟨o', e1⟩ := h.back j b e
      exact ⟨o', by simp only; rw [List.getElem?_set_ne (Ne.symm hj)]; exact e1⟩
  · unfold Cf.own at e e'
    simp only at e e'
    split at e
    · rename_i hj
      split at e'
      · rename_i hj'
        exact hj.trans hj'.symm
      · cases e
        exact (nm (.inr ⟨j', e'⟩)).elim
    · split at e'
      · cases e'
        exact (nm (.inr ⟨j, e⟩)).elim
      · exact h.inj j j' b e e'
  · unfold Cf.own at e
    simp only at e
    split at e
    · cases e
      exact fun z => nm (.inl z)
    · exact h.dis j b e
  · rcases z with z | ⟨j, z⟩
    · exact h.ou b (.inl q) (.inl z)
    · unfold Cf.own at z
      simp only at z
      split at z
      · cases z; exact na q
      · exact h.ou b (.inl q) (.inr ⟨j, z⟩)
theorem Stp.own {c0 : Cf} {i : Nat} {a : Addr} (S : Stp c0 H0 c H) (h0 : tn (H0 a)) (hn : ∃ o, H a = some o ∧ isIns o = none) : Stp c0 H0 (c.own i a) H where
  fr := S.fr
  mw := fun b q => by
    rcases q with q | ⟨j, q⟩
    · exact S.mw b (.inl q)
    · unfold Cf.own at q
      simp only at q
      split at q
      · cases q; exact .inr h0
      · exact S.mw b (.inr ⟨j, q⟩)
  lv := S.lv
  ou := S.ou
  kk := S.kk
  ow := fun j b e => by
    unfold Cf.own at e
    simp only at e
    split at e
    · cases e; exact .inr hn
    · exact S.ow j b e
end
/-- what is wanted behind a statement -/
def PostS (T : Tb) (Wx : WX) (c : Cf) (H : Hp) (r : R Fl) (D : Ends) : Prop := match r with
  | .ok .nx st' => ∀ σ' H' c', Stp c H c' H' → RSt T c' st' σ' H' → D.nx σ' H'
  | .ok .brk st' => ∀ σ' H' c', Stp c H c' H' → RSt T c' st' σ' H' → D.bk σ' H'
  | .ok .cnt st' => ∀ σ' H' c', Stp c H c' H' → RSt T c' st' σ' H' → D.ct σ' H'
  | .ok (.ret w) st' => ∀ v σ' H' c', Stp c H c' H' → RSt T c' st' σ' H' → RW T c'.lv c'.nf H' w v → D.rt v H'
  | .exc x st' => ∀ cls d σ' H' c', Stp c H c' H' → RSt T c' st' σ' H' → RX T c' H' x cls d → Wx cls d σ' H'
  | .stk => False
def rdS (T : Tb) (Wx : WX) (m : St → R Fl) : TS := fun D σ H => ∃ c st, RSt T c st σ H ∧ PostS T Wx c H (m st) D
def SS (T : Tb) (X : Cx) (Wx : WX) (s : Stmt) (m : St → R Fl) : Prop := PS X s (rdS T Wx m)
def SSs (T : Tb) (X : Cx) (Wx : WX) (s : List Stmt) (m : St → R Fl) : Prop := PSs X s (rdS T Wx m)
theorem PS.imp {X : Cx} {s : Stmt} {t t' : TS} (h : PS X s t) (q : ∀ D σ H, t' D σ H → t D σ H) : PS X s t' := ⟨fun pins sh σ H D I z => h.run pins sh σ H D I (q _ _ _ z)⟩
theorem PSs.imp {X : Cx} {s : List Stmt} {t t' : TS} (h : PSs X s t) (q : ∀ D σ H, t' D σ H → t D σ H) : PSs X s t' := ⟨fun pins sh σ H D I z => h.run pins sh σ H D I (q _ _ _ z)⟩
section
variable {α β γ : Type} {T : Tb} {X : Cx} {Wx : WX} {p : Pg} {cal : Bool → Nat → List W → List OO → RC} {c c1 c2 : Cf} {st : St} {σ : L2.St} {H H0 H1 H2 : Hp} {pins : List (Addr × Obj)} {s : Shared} {k wf : Nat} {D : Ends}
variable {a b d e : Expr} {ea eb ed : E} {pos : Pos}
theorem PostS.from {r : R Fl} (h : PostS T Wx c H r D) (s : Stp c H c1 H1) : PostS T Wx c1 H1 r D := by
  cases r with
  | ok f st =>
    cases f with
    | nx => exact fun σ' H' c' s' h1 => h σ' H' c' (s.trans s') h1
    | brk => exact fun σ' H' c' s' h1 => h σ' H' c' (s.trans s') h1
    | cnt => exact fun σ' H' c' s' h1 => h σ' H' c' (s.trans s') h1
    | ret w => exact fun v σ' H' c' s' h1 h2 => h v σ' H' c' (s.trans s') h1 h2
  | exc x st => exact fun cls d σ' H' c' s' h1 h2 => h cls d σ' H' c' (s.trans s') h1 h2
  | stk => exact h
theorem PostS.bind {rel : Cf → Hp → α → β → Prop} {m : R α} {f : α → St → R Fl} (h : PostS T Wx c H (m.bind f) D) :
    Post T Wx rel c σ H m fun b H1 => ∃ c1 st1 a, Stp c H c1 H1 ∧ RSt T c1 st1 σ H1 ∧ rel c1 H1 a b ∧ PostS T Wx c1 H1 (f a st1) D := by
  cases m with
  | ok a st => exact fun b H' c' s h1 h2 => ⟨c', st, a, s, h1, h2, h.from s⟩
  | exc x st => exact fun cls d H' c' s h1 h2 => h cls d σ H' c' s h1 h2
  | stk => exact h
theorem PostS.bindF {m : R W} {f : W → St → R Fl} (h : PostS T Wx c H (m.bind f) D) :
    PostF T Wx c σ H m fun b H1 => ∃ c1 st1 a, Stp c H c1 H1 ∧ RSt T c1 st1 σ H1 ∧ RV T c1 σ H1 a b ∧ FrW T c1 st1 σ H H1 a b ∧ PostS T Wx c H (f a st1) D := by
  cases m with
  | ok a st => exact fun b H' c' s h1 h2 h3 => ⟨c', st, a, s, h1, h2, h3, h⟩
  | exc x st => exact fun cls d H' c' s h1 h2 => h cls d σ H' c' s h1 h2
  | stk => exact h
/-! ### blocks -/
theorem sss_nil : SSs T X Wx [] (exSs p cal wf []) := PSs.imp pss_nil fun D σ H ⟨c, st, h, q⟩ => by
  rw [exSs] at q
  exact q σ H c Stp.refl h
theorem sss_cons {x : Stmt} {xs : List Stmt} {y : S} {ys : List S} (h1 : SS T X Wx x (exS p cal wf y)) (h2 : SSs T X Wx xs (exSs p cal wf ys)) : SSs T X Wx (x :: xs) (exSs p cal wf (y :: ys)) :=
  PSs.imp (pss_cons h1 h2) fun D σ H ⟨c, st, h, q⟩ => by
    rw [exSs] at q
    refine ⟨c, st, h, ?_⟩
    cases e : exS p cal wf y st with
    | stk => rw [e] at q; exact q
    | exc x st1 => rw [e] at q; exact q
    | ok f st1 =>
      rw [e, bind_ok] at q
      cases f with
      | nx => exact fun σ' H' c' S h' => ⟨c', st1, h', PostS.from q S⟩
      | brk => exact q
      | cnt => exact q
      | ret w => exact q
/-! ### small statements -/
theorem ss_pas : SS T X Wx (.Pass pos) (exS p cal wf .pas) := PS.imp ps_pass fun D σ H ⟨c, st, h, q⟩ => by
  rw [exS] at q
  exact q σ H c Stp.refl h
theorem ss_doc {x : Str} {j : Nat} {pos' : Pos} : SS T X Wx (.Expr (.Constant (.str x) j pos) pos') (exS p cal wf .pas) := PS.imp ps_doc fun D σ H ⟨c, st, h, q⟩ => by
  rw [exS] at q
  exact q σ H c Stp.refl h
theorem ss_brk : SS T X Wx (.Break pos) (exS p cal wf .brk) := PS.imp ps_break fun D σ H ⟨c, st, h, q⟩ => by
  rw [exS] at q
  exact q σ H c Stp.refl h
theorem ss_cnt : SS T X Wx (.Continue pos) (exS p cal wf .cnt) := PS.imp ps_continue fun D σ H ⟨c, st, h, q⟩ => by
  rw [exS] at q
  exact q σ H c Stp.refl h
theorem ss_ex (ha : SE T X Wx a (evE p cal ea)) (hs : swapsWith a none pos.line X.env = pure false) : SS T X Wx (.Expr a pos) (exS p cal wf (.ex ea)) :=
  PS.imp (ps_expr ha hs) fun D σ H ⟨c, st, h, q⟩ => by
    rw [exS] at q
    exact ⟨c, st, h, (PostS.bind (rel := relV T σ) q).mono fun v H1 ⟨c1, st1, w, S, h1, r1, q1⟩ => q1 σ H1 c1 Stp.refl h1⟩
theorem ss_ret (ha : SE T X Wx a (evE p cal ea)) : SS T X Wx (.Return (some a) pos) (exS p cal wf (.ret ea)) :=
  PS.imp (ps_ret ha) fun D σ H ⟨c, st, h, q⟩ => by
    rw [exS] at q
    refine ⟨c, st, h, (PostS.bind (rel := relV T σ) q).mono fun v H1 ⟨c1, st1, w, S, h1, r1, q1⟩ => ?_⟩
    cases o : okv w with
    | false => simp only [o] at q1; exact (show False from q1).elim
    | true =>
      simp only [o, if_true] at q1
      exact q1 v σ H1 c1 Stp.refl h1 (RV.rw r1 o)
theorem ss_rtn : SS T X Wx (.Return none pos) (exS p cal wf .rtn) := PS.imp ps_retN fun D σ H ⟨c, st, h, q⟩ => by
  rw [exS] at q
  exact q .non σ H c Stp.refl h rw_non
theorem ss_ife {xs ys : List Stmt} {us vs : List S} (ha : ST T X Wx a (tst p cal ea)) (hx : SSs T X Wx xs (exSs p cal wf us)) (hy : SSs T X Wx ys (exSs p cal wf vs)) : SS T X Wx (.If a xs ys pos) (exS p cal wf (.ife ea us vs)) :=
  PS.imp (ps_if ha hx hy) fun D σ H ⟨c, st, h, q⟩ => by
    rw [exS] at q
    have q' : PostS T Wx c H ((tst p cal ea st).bind fun k st2 => if k then exSs p cal wf us st2 else exSs p cal wf vs st2) D := by
      unfold tst
      rw [bind_assoc']
      exact q
    refine ⟨c, st, h, (PostS.bind (rel := relB) q').mono fun v H1 ⟨c1, st1, w, S, h1, r1, q1⟩ => ?_⟩
    cases r1
    cases v with
    | true => simp only [if_true] at q1 ⊢; exact ⟨c1, st1, h1, q1⟩
    | false => simp only [Bool.false_eq_true, if_false] at q1 ⊢; exact ⟨c1, st1, h1, q1⟩
/-! ### names take values -/
theorem ss_set {i : Nat} {x : Str} {pos' : Pos} (hN : X.N.Nodup) (hi : X.N[i]? = some x) (hx : Loc X.env.scope x) (hf : X.fn x = true ∨ X.env.scope.names.lookup x = some .local) (hs : swapsWith a (some (.Name x pos')) pos.line X.env = pure false)
    (ha : SE T X Wx a (evE p cal ea)) : SS T X Wx (.Assign [.Name x pos'] a pos) (exS p cal wf (.set i ea)) :=
  PS.imp (ps_set hN hi hx ha hs hf) fun D σ H ⟨c, st, h, q⟩ => by
    rw [exS] at q
    refine ⟨c, st, h, (PostS.bind (rel := relV T σ) q).mono fun v H1 ⟨c1, st1, w, S, h1, r1, q1⟩ => ?_⟩
    cases o : okv w && decide (i < st1.r.length) with
    | false => simp only [o] at q1; exact (show False from q1).elim
    | true =>
      simp only [o, if_true] at q1
      rw [Bool.and_eq_true, decide_eq_true_eq] at o
      exact q1 _ H1 _ Stp.drop (h1.setV o.2 (RV.rw r1 o.1))
theorem oOf_nt {w : W} : oOf w ≠ .tab := by cases w <;> simp [oOf]
/-- a list's address -/
theorem lst_ref {w : W} {v : V} (o : isL w = true) (r : RV T c σ H w v) : ∃ a, v = .ref a ∧ ¬ c.nf a := by
  cases w <;> first | (cases o; done) | skip
  · obtain ⟨aa, vs, e1, e2, e3, _⟩ : ∃ a vs, v = .ref a ∧ H a = some (.lst vs) ∧ ¬ c.nf a ∧ RWs T c.lv c.nf H _ vs := by simpa [RV, RW] using r
    exact ⟨aa, e1, e3⟩
  · simp only [RV, RW] at r
    obtain ⟨aa, vs, e1, e2, e3, _⟩ := r
    exact ⟨aa, e1, e3⟩
/-- what is asked where a slot takes a new list -/
theorem own_fin {i : Nat} {w : W} {v : V} {st1 : St} (S : Stp c H c1 H1) (r1 : RV T c1 σ H1 w v) (f1 : FrW T c1 st1 σ H H1 w v)
    (q : PostS T Wx c H (if decide (i < st1.r.length) && isL w then .ok .nx ⟨st1.r.set i (.own (oOf w)), st1.s⟩ else .stk) D) : D.nx (σ.set i (some v)) H1 := by
  cases o : decide (i < st1.r.length) && isL w with
  | false => rw [o] at q; exact (show False from q).elim
  | true =>
    rw [o, if_pos rfl] at q
    rw [Bool.and_eq_true, decide_eq_true_eq] at o
    obtain ⟨aa, e1, e3⟩ := lst_ref o.2 r1
    obtain ⟨g1, g2, g3⟩ := f1 o.2 aa e1
    subst e1
    have hn : ∃ o, H1 aa = some o ∧ isIns o = none := by
      cases w <;> first | (cases o.2; done) | skip
      · obtain ⟨vs, k1, _⟩ := g3
        exact ⟨_, k1, rfl⟩
      · obtain ⟨vs, k1, _⟩ := g3
        exact ⟨_, k1, rfl⟩
    exact q _ H1 _ (S.own g1 hn) (g2.setO (fun z => e3 (.inr z)) (g3.n oOf_nt) o.1)
theorem ss_own {i : Nat} {x : Str} {pos' : Pos} (hN : X.N.Nodup) (hi : X.N[i]? = some x) (hx : Loc X.env.scope x) (hf : X.fn x = true ∨ X.env.scope.names.lookup x = some .local) (hs : swapsWith a (some (.Name x pos')) pos.line X.env = pure false)
    (ha : SF T X Wx a (evE p cal ea)) : SS T X Wx (.Assign [.Name x pos'] a pos) (exS p cal wf (.own i ea)) :=
  PS.imp (ps_set hN hi hx ha hs hf) fun D σ H ⟨c, st, h, q⟩ => by
    rw [exS] at q
    refine ⟨c, st, h, ?_⟩
    have q' := PostS.bindF (σ := σ) q
    cases e : evE p cal ea st with
    | stk => rw [e] at q'; exact q'
    | exc x st1 => rw [e] at q'; exact q'
    | ok w st1 =>
      rw [e] at q'
      intro v H1 c1 S h1 r1 f1
      obtain ⟨c2, st2, w2, S2, h2, r2, f2, q2⟩ := q' v H1 c1 S h1 r1 f1
      exact own_fin S2 r2 f2 q2
theorem ss_unp {tg : Expr} {t : Tg} (hg : SG T X tg t) (hs : swapsWithSole [tg] a pos.line X.env = pure false) (hw : swappedStores [tg] a X.env = pure none) (h1 : (assignEach [tg] X.env).map (·.2) = [assign tg X.env])
    (ha : SE T X Wx a (evE p cal ea)) : SS T X Wx (.Assign [tg] a pos) (exS p cal wf (.unp t ea)) :=
  PS.imp (ps_asg ha hg hs hw h1) fun D σ H ⟨c, st, h, q⟩ => by
    rw [exS] at q
    refine ⟨c, st, h, (PostS.bind (rel := relV T σ) q).mono fun v H1 ⟨c1, st1, w, S, h1, r1, q1⟩ => ?_⟩
    cases e : tgW t w st1.r with
    | none => rw [e] at q1; exact (show False from q1).elim
    | some r' =>
      rw [e] at q1
      cases o : okv w with
      | false =>
        exfalso
        cases w <;> first | (cases o; done) | skip
        cases t <;> simp [tgW, okv] at e
      | true => exact ⟨c1, st1, w, h1, RV.rw r1 o, r', e, fun σ2 c2 S2 h2 _ _ => q1 σ2 H1 c2 S2 h2⟩
/-- name += e, name -= e -/
theorem ss_aug {i : Nat} {x : Str} {pos' : Pos} {op : Bop} (hop : op = .add ∨ op = .sub) (hN : X.N.Nodup) (hi : X.N[i]? = some x) (hx : Loc X.env.scope x) (hf : X.fn x = true ∨ X.env.scope.names.lookup x = some .local)
    (ha : SE T X Wx a (evE p cal ea)) : SS T X Wx (.AugAssign (.Name x pos') (opOf op) a pos) (exS p cal wf (.aug i op ea)) := by
  have pip : ∃ f : Int → Int → Int, PIp X (opOf op) (ipI f) ∧ ∀ w y k, binW op w y = some (.int k) → ∃ m n, w = .int m ∧ y = .int n ∧ k = f m n := by
    rcases hop with e | e <;> subst e
    · refine ⟨_, ip_add, fun w y k e => ?_⟩
      unfold binW at e
      split at e <;> first | contradiction | (cases e; exact ⟨_, _, rfl, rfl, rfl⟩) | (cases e; done) | (split at e <;> cases e)
    · refine ⟨_, ip_sub, fun w y k e => ?_⟩
      unfold binW at e
      split at e <;> first | contradiction | (cases e; exact ⟨_, _, rfl, rfl, rfl⟩) | (cases e; done) | (split at e <;> cases e)
  obtain ⟨f, hp, hb⟩ := pip
  refine PS.imp (ps_aug hN hi hx ha hp hf) fun D σ H ⟨c, st, h, q⟩ => ?_
  rw [exS] at q
  cases e : st.r[i]? with
  | none => rw [e] at q; exact (show False from q).elim
  | some sl =>
    rw [e] at q
    cases sl with
    | un => exact (show False from q).elim
    | own _ => exact (show False from q).elim
    | val w =>
      simp only at q
      obtain ⟨v, e1, r⟩ := h.val i w e
      refine ⟨v, e1, c, st, h, (PostS.bind (rel := relV T σ) q).mono fun u H1 ⟨c1, st1, y, S, h1, r1, q1⟩ => ?_⟩
      cases e2 : binW op w (vw st1 y) with
      | none => rw [e2] at q1; exact (show False from q1).elim
      | some z =>
        rw [e2] at q1
        cases z <;> first | exact (show False from q1).elim | skip
        obtain ⟨m, n, ew, ey, ek⟩ := hb _ _ _ e2
        subst ew ek
        have rv1 := rvv h1 r1
        rw [ey] at rv1
        cases r
        cases rv1
        refine ⟨m, n, rfl, rfl, q1 _ H1 _ Stp.drop (h1.setV ?_ rfl)⟩
        rw [h1.len, ← h.len]
        exact (List.getElem?_eq_some_iff.mp e).1
end
end Ev

/-! S22: loops; fields and places written. -/
namespace Ev
open PySem PySem.Spec PyProof.Rows L2 Calls ClX RZ
section
variable {T : Tb} {X : Cx} {Wx : WX} {p : Pg} {cal : Bool → Nat → List W → List OO → RC} {c c1 c2 : Cf} {st st' : St} {σ : L2.St} {H H0 H1 H2 : Hp} {pins : List (Addr × Obj)} {s : Shared} {k wf : Nat} {D : Ends}
variable {a b d e : Expr} {ea eb ed : E} {pos : Pos}
/-! ### for -/
theorem forR_none {tg : W → List Sl → Option (List Sl)} {b : St → R Fl} {q : Src} {m i : Nat} (e : q.at st i = some none) : forR tg b q m i st = .ok .nx st := by
  rw [forR.eq_def]; simp only [e]
theorem forR_stk {tg : W → List Sl → Option (List Sl)} {b : St → R Fl} {q : Src} {m i : Nat} (e : q.at st i = none) : forR tg b q m i st = .stk := by
  rw [forR.eq_def]; simp only [e]
theorem forR_zero {tg : W → List Sl → Option (List Sl)} {b : St → R Fl} {q : Src} {i : Nat} {w : W} (e : q.at st i = some (some w)) : forR tg b q 0 i st = .stk := by
  rw [forR.eq_def]; simp only [e]
/-- what a turn's end leads to -/
def turnF (g : St → R Fl) (f : Fl) (st2 : St) : R Fl := match f with
  | .nx => g st2
  | .cnt => g st2
  | .brk => .ok .nx st2
  | .ret w => .ok (.ret w) st2
theorem forR_step {tg : W → List Sl → Option (List Sl)} {b : St → R Fl} {q : Src} {m i : Nat} {w : W} (e : q.at st i = some (some w)) : forR tg b q (m + 1) i st = match tg w st.r with
    | none => .stk
    | some r => (b ⟨r, st.s⟩).bind (turnF fun st2 => forR tg b q m (i + 1) st2) := by
  rw [forR.eq_def]; simp only [e]
  rfl
def FW (T : Tb) (Wx : WX) (t : Tg) (b : St → R Fl) (q : Src) (c1 : Cf) (H1 : Hp) (D : Ends) (i m : Nat) (σ : L2.St) (H : Hp) : Prop :=
  ∃ (c : Cf) (st : St), Stp c1 H1 c H ∧ RSt T c st σ H ∧ PostS T Wx c H (forR (tgW t) b q m i st) D
/-- a body whose end is looked at -/
theorem turn_end {m : R Fl} {g : St → R Fl} {D2 : Ends} (P : PostS T Wx c H (m.bind (turnF g)) D) (hn : ∀ st1 σ' H' c', m = .ok .nx st1 ∨ m = .ok .cnt st1 → Stp c H c' H' → RSt T c' st1 σ' H' → PostS T Wx c' H' (g st1) D → D2.nx σ' H' ∧ D2.ct σ' H')
    (hb : D2.bk = D.nx) (hr : D2.rt = D.rt) : PostS T Wx c H m D2 := by
  cases m with
  | stk => exact P
  | exc x st1 => exact P
  | ok f st1 =>
    rw [bind_ok] at P
    cases f with
    | nx => exact fun σ' H' c' S h => (hn st1 σ' H' c' (.inl rfl) S h (PostS.from P S)).1
    | cnt => exact fun σ' H' c' S h => (hn st1 σ' H' c' (.inr rfl) S h (PostS.from P S)).2
    | brk =>
      show ∀ σ' H' c', _ → _ → D2.bk σ' H'
      rw [hb]; exact P
    | ret w =>
      show ∀ v σ' H' c', _ → _ → _ → D2.rt v H'
      rw [hr]; exact P
theorem for_turn {t : Tg} {b : St → R Fl} {q : Src} {J : It} (hk : Wk T c1 H1 q J) (i m : Nat) (σ : L2.St) (H : Hp) (w : FW T Wx t b q c1 H1 D i m σ H) :
    (J.stop i H ∧ D.nx σ H) ∨ (J.go i H ∧ ∃ N : L2.St → Hp → Prop, (∀ σ' H', N σ' H' → ∃ m', m' < m ∧ FW T Wx t b q c1 H1 D (i + 1) m' σ' H') ∧ ∀ x H', J.yld i H x H' → rdG T t x σ H' fun σ2 H2 => rdS T Wx b { D with nx := N, ct := N, bk := D.nx } σ2 H2) := by
  obtain ⟨c, st, S, h, P⟩ := w
  obtain ⟨k1, k2⟩ := hk c st σ H i S.mn h
  cases ea : q.at st i with
  | none => rw [forR_stk ea] at P; exact (show False from P).elim
  | some o =>
  cases o with
  | none =>
    rw [forR_none ea] at P
    exact .inl ⟨k1 ea, P σ H c Stp.refl h⟩
  | some x =>
    cases m with
    | zero => rw [forR_zero ea] at P; exact (show False from P).elim
    | succ m =>
    obtain ⟨go, yl⟩ := k2 x ea
    refine .inr ⟨go, FW T Wx t b q c1 H1 D (i + 1) m, fun σ' H' z => ⟨m, Nat.lt_succ_self _, z⟩, fun v H' y => ?_⟩
    obtain ⟨S1, h1, rx⟩ := yl v H' y
    rw [forR_step ea] at P
    cases et : tgW t x st.r with
    | none => rw [et] at P; exact (show False from P).elim
    | some r' =>
    rw [et] at P
    refine ⟨c, st, x, h1, rx, r', et, fun σ2 c2 S2 h2 _ _ => ⟨c2, ⟨r', st.s⟩, h2, ?_⟩⟩
    refine turn_end (PostS.from (PostS.from P S1) S2) (fun st3 σ3 H3 c3 _ S3 h3 P3 => ?_) rfl rfl
    have z : FW T Wx t b q c1 H1 D (i + 1) m σ3 H3 := ⟨c3, st3, S.trans (S1.trans (S2.trans S3)), h3, P3⟩
    exact ⟨z, z⟩
theorem ss_for {tg iter : Expr} {body : List Stmt} {t : Tg} {it : I} {bs : List S} (hp : PassesOwn (model X.prog X.w) X.A X.env X.xe) (hc : X.calm = true) (hi : SI T X Wx tg iter (evI p cal it)) (hg : SG T X tg t) (hb : SSs T X Wx body (exSs p cal wf bs))
    (hs : ∀ x, foldedSetIterable iter X.env x = pure x) : SS T X Wx (.For tg iter body [] pos) (exS p cal wf (.for t it bs)) :=
  PS.imp (ps_for hp hc hi hg hb hs) fun D σ H ⟨c, st, h, q⟩ => by
    rw [exS] at q
    refine ⟨c, st, h, (PostS.bind (rel := relI T) q).mono fun J H1 ⟨c1, st1, src, S, h1, hk, q1⟩ => ?_⟩
    exact ⟨FW T Wx t (exSs p cal wf bs) src c1 H1 D, ⟨src.len st1, c1, st1, Stp.refl, h1, q1⟩, fun i m σ H w => for_turn hk i m σ H w⟩
/-! ### while -/
theorem whlR_step {cc : St → R Bool} {b : St → R Fl} {n : Nat} : whlR cc b (n + 1) st = (cc st).bind fun k st1 => if k then (b st1).bind (turnF fun st2 => whlR cc b n st2) else .ok .nx st1 := by
  rw [whlR]
  rfl
theorem ss_whl {xs : List Stmt} {us : List S} (hp : PassesOwn (model X.prog X.w) X.A X.env X.xe) (ha : ST T X Wx a (tst p cal ea)) (hx : SSs T X Wx xs (exSs p cal wf us)) : SS T X Wx (.While a xs [] pos) (exS p cal wf (.whl ea us)) :=
  PS.imp (ps_while hp ha hx) fun D σ H ⟨c, st, h, q⟩ => by
    rw [exS] at q
    refine ⟨fun m σ H => ∃ c st, RSt T c st σ H ∧ PostS T Wx c H (whlR (tst p cal ea) (exSs p cal wf us) m st) D, ⟨wf, c, st, h, q⟩, ?_⟩
    rintro m σ H ⟨c, st, h, P⟩
    cases m with
    | zero => exact (show False from P).elim
    | succ m =>
    rw [whlR_step] at P
    refine ⟨c, st, h, (PostS.bind (rel := relB) P).mono fun v H1 ⟨c1, st1, w, S, h1, r1, q1⟩ => ?_⟩
    cases r1
    cases v with
    | false =>
      simp only [Bool.false_eq_true, if_false] at q1 ⊢
      exact q1 σ H1 c1 Stp.refl h1
    | true =>
      simp only [if_true] at q1 ⊢
      refine ⟨fun σ H => ∃ c st, RSt T c st σ H ∧ PostS T Wx c H (whlR (tst p cal ea) (exSs p cal wf us) m st) D, fun σ' H' z => ⟨m, Nat.lt_succ_self _, z⟩, c1, st1, h1, ?_⟩
      refine turn_end q1 (fun st3 σ3 H3 c3 _ S3 h3 P3 => ?_) rfl rfl
      exact ⟨⟨c3, st3, h3, P3⟩, ⟨c3, st3, h3, P3⟩⟩
/-! ### fields -/
theorem put_nf {x : W} {v : V} {o' : OO} {aa : Addr} (h : RSt T c st σ H) (r : RV T c σ H x v) (ep : Ev.put st o' x = some st') (ev : v = .ref aa) : c.nf aa := by
  cases x with
  | loc n =>
    obtain ⟨a2, e2, hn⟩ : ∃ a2, v = .ref a2 ∧ c.lv[n]? = some a2 := by simpa [RV, RW] using r
    have : a2 = aa := by rw [ev] at e2; simpa using e2.symm
    subst this
    exact .inl (.inl (List.mem_of_getElem? hn))
  | sl i =>
    cases q0 : st.r[i]? with
    | none => simp [Ev.put, q0] at ep
    | some sl =>
      cases sl with
      | own o0 =>
        obtain ⟨a2, b1, b2, b3⟩ := h.own i o0 q0
        have e2 : σ[i]? = some (some v) := r
        have : a2 = aa := by rw [e2, ev] at b2; simpa using b2.symm
        subst this
        exact .inl (.inr ⟨i, b1⟩)
      | val _ => simp [Ev.put, q0] at ep
      | un => simp [Ev.put, q0] at ep
  | _ => simp [Ev.put] at ep
theorem fput_ok {lv : List Addr} {nf : Addr → Prop} (inj : ∀ i j, T.sy i = T.sy j → i = j) {f : Nat} {w : W} {v : V} (r : RW T lv nf H w v) : ∀ {ns : List Nat} {xs : List W} {vs : List V}, ns.length = vs.length → RWs T lv nf H xs vs →
    ∃ vs', putF (T.sy f) v ((ns.map T.sy).zip vs) = ((fput f w ns xs).1.map T.sy).zip vs' ∧ (fput f w ns xs).1.length = vs'.length ∧ RWs T lv nf H (fput f w ns xs).2 vs'
  | [], xs, vs, e, rr => by
    have : vs = [] := List.eq_nil_of_length_eq_zero e.symm
    subst this
    have : xs = [] := List.eq_nil_of_length_eq_zero rr.len
    subst this
    exact ⟨[v], rfl, rfl, RWs.cons r RWs.nil⟩
  | g :: ns, xs, [], e, rr => by simp at e
  | g :: ns, [], u :: vs, e, rr => by simp [RWs] at rr
  | g :: ns, x :: xs, u :: vs, e, rr => by
    simp only [RWs] at rr
    obtain ⟨u', vs', e1, r1, r2⟩ := rr
    cases e1
    simp only [List.map_cons, List.zip_cons_cons, putF, fput]
    by_cases hg : g = f
    · subst hg
      rw [if_pos rfl, if_pos rfl]
      exact ⟨v :: vs, rfl, by simpa using e, RWs.cons r r2⟩
    · rw [if_neg (fun z => hg (inj _ _ z)), if_neg hg]
      obtain ⟨zs, h1, h2, h3⟩ := fput_ok inj r (f := f) (ns := ns) (by simpa using e) r2
      refine ⟨u :: zs, ?_, ?_, RWs.cons r1 h3⟩
      · rw [h1]; rfl
      · simp [h2]
theorem clsG_flds {C f : Nat} (h : fldOk p C f = true) : ∃ cc, clsG p C = some cc ∧ cc.flds.contains f = true := by
  unfold fldOk at h
  cases e : clsG p C with
  | none => rw [e] at h; cases h
  | some cc => rw [e] at h; exact ⟨cc, rfl, h⟩
theorem ss_sta (O : XO T p X Wx k cal) {o : Expr} {eo : E} {f : Nat} {x : Str} {pos' : Pos} (hx : x = T.sy f) (hs : swapsWith a (some (.Attribute o x pos')) pos.line X.env = pure false) (ho : SE T X Wx o (evE p cal eo)) (ha : SE T X Wx a (evE p cal ea)) :
    SS T X Wx (.Assign [.Attribute o x pos'] a pos) (exS p cal wf (.sta eo f ea)) := by
  subst hx
  refine PS.imp (ps_fld ho ha hs) fun D σ H ⟨c, st, h, q⟩ => ?_
  rw [exS] at q
  refine ⟨c, st, h, (PostS.bind (rel := relV T σ) q).mono fun v H1 ⟨c1, st1, w, S, h1, r1, q1⟩ => ⟨c1, st1, h1, (PostS.bind (rel := relV T σ) q1).mono fun u H2 ⟨c2, st2, y, S2, h2, r2, q2⟩ => ?_⟩⟩
  cases el : look st2 y with
  | none => rw [el] at q2; exact (show False from q2).elim
  | some ob =>
  rw [el, Option.bind_some] at q2
  cases ow : okv w with
  | false => rw [ow] at q2; exact (show False from q2).elim
  | true =>
  rw [ow, if_pos rfl] at q2
  cases es : staW p f w ob with
  | none => rw [es] at q2; exact (show False from q2).elim
  | some ob' =>
  rw [es, Option.bind_some] at q2
  cases ep : Ev.put st2 ob' y with
  | none => rw [ep] at q2; exact (show False from q2).elim
  | some st3 =>
  rw [ep] at q2
  cases ob with
  | lst _ => simp [staW] at es
  | dct _ _ => simp [staW] at es
  | tab => simp [staW] at es
  | ins C ns xs =>
  simp only [staW] at es
  cases hc : decide (ns.length < 900) && fldOk p C f with
  | false => rw [hc] at es; simp at es
  | true =>
  rw [hc] at es
  simp only [if_true, Option.some.injEq] at es
  subst es
  rw [Bool.and_eq_true, decide_eq_true_eq] at hc
  obtain ⟨cc, hcc, hf⟩ := clsG_flds hc.2
  have cf := O.G.cls C cc hcc
  obtain ⟨aa, e1, dx, vs, g1, g2, g3⟩ := look_ok h2 r2 el
  have nf := put_nf h2 r2 ep e1
  have rw1 : RW T c2.lv c2.nf H2 w v := (RV.rw r1 ow).mono S2.mn
  obtain ⟨vs', k1, k2, k3⟩ := fput_ok (T := T) O.G.inj (f := f) rw1 g2 g3
  refine ⟨aa, T.ca C, dx, _, e1, g1, cf.cl, cf.na f hf, ?_, ?_⟩
  · rw [List.length_zip, List.length_map, g2, Nat.min_self, ← g2]; omega
  · rw [k1]
    obtain ⟨_, S3, h3⟩ := h2.put (ho := .ins (T.ca C) dx (((fput f w ns xs).1.map T.sy).zip vs')) r2 el ep e1 ⟨dx, vs', upd_same, k2, k3.mono (mn_put nf fun u eu => by rw [g1] at eu; cases eu; rfl)⟩ (fun u eu => by rw [g1] at eu; cases eu; rfl)
    exact q2 σ _ c2 S3 h3
/-! ### places -/
def rSti (o i v : V) (H : Hp) (Q : Hp → Prop) : Prop := rSetL o i v H Q ∨ ∃ a H', o = .ref a ∧ DPut H a i v H' ∧ Q H'
theorem set_any (hu : Deep X) : PSet X rSti := by
  intro pins s σ H o i v ov iv u Q I ro ri rv h
  rcases h with h | ⟨a, H', rfl, g, q⟩
  · exact set_list pins s σ H o i v ov iv u Q I ro ri rv h
  · cases ro
    have := hu
    refine d_setItem (by unfold Deep at this; omega) I g ri rv fun s' I' => ⟨H', I', q⟩
theorem sw_sub {o i : Expr} {p1 : Pos} {l : Nat} {env : Env} (e : Expr) : swapsWith e (some (.Subscript o i p1)) l env = pure false := by cases e <;> rfl
theorem sw_att {o : Expr} {x : Str} {p1 : Pos} {l : Nat} {env : Env} (e : Expr) : swapsWith e (some (.Attribute o x p1)) l env = pure false := by cases e <;> rfl
theorem sw_tup {es : List Expr} {n : Nat} {p1 : Pos} {l : Nat} {env : Env} (e : Expr) : swapsWith e (some (.Tuple es n p1)) l env = pure false := by cases e <;> rfl
theorem sti_fin {x : W} {kk v : W} {u ku z : V} {ob ob' : OO} (h : RSt T c st σ H) (rx : RV T c σ H x u) (rk : RV T c σ H kk ku) (rz : RW T c.lv c.nf H v z) (el : look st x = some ob) (es : stiW ob kk v = some ob') (ep : Ev.put st ob' x = some st')
    {Q : Hp → Prop} (q : ∀ H', Stp c H c H' → RSt T c st' σ H' → Q H') : rSti u ku z H Q := by
  obtain ⟨aa, e1, ro⟩ := look_ok h rx el
  subst e1
  have nf := put_nf h rx ep rfl
  cases ob with
  | ins _ _ _ => simp [stiW] at es
  | tab => simp [stiW] at es
  | lst xs =>
    cases kk <;> first | (simp [stiW] at es; done) | skip
    rename_i i
    obtain ⟨j, e2, e3⟩ := Option.map_eq_some_iff.mp (show (Ev.ixN xs.length i).map (fun j => OO.lst (xs.set j v)) = some ob' from es)
    subst e3
    obtain ⟨vs, g1, g2⟩ := ro
    cases rk
    obtain ⟨_, S3, h3⟩ := h.put (ho := .lst (vs.set j z)) rx el ep rfl ⟨_, upd_same, (g2.set j rz).mono (mn_put nf fun u eu => by rw [g1] at eu; cases eu; rfl)⟩ (fun u eu => by rw [g1] at eu; cases eu; rfl)
    exact .inl ⟨aa, vs, i, j, rfl, rfl, g1, by rw [← g2.len]; exact e2, q _ S3 h3⟩
  | dct ks xs =>
    simp only [stiW] at es
    obtain ⟨kq, e2, e3⟩ := Option.bind_eq_some_iff.mp es
    split at e3
    · rename_i hl
      cases e3
      obtain ⟨vs, g1, g2, g3⟩ := ro
      have ry := rvv h rk
      have ek' : kyOf (vw st kk) = some kq := by
        have e2' := e2
        unfold kyOf at e2
        split at e2 <;> first | (cases e2; done) | exact e2'
      have rkey := key_of ek' ry
      subst rkey
      obtain ⟨vs', k1, k2, k3⟩ := kput_ok (q := kq) g2 g3 rz
      obtain ⟨_, S3, h3⟩ := h.put (ho := .dK (((kput kq v ks xs).1.map kS).zip vs')) rx el ep rfl ⟨vs', upd_same, k2, k3.mono (mn_put nf fun u eu => by rw [g1] at eu; cases eu; rfl)⟩ (fun u eu => by rw [g1] at eu; cases eu; rfl)
      refine .inr ⟨aa, _, rfl, DPut.k g1 ?_, ?_⟩
      · rw [List.length_zip, List.length_map, ← g2, Nat.min_self, ← line_eq]; exact hl
      · rw [k1]
        exact q _ S3 h3
    · cases e3
theorem ss_sti (hu : Deep X) {o i : Expr} {eo ei : E} {pos' : Pos} (ho : SE T X Wx o (evE p cal eo)) (hi : SE T X Wx i (evE p cal ei)) (ha : SE T X Wx a (evE p cal ea)) (hns : notSlice i = true) :
    SS T X Wx (.Assign [.Subscript o i pos'] a pos) (exS p cal wf (.sti eo ei ea)) := by
  have hs1 : swapsWithSole [.Subscript o i pos'] a pos.line X.env = pure false := by cases a <;> rfl
  have hs2 : swappedStores [.Subscript o i pos'] a X.env = pure none := by cases a <;> rfl
  refine PS.imp (ps_asg ha (pg_sub ho hi (set_any hu) (fun v => by cases i <;> first | rfl | cases hns)) hs1 hs2 rfl) fun D σ H ⟨c, st, h, q⟩ => ?_
  rw [exS] at q
  refine ⟨c, st, h, (PostS.bind (rel := relV T σ) q).mono fun v H1 ⟨c1, st1, w, S, h1, r1, q1⟩ => ⟨c1, st1, h1, (PostS.bind (rel := relV T σ) q1).mono fun u H2 ⟨c2, st2, y, S2, h2, r2, q2⟩ =>
    ⟨c2, st2, h2, (PostS.bind (rel := relV T σ) q2).mono fun u3 H3 ⟨c3, st3, y3, S3, h3, r3, q3⟩ => ?_⟩⟩⟩
  cases el : look st3 y with
  | none => rw [el] at q3; exact (show False from q3).elim
  | some ob =>
  rw [el, Option.bind_some] at q3
  cases ow : okv w with
  | false => rw [ow] at q3; exact (show False from q3).elim
  | true =>
  rw [ow, if_pos rfl] at q3
  cases es : stiW ob y3 w with
  | none => rw [es] at q3; exact (show False from q3).elim
  | some ob' =>
  rw [es, Option.bind_some] at q3
  cases ep : Ev.put st3 ob' y with
  | none => rw [ep] at q3; exact (show False from q3).elim
  | some st4 =>
  rw [ep] at q3
  exact sti_fin h3 (RV.mono S3 r2) r3 ((RV.rw r1 ow).mono (S2.trans S3).mn) el es ep fun H' S4 h4 => q3 σ H' c3 S4 h4
end
end Ev

/-! S23: new objects of the store, objects let go, what is never reached, a, b = x, y. -/
namespace Ev
open PySem PySem.Spec PyProof.Rows L2 Calls ClX RZ
/-- one more object in the store -/
def Cf.add (c : Cf) (a : Addr) : Cf := ⟨c.lv ++ [a], c.ow, c.ou⟩
section
variable {T : Tb} {c : Cf} {st : St} {σ : L2.St} {H H0 : Hp}
theorem add_nf {a b : Addr} (q : (c.add a).nf b) : (c.opn a).nf b := by
  rcases q with (q | q) | q
  · rcases List.mem_append.mp (show b ∈ c.lv ++ [a] from q) with z | z
    · exact .inl (.inl z)
    · exact .inr (.inr (by simpa using z))
  · exact .inl (.inr q)
  · exact .inr (.inl q)
theorem RSt.add {a : Addr} {o : OO} (h : RSt T (c.opn a) st σ H) (na : ¬ c.ou a) (ro : RO T (c.opn a).lv (c.opn a).nf H o a) : RSt T (c.add a) ⟨st.r, st.s ++ [o]⟩ σ H := by
  have nm : ¬ c.mu a := h.ou a (.inr rfl)
  have lvx : ∀ (n : Nat) b, c.lv[n]? = some b → (c.lv ++ [a])[n]? = some b := fun n b e => by
    rw [List.getElem?_append_left (List.getElem?_eq_some_iff.mp e).1]; exact e
  have m : Mn (c.opn a).lv (c.opn a).nf H (c.add a).lv (c.add a).nf H := ⟨fun _ _ e _ _ => e, fun b q => .inl (add_nf q), lvx, fun _ _ e => e⟩
  have hln : st.s.length = c.lv.length := h.sto.len
  refine ⟨h.len, fun j w e => ?_, fun j o' e => ?_, h.back, h.inj, fun j b e => ?_, fun b q z => ?_, fun b q => h.ouh b (.inl q), ⟨?_, ?_, fun n o' b e1 e2 => ?_⟩⟩
  · obtain ⟨v', e1, r'⟩ := h.val j w e
    exact ⟨v', e1, r'.mono m⟩
  · obtain ⟨b, e1, e2, r'⟩ := h.own j o' e
    exact ⟨b, e1, e2, r'.mono m rfl⟩
  · intro z
    rcases List.mem_append.mp (show b ∈ c.lv ++ [a] from z) with z | z
    · exact h.dis j b e z
    · have : b = a := by simpa using z
      subst this
      exact nm (.inr ⟨j, e⟩)
  · rcases z with z | z
    · rcases List.mem_append.mp (show b ∈ c.lv ++ [a] from z) with z | z
      · exact h.ou b (.inl q) (.inl z)
      · have : b = a := by simpa using z
        subst this
        exact na q
    · exact h.ou b (.inl q) (.inr z)
  · show (st.s ++ [o]).length = (c.lv ++ [a]).length
    simp [hln]
  · show (c.lv ++ [a]).Nodup
    refine List.nodup_append.mpr ⟨h.sto.nd, by simp, fun x hx y hy => ?_⟩
    have : y = a := by simpa using hy
    subst this
    rintro rfl
    exact nm (.inl hx)
  · have e1 : (st.s ++ [o])[n]? = some o' := e1
    have e2 : (c.lv ++ [a])[n]? = some b := e2
    by_cases hn : n < st.s.length
    · rw [List.getElem?_append_left hn] at e1
      rw [List.getElem?_append_left (by omega)] at e2
      exact (h.sto.at_ n o' b e1 e2).mono m rfl
    · rw [List.getElem?_append_right (by omega)] at e1
      rw [List.getElem?_append_right (by omega), ← hln] at e2
      cases hk : n - st.s.length with
      | zero =>
        rw [hk] at e1 e2
        cases e1; cases e2
        exact ro.mono m rfl
      | succ k => rw [hk] at e1; simp at e1
theorem Stp.add {c0 : Cf} {a : Addr} (S : Stp c0 H0 c H) (h0 : tn (H0 a)) : Stp c0 H0 (c.add a) H where
  fr := S.fr
  mw := fun b q => by
    rcases q with q | q
    · rcases List.mem_append.mp (show b ∈ c.lv ++ [a] from q) with z | z
      · exact S.mw b (.inl z)
      · have : b = a := by simpa using z
        subst this
        exact .inr h0
    · exact S.mw b (.inr q)
  lv := fun n b e => by
    have := S.lv n b e
    show (c.lv ++ [a])[n]? = some b
    rw [List.getElem?_append_left (List.getElem?_eq_some_iff.mp this).1]; exact this
  ou := S.ou
  kk := S.kk
  ow := S.ow
end
section
variable {T : Tb} {X : Cx} {Wx : WX} {p : Pg} {cal : Bool → Nat → List W → List OO → RC} {c c1 c2 : Cf} {st st' : St} {σ : L2.St} {H H0 H1 H2 : Hp} {pins : List (Addr × Obj)} {s : Shared} {k wf : Nat} {D : Ends}
variable {a b d e : Expr} {ea eb ed : E} {pos : Pos}
theorem Post.bindF {α β : Type} {rel2 : Cf → Hp → α → β → Prop} {Q : β → Hp → Prop} {m : R W} {f : W → St → R α} (h : Post T Wx rel2 c σ H (m.bind f) Q) :
    PostF T Wx c σ H m fun b H1 => ∃ c1 st1 a, m = .ok a st1 ∧ Stp c H c1 H1 ∧ RSt T c1 st1 σ H1 ∧ RV T c1 σ H1 a b ∧ FrW T c1 st1 σ H H1 a b ∧ Post T Wx rel2 c σ H (f a st1) Q := by
  cases m with
  | ok a st => exact fun b H' c' s h1 h2 h3 => ⟨c', st, a, rfl, s, h1, h2, h3, h⟩
  | exc x st => exact h
  | stk => exact h
theorem se_alc (ha : SF T X Wx a (evE p cal ea)) : SE T X Wx a (evE p cal (.alc ea)) :=
  PE.imp ha fun σ H Q ⟨c, st, h, q⟩ => by
    simp only [evE] at q
    refine ⟨c, st, h, ?_⟩
    have q' := Post.bindF q
    cases e : evE p cal ea st with
    | stk => rw [e] at q'; exact q'
    | exc x st1 => rw [e] at q'; exact q'
    | ok w st1 =>
      rw [e] at q'
      intro v H1 c1 S h1 r1 f1
      obtain ⟨c2, st2, w2, e2, S2, h2, r2, f2, q2⟩ := q' v H1 c1 S h1 r1 f1
      cases o : isL w2 with
      | false => rw [o] at q2; exact (show False from q2).elim
      | true =>
        rw [o, if_pos rfl] at q2
        obtain ⟨aa, e1, e3⟩ := lst_ref o r2
        obtain ⟨g1, g2, g3⟩ := f2 o aa e1
        refine q2 v H1 (c2.add aa) (S2.add g1) (g2.add (fun z => e3 (.inr z)) g3) ?_
        show RW T (c2.add aa).lv (c2.add aa).nf H1 (.loc st2.s.length) v
        simp only [RW]
        refine ⟨aa, e1, ?_⟩
        show (c2.lv ++ [aa])[st2.s.length]? = some aa
        rw [show st2.s.length = c2.lv.length from h2.sto.len]
        simp
/-- an object of the frame is let go -/
theorem RSt.frz (h : RSt T c st σ H) {i : Nat} {o : OO} {w : W} (e : st.r[i]? = some (.own o)) (hw : ∀ a, c.ow i = some a → RO T c.lv c.nf H o a → ¬ (c.drop i).nf a → RW T (c.drop i).lv (c.drop i).nf H w (.ref a)) : RSt T (c.drop i) ⟨st.r.set i (.val w), st.s⟩ σ H ∧ ∃ a, σ[i]? = some (some (.ref a)) ∧ RW T (c.drop i).lv (c.drop i).nf H w (.ref a) := by
  obtain ⟨a, e1, e2, ro⟩ := h.own i o e
  have hi : i < st.r.length := (List.getElem?_eq_some_iff.mp e).1
  have nf : ¬ (c.drop i).nf a := fun z => by
    rcases z with (z | ⟨j, z⟩) | z
    · exact h.dis i a e1 z
    · unfold Cf.drop at z
      simp only at z
      split at z
      · cases z
      · rename_i hj
        exact hj (h.inj j i a z e1)
    · exact h.ou a z (.inr ⟨i, e1⟩)
  have rw1 := hw a e1 ro.ro nf
  have m := (Stp.drop (c := c) (H := H) (i := i)).mn
  refine ⟨⟨by simp [h.len], fun j w' e' => ?_, fun j o' e' => ?_, fun j b e' => ?_, fun j j' b e' e'' => ?_, fun j b e' => ?_, fun b q z => h.ou b q (drop_mu z), h.ouh, ⟨h.sto.len, h.sto.nd, fun n o' b e1 e2 => (h.sto.at_ n o' b e1 e2).mono m rfl⟩⟩, a, e2, rw1⟩
  · by_cases hj : i = j
    · subst hj
      rw [List.getElem?_set_self hi] at e'
      cases e'
      exact ⟨_, e2, rw1⟩
    · rw [List.getElem?_set_ne hj] at e'
      obtain ⟨v', g1, r'⟩ := h.val j w' e'
      exact ⟨v', g1, r'.mono m⟩
  · by_cases hj : i = j
    · subst hj
      rw [List.getElem?_set_self hi] at e'
      cases e'
    · rw [List.getElem?_set_ne hj] at e'
      obtain ⟨b, g1, g2, r'⟩ := h.own j o' e'
      exact ⟨b, by unfold Cf.drop; simp only; rw [if_neg (Ne.symm hj)]; exact g1, g2, r'.mono m rfl⟩
  · unfold Cf.drop at e'
    simp only at e'
    split at e'
    · cases e'
    · rename_i hj
      obtain ⟨o', g1⟩ := h.back j b e'
      exact ⟨o', by simp only; rw [List.getElem?_set_ne (Ne.symm hj)]; exact g1⟩
  · unfold Cf.drop at e' e''
    simp only at e' e''
    split at e'
    · cases e'
    · split at e''
      · cases e''
      · exact h.inj j j' b e' e''
  · unfold Cf.drop at e'
    simp only at e'
    split at e'
    · cases e'
    · exact h.dis j b e'
theorem se_frz {i : Nat} {x : Str} (hN : X.N[i]? = some x) (hv : Vis X.env.scope x) (h1 : (x == ("__debug__" : Str)) = false) (h2 : (x == ("__classdict__" : Str)) = false) : SE T X Wx (.Name x pos) (evE p cal (.frz i)) :=
  PE.imp (pe_var hN hv h1 h2) fun σ H Q ⟨c, st, h, q⟩ => by
    simp only [evE] at q
    cases e : st.r[i]? with
    | none => simp [e] at q; exact q.elim
    | some s =>
      cases s with
      | un => simp [e] at q; exact q.elim
      | val w =>
        simp [e] at q
        obtain ⟨v, e1, r⟩ := h.val i w e
        exact ⟨v, e1, Post.ret q h r.rv⟩
      | own o =>
        have m := (Stp.drop (c := c) (H := H) (i := i)).mn
        cases o with
        | lst xs =>
          simp only [e] at q
          obtain ⟨h', a, e1, r⟩ := h.frz (w := .lst xs) e fun a _ ro nf => by
            obtain ⟨vs, g1, g2⟩ := ro
            simp only [RW]
            exact ⟨a, vs, rfl, g1, nf, g2.mono m⟩
          exact ⟨.ref a, e1, q _ H (c.drop i) Stp.drop h' r.rv⟩
        | dct ks xs =>
          simp only [e] at q
          obtain ⟨h', a, e1, r⟩ := h.frz (w := .dct ks xs) e fun a _ ro nf => by
            obtain ⟨vs, g1, g2, g3⟩ := ro
            simp only [RW]
            exact ⟨a, vs, rfl, g1, nf, g2, g3.mono m⟩
          exact ⟨.ref a, e1, q _ H (c.drop i) Stp.drop h' r.rv⟩
        | ins _ _ _ => simp [e] at q; exact q.elim
        | tab => simp [e] at q; exact q.elim
theorem se_nvr : SE T X Wx e (evE p cal .nvr) := ⟨fun pins s σ H Q I ⟨c, st, h, q⟩ => by
  simp only [evE] at q
  exact (show False from q).elim⟩
theorem ss_nvr {x : Stmt} : SS T X Wx x (exS p cal wf .nvr) := ⟨fun pins s σ H Q I ⟨c, st, h, q⟩ => by
  rw [exS] at q
  exact (show False from q).elim⟩
/-! ### a, b = x, y -/
theorem ss_par2 {i j : Nat} {x y : Str} {px py pt : Pos} {kt k2 : Nat} {pt2 : Pos} (hc : X.calm = true) (hN : X.N.Nodup) (hi : X.N[i]? = some x) (hj : X.N[j]? = some y) (hij : i ≠ j)
    (hx : X.env.scope.names.lookup x = some .local) (hy : X.env.scope.names.lookup y = some .local)
    (hw : swappedStores [.Tuple [.Name x px, .Name y py] kt pt] (.Tuple [a, b] k2 pt2) X.env = pure (some [x, y])) (ha : SA T X Wx [a, b] (evEs p cal [ea, eb])) :
    SS T X Wx (.Assign [.Tuple [.Name x px, .Name y py] kt pt] (.Tuple [a, b] k2 pt2) pos) (exS p cal wf (.par [i, j] [ea, eb])) :=
  PS.imp (ps_par hc hN hi hj hij hx hy ha hw) fun D σ H ⟨c, st, h, q⟩ => by
    rw [exS] at q
    refine ⟨c, st, h, (PostS.bind (rel := relA T σ) q).mono fun vs H1 ⟨c1, st1, ws, S, h1, r1, q1⟩ => ?_⟩
    cases o : (okvs ws && decide ([i, j].length = ws.length) && [i, j].all fun i => decide (i < st1.r.length)) with
    | false => rw [o] at q1; exact (show False from q1).elim
    | true =>
    rw [o, if_pos rfl] at q1
    simp only [Bool.and_eq_true, decide_eq_true_eq, List.all_cons, List.all_nil] at o
    obtain ⟨⟨o1, o2⟩, o3, o4, _⟩ := o
    match ws, o2 with
    | [w1, w2], _ =>
    obtain ⟨v, u, rfl, rv, ru⟩ := relA_two r1
    have o1' : okv w1 = true ∧ okv w2 = true := by simpa [okvs] using o1
    refine ⟨v, u, rfl, ?_⟩
    simp only [setVs] at q1
    have h2 := h1.setV o3 (RV.rw rv o1'.1)
    have h3 := h2.setV (i := j) (by simpa using o4) ((RV.rw ru o1'.2).mono Stp.drop.mn)
    exact q1 _ H1 _ (Stp.drop.trans Stp.drop) h3
end
end Ev

/-! S24: name = a comprehension. -/
namespace Ev
open PySem PySem.Spec PyProof.Rows L2 Calls ClX RZ
section
variable {T : Tb} {X : Cx} {Wx : WX} {p : Pg} {cal : Bool → Nat → List W → List OO → RC} {c c1 c2 : Cf} {st st' : St} {σ : L2.St} {H H0 H1 H2 : Hp} {pins : List (Addr × Obj)} {s : Shared} {k wf : Nat} {D : Ends}
variable {a b d e : Expr} {ea eb ed : E} {pos : Pos}
theorem set_read {i : Nat} (q : PostS T Wx c H (exS p cal wf (.set i ea) st) D) : PostF T Wx c σ H (evE p cal ea st) fun v H1 => D.nx (σ.set i (some v)) H1 := by
  rw [exS] at q
  have q' := PostS.bindF (σ := σ) q
  cases e : evE p cal ea st with
  | stk => rw [e] at q'; exact q'
  | exc x st1 => rw [e] at q'; exact q'
  | ok w st1 =>
    rw [e] at q'
    intro v H1 c1 S h1 r1 f1
    obtain ⟨c2, st2, w2, S2, h2, r2, f2, q2⟩ := q' v H1 c1 S h1 r1 f1
    cases o : okv w2 && decide (i < st2.r.length) with
    | false => rw [o] at q2; exact (show False from q2).elim
    | true =>
      rw [o, if_pos rfl] at q2
      rw [Bool.and_eq_true, decide_eq_true_eq] at o
      exact q2 _ H1 _ (S2.trans Stp.drop) (h2.setV o.2 (RV.rw r2 o.1))
theorem own_read {i : Nat} (q : PostS T Wx c H (exS p cal wf (.own i ea) st) D) : PostF T Wx c σ H (evE p cal ea st) fun v H1 => D.nx (σ.set i (some v)) H1 := by
  rw [exS] at q
  have q' := PostS.bindF (σ := σ) q
  cases e : evE p cal ea st with
  | stk => rw [e] at q'; exact q'
  | exc x st1 => rw [e] at q'; exact q'
  | ok w st1 =>
    rw [e] at q'
    intro v H1 c1 S h1 r1 f1
    obtain ⟨c2, st2, w2, S2, h2, r2, f2, q2⟩ := q' v H1 c1 S h1 r1 f1
    exact own_fin S2 r2 f2 q2
/-- what follows the evaluation, for set and own alike -/
def setK (i : Nat) : S → Prop
  | .set j _ => j = i
  | .own j _ => j = i
  | _ => False
def isCmp : Expr → Bool
  | .ListComp .. => true
  | .SetComp .. => true
  | .DictComp .. => true
  | _ => false
theorem sw_plain {t : Option Expr} {l : Nat} {env : Env} (h : isCmp e = false) : swapsWith e t l env = pure false := by
  cases e <;> first | rfl | cases h
theorem sw_cell {y : Str} {py : Pos} {l : Nat} {env : Env} (e : Expr) (h : env.scope.names.lookup y = some .cell) : swapsWith e (some (.Name y py)) l env = pure false := by
  have kk : (env.kindOf y == some .local) = false := by
    unfold Env.kindOf
    rw [h]; rfl
  have go : ∀ (b c d : Bool), (b && (env.kindOf y == some .local) && c && d) = false := fun b c d => by rw [kk]; cases b <;> rfl
  cases e <;> first | rfl | (unfold swapsWith; simp only [go])
theorem sw_line {y : Str} {py : Pos} {l : Nat} {env : Env} (e : Expr) (h : (py.line == e.pos.line) = false) : swapsWith e (some (.Name y py)) l env = pure false := by
  have go : ∀ (b c d : Bool), (b && c && (py.line == e.pos.line) && d) = false := fun b c d => by rw [h]; cases b <;> cases c <;> rfl
  cases e <;> first | rfl | (unfold swapsWith; simp only [go])
theorem sw_trueD {kx vx : Expr} {gs : List Comprehension} {scope : Scope} {pos py : Pos} {y : Str} {l : Nat} {env : Env} (hk : env.scope.kind = .function) (hy : env.scope.names.lookup y = some .local) (hl : (py.line == pos.line) = true)
    (ha : (scope.names.any fun (n, k) => n == y && (k == .local || k == .cell)) = false) : swapsWith (.DictComp kx vx gs scope pos) (some (.Name y py)) l env = pure true := by
  have ky : env.kindOf y = some .local := hy
  have hb : env.blockKind = .function := by unfold Env.blockKind; rw [hk]; rfl
  unfold swapsWith
  simp only [hb, ky, ha, Expr.pos, hl]
  rfl
/-- name = {..} on one line, the name a local -/
theorem ps_setDc {i : Nat} {y : Str} {py : Pos} {kx vx tg iter : Expr} {ifs : List Expr} {scope : Scope} {own : List (Str × Nat)} {pos spos : Pos} {wi : TI} {g : TG} {tt : TT} {tk tv : TE} (hc : X.calm = true) (hN : X.N.Nodup) (hy : X.N[i]? = some y) (hyl : X.env.scope.names.lookup y = some .local)
    (hsw : swapsWith (.DictComp kx vx [⟨tg, iter, ifs, 0⟩] scope pos) (some (.Name y py)) spos.line X.env = pure true) (hi : PI X tg iter wi) (ok : BlkOk X.N X.env.scope scope own)
    (hg : ∀ (s : Shared) (H : Hp) (C : Addr) (cl : List (Str × Addr)) (fp : List Addr), PG (X.blk s H scope (compEnvC scope cl C X.env) fp) tg g) (ht : ∀ (s : Shared) (H : Hp) (C : Addr) (cl : List (Str × Addr)) (fp : List Addr), PTs (X.blk s H scope (compEnvC scope cl C X.env) fp) ifs tt)
    (hk : ∀ (s : Shared) (H : Hp) (C : Addr) (cl : List (Str × Addr)) (fp : List Addr), PE (X.blk s H scope (compEnvC scope cl C X.env) fp) kx tk)
    (he : ∀ (s : Shared) (H : Hp) (C : Addr) (cl : List (Str × Addr)) (fp : List Addr), PE (X.blk s H scope (compEnvC scope cl C X.env) fp) vx tv) (hs : ∀ x, foldedSetIterable iter X.env x = pure x) :
    PS X (.Assign [.Name y py] (.DictComp kx vx [⟨tg, iter, ifs, 0⟩] scope pos) spos) (tAsg (tDc wi g tt tk tv (own.map (·.2))) (gName i)) := by
  refine ⟨fun pins s σ H D I h => ?_⟩
  rw [exec_Assign_Name_used _ _ _ _ hsw]
  refine wpAny_bind (wpAny_standAt (wpAny_bind ?_))
  show wpAny _ X.A (do let _ ← comprehension (.DictComp kx vx [⟨tg, iter, ifs, 0⟩] scope pos) scope X.env (firstIterPos [⟨tg, iter, ifs, 0⟩] pos) newDict false (eval iter X.env) (some (assign (.Name y py) X.env))) _ _ s
  have h : tDc wi g tt tk tv (own.map (·.2)) σ H (fun x H1 => gName i x σ H1 D.nx) := h
  refine wpAny_bind (thn (dc_core (Qf := fun _ s' => SP X pins D .next s') hc hN I hi ok hg ht hk he hs h fun L C s' m H' I' q hn f => ?_) fun _ s' hq => wpAny_pure (wpAny_pure hq))
  show wpAny _ _ (assign (.Name y py) X.env (.ref L)) _ _ _
  refine wpAny_assign_Name (store_ok2 (v := V.ref L) I' hN hy (.inl hyl) rfl (fun s2 I2 ⟨a, sb, ha⟩ => ?_) (.inr hyl))
  obtain ⟨f0, f1, f2, f3, f4, f5⟩ := f
  have haC : C ≠ a := by
    rcases ha with z | z
    · rw [z]; exact f1
    · exact fun e => f4 y a z e.symm
  refine ⟨m, hn.sameBut sb haC, fun h3 sb3 => ?_⟩
  exact ⟨_, H', I2.turned (t' := s2.toks) (fun b o hb e => (sb3.2 b hb).trans e) f0 f1 f3 f4 f5, q⟩
section
variable {i : Nat} {y : Str} {py spos : Pos} {tg iter elt kx vx : Expr} {ifs : List Expr} {scope : Scope} {own : List (Str × Nat)} {t : Tg} {it : I} {x xk xv : E} {co : Option E}
theorem ss_setLc (fresh : Bool) (hc : X.calm = true) (hN : X.N.Nodup) (hy : X.N[i]? = some y) (hyl : X.env.scope.names.lookup y = some .local) (hsw : swapsWith (.ListComp elt [⟨tg, iter, ifs, 0⟩] scope pos) (some (.Name y py)) spos.line X.env = pure true)
    (hi : SI T X Wx tg iter (evI p cal it)) (ok : BlkOk X.N X.env.scope scope own) (ho : own.map (·.2) = tgIx t)
    (hg : ∀ (s : Shared) (H : Hp) (C : Addr) (cl : List (Str × Addr)) (fp : List Addr), SG T (X.blk s H scope (compEnvC scope cl C X.env) fp) tg t) (ht : ∀ (s : Shared) (H : Hp) (C : Addr) (cl : List (Str × Addr)) (fp : List Addr), PTs (X.blk s H scope (compEnvC scope cl C X.env) fp) ifs (rdT T F0 (evT p cal co)))
    (he : ∀ (s : Shared) (H : Hp) (C : Addr) (cl : List (Str × Addr)) (fp : List Addr), SE T (X.blk s H scope (compEnvC scope cl C X.env) fp) F0 elt (evE p cal x)) (hs : ∀ x, foldedSetIterable iter X.env x = pure x) :
    SS T X Wx (.Assign [.Name y py] (.ListComp elt [⟨tg, iter, ifs, 0⟩] scope pos) spos) (exS p cal wf (if fresh then .own i (.cpr x t it co) else .set i (.cpr x t it co))) :=
  PS.imp (ps_setLc hc hN hy hyl hsw hi ok hg ht he hs) fun D σ H ⟨c, st, h, q⟩ => by
    cases fresh
    · exact lc_read ho h (set_read (σ := σ) q)
    · exact lc_read ho h (own_read (σ := σ) q)
theorem ss_setDc (fresh : Bool) (hc : X.calm = true) (hN : X.N.Nodup) (hy : X.N[i]? = some y) (hyl : X.env.scope.names.lookup y = some .local) (hsw : swapsWith (.DictComp kx vx [⟨tg, iter, [], 0⟩] scope pos) (some (.Name y py)) spos.line X.env = pure true)
    (hi : SI T X Wx tg iter (evI p cal it)) (ok : BlkOk X.N X.env.scope scope own) (ho : own.map (·.2) = tgIx t)
    (hg : ∀ (s : Shared) (H : Hp) (C : Addr) (cl : List (Str × Addr)) (fp : List Addr), SG T (X.blk s H scope (compEnvC scope cl C X.env) fp) tg t)
    (hk : ∀ (s : Shared) (H : Hp) (C : Addr) (cl : List (Str × Addr)) (fp : List Addr), SE T (X.blk s H scope (compEnvC scope cl C X.env) fp) F0 kx (evE p cal xk))
    (he : ∀ (s : Shared) (H : Hp) (C : Addr) (cl : List (Str × Addr)) (fp : List Addr), SE T (X.blk s H scope (compEnvC scope cl C X.env) fp) F0 vx (evE p cal xv)) (hs : ∀ x, foldedSetIterable iter X.env x = pure x) :
    SS T X Wx (.Assign [.Name y py] (.DictComp kx vx [⟨tg, iter, [], 0⟩] scope pos) spos) (exS p cal wf (if fresh then .own i (.dcp xk xv t it) else .set i (.dcp xk xv t it))) :=
  PS.imp (ps_setDc (tt := rdT T F0 (evT p cal none)) hc hN hy hyl hsw hi ok hg (fun s H C cl fp => pts_none) hk he hs) fun D σ H ⟨c, st, h, q⟩ => by
    cases fresh
    · exact dc_read ho h (set_read (σ := σ) q)
    · exact dc_read ho h (own_read (σ := σ) q)
end
end
end Ev

/-! X1: super().__init__(text) in an exception's __init__. -/
namespace Ev
open PySem PySem.Spec PyProof.Rows L2 Calls
section
variable {prog : Program} {w : World} {A : Around} {E : Value → Shared → Prop} {h : Heap} {g : Array GenState} {d : Drawn} {t : Nat} {os : OsState} {B newId initId : String} {bmB : List Value}
variable {nm q : Str} {C N : Addr} {bs bm : List Value} {hdct : Bool} {sn : List Str} {sub : List Value} {ab : Bool} {col : Option Bool} {dd : Option Addr} {k0 k1 k2 k3 k5 : Option Value}
/-- the bound built-in __init__, called -/
theorem mw_call (F : ExcBaseFacts B newId initId bmB) {u e t0 : Addr} {rest : List Value} {Q : Value → Shared → Prop}
    (hC : h.get? C = some (excClassObj nm q C N bs bm hdct sn sub ab col dd k0 k1 k2 k3 k5 newId)) (he : h.get? e = some (HandSPX.excO C t0)) (hu : h.get? u = some (PySem.W.kxs_mw initId e)) (hrest : rest.length ≤ sizeLine)
    (hq : ∀ h' t1, (∀ b o, b ≠ e → h.get? b = some o → h'.get? b = some o) → h'.get? e = some (HandSPX.excO C t1) → Q .none ⟨h', g, d, t, os⟩) :
    wpAny (model prog w) A (call (.ref u) rest) Q E ⟨h, g, d, t, os⟩ := by
  refine wpAny_call (codeAny_of_tree ?_)
  show wpAny (model prog w) A.in1 (callAny (.ref u) ⟨rest, []⟩) _ _ _
  simp only [callAny]
  refine wpAny_bind (wpAny_load hu ?_)
  simp only [PySem.W.kxs_mw, show (Value.type "method-wrapper" == Value.type "method" || Value.type "method-wrapper" == Value.type "builtin_function_or_method" || Value.type "method-wrapper" == Value.type "method-wrapper") = true by decide, if_true]
  refine PySem.W.KFB.if_so (by decide) ?_
  refine wpAny_bind (PySem.ESX.check_bound F hC he rfl ?_)
  refine wpAny_bind (wpAny_pure (wpAny_pure ?_))
  refine ⟨PySem.plainId_quiet F.init.plain _, codeAny_builtin F.initEntry ?_⟩
  rw [Around.under_plainId F.init.plain _]
  wp_walk
  refine hq _ h.objs.size (fun b o hb ho => ?_) ?_
  · rw [Heap.get?_update_other _ _ (Ne.symm hb)]
    exact Heap.get?_push_of_some _ ho
  · rw [Heap.get?_update_self _ (Heap.get?_push_of_some _ he) rfl]
    rfl
end
section
variable {prog : Program} {w : World} {A : Around} {E : Value → Shared → Prop} {K : PySem.W.Frag} {h : Heap} {g : Array GenState} {d : Drawn} {t : Nat} {os : OsState} {B newId initId : String} {bmB : List Value}
variable {C : Addr}
theorem sup_of {env : Env} {c : Code} {o : Expr} {m : Str} {apos pos : Pos} {args : List Expr} {Q : Value → Shared → Prop} {s : Shared} (hs : args.all notStar = true) (hfew : args.length < 29) (hline : (apos.endLine == pos.line) = true)
    (hh : _root_.PySem.wpAt (model prog w) A c (attributeBase o m env (eval o env)) (fun ov s₁ => ∀ pl, wpAny (model prog w) A (getMethod ov m pl) (fun fx s₂ => wpAny (model prog w) A (callWith pos fx.1 fx.2 (backTo pos (starEach args env)) (backToKw pos (keywordEach [] env))) Q E s₂) E s₁) E s) :
    _root_.PySem.wpAt (model prog w) A c (eval (.Call (.Attribute o m apos) args [] pos) env) Q E s := by
  rw [arm_eval_Call]
  refine _root_.PySem.wpAt_bind (_root_.PySem.wpAt_mono hh (fun ov s₁ h₁ => _root_.PySem.wpAt_of_wpAny (wpAny_bind (wpAny_standAt ?_))) fun _ _ e => e)
  have hform : methodCallForm (args.length + ([] : List Keyword).length) (backTo pos (starEach args env)) (backToKw pos (keywordEach [] env)) = true := by
    unfold methodCallForm
    have e0 : (backToKw pos (keywordEach [] env)) = [] := rfl
    rw [star_all hs, e0]
    simp
    omega
  have hpos : methodCallPos true o env apos pos = pure pos := by unfold methodCallPos; simp [hline]
  unfold methodCall
  rw [hform, hpos]
  unfold calleeOf
  exact wpAny_bind (wpAny_holding (wpAny_mono (h₁ _) (fun fx s₂ z => wpAny_bind (wpAny_pure z)) fun _ _ e => e))
/-- what the written part says of an exception class and its __init__ at f -/
structure SupF (K : PySem.W.Frag) (prog : Program) (mg : Str → Option Value) (C f cda cc : Addr) (scope : Scope) (fd : FuncData) (me : Str) (B newId initId : String) (bmB : List Value) : Prop where
  KF : PySem.W.KxsFacts B initId
  F : ExcBaseFacts B newId initId bmB
  cls : ∃ nm q N bs bm sn sub ab col dd k0 k1 k2 k3 k5, K.lookup C = some (excClassObj nm q C N bs bm true sn sub ab col dd k0 k1 k2 k3 k5 newId)
  mS : mg "super" = none
  fn : ∃ oc od osl ar, K.lookup f = some ⟨oc, od, .func fd, osl⟩ ∧ (fd.params.posonlyargs ++ fd.params.args).head? = some ar ∧ ar.arg = me
  code : ∃ ccl cdd vs ccs file tf, K.lookup cda = some ⟨ccl, cdd, .fields vs, ccs⟩ ∧ vs[2]? = some (.str file tf) ∧ ((prog.main.file : Str) == file) = true
  cell : ∃ cl cld csl, K.lookup cc = some ⟨cl, cld, .cell (some (.ref C)), csl⟩
  hsub : PySem.W.mroIn K C (.ref C) = some true
  hm : PySem.W.ks_superIn K C C "__init__" = some (some (.builtin initId))
  hB : PySem.W.subIn K (.ref C) (.type B) = some true
  ho : PySem.W.nsIn K cStatics "thirdparty.any" = some none
  ks : scope.names.lookup ("super" : Str) = some .globalImplicit
  kc : scope.names.lookup ("__class__" : Str) = some .free
  ka : scope.names.lookup me = some .local
  kind : scope.kind = .function
  top : (prog.main.scope.names.lookup ("super" : Str)).isSome = false
theorem sup_ok {mg m : Str → Option Value} {f cda cc L x t0 : Addr} {qn : Str} {scope : Scope} {fd : FuncData} {me z : Str} {body : List Stmt} {p0 p1 p2 apos pos : Pos} {kk : Nat} {Q : Value → Shared → Prop}
    (hline : (apos.endLine == pos.line) = true) (S : SupF K prog mg C f cda cc scope fd me B newId initId bmB) (X : K.In h) (G : h.Ns mainGlobals mg) (Bn : ∃ mb, h.Ns builtinsNs mb ∧ ∀ x : Str, x ≠ "__name__" → mb x = bootBuiltins x) (hL : h.Ns L m) (hv : m me = some (.ref x)) (hx : h.get? x = some (HandSPX.excO C t0))
    (hq : ∀ h' t1 t', (∀ b o, b ≠ x → h.get? b = some o → h'.get? b = some o) → h'.get? x = some (HandSPX.excO C t1) → Q .none ⟨h', g, d, t', os⟩) :
    _root_.PySem.wpAt (model prog w) A (.func body (PySem.W.ksEnv qn scope L f (.ref cda) cc)) (eval (.Call (.Attribute (.Call (.Name "super" p0) [] [] p1) "__init__" apos) [.Constant (.str z) kk p2] [] pos) (PySem.W.ksEnv qn scope L f (.ref cda) cc)) Q E ⟨h, g, d, t, os⟩ := by
  obtain ⟨nm, q, N, bs, bm, sn, sub, ab, col, dd, k0, k1, k2, k3, k5, hcC⟩ := S.cls
  obtain ⟨oc, od, osl, ar, hf, hp, har⟩ := S.fn
  obtain ⟨ccl, cdd, vs, ccs, file, tf, hcode, hvs, hfile⟩ := S.code
  obtain ⟨cl, cld, csl, hcell⟩ := S.cell
  obtain ⟨mb, hb, hbb⟩ := Bn
  subst har
  have hcd : PySem.W.clsIn K C = some { name := nm, bases := bs, mro := .ref C :: bm, ns := N, qualname := q, hasDict := true, slotNames := sn, subclasses := sub, abstract := ab, collection := col, hasDel := false } := by
    unfold PySem.W.clsIn
    rw [hcC] <;> rfl
  have hxC : x ≠ C := fun e => by
    rw [e] at hx
    have e2 := X _ _ hcC
    rw [hx] at e2
    cases e2
  have hm := S.hm
  unfold PySem.W.ks_superIn at hm
  rw [hcd, Option.bind_some] at hm
  refine sup_of rfl (by simp) hline ?_
  refine PySem.ks_wpAt_super_base (env := PySem.W.ksEnv qn scope L f (.ref cda) cc) S.ks S.kc (by decide) rfl (X _ _ hf) rfl hp rfl (X _ _ hcode) rfl hvs hfile S.top ?_
  refine PySem.W.ks_loadName_global S.kind S.ks (loadGlobal_builtin (env := PySem.W.ksEnv qn scope L f (.ref cda) cc) G S.mS hb ((hbb _ (by decide +kernel)).trans (show bootBuiltins "super" = some (.type "super") by decide +kernel)) ⟨rfl, ?_⟩)
  refine wpAny_loadName_free S.kind S.kc rfl ⟨_, X _ _ hcell, rfl⟩ ?_
  refine wpAny_loadName_local S.kind S.ka hL hv ?_
  refine PySem.ks_wpAny_isType_cls (X _ _ hcC) rfl ⟨rfl, ?_⟩
  refine PySem.ks_wpAny_call_super (X _ _ hcC) rfl hx rfl (fun c e => by cases e) (PySem.W.looks_mroIn X S.hsub) (fun h1 e1 k1 => ?_)
  have X1 : K.In h1 := X.keeps k1
  have hx1 := k1 _ _ hx
  have hI : PySem.W.Looks (model prog w) h1 (isInstance (.ref x) (.type B)) true := (PySem.W.InstAt.type (ox := HandSPX.excO C t0) (od := none) ⟨hx1, rfl, rfl, trivial⟩).andThen (PySem.W.looks_subIn X1 S.hB)
  intro pl
  refine PySem.W.kxs_getMethod S.KF e1 (PySem.W.looks_opaque X1 S.ho) ((PySem.W.looks_clsIn X1 hcd).andThen .now) rfl X1 hm hI hxC (by decide) ?_
  refine PySem.W.kxs_callWith (i := initId) (x := x) rfl ?_
  refine evalArgs_plain (spliced_cons (wpAny_Constant_str (k := kk) (pos := p2) ?_))
  refine spliced_nil ⟨?_, ?_⟩
  · exact Heap.get?_push_size h1 rfl
  · refine mw_call S.F (X1.keeps (fun b o e => Heap.get?_push_of_some _ e) _ _ hcC) (Heap.get?_push_of_some _ hx1) (Heap.get?_push_size h1 rfl) (by rw [sizeLine_eq]; simp) fun h' t1 kp hx' => ?_
    exact hq h' t1 _ (fun b o hb e => kp b o hb (Heap.get?_push_of_some _ (k1 _ _ e))) hx'
end
end Ev

/-! X2: an exception's __init__ keeps its promise. -/
namespace Ev
open PySem PySem.Spec PyProof.Rows L2 Calls
/-- one field: its name; a parameter's place or a text -/
inductive FI where
  | par (i : Nat) | txt (z : Str)
/-- the statements self.f = .. -/
def asgB (N : List Str) (nm : List (Str × NameKind)) : List (Str × FI) → List Stmt → Bool
  | [], [] => true
  | (f, it) :: r, s :: ss => (match s with
    | .Assign [.Attribute (.Name x _) y _] e _ => decide (N[0]? = some x) && decide (nm.lookup x = some .local) && decide (y = f) && (match it with
      | .par i => (match e with
        | .Name v _ => decide (N[i]? = some v) && decide (nm.lookup v = some .local) && !(v == ("__debug__" : Str)) && !(v == ("__classdict__" : Str))
        | _ => false)
      | .txt z => (match e with
        | .Constant (.str z') _ _ => decide (z' = z)
        | _ => false)) && !(x == ("__debug__" : Str)) && !(x == ("__classdict__" : Str))
    | _ => false) && asgB N nm r ss
  | _, _ => false
def fiV (vs : List V) : FI → V
  | .par i => vs.getD i .non
  | .txt z => .str z
/-- the fields, the last one first -/
def fldV (vs : List V) : List (Str × FI) → List (Str × V) → List (Str × V)
  | [], acc => acc
  | (f, it) :: r, acc => fldV vs r ((f, fiV vs it) :: acc)
def teFI : FI → TE
  | .par i => tVar i
  | .txt z => tC (.str z)
def tAsg (K : PySem.W.Frag) : List (Str × FI) → TS
  | [] => tNext
  | (f, it) :: r => tSeq (tOst K f (tVar 0) (teFI it)) (tAsg K r)
section
variable {X : Cx}
theorem asg_pss (hN : X.env.scope.names = nm) : ∀ {items : List (Str × FI)} {ss : List Stmt}, asgB X.N nm items ss = true → PSs X ss (tAsg X.K items)
  | [], [], _ => pss_nil
  | [], _ :: _, h => by simp [asgB] at h
  | _ :: _, [], h => by simp [asgB] at h
  | (f, it) :: r, s :: ss, h => by
    simp only [asgB, Bool.and_eq_true] at h
    obtain ⟨h1, h2⟩ := h
    refine pss_cons ?_ (asg_pss hN h2)
    split at h1
    · rename_i x _ y _ e _
      simp only [Bool.and_eq_true, decide_eq_true_eq, Bool.not_eq_true'] at h1
      obtain ⟨⟨⟨⟨⟨e1, e2⟩, e3⟩, e4⟩, e5⟩, e6⟩ := h1
      subst e3
      have vx : Vis X.env.scope x := .inl (by rw [hN]; exact e2)
      cases it with
      | par i =>
        simp only at e4
        split at e4
        · simp only [Bool.and_eq_true, decide_eq_true_eq, Bool.not_eq_true'] at e4
          obtain ⟨⟨⟨g1, g2⟩, g3⟩, g4⟩ := e4
          exact ps_ost (pe_var e1 vx e5 e6) (pe_var g1 (.inl (by rw [hN]; exact g2)) g3 g4) rfl
        · cases e4
      | txt z =>
        simp only at e4
        split at e4
        · have e4 := of_decide_eq_true e4
          subst e4
          exact ps_ost (pe_var e1 vx e5 e6) pe_str rfl
        · cases e4
    · cases h1
end
section
variable {K : PySem.W.Frag} {a dx C : Addr} {vs : List V} {σ : L2.St} {D : Ends}
theorem upd_id {H : Hp} {x : Addr} {o : HO} (h : H x = some o) : upd H x o = H := by
  funext b
  by_cases hb : b = x
  · rw [hb, upd_same, h]
  · rw [upd_ne hb]
theorem upd_upd {H : Hp} {x : Addr} {o o' : HO} : upd (upd H x o) x o' = upd H x o' := by
  funext b
  by_cases hb : b = x
  · rw [hb, upd_same, upd_same]
  · rw [upd_ne hb, upd_ne hb, upd_ne hb]
/-- the values are there -/
def FIok (σ : L2.St) (vs : List V) : FI → Prop
  | .par i => ∃ v, σ[i]? = some (some v) ∧ vs.getD i .non = v
  | .txt _ => True
theorem fi_te {it : FI} {H : Hp} {Q : VK} (h : FIok σ vs it) (q : Q (fiV vs it) H) : teFI it σ H Q := by
  cases it with
  | par i =>
    obtain ⟨v, e1, e2⟩ := h
    refine ⟨v, e1, ?_⟩
    rw [← e2]; exact q
  | txt z => exact q
theorem tAsg_old (T : OexC K C) (h0 : σ[0]? = some (some (.ref a))) (ne : dx ≠ a) : ∀ {items : List (Str × FI)} {H : Hp} {fs : List (Str × V)} {D : Ends}, H a = some (exo a C (some dx)) → H dx = some (exd dx fs) → fs.length + items.length ≤ 900 →
    (∀ q ∈ items, PySem.W.findIn K (.ref C) q.1 = some none ∧ FIok σ vs q.2) → D.nx σ (upd H dx (exd dx (fldV vs items fs))) → tAsg K items D σ H
  | [], H, fs, D, e1, e2, hl, hi, q => by
    have q : D.nx σ (upd H dx (exd dx fs)) := q
    rw [upd_id e2] at q
    exact q
  | (f, it) :: r, H, fs, D, e1, e2, hl, hi, q => by
    obtain ⟨g1, g2⟩ := hi _ List.mem_cons_self
    simp only [List.length_cons] at hl
    refine fi_te g2 ⟨.ref a, h0, a, C, rfl, T, g1, .inr ⟨dx, fs, e1, e2, by omega, ?_⟩⟩
    have q : D.nx σ (upd H dx (exd dx (fldV vs r ((f, fiV vs it) :: fs)))) := q
    refine tAsg_old T h0 ne (fs := (f, fiV vs it) :: fs) (by rw [upd_ne (Ne.symm ne)]; exact e1) upd_same (by simp only [List.length_cons]; omega) (fun q hq => hi q (List.mem_cons_of_mem _ hq)) ?_
    rw [upd_upd]
    exact q
theorem tAsg_new (T : OexC K C) (h0 : σ[0]? = some (some (.ref a))) {items : List (Str × FI)} {H : Hp} (hne : items ≠ []) (e1 : H a = some (exo a C none)) (hl : items.length ≤ 900)
    (hi : ∀ q ∈ items, PySem.W.findIn K (.ref C) q.1 = some none ∧ FIok σ vs q.2) (q : ∀ dx, H dx = none → dx ≠ a → D.nx σ (upd (upd H dx (exd dx (fldV vs items []))) a (exo a C (some dx)))) : tAsg K items D σ H := by
  cases items with
  | nil => exact absurd rfl hne
  | cons it r =>
    obtain ⟨f, it⟩ := it
    obtain ⟨g1, g2⟩ := hi _ List.mem_cons_self
    simp only [List.length_cons] at hl
    refine fi_te g2 ⟨.ref a, h0, a, C, rfl, T, g1, .inl ⟨e1, fun dx n ne => ?_⟩⟩
    refine tAsg_old T h0 ne (fs := [(f, fiV vs it)]) upd_same (by rw [upd_ne ne, upd_same]) (by simp only [List.length_cons, List.length_nil]; omega) (fun q hq => hi q (List.mem_cons_of_mem _ hq)) ?_
    have q := q dx n ne
    have e : upd (upd (upd H dx (exd dx [(f, fiV vs it)])) a (exo a C (some dx))) dx (exd dx (fldV vs r [(f, fiV vs it)])) = upd (upd H dx (exd dx (fldV vs ((f, it) :: r) []))) a (exo a C (some dx)) := by
      funext b
      by_cases hb : b = a
      · rw [hb, upd_ne (Ne.symm ne), upd_same, upd_same]
      · by_cases hd : b = dx
        · rw [hd, upd_same, upd_ne ne, upd_same]
          rfl
        · rw [upd_ne hd, upd_ne hb, upd_ne hd, upd_ne hb, upd_ne hd]
    rw [e]
    exact q
end
/-! ### the def -/
/-- what an exception's __init__ promises -/
def spE (C : Addr) (np : Nat) (items : List (Str × FI)) : Sp := fun vs H Q _ => vs.length = np ∧ ∃ a, vs[0]? = some (.ref a) ∧ H a = some (exo a C none) ∧ ∀ dx, H dx = none → dx ≠ a → Q .non (upd (upd H dx (exd dx (fldV vs items []))) a (exo a C (some dx)))
def supCx (P : Program) (w : World) (K : PySem.W.Frag) (mg : Str → Option Value) (base : Heap) (N : List Str) (qual : Str) (scope : Scope) (f : Addr) (cd : Value) (cc : Addr) (A : Around) (outer : List Env) (s : Shared) (H : Hp) : Cx where
  prog := P
  w := w
  K := K
  mg := mg
  base := base
  A := A.deeper (PySem.W.ksEnv qual scope s.heap.objs.size f cd cc)
  N := N
  s_0 := s
  H_0 := H
  env := PySem.W.ksEnv qual scope s.heap.objs.size f cd cc
  outer := outer
  stack := PySem.W.ksEnv qual scope s.heap.objs.size f cd cc :: outer
  ex := []
  calm := true
  fn := fun _ => false
  pn := []
  xe := fun _ _ => False
theorem look_zip : ∀ {ps : List Str} {us : List Value} {i : Nat} {x : Str} {u : Value}, ps.Nodup → us.length = ps.length → ps[i]? = some x → us[i]? = some u → (ps.zip us).reverse.lookup x = some u := by
  intro ps us i x u nd hl e1 e2
  have hm : (x, u) ∈ (ps.zip us).reverse := by
    rw [List.mem_reverse]
    refine List.mem_of_getElem? (i := i) ?_
    rw [List.getElem?_zip_eq_some]
    exact ⟨e1, e2⟩
  have key : ∀ {l : List (Str × Value)}, (l.map Prod.fst).Nodup → (x, u) ∈ l → l.lookup x = some u := by
    intro l
    induction l with
    | nil => intro _ h; cases h
    | cons q l ih =>
      intro nd h
      obtain ⟨y, v⟩ := q
      rw [List.map_cons, List.nodup_cons] at nd
      rcases List.mem_cons.mp h with h | h
      · cases h
        simp [List.lookup]
      · have : x ≠ y := fun z => nd.1 (by have h2 := List.mem_map_of_mem (f := Prod.fst) h; rw [z] at h2; exact h2)
        have e : (x == y) = false := by simpa using this
        simp only [List.lookup, e]
        exact ih nd.2 h
  refine key ?_ hm
  rw [List.map_reverse]
  refine (List.reverse_perm _).nodup_iff.mpr ?_
  rw [List.map_fst_zip (by omega)]
  exact nd
section
variable {P : Program} {w : World} {K : PySem.W.Frag} {mg : Str → Option Value} {base : Heap} {B newId initId : String} {bmB : List Value}
/-- the scope of such a def -/
structure SupS (ps : List Str) (scope : Scope) : Prop where
  co : scope.isCoroutine = false
  gen : scope.isGenerator = false
  nd : ps.Nodup
  par : ∀ x ∈ ps, scope.names.lookup x = some .local
  nocell : ∀ y ∈ scope.names, y.2 ≠ .cell
  free : ∀ y, scope.names.lookup y = some .free → y = ("__class__" : Str)
theorem sup_inv {ps : List Str} {scope : Scope} {qual : Str} {f cc : Addr} {cd : Value} {A : Around} {outer : List Env} {s : Shared} {H : Hp} {us : List Value} {vs : List V} {h1 : Heap} {tk : Nat} (W : SupS ps scope) (kind : scope.kind = .function) (hd : A.handled = none) (e0 : Env0 P w K mg base A outer s H)
    (hcc : ∃ cl cld csl v, K.lookup cc = some ⟨cl, cld, .cell v, csl⟩) (hl : vs.length = ps.length) (r : Vals vs us) (hns : h1.Ns s.heap.objs.size fun x => (ps.zip us).reverse.lookup x) (hk : ∀ b o, s.heap.get? b = some o → h1.get? b = some o) :
    Inv (supCx P w K mg base ps qual scope f cd cc A outer s H) [] (L2.start ps vs) H { s with heap := h1, toks := tk } := by
  have KX : K.In s.heap := e0.mod.kin.keeps fun b o e => (e0.bs b o e).1
  obtain ⟨cl, cld, csl, cv, hcc⟩ := hcc
  have cells : ∀ y c, (supCx P w K mg base ps qual scope f cd cc A outer s H).env.cells.lookup y = some c → y = ("__class__" : Str) ∧ c = cc := fun y c e => by
    have e : List.lookup y [(("__class__" : Str), cc)] = some c := e
    by_cases hy : y = ("__class__" : Str)
    · subst hy
      simp [List.lookup] at e
      exact ⟨rfl, e.symm⟩
    · have : (y == ("__class__" : Str)) = false := by simpa using hy
      simp only [List.lookup, this] at e
      cases e
  have noA : ∀ b : Addr, b ∉ (supCx P w K mg base ps qual scope f cd cc A outer s H).ex := fun b z => absurd (show b ∈ ([] : List Addr) from z) (by simp)
  have hul : us.length = ps.length := by rw [← hl]; exact (Paired.length r).symm
  refine ⟨⟨e0.mod, kind, rfl, rfl, Nat.le_refl _, fun y z c e1 e2 => ?_, fun y hy => ?_, fun y c h _ => ?_, fun _ => hd, Around.frames_deeper e0.frames, .inr ⟨rfl, rfl⟩, fun b z => absurd z (noA b), e0.bs, e0.bsz, fun b _ _ => noA b, fun b z => absurd z (noA b), e0.funs, e0.frf⟩,
    rfl, e0.bare, Un.kept hk, ⟨_, hns, fun i y v e1 e2 e3 => ?_⟩, fun y c e => ?_, e0.hok.fresh (Nat.le_refl _), fun y c e => ?_, fun p hp => absurd (show p ∈ ([] : List (Addr × Obj)) ++ [] from hp) (by simp), e0.hok.kept hk, ?_⟩
  · rw [(cells y c e1).1, (cells z c e2).1]
  · have hy : scope.names.lookup y = some .cell ∨ scope.names.lookup y = some .free := hy
    rcases hy with hy | hy
    · exact absurd rfl (W.nocell _ (PySem.mem_of_lookup hy))
    · have := W.free y hy
      subst this
      exact ⟨cc, by show List.lookup _ [(("__class__" : Str), cc)] = _; simp [List.lookup]⟩
  · exact absurd (show false = true from h) (by simp)
  · have hi : i < vs.length := by
      unfold L2.start at e2
      by_cases hi : i < vs.length
      · exact hi
      · rw [List.getElem?_append_right (by simpa using hi), List.getElem?_replicate] at e2
        split at e2 <;> cases e2
    have e1 : ps[i]? = some y := e1
    have ev : vs[i]? = some v := by
      unfold L2.start at e2
      rw [List.getElem?_append_left (by simpa using hi), List.getElem?_map] at e2
      cases q : vs[i]? with
      | none => rw [q] at e2; cases e2
      | some u => rw [q] at e2; simpa using e2
    obtain ⟨u, eu, ru⟩ : ∃ u, us[i]? = some u ∧ RelV v u := by
      have hi2 : i < us.length := by rw [hul, ← hl]; exact hi
      exact ⟨us[i], List.getElem?_eq_getElem hi2, (by obtain ⟨u, e, q⟩ := r.get ev; rw [List.getElem?_eq_getElem hi2] at e; cases e; exact q)⟩
    exact ⟨u, ru, .inl ⟨W.par y (List.mem_of_getElem? e1), look_zip W.nd hul e1 eu⟩⟩
  · rw [(cells y c e).2]
    exact ⟨cv, _, hk _ _ (KX _ _ hcc), rfl⟩
  · rw [(cells y c e).2]
    exact (e0.bs _ _ (e0.mod.kin _ _ hcc)).2
  · unfold L2.start supCx
    simp only [List.length_append, List.length_map, List.length_replicate]
    omega
theorem init_ok {f C cda cc : Addr} {name qual : Str} {params : Arguments} {scope : Scope} {dV kV doc pm ct oc : Value} {an od : Option Addr} {osl : Array (Option Value)} {p0 p1 p2 apos pos spos : Pos} {kk : Nat} {z me : Str} {rest : List Stmt} {ps : List Str} {items : List (Str × FI)}
    (lk : K.lookup f = some ⟨oc, od, .func (PySem.W.ksFn name qual params (.Expr (.Call (.Attribute (.Call (.Name "super" p0) [] [] p1) "__init__" apos) [.Constant (.str z) kk p2] [] pos) spos :: rest) scope dV kV doc pm an (.ref cda) ct cc), osl⟩)
    (hcd : PySem.W.codeIn K (.ref cda) qual = true) (S : SupF K P mg C f cda cc scope (PySem.W.ksFn name qual params (.Expr (.Call (.Attribute (.Call (.Name "super" p0) [] [] p1) "__init__" apos) [.Constant (.str z) kk p2] [] pos) spos :: rest) scope dV kV doc pm an (.ref cda) ct cc) me B newId initId bmB)
    (T : OexC K C) (W : SupS ps scope) (h0 : ps[0]? = some me) (hline : (apos.endLine == pos.line) = true) (hne : items ≠ []) (hil : items.length ≤ 900) (hasg : asgB ps scope.names items rest = true) (hnn : ∀ q ∈ items, PySem.W.findIn K (.ref C) q.1 = some none)
    (hix : ∀ q ∈ items, ∀ i, q.2 = .par i → i < ps.length) : FnOk P w K mg base (L2.CX P w) 0 f (PySem.W.ksFn name qual params (.Expr (.Call (.Attribute (.Call (.Name "super" p0) [] [] p1) "__init__" apos) [.Constant (.str z) kk p2] [] pos) spos :: rest) scope dV kV doc pm an (.ref cda) ct cc) ps (spE C ps.length items) := by
  refine ⟨fun vs H Q E h => h.1, fun A outer s H args us vs Q E hr e0 hb r hsp => ?_⟩
  obtain ⟨hl, a, ha0, ha, hq⟩ := hsp
  have hul : us.length = ps.length := by rw [← hl]; exact (Paired.length r).symm
  have KX : K.In s.heap := e0.mod.kin.keeps fun b o e => (e0.bs b o e).1
  have lim : s.heap.NoLimit := e0.mod.nolimit.keeps fun b o e => (e0.bs b o e).1
  refine PySem.ks_codeAny_call_defAt (fd := PySem.W.ksFn name qual params _ scope dV kV doc pm an (.ref cda) ct cc) hr.depth (KX _ _ lk) rfl lim (PySem.W.codeRec_of KX hcd) rfl hb W.nocell (fun x hx => W.par _ (List.of_mem_zip hx).1) (fun h1 hns hk1 => ?_) W.co W.gen S.kind
  obtain ⟨hp, g, d, tk, os⟩ := s
  have ha1 : us[0]? = some (.ref a) := by
    cases r with
    | nil => simp at ha0
    | cons r1 r2 =>
      simp only [List.getElem?_cons_zero, Option.some.injEq] at ha0
      subst ha0
      obtain rfl := show _ = Value.ref a from r1
      rfl
  have KX1 : K.In h1 := KX.keeps hk1
  obtain ⟨mb, hb1, hb2⟩ := e0.mod.blt
  obtain ⟨t0, hx0⟩ := exo_at e0.hok ha
  have I0 := sup_inv (P := P) (w := w) (f := f) (qual := qual) (cd := .ref cda) (tk := tk + (ps.zip us).length) W S.kind hr.hd e0 (by obtain ⟨cl, cld, csl, e⟩ := S.cell; exact ⟨cl, cld, csl, _, e⟩) hl r hns hk1
  refine PySem.ks_wpAt_execs_cons (PySem.ks_wpAt_Expr_any ?_ I0.quiet rfl)
  refine sup_ok hline S KX1 ((e0.mod.glob.keeps fun b o e => (e0.bs b o e).1).keeps hk1) ⟨mb, (hb1.keeps fun b o e => (e0.bs b o e).1).keeps hk1, hb2⟩ hns (look_zip W.nd hul h0 ha1) (hk1 _ _ hx0) (fun h2 t1 t2 kp hx2 => ?_)
  have J := I0.write (t' := t2) (x := a) (e := a) (o := exo a C none) (by rw [ha]; exact True.intro) (.inl rfl) kp ⟨_, hx2⟩ (exo_ok hx2)
  rw [upd_id ha] at J
  refine _root_.PySem.wpAt_of_wpAny (wpAny_mono ((asg_pss (X := supCx P w K mg base ps qual scope f (.ref cda) cc A outer ⟨hp, g, d, tk, os⟩ H) rfl hasg).run [] _ (L2.start ps vs) H { nx := fun _ H' => Q .non H', rt := fun _ _ => False } J
    (tAsg_new (vs := vs) T ?_ hne ha hil (fun q hq' => ⟨hnn q hq', ?_⟩) fun dx n ne => hq dx n ne)) (fun fl s' hs => ?_) fun _ _ z => (show False from z).elim)
  · have : 0 < vs.length := (List.getElem?_eq_some_iff.mp ha0).1
    unfold L2.start
    rw [List.getElem?_append_left (by simpa using this), List.getElem?_map, ha0]
    rfl
  · obtain ⟨y, it⟩ := q
    cases it with
    | txt z => exact True.intro
    | par i =>
      have hi : i < vs.length := by rw [hl]; exact hix _ hq' i rfl
      refine ⟨vs[i], ?_, ?_⟩
      · unfold L2.start
        rw [List.getElem?_append_left (by simpa using hi), List.getElem?_map, List.getElem?_eq_getElem hi]
        rfl
      · rw [List.getD_eq_getElem?_getD, List.getElem?_eq_getElem hi]
        rfl
  · cases fl with
    | next =>
      obtain ⟨σ', H', J', q⟩ := hs
      exact ⟨.non, H', J'.os, J'.bare, J'.base, J'.hok, rfl, q⟩
    | ret u =>
      obtain ⟨v, σ', H', J', r', q⟩ := hs
      exact q.elim
    | brk =>
      obtain ⟨_, _, _, q⟩ := hs
      exact False.elim q
    | cont =>
      obtain ⟨_, _, _, q⟩ := hs
      exact False.elim q
end
end Ev

/-! X3: raise C(..). -/
namespace Ev
open PySem PySem.Spec PyProof.Rows L2 Calls ClX RZ
section
variable {X : Cx} {es : List Expr} {ta : TA} {p pos : Pos} {x : Str} {C fI : Addr} {fd : FuncData} {ps : List Str} {items : List (Str × FI)} {np : Nat}
/-- the making of an exception: what is there behind its __init__ -/
def tMkX (C : Addr) (np : Nat) (items : List (Str × FI)) (ta : TA) : L2.St → Hp → XK → Prop := fun σ H Q => ta σ H fun vs H1 => vs.length + 1 = np ∧ vs.length ≤ 1000 ∧ ∀ a d, H1 d = none → Q (.ref C) (some d) (upd H1 d (.xd (fldV (.ref a :: vs) items [])))
theorem pmk_x (T : OexC X.K C) (iC : PySem.W.findIn X.K (.ref C) "__init__" = some (some (.ref fI))) (tI : PySem.W.typeIn X.K (.ref fI) = some (.type "function"))
    (F1 : FnOk X.prog X.w X.K X.mg X.base (L2.CX X.prog X.w) 0 fI fd ps (spE C np items)) (hr : Room 1 X.A) (hb : ∀ (s : Shared) (us : List Value), us.length = np → BindsTo s fd ⟨us, []⟩ (ps.zip us)) (hx : Takes X fun _ _ _ _ => False) (hg : Gl X x) (hm : X.mg x = some (.ref C)) (ha : PA X es ta) (hs : es.all notStar = true)
    (hz : es = [] → ∀ σ H R, ta σ H R → R [] H) (hdb : (x == ("__debug__" : Str)) = false) : PMk X (.Call (.Name x p) es [] pos) (tMkX C np items ta) := by
  intro pins s σ H Q I h
  obtain ⟨nm, q, N, bs, bm, sn, sub, ab, col, dd, k0, k1, k2, k3, k5, hC, hbm⟩ := T.cls
  have fin : ∀ (us : List Value) (vs : List V) (H1 : Hp) (s1 : Shared), Inv X pins σ H1 s1 → Vals vs us → vs.length + 1 = np → vs.length ≤ 1000 → (∀ a d, H1 d = none → Q (.ref C) (some d) (upd H1 d (.xd (fldV (.ref a :: vs) items [])))) → wpAny (model X.prog X.w) X.A (call (.ref C) us) (MkP X pins σ Q) X.xe s1 := by
    intro us vs H1 s1 I1 r1 hnp hvz q1
    obtain ⟨hp, g, dr, tk, os⟩ := s1
    have hsz : hp.objs.size ≤ hp.objs.size + 1 := Nat.le_succ _
    have hn : H1 (hp.objs.size + 1) = none := I1.hok.fresh hsz
    have kk : ∀ b o, hp.get? b = some o → ((hp.push (PySem.W.kdv_tup us)).push (PySem.HandSPX.excO C hp.objs.size)).get? b = some o := fun b o e => Heap.get?_push_of_some _ (Heap.get?_push_of_some _ e)
    have hget : ((hp.push (PySem.W.kdv_tup us)).push (PySem.HandSPX.excO C hp.objs.size)).get? (hp.objs.size + 1) = some (PySem.HandSPX.excO C hp.objs.size) := by heap_get
    have I2 : Inv X pins σ (upd H1 (hp.objs.size + 1) (exo (hp.objs.size + 1) C none)) ⟨(hp.push (PySem.W.kdv_tup us)).push (PySem.HandSPX.excO C hp.objs.size), g, dr, tk, os⟩ :=
      I1.laid (t' := tk) (a := hp.objs.size + 1) (o := exo (hp.objs.size + 1) C none) (h' := (hp.push (PySem.W.kdv_tup us)).push (PySem.HandSPX.excO C hp.objs.size)) kk hsz (exo_ok hget)
    have r2 : Vals (V.ref (hp.objs.size + 1) :: vs) (Value.ref (hp.objs.size + 1) :: us) := .cons rfl r1
    have hul : us.length = vs.length := (Paired.length r1).symm
    have hus : us.length ≤ sizeLine := by
      rw [hul, sizeLine_eq]; omega
    have hsp : spE C np items (.ref (hp.objs.size + 1) :: vs) (upd H1 (hp.objs.size + 1) (exo (hp.objs.size + 1) C none)) (fun v H2 => v = .non ∧ ∃ (d : Addr), H2 (hp.objs.size + 1) = some (exo (hp.objs.size + 1) C (some d)) ∧ H2 d = some (exd d (fldV (.ref (hp.objs.size + 1) :: vs) items [])) ∧ H1 d = none ∧
        Q (.ref C) (some d) (upd (L2.del H2 (hp.objs.size + 1)) d (.xd (fldV (.ref (hp.objs.size + 1) :: vs) items [])))) (fun _ _ _ => False) := by
      refine ⟨by rw [List.length_cons]; exact hnp, _, rfl, upd_same, fun dx n ne => ⟨rfl, dx, upd_same, by rw [upd_ne ne, upd_same], ?_, ?_⟩⟩
      · rw [upd_ne ne] at n; exact n
      · rw [upd_ne ne] at n
        have e : upd (L2.del (upd (upd (upd H1 (hp.objs.size + 1) (exo (hp.objs.size + 1) C none)) dx (exd dx (fldV (.ref (hp.objs.size + 1) :: vs) items []))) (hp.objs.size + 1) (exo (hp.objs.size + 1) C (some dx))) (hp.objs.size + 1)) dx (.xd (fldV (.ref (hp.objs.size + 1) :: vs) items [])) =
            upd H1 dx (.xd (fldV (.ref (hp.objs.size + 1) :: vs) items [])) := by
          funext b
          by_cases hd : b = dx
          · rw [hd, upd_same, upd_same]
          · rw [upd_ne hd, upd_ne hd]
            by_cases hb : b = hp.objs.size + 1
            · rw [hb, L2.del_same, hn]
            · rw [L2.del_ne hb, upd_ne hb, upd_ne hd, upd_ne hb]
        rw [e]
        exact q1 _ _ n
    refine wpAny_call (PySem.HandSPX.call_own F.excBase_ValueError (fun Y => PySem.HandSPX.refsVE_contains Y bm hbm) (I1.kIn _ _ hC) (PySem.W.looks_findIn I1.kIn iC) (fun me => PySem.W.bind_fn I1.kIn me tI) hus
      (codeAny_mono (F1.run _ X.stack _ _ ⟨Value.ref (hp.objs.size + 1) :: us, []⟩ (Value.ref (hp.objs.size + 1) :: us) _ _ (fun _ _ _ => False) (hr.make C us []) (I2.env0.make C us []) (hb _ (Value.ref (hp.objs.size + 1) :: us) (by rw [List.length_cons, hul]; exact hnp)) r2 hsp) fun r s' hq' => ?_))
    cases r with
    | error er => exact passes_call hx (fun _ _ _ _ z => z.elim) pins σ _ _ er s' I2 hq'
    | ok fl =>
      cases fl with
      | ret u =>
        obtain ⟨v, H2, os2, bare2, un2, hok2, rv, ev, d, ea, ed, hd1, q2⟩ := hq'
        subst ev
        obtain ⟨h2, g2, d2, t2, os'⟩ := s'
        exact ⟨rv, mk_end (raises_own T.exC T.tyC) I1 hsz kk un2 hok2 os2 bare2 ea ed hd1 q2⟩
      | next => exact False.elim hq'
      | brk => exact False.elim hq'
      | cont => exact False.elim hq'
  refine wpAny_Call_Name_kw (ld_glob I hg hm ?_ hdb)
  cases es with
  | nil =>
    have h := hz rfl _ _ _ h
    exact PySem.W.callWith_K0 I.kIn T.kC (fin [] [] H s I .nil h.1 h.2.1 h.2.2)
  | cons e es =>
    simp only [List.all_cons, Bool.and_eq_true] at hs
    refine PySem.W.callWith_K (h₀ := X.base) I.ok.mod.kin T.kC (thn (ha.run pos pins s σ H _ I h) fun us s1 ⟨vs, H1, I1, r1, hz1, hz2, q1⟩ => ⟨I1.kIn, ?_⟩) (star_ok hs.1) (star_any hs.2)
    exact fin us vs H1 s1 I1 r1 hz1 hz2 q1
end
end Ev

/-! X4: raise by the evaluator. -/
namespace Ev
open PySem PySem.Spec PyProof.Rows L2 Calls ClX RZ
theorem look_nd {α β : Type} [BEq α] [LawfulBEq α] {x : α} {u : β} : ∀ {l : List (α × β)}, (l.map Prod.fst).Nodup → (x, u) ∈ l → l.lookup x = some u
  | (y, v) :: l, nd, h => by
    rw [List.map_cons, List.nodup_cons] at nd
    rcases List.mem_cons.mp h with h | h
    · cases h
      simp [List.lookup]
    · have ne : x ≠ y := fun z => nd.1 (by have h2 := List.mem_map_of_mem (f := Prod.fst) h; rw [z] at h2; exact h2)
      have e : (x == y) = false := by simpa using ne
      simp only [List.lookup, e]
      exact look_nd nd.2 h
theorem fldV_eq (vs : List V) : ∀ (items : List (Str × FI)) (acc : List (Str × V)), fldV vs items acc = (items.map fun q => (q.1, fiV vs q.2)).reverse ++ acc
  | [], acc => rfl
  | (f, it) :: r, acc => by
    rw [fldV, fldV_eq vs r]
    simp
theorem fldV_look {vs : List V} {items : List (Str × FI)} {f : Str} {it : FI} (nd : (items.map Prod.fst).Nodup) (h : (f, it) ∈ items) : (fldV vs items []).lookup f = some (fiV vs it) := by
  rw [fldV_eq, List.append_nil]
  refine look_nd ?_ ?_
  · rw [List.map_reverse, List.map_map]
    exact (List.reverse_perm _).nodup_iff.mpr nd
  · rw [List.mem_reverse]
    exact List.mem_map_of_mem (f := fun q : Str × FI => (q.1, fiV vs q.2)) h
/-- an exception's fields: the parameters, the code -/
def itemsX (sy : Nat → Str) (ns : List Nat) (np : Nat) (code : Tx) : List (Str × FI) := ns.zipIdx.map fun q => (sy q.1, if q.2 < np then .par (q.2 + 1) else .txt (tS code))
theorem items_get {sy : Nat → Str} {ns : List Nat} {np : Nat} {code : Tx} {i n : Nat} (e : ns[i]? = some n) : (sy n, if i < np then FI.par (i + 1) else .txt (tS code)) ∈ itemsX sy ns np code := by
  refine List.mem_of_getElem? (i := i) ?_
  unfold itemsX
  rw [List.getElem?_map, List.getElem?_zipIdx, e]
  simp
theorem items_nd {sy : Nat → Str} {ns : List Nat} {np : Nat} {code : Tx} (inj : ∀ i j, sy i = sy j → i = j) (nd : ns.Nodup) : ((itemsX sy ns np code).map Prod.fst).Nodup := by
  unfold itemsX
  rw [List.map_map]
  have : (Prod.fst ∘ fun (q : Nat × Nat) => ((sy q.1, if q.2 < np then FI.par (q.2 + 1) else .txt (tS code)) : Str × FI)) = sy ∘ Prod.fst := rfl
  rw [this, ← List.map_map, List.zipIdx_map_fst]
  refine List.Pairwise.map _ (fun a b h z => h (inj _ _ z)) nd
/-- what is known of an exception class that is raised -/
def ExnG (T : Tb) (P : Program) (w : World) (K : PySem.W.Frag) (mg : Str → Option Value) (base : Heap) (C np : Nat) (ns : List Nat) (code : Tx) : Prop := ∃ fI fd ps, OexC K (T.ca C) ∧ PySem.W.findIn K (.ref (T.ca C)) "__init__" = some (some (.ref fI)) ∧ PySem.W.typeIn K (.ref fI) = some (.type "function") ∧
  FnOk P w K mg base (L2.CX P w) 0 fI fd ps (spE (T.ca C) (np + 1) (itemsX T.sy ns np code)) ∧ (∀ (s : Shared) (us : List Value), us.length = np + 1 → BindsTo s fd ⟨us, []⟩ (ps.zip us)) ∧ ns.Nodup ∧ ns.length = np + 1 ∧ tOk code = true ∧ np ≤ 1000
abbrev ExnF (T : Tb) (X : Cx) (C np : Nat) (ns : List Nat) (code : Tx) : Prop := ExnG T X.prog X.w X.K X.mg X.base C np ns code
section
variable {T : Tb} {X : Cx} {Wx : WX} {p : Pg} {cal : Bool → Nat → List W → List OO → RC} {k wf C np : Nat} {pl ns : List Nat} {code : Tx} {c : Cl}
theorem ss_rai (O : XO T p X Wx k cal) (hr : Room 1 X.A) (hc : p.cls[C]? = some c) (hx : c.exn = some (pl, ns, code)) (F : ExnF T X C pl.length ns code) {x : Str} {es : List Expr} {xs : List E} {q1 pos cpos : Pos} (hg : Gl X x) (hm : X.mg x = some (.ref (T.ca C))) (hdb : (x == ("__debug__" : Str)) = false)
    (ha : SA T X Wx es (evEs p cal xs)) (hs : es.all notStar = true) (hz : es = [] → xs = []) : SS T X Wx (.Raise (some (.Call (.Name x q1) es [] cpos)) none pos) (exS p cal wf (.rai C xs)) := by
  obtain ⟨fI, fd, ps, T0, iC, tI, F1, hb, nd, nl, ok, npz⟩ := F
  refine PS.imp (ps_raise O.calm O.tk (pmk_x (ta := rdA T Wx (evEs p cal xs)) T0 iC tI F1 hr hb LamX.takes0 hg hm ha hs (fun z σ H R ⟨c, st, h, q⟩ => ?_) hdb)) fun D σ H ⟨c, st, h, q⟩ => ?_
  · rw [hz z] at q
    have q2 : Post T Wx (relA T σ) c σ H (.ok [] st) R := by
      have e : evEs p cal [] st = .ok [] st := by rw [evEs]
      rw [e] at q; exact q
    exact q2.ret h ⟨rfl, fun i w v e => by simp at e⟩
  · rw [exS] at q
    refine ⟨c, st, h, (PostS.bind (rel := relA T σ) q).mono fun vs H1 ⟨c1, st1, ws, S, h1, r1, q1⟩ => ?_⟩
    simp only [hc, hx] at q1
    cases o : decide (pl.length = ws.length) && okvs ws with
    | false => rw [o] at q1; exact (show False from q1).elim
    | true =>
      rw [o] at q1
      simp only [Bool.and_eq_true, decide_eq_true_eq] at o
      obtain ⟨o1, o2⟩ := o
      refine ⟨by rw [← r1.1, o1], by rw [← r1.1, ← o1]; exact npz, fun a d hd => ?_⟩
      refine q1 _ _ σ _ c1 (Stp.grow hd) (h1.grow hd) ⟨rfl, d, _, rfl, upd_same, h1.new hd, fun i n w e1 e2 => ?_⟩
      have e1 : ns[i]? = some n := e1
      refine ⟨_, fldV_look (items_nd O.G.inj nd) (items_get e1), ?_⟩
      by_cases hi : i < pl.length
      · rw [if_pos hi]
        have e2 : (ws ++ [W.str code])[i]? = some w := e2
        rw [List.getElem?_append_left (by omega)] at e2
        have hv : i < vs.length := by rw [← r1.1]; omega
        have e3 : fiV (V.ref a :: vs) (.par (i + 1)) = vs[i] := by
          simp [fiV, List.getD_eq_getElem?_getD, hv]
        rw [e3]
        have rw' := okv_rw o2 r1
        obtain ⟨v, g1, g2⟩ := rw'.get e2
        rw [List.getElem?_eq_getElem hv] at g1
        cases g1
        exact g2.mono (Stp.grow hd).mn
      · rw [if_neg hi]
        have hil : i < ns.length := (List.getElem?_eq_some_iff.mp e1).1
        have e2 : (ws ++ [W.str code])[i]? = some w := e2
        have : i = ws.length := by omega
        rw [this, List.getElem?_append_right (Nat.le_refl _)] at e2
        simp at e2
        subst e2
        exact ⟨rfl, ok⟩
end
end Ev

/-! X5: the def that tells the field of a caught exception. -/
namespace Ev
open PySem PySem.Spec PyProof.Rows L2 Calls
/-- a caught exception as it lies: its object pinned, its dict told -/
structure CauG (K : PySem.W.Frag) (a C dd : Addr) (oe : Obj) : Prop where
  T : XfC K C
  z : Zc (.ref C) (some dd) oe
  d : ∃ vs, oe.data = .fields vs
section
variable {X : Cx} {a C dd : Addr} {oe : Obj} {e : Expr} {te : TE} {pos : Pos} {n : Str}
/-- e.n, e the caught exception -/
def tXp (a dd : Addr) (n : Str) (te : TE) : TE := fun σ H Q => te σ H fun x H1 => x = .ref a ∧ ∃ fs v, H1 dd = some (.xd fs) ∧ fs.lookup n = some v ∧ Q v H1
theorem pe_xp (G : CauG X.K a C dd oe) (hp : (a, oe) ∈ X.pn) (hno : PySem.W.findIn X.K (.ref C) n = some none) (he : PE X e te) (hb : attributeBase e n X.env (eval e X.env) = eval e X.env) : PE X (.Attribute e n pos) (tXp a dd n te) := by
  refine ⟨fun pins s σ H Q I h => attr_of hb (thn (he.run pins s σ H _ I h) fun u s1 hh => ?_)⟩
  obtain ⟨x, H1, I1, rx, ex, fs, v, ea, l, q⟩ := hh
  subst ex
  obtain rfl : u = Value.ref a := rx
  have hget := (I1.pin (a, oe) (List.mem_append_left _ hp)).1
  obtain ⟨vs, hd⟩ := G.d
  obtain ⟨mA, hns, hr⟩ : ObjOk X.prog X.w H1 s1.heap dd (.xd fs) := I1.hok dd _ ea
  obtain ⟨od, ho, hl⟩ := lookIn_ns hns
  have hrel := hr n
  rw [l] at hrel
  obtain ⟨u, hu, ru⟩ := RelO.some_of (v := v) (o := mA n) hrel
  have J : PySem.W.InstAt s1.heap a oe C (some od) := ⟨hget, G.z.1, by unfold PySem.W.notCls; rw [hd] <;> rfl, by rw [G.z.2]; exact ho⟩
  exact HandSPX.exc_get I1.kIn J G.T.ga G.T.gg G.T.exC (PySem.W.findObj_own G.T.hdC hno rfl (by rw [hl, hu])) (handed_of ru) ⟨v, H1, I1.tok _, ru, q⟩
end
/-! ### the def's text -/
def isN (x : Str) : Expr → Bool
  | .Name y _ => decide (y = x)
  | _ => false
theorem isN_ok {x : Str} {e : Expr} (h : isN x e = true) : ∃ p, e = .Name x p := by
  unfold isN at h
  split at h
  · rename_i y p
    exact ⟨p, by rw [of_decide_eq_true h]⟩
  · cases h
def txtB : List Str → List Expr → Bool
  | [], [] => true
  | t :: ts, e :: es => (match e with | .Constant (.str z) _ _ => decide (z = t) | _ => false) && txtB ts es
  | _, _ => false
/-- e.code in (..) or e.code == .. -/
def tstB (x : Str) (ts : List Str) : Expr → Bool
  | .Compare (.Attribute e n _) [op] [b] _ => isN x e && decide (n = ("code" : Str)) && (match b with
    | .Tuple es _ _ => decide (op = .In) && txtB ts es && decide (ts.length ≤ 1000)
    | .Constant (.str z) _ _ => decide (op = .Eq) && decide (ts = [z])
    | _ => false)
  | _ => false
def attB (x f : Str) : Expr → Bool
  | .Attribute e n _ => isN x e && decide (n = f)
  | _ => false
def fldB (x : Str) : List (List Str × Str) → List Stmt → Bool
  | [(ts, f)], [.Return (some (.IfExp c a (.Constant .none _ _) _)) _] => tstB x ts c && attB x f a
  | (ts, f) :: r, .If c [.Return (some a) _] [] _ :: ss => tstB x ts c && attB x f a && fldB x r ss
  | _, _ => false
/-- the field that is told -/
def fldOf : List (List Str × Str) → Str → List (Str × V) → Option V
  | [], _, _ => some .non
  | (ts, f) :: r, c, fs => if c ∈ ts then fs.lookup f else fldOf r c fs
section
variable {X : Cx} {a C dd : Addr} {oe : Obj} {x : Str} {fs : List (Str × V)} {cz : Str}
theorem txt_pa : ∀ {ts : List Str} {es : List Expr}, txtB ts es = true → ∃ t, PA X es t ∧ ∀ σ H Q, Q (ts.map V.str) H → t σ H Q
  | [], [], _ => ⟨_, pa_nil, fun σ H Q q => q⟩
  | [], _ :: _, h => by simp [txtB] at h
  | _ :: _, [], h => by simp [txtB] at h
  | t :: ts, e :: es, h => by
    simp only [txtB, Bool.and_eq_true] at h
    obtain ⟨h1, h2⟩ := h
    obtain ⟨u, hu, hq⟩ := txt_pa h2
    split at h1
    · have := of_decide_eq_true h1
      subst this
      exact ⟨_, pa_cons pe_str hu rfl, fun σ H Q q => hq σ H _ q⟩
    · cases h1
theorem inV_strs {c : Str} : ∀ {ts : List Str}, inV (.str c) (ts.map V.str) = decide (c ∈ ts)
  | [] => rfl
  | t :: ts => by
    have ih := inV_strs (c := c) (ts := ts)
    unfold inV at ih ⊢
    rw [List.map_cons, List.any_cons, ih]
    show (t == c || _) = _
    by_cases h : t = c
    · subst h; simp
    · have h2 : ¬ c = t := fun z => h z.symm
      simp [h, h2]
/-- what the state tells of the exception -/
def XAt (a dd : Addr) (fs : List (Str × V)) (i : Nat) (σ : L2.St) (H : Hp) : Prop := σ[i]? = some (some (.ref a)) ∧ H dd = some (.xd fs)
theorem abase_name {e : Expr} {n : Str} {env : Env} {w : Sem Value} (h : ∃ y p, e = .Name y p) : attributeBase e n env w = w := by
  obtain ⟨y, p, rfl⟩ := h
  rfl
theorem tst_pt {i : Nat} (G : CauG X.K a C dd oe) (hp : (a, oe) ∈ X.pn) (hno : PySem.W.findIn X.K (.ref C) ("code" : Str) = some none) (hN : X.N[i]? = some x) (hv : Vis X.env.scope x) (hd : (x == ("__debug__" : Str)) = false) (hcd : (x == ("__classdict__" : Str)) = false) {ts : List Str} {e : Expr} (h : tstB x ts e = true) :
    ∃ t, PT X e t ∧ ∀ σ H (Q : Bool → Hp → Prop), XAt a dd fs i σ H → fs.lookup ("code" : Str) = some (V.str cz) → (∀ H', (∀ b o, H b = some o → H' b = some o) → Q (decide (cz ∈ ts)) H') → t σ H Q := by
  unfold tstB at h
  split at h
  · rename_i e' n pa op b pos
    simp only [Bool.and_eq_true, decide_eq_true_eq] at h
    obtain ⟨⟨h1, h2⟩, h3⟩ := h
    subst h2
    obtain ⟨pn, rfl⟩ := isN_ok h1
    have hA := pe_xp (pos := pa) (n := "code") G hp hno (pe_var (pos := pn) hN hv hd hcd) (abase_name ⟨_, _, rfl⟩)
    split at h3
    · simp only [Bool.and_eq_true, decide_eq_true_eq] at h3
      obtain ⟨⟨h4, h5⟩, h6⟩ := h3
      subst h4
      obtain ⟨u, hu, hq⟩ := txt_pa (X := X) h5
      refine ⟨_, pt_cmpR op_in_seq hA (pe_tup hu) (by first | exact nobehind _ (by decide) (by decide) | rfl), fun σ H Q hx hc q => ?_⟩
      refine ⟨.ref a, hx.1, rfl, fs, _, hx.2, hc, hq _ _ _ ⟨by rw [List.length_map, sizeLine_eq]; omega, fun p hp => ?_⟩⟩
      refine ⟨p, _, rfl, .inr (.inl (Rd.of upd_same)), rfl, ?_, _, rfl, ?_⟩
      · rw [List.all_map]
        exact List.all_eq_true.mpr fun _ _ => rfl
      · rw [inV_strs]
        exact q _ fun b o e => by rw [upd_ne (ne_of_none e hp)]; exact e
    · simp only [Bool.and_eq_true, decide_eq_true_eq] at h3
      obtain ⟨h4, h5⟩ := h3
      subst h4 h5
      refine ⟨_, pt_cmpR op_eq hA pe_str (by first | exact nobehind _ (by decide) (by decide) | rfl), fun σ H Q hx hc q => ?_⟩
      refine ⟨.ref a, hx.1, rfl, fs, _, hx.2, hc, rfl, _, rfl, ?_⟩
      have q2 := q H fun _ _ e => e
      simp only [List.mem_singleton] at q2
      simp only [V.str.injEq]
      exact q2
    · cases h3
  · cases h
theorem att_pe {i : Nat} {f : Str} (G : CauG X.K a C dd oe) (hp : (a, oe) ∈ X.pn) (hno : PySem.W.findIn X.K (.ref C) f = some none) (hN : X.N[i]? = some x) (hv : Vis X.env.scope x) (hd : (x == ("__debug__" : Str)) = false) (hcd : (x == ("__classdict__" : Str)) = false) {e : Expr} (h : attB x f e = true) :
    PE X e (tXp a dd f (tVar i)) := by
  unfold attB at h
  split at h
  · simp only [Bool.and_eq_true, decide_eq_true_eq] at h
    obtain ⟨h1, h2⟩ := h
    subst h2
    obtain ⟨pn, rfl⟩ := isN_ok h1
    exact pe_xp G hp hno (pe_var hN hv hd hcd) (abase_name ⟨_, _, rfl⟩)
  · cases h
theorem fld_pss {i : Nat} (G : CauG X.K a C dd oe) (hp : (a, oe) ∈ X.pn) (hno : PySem.W.findIn X.K (.ref C) ("code" : Str) = some none) (hN : X.N[i]? = some x) (hv : Vis X.env.scope x) (hd : (x == ("__debug__" : Str)) = false) (hcd : (x == ("__classdict__" : Str)) = false) :
    ∀ {cl : List (List Str × Str)} {ss : List Stmt}, (∀ q ∈ cl, PySem.W.findIn X.K (.ref C) q.2 = some none) → fldB x cl ss = true →
      ∃ t, PSs X ss t ∧ ∀ σ H (D : Ends) v, XAt a dd fs i σ H → fs.lookup ("code" : Str) = some (V.str cz) → fldOf cl cz fs = some v → (∀ H', (∀ b o, H b = some o → H' b = some o) → D.rt v H') → t D σ H
  | [], _, _, h => by simp [fldB] at h
  | (ts, f) :: r, [], _, h => by cases r <;> simp [fldB] at h
  | (ts, f) :: r, s :: ss, hf, h => by
    unfold fldB at h
    split at h
    · rename_i heq1 heq2
      cases heq1
      cases heq2
      simp only [Bool.and_eq_true] at h
      obtain ⟨t, ht, hq⟩ := tst_pt (fs := fs) (cz := cz) G hp hno hN hv hd hcd h.1
      refine ⟨_, pss_one (ps_ret (pe_ifExp ht (att_pe G hp (hf _ List.mem_cons_self) hN hv hd hcd h.2) pe_non)), fun σ H D v hx hc hv q => ?_⟩
      refine hq σ H _ hx hc fun H' kp => ?_
      have kx : XAt a dd fs i σ H' := ⟨hx.1, kp _ _ hx.2⟩
      by_cases hm : cz ∈ ts
      · simp only [fldOf, if_pos hm] at hv
        rw [decide_eq_true hm, if_pos rfl]
        exact ⟨.ref a, kx.1, rfl, fs, v, kx.2, hv, q H' kp⟩
      · simp only [fldOf, if_neg hm] at hv
        cases hv
        rw [decide_eq_false hm, if_neg (by decide)]
        exact q H' kp
    · rename_i heq1 heq2
      cases heq1
      cases heq2
      simp only [Bool.and_eq_true] at h
      obtain ⟨⟨h1, h2⟩, h3⟩ := h
      obtain ⟨t, ht, hq⟩ := tst_pt (fs := fs) (cz := cz) G hp hno hN hv hd hcd h1
      obtain ⟨u, hu, hq2⟩ := fld_pss G hp hno hN hv hd hcd (fun q hq => hf q (List.mem_cons_of_mem _ hq)) h3
      refine ⟨_, pss_cons (ps_if ht (pss_one (ps_ret (att_pe G hp (hf _ List.mem_cons_self) hN hv hd hcd h2))) pss_nil) hu, fun σ H D v hx hc hv q => ?_⟩
      refine hq σ H _ hx hc fun H' kp => ?_
      have kx : XAt a dd fs i σ H' := ⟨hx.1, kp _ _ hx.2⟩
      by_cases hm : cz ∈ ts
      · simp only [fldOf, if_pos hm] at hv
        rw [decide_eq_true hm, if_pos rfl]
        exact ⟨.ref a, kx.1, rfl, fs, v, kx.2, hv, q H' kp⟩
      · simp only [fldOf, if_neg hm] at hv
        rw [decide_eq_false hm, if_neg (by decide)]
        exact hq2 σ H' _ v kx hc hv fun H2 kp2 => q H2 fun b o e => kp2 b o (kp b o e)
    · cases h
end
end Ev

/-! X6: that def, called where an exception is handled. -/
namespace Ev
open PySem PySem.Spec PyProof.Rows L2 Calls
/-- what is known of the class of a caught exception -/
structure CauC (K : PySem.W.Frag) (C : Addr) (cl : List (List Str × Str)) : Prop where
  T : XfC K C
  code : PySem.W.findIn K (.ref C) ("code" : Str) = some none
  fld : ∀ q ∈ cl, PySem.W.findIn K (.ref C) q.2 = some none
def FnR (P : Program) (w : World) (K : PySem.W.Frag) (mg : Str → Option Value) (base : Heap) (f : Addr) (cl : List (List Str × Str)) : Prop :=
  ∀ (A : Around) (outer : List Env) (s : Shared) (H : Hp) (a C dd : Addr) (oe : Obj) (fs : List (Str × V)) (cz : Str) (v : V) (Q : VK), A.depth < recursionLimit → L2H.PinOk outer H s (a, oe) → Env0 P w K mg base A outer s H → CauC K C cl → Zc (.ref C) (some dd) oe → (∃ vs, oe.data = .fields vs) →
    H dd = some (.xd fs) → fs.lookup ("code" : Str) = some (V.str cz) → fldOf cl cz fs = some v → (∀ H', (∀ b o, H b = some o → H' b = some o) → Q v H') → codeAny (model P w) A (.call (.ref f) ⟨[.ref a], []⟩) (CR L2.CX0 outer P w H s Q fun _ _ _ => False) s
theorem fnR_of {P : Program} {w : World} {K : PySem.W.Frag} {mg : Str → Option Value} {base : Heap} {f : Addr} {name qual x : Str} {params : Arguments} {body : List Stmt} {scope : Scope} {dV kV doc pm cdv ct oc : Value} {an od : Option Addr} {osl : Array (Option Value)} {N : List Str} {cl : List (List Str × Str)}
    (lk : K.lookup f = some ⟨oc, od, .func (PySem.W.fnOf name qual params body scope dV kV doc pm an cdv ct), osl⟩) (hcd : PySem.W.codeIn K cdv qual = true) (S : FnScope N [x] scope) (hx0 : N[0]? = some x) (hv : Vis scope x) (hd : (x == ("__debug__" : Str)) = false) (hcl : (x == ("__classdict__" : Str)) = false)
    (hbd : ∀ (s : Shared) (u : Value), BindsTo s (PySem.W.fnOf name qual params body scope dV kV doc pm an cdv ct) ⟨[u], []⟩ [(x, u)]) (hB : fldB x cl body = true) : FnR P w K mg base f cl := by
  intro A outer s H a C dd oe fs cz v Q hr hpin e0 G z d hdd hcz hfv hq
  have KX : K.In s.heap := e0.mod.kin.keeps fun b o e => (e0.bs b o e).1
  have lim : s.heap.NoLimit := e0.mod.nolimit.keeps fun b o e => (e0.bs b o e).1
  have kind1 : ∀ y ∈ ([x] : List Str).zip [Value.ref a], scope.names.lookup y.1 = some .local ∨ (scope.names.lookup y.1 = some .cell ∧ ((cellsFrom (s.heap.objs.size + 1) scope.names []).lookup y.1).isSome = true) := fun ⟨n, u⟩ hy =>
    (S.par n (List.of_mem_zip hy).1).imp id fun q => ⟨q, PySem.W.cellsFrom_some _ _ _ (.inl q)⟩
  have BD : BindsTo s (PySem.W.fnOf name qual params body scope dV kV doc pm an cdv ct) ⟨[.ref a], []⟩ (([x] : List Str).zip [Value.ref a]) := hbd s (.ref a)
  refine codeAny_call_function hr (KX _ _ lk) rfl S.co S.gen rfl (PySem.W.codeRec_of KX hcd) (BD _ _ _ _ ?_)
  refine wpAny_newFunctionEnv_cells S.kind kind1 fun env he s1 ic => ?_
  subst he
  refine ⟨lim.keeps ic.toInCall.keep, codeAny_func ?_⟩
  let Xh := L2H.cxH L2.CX0 P w K mg base N qual scope f cdv A outer s H (fun _ _ _ => False) (a, oe)
  have I0 : Inv Xh [] (L2.start N [.ref a]) H s1 := L2H.inv_startH S hpin e0 rfl (.cons rfl .nil) ic
  obtain ⟨t, ht, hT⟩ := fld_pss (X := Xh) (dd := dd) (fs := fs) (cz := cz) (i := 0) ⟨G.T, z, d⟩ (List.mem_singleton.mpr rfl) G.code hx0 hv hd hcl G.fld hB
  have hs0 : (L2.start N [V.ref a])[0]? = some (some (V.ref a)) := rfl
  refine wpAny_mono (ht.run [] s1 _ H { nx := fun _ _ => False, rt := Q } I0 (hT _ _ { nx := fun _ _ => False, rt := Q } v ⟨hs0, hdd⟩ hcz hfv hq)) (fun fl s' hs => ?_) fun e s' hs => hs
  cases fl with
  | ret u =>
    obtain ⟨v', σ', H', J, rv, q⟩ := hs
    exact ⟨v', H', J.os, J.bare, J.base, J.hok, rv, q⟩
  | next =>
    obtain ⟨_, _, _, q⟩ := hs
    exact q.elim
  | brk =>
    obtain ⟨_, _, _, q⟩ := hs
    exact False.elim q
  | cont =>
    obtain ⟨_, _, _, q⟩ := hs
    exact False.elim q
/-! ### x(e), in an except suite -/
section
variable {X : Cx} {a C dd f : Addr} {oe : Obj} {x y : Str} {p1 p2 pos : Pos} {cl : List (List Str × Str)} {i : Nat}
def tFld (a dd : Addr) (cl : List (List Str × Str)) (i : Nat) : TE := fun σ H Q => σ[i]? = some (some (.ref a)) ∧ ∃ fs cz v, H dd = some (.xd fs) ∧ fs.lookup ("code" : Str) = some (V.str cz) ∧ fldOf cl cz fs = some v ∧ ∀ H', (∀ b o, H b = some o → H' b = some o) → Q v H'
theorem pe_fld (F : FnR X.prog X.w X.K X.mg X.base f cl) (hr : X.A.depth < recursionLimit) (hp : (a, oe) ∈ X.pn) (G : CauC X.K C cl) (z : Zc (.ref C) (some dd) oe) (d : ∃ vs, oe.data = .fields vs) (hg : Gl X x) (hm : X.mg x = some (.ref f)) (hk : PySem.W.keepIn X.K (.ref f) = true) (hdb : (x == ("__debug__" : Str)) = false)
    (hN : X.N[i]? = some y) (hv : Vis X.env.scope y) (hd : (y == ("__debug__" : Str)) = false) (hcd : (y == ("__classdict__" : Str)) = false) : PE X (.Call (.Name x p1) [.Name y p2] [] pos) (tFld a dd cl i) := by
  refine ⟨fun pins s σ H Q I h => ?_⟩
  obtain ⟨h0, fs, cz, v, h1, h2, h3, h4⟩ := h
  refine wpAny_Call_Name_kw (ld_glob I hg hm ?_ hdb)
  refine PySem.W.callWith_K (h₀ := X.base) I.ok.mod.kin hk (thn ((pa_cons (pe_var (pos := p2) hN hv hd hcd) pa_nil rfl).run pos pins s σ H (fun vs H1 => vs = [V.ref a] ∧ H1 = H) I ⟨_, h0, rfl, rfl⟩) fun us s1 ⟨vs, H1, I1, r, e1, e2⟩ => ⟨I1.kIn, ?_⟩)
  subst e1 e2
  cases r with
  | @cons _ u _ ur ra rr =>
    obtain rfl : u = Value.ref a := ra
    cases rr
    have P1 := I1.pin (a, oe) (List.mem_append_left _ hp)
    have hpin : L2H.PinOk X.stack H1 s1 (a, oe) := ⟨P1.1, P1.2.1, fun hm => (List.mem_cons.mp (I1.stkSub _ hm)).elim P1.2.2.1 P1.2.2.2.1, P1.2.2.2.2⟩
    refine wpAny_call (codeAny_mono (F X.A X.stack s1 H1 a C dd oe fs cz v Q hr hpin I1.env0 G z d h1 h2 h3 h4) fun r s' hq => ?_)
    cases r with
    | error e => exact (show False from hq).elim
    | ok fl =>
      cases fl with
      | ret u => exact I1.after hq
      | next => exact False.elim hq
      | brk => exact False.elim hq
      | cont => exact False.elim hq
end
end Ev

/-! X7: try: .. except x as n: .. (the first clause takes all that is raised). -/
namespace Ev
open PySem PySem.Spec PyProof.Rows L2 Calls
/-- the first clause takes it: n (slot i) is the exception within the suite, nothing behind it -/
def offN (i : Nat) (D : Ends) : Ends := { nx := fun σ H => D.nx (σ.set i none) H, rt := D.rt, bk := fun σ H => D.bk (σ.set i none) H, ct := fun σ H => D.ct (σ.set i none) H }
def w1 (K : PySem.W.Frag) (c : Value) (i m : Nat) (ts : Addr → Value → Option Addr → TS) (D : Ends) : WX := fun cls d σ H =>
  PySem.W.exmOne K cls c = some true ∧ (σ.length = m → ∀ a, H a = none → ts a cls d (offN i D) (σ.set i (some (.ref a))) H)
section
variable {X : Cx} {x n : Str} {c : Value} {i : Nat} {body suite : List Stmt} {b₀ : Stmt} {np pos pos' : Pos} {tb : WX → TS} {ts : Addr → Value → Option Addr → TS} {more : List ExceptHandler}
theorem fld_noframe {B : Heap} {l : List Env} {a : Addr} {h : Heap} {o : Obj} {vs : Array Value} (ff : h.FunFrames B l) (e : h.get? a = some o) (dd : o.data = .fields vs) : a ∉ L2.frs l := by
  intro hm
  obtain ⟨_, o', e', hnf⟩ := ff.mem hm
  rw [e] at e'
  cases e'
  exact hnf vs dd
theorem ps_try1 (hs : X.stack = X.env :: X.outer) (hf : X.env.frame = some X.env.locals) (hN : X.N.Nodup) (hi : X.N[i]? = some n) (hln : X.env.kindOf n = some .local) (hc : Names X x c)
    (hb : ∀ (W : WX) (pn : List (Addr × Obj)) (xe : Value → Shared → Prop), Takes (X.tr pn xe) W → PassesOwn (model X.prog X.w) X.A X.env xe → PSs (X.tr pn xe) body (tb W))
    (hsu : ∀ (a : Addr) (oe : Obj) (cls : Value) (d : Option Addr) (pn : List (Addr × Obj)), Zc cls d oe → (∃ vs, oe.data = .fields vs) → PSs (X.suite a ((a, oe) :: pn)) (b₀ :: suite) (ts a cls d)) :
    PS X (.Try body (.ExceptHandler (some (.Name x np)) (some n) (b₀ :: suite) pos' :: more) [] [] pos) (fun D σ H => tb (w1 X.K c i X.N.length ts D) D σ H) := by
  refine ⟨fun pins s σ H D I h => wpAny_Try_except ?_⟩
  have ok := I.ok
  have hfr : X.A.frames = some (X.env :: X.outer) := by rw [ok.frames, hs]
  let xe2 : Value → Shared → Prop := fun e s₁ => wpAny (model X.prog X.w) X.A (noteFrame e X.env) (fun _ s₂ => wpAny (model X.prog X.w) X.A (setFlight e none) (fun _ s₃ =>
    wpAny (model X.prog X.w) X.A (handleBy e X.env (.ExceptHandler (some (.Name x np)) (some n) (b₀ :: suite) pos' :: more)) (SP X pins D) X.xe s₃) X.xe s₂) X.xe s₁
  have tk : Takes (X.tr (X.pn ++ pins) xe2) (w1 X.K c i X.N.length ts D) := by
    intro u s' xx
    obtain ⟨a, B, sI, pins', σ', H', cls, d, rfl, J', nb, up, sky, na, os, ag, hb1, hyes⟩ := xx
    have J : Inv X pins σ' H' sI := J'.ofTry ok
    rw [show (X.tr (X.pn ++ pins) xe2).stack = X.env :: X.outer from hs] at sky
    refine L2.Sky.land Zc.steady hfr hf sky fun h3 fl3 up3 => ?_
    have J3 : Inv X pins σ' H' { s' with heap := h3 } := J.landed nb fl3.1 (up.trans up3) os ag
    obtain ⟨oe3, vs3, he3, hz3, hd3⟩ := fl3.there
    have nfr := fld_noframe fl3.2.2.1 he3 hd3
    have nL : a ≠ X.env.locals := fun z => nfr (List.mem_filterMap.mpr ⟨X.env, List.mem_cons_self, by rw [hf, z]⟩)
    have nF : a ∉ X.fs := fun hm => nfr (by
      obtain ⟨e, he, q⟩ := List.mem_filterMap.mp hm
      exact List.mem_filterMap.mpr ⟨e, List.mem_cons_of_mem _ he, q⟩)
    have S3 := J3.suite he3 hd3 na nL nF
    refine wpAny_handleBy_cons (codeAny_handlers_test ?_) (by intro q; cases q)
    have LT : PySem.W.Looks (model X.prog X.w) h3 (typeOf (.ref a)) cls := fun A Q E s k q => wpAny_typeOf_ref (k _ _ he3) (by rw [hz3.1]; exact q)
    have LM := PySem.W.exm_one (M := model X.prog X.w) J3.kIn LT hb1
    have look : ∀ {Q E : Value → Shared → Prop}, Q c { s' with heap := h3 } → wpAny (model X.prog X.w) (X.A.mark (some (.ref a))) (eval (.Name x np) X.env) Q E { s' with heap := h3 } := by
      intro Q E q
      obtain ⟨hg, hdbg, hm⟩ := hc
      rcases hm with hm | ⟨hm, hv, hnn⟩
      · exact ld_glob (X := X.suite a ((a, oe3) :: (X.pn ++ pins))) S3 hg hm q hdbg
      · exact ld_blt (X := X.suite a ((a, oe3) :: (X.pn ++ pins))) S3 hg hm hv q hnn hdbg
    refine look (LM.here (codeAny_handlers_suite_as (HandSPX.lands_againZ fl3 fun h4 fl4 up4 => ?_)))
    have J4 : Inv X pins σ' H' { s' with heap := h4 } := J.landed nb fl4.1 ((up.trans up3).trans up4) os ag
    obtain ⟨oe4, vs4, he4, hz4, hd4⟩ := fl4.there
    have S4 := J4.suite he4 hd4 na nL nF
    refine store_ok (X := X.suite a ((a, oe4) :: (X.pn ++ pins))) (v := .ref a) S4 hN hi (.inl hln) rfl (fun s5 S5 => ?_) (.inr hln)
    refine wpAny_mono ((hsu a oe4 cls d (X.pn ++ pins) hz4 ⟨_, hd4⟩).run [] s5 _ H' (offN i D) S5 (hyes J.len a na)) (fun f s6 hsp => ?_) (fun _ _ z => False.elim z)
    cases f with
    | next =>
      obtain ⟨σ6, H6, S6, q6⟩ := hsp
      exact gone_ok (S6.unsuite ok) hN hi hln fun s7 J7 => ⟨_, _, J7, q6⟩
    | brk =>
      obtain ⟨σ6, H6, S6, q6⟩ := hsp
      exact gone_ok (S6.unsuite ok) hN hi hln fun s7 J7 => ⟨_, _, J7, q6⟩
    | cont =>
      obtain ⟨σ6, H6, S6, q6⟩ := hsp
      exact gone_ok (S6.unsuite ok) hN hi hln fun s7 J7 => ⟨_, _, J7, q6⟩
    | ret u =>
      obtain ⟨v6, σ6, H6, S6, r6, q6⟩ := hsp
      exact gone_ok (S6.unsuite ok) hN hi hln fun s7 J7 => ⟨_, _, _, J7, r6, q6⟩
  refine wpAny_mono ((hb _ (X.pn ++ pins) xe2 tk PassesOwn.looking).run [] s σ H D (I.toTry _) h) (fun f s1 hsp => ?_) (fun e s1 he => he)
  cases f with
  | next =>
    obtain ⟨σ', H', J', q⟩ := hsp
    exact wpAny_execs_nil ⟨σ', H', J'.ofTry ok, q⟩
  | brk =>
    obtain ⟨σ', H', J', q⟩ := hsp
    exact ⟨σ', H', J'.ofTry ok, q⟩
  | cont =>
    obtain ⟨σ', H', J', q⟩ := hsp
    exact ⟨σ', H', J'.ofTry ok, q⟩
  | ret u =>
    obtain ⟨v, σ', H', J', r, q⟩ := hsp
    exact ⟨v, σ', H', J'.ofTry ok, r, q⟩
end
end Ev

/-! X8: the def that tells how a lambda ends. -/
namespace Ev
open PySem PySem.Spec PyProof.Rows L2 Calls
/-- told = (texts); try: ask() / except P as e: told = (e.code, field(e)) ..; return told -/
def refB (ask told e cP fx : Str) : List Stmt → Bool
  | [.Assign [.Name t1 _] (.Tuple [.Constant (.str z) _ _, .Constant .none _ _] _ _) _,
     .Try [.Expr (.Call (.Name a1 _) [] [] _) _] (.ExceptHandler (some (.Name c1 _)) (some e1) [.Assign [.Name t2 _] (.Tuple [.Attribute (.Name e2 _) n _, .Call (.Name f1 _) [.Name e3 _] [] _] _ _) _] _ :: _) [] [] _,
     .Return (some (.Name t3 _)) _] =>
    decide (t1 = told) && decide (z = ("" : Str)) && decide (a1 = ask) && decide (c1 = cP) && decide (e1 = e) && decide (t2 = told) && decide (e2 = e) && decide (n = ("code" : Str)) && decide (f1 = fx) && decide (e3 = e) && decide (t3 = told)
  | _ => false
/-- what is told -/
def TRef (K : PySem.W.Frag) (CP : Addr) (cl : List (List Str × Str)) : (XK → Hp → VK → Prop) → Hp → VK → Prop := fun tl H Q => ∀ p0, H p0 = none → tl (fun cls d H' => PySem.W.exmOne K cls (.ref CP) = some true ∧ ∃ C dd fs cz v, cls = .ref C ∧ d = some dd ∧ CauC K C cl ∧ H' dd = some (.xd fs) ∧
    fs.lookup ("code" : Str) = some (V.str cz) ∧ fldOf cl cz fs = some v ∧ ∀ H2, (∀ b o, H' b = some o → H2 b = some o) → ∀ p, H2 p = none → Q (.ref p) (upd H2 p (.tup [V.str cz, v])))
  (upd H p0 (.tup [V.str ("" : Str), .non])) (fun _ H' => ∃ v, (some (some (V.ref p0)) : Option (Option V)) = some (some v) ∧ Q v H')
section
variable {X : Cx} {CP ff g : Addr} {x q ask told e cP fx : Str} {sg : Scope} {cdg : Value} {bg : List Stmt} {cl : List (List Str × Str)}
def tsRef (K : PySem.W.Frag) (cl : List (List Str × Str)) (a : Addr) (cls : Value) (d : Option Addr) : TS := fun D σ H => ∃ C dd fs cz v, cls = .ref C ∧ d = some dd ∧ CauC K C cl ∧ σ[2]? = some (some (.ref a)) ∧ H dd = some (.xd fs) ∧ fs.lookup ("code" : Str) = some (V.str cz) ∧ fldOf cl cz fs = some v ∧
  ∀ H2, (∀ b o, H b = some o → H2 b = some o) → ∀ p, H2 p = none → D.nx (σ.set 1 (some (.ref p))) (upd H2 p (.tup [V.str cz, v]))
theorem ref_suite {Z : Cx} {a : Addr} {oe : Obj} {cls : Value} {d : Option Addr} {pn : List (Addr × Obj)} {py p1 p2 p3 p4 p5 p6 p7 : Pos} {k2 : Nat} (hZN : Z.N = [ask, told, e]) (nd : [ask, told, e].Nodup) (F : FnR Z.prog Z.w Z.K Z.mg Z.base ff cl) (hr : Z.A.depth < recursionLimit) (hfx : Gl Z fx) (hmf : Z.mg fx = some (.ref ff)) (hkf : PySem.W.keepIn Z.K (.ref ff) = true)
    (ht : Z.env.scope.names.lookup told = some .local) (he : Z.env.scope.names.lookup e = some .local) (n1 : (fx == ("__debug__" : Str)) = false) (n2 : (e == ("__debug__" : Str)) = false) (n3 : (e == ("__classdict__" : Str)) = false) (hdep : ∀ v, (Z.A.mark v).depth = Z.A.depth)
    (hz : Zc cls d oe) (hd : ∃ vs, oe.data = .fields vs) :
    PSs (Z.suite a ((a, oe) :: pn)) [.Assign [.Name told py] (.Tuple [.Attribute (.Name e p1) ("code" : Str) p2, .Call (.Name fx p3) [.Name e p4] [] p5] k2 p6) p7] (tsRef Z.K cl a cls d) := by
  refine ⟨fun pins s σ H D I h => ?_⟩
  obtain ⟨C, dd, fs, cz, v, e1, e2, G, h2, hdd, hcz, hfv, hq⟩ := h
  subst e1 e2
  have hp : (a, oe) ∈ (Z.suite a ((a, oe) :: pn)).pn := List.mem_cons_self
  have hN2 : (Z.suite a ((a, oe) :: pn)).N[2]? = some e := by show Z.N[2]? = _; rw [hZN]; rfl
  have hN1 : (Z.suite a ((a, oe) :: pn)).N[1]? = some told := by show Z.N[1]? = _; rw [hZN]; rfl
  have hA := pe_xp (X := Z.suite a ((a, oe) :: pn)) (pos := p2) (n := ("code" : Str)) (dd := dd) (oe := oe) ⟨G.T, hz, hd⟩ hp G.code (pe_var (pos := p1) hN2 (.inl he) n2 n3) (abase_name ⟨_, _, rfl⟩)
  have hB := pe_fld (X := Z.suite a ((a, oe) :: pn)) (p1 := p3) (p2 := p4) (pos := p5) (dd := dd) F (by show (Z.A.mark _).depth < _; rw [hdep]; omega) hp G hz hd hfx hmf hkf n1 hN2 (.inl he) n2 n3
  have hT := pss_one (ps_set (X := Z.suite a ((a, oe) :: pn)) (pos := p7) (pos' := py) (by show Z.N.Nodup; rw [hZN]; exact nd) hN1 (.inl ht) (pe_tup (x1 := k2) (pos := p6) (pa_cons hA (pa_cons hB pa_nil rfl) rfl)) rfl (.inr ht))
  refine hT.run pins s σ H D I ?_
  refine ⟨.ref a, h2, rfl, fs, _, hdd, hcz, h2, fs, cz, v, hdd, hcz, hfv, fun H2 kp => ⟨by rw [sizeLine_eq]; simp, fun p hpn => ?_⟩⟩
  exact hq H2 kp p hpn
theorem ref_gives (hN : [ask, told, e].Nodup) (F : FnR X.prog X.w X.K X.mg X.base ff cl) (hr : X.A.depth + 1 < recursionLimit) (hdep : ∀ (A : Around) v, (A.mark v).depth = A.depth) (hfx : sg.names.lookup fx = some .globalImplicit) (hmf : X.mg fx = some (.ref ff)) (hkf : PySem.W.keepIn X.K (.ref ff) = true)
    (ht : sg.names.lookup told = some .local) (he : sg.names.lookup e = some .local) (hcP : sg.names.lookup cP = some .globalImplicit) (hmP : X.mg cP = some (.ref CP)) (n0 : (cP == ("__debug__" : Str)) = false) (n1 : (fx == ("__debug__" : Str)) = false) (n2 : (e == ("__debug__" : Str)) = false) (n3 : (e == ("__classdict__" : Str)) = false)
    (n4 : (told == ("__debug__" : Str)) = false) (n5 : (told == ("__classdict__" : Str)) = false) (hB : refB ask told e cP fx bg = true) : LamX.GivesTo X [ask, told, e] x sg g cdg bg ask q (TRef X.K CP cl) := by
  intro f c' s H Q tl act hc h
  unfold refB at hB
  split at hB
  · rename_i t1 py1 z kz pz kn pn1 kt pt pa a1 pa1 pc1 pe1 c1 pc e1 t2 py2 e2 pe2 n pn2 f1 pf1 e3 pe3 pcl kt2 pt2 pas ph more ptry t3 pt3 prt
    simp only [Bool.and_eq_true, decide_eq_true_eq] at hB
    obtain ⟨⟨⟨⟨⟨⟨⟨⟨⟨⟨b1, b2⟩, b3⟩, b4⟩, b5⟩, b6⟩, b7⟩, b8⟩, b9⟩, b10⟩, b11⟩ := hB
    replace b1 := b1.symm
    subst b1
    replace b2 := b2.symm
    subst b2
    replace b3 := b3.symm
    subst b3
    replace b4 := b4.symm
    subst b4
    replace b5 := b5.symm
    subst b5
    replace b6 := b6.symm
    subst b6
    replace b7 := b7.symm
    subst b7
    replace b8 := b8.symm
    subst b8
    replace b9 := b9.symm
    subst b9
    replace b10 := b10.symm
    subst b10
    replace b11 := b11.symm
    subst b11
    generalize hZ : (cxOf C8.CX0 X.prog X.w X.K X.mg X.base [ask, told, e] x sg g cdg X.A X.stack s H C8.E0).nox = Z
    have zN : Z.N = [ask, told, e] := by rw [← hZ] <;> rfl
    have zsc : Z.env.scope.names = sg.names := by rw [← hZ] <;> rfl
    have zA : Z.A.depth = X.A.depth + 1 := by rw [← hZ] <;> rfl
    have hst : Z.stack = Z.env :: Z.outer := by rw [← hZ] <;> rfl
    have hfr : Z.env.frame = some Z.env.locals := by rw [← hZ] <;> rfl
    have hfn : ∀ y, Z.fn y = true := fun y => by rw [← hZ] <;> rfl
    have F' : FnR Z.prog Z.w Z.K Z.mg Z.base ff cl := by rw [← hZ]; exact F
    have mf' : Z.mg fx = some (.ref ff) := by rw [← hZ]; exact hmf
    have kf' : PySem.W.keepIn Z.K (.ref ff) = true := by rw [← hZ]; exact hkf
    have mP' : Z.mg cP = some (.ref CP) := by rw [← hZ]; exact hmP
    have hK : Z.K = X.K := by rw [← hZ] <;> rfl
    have gf : Gl Z fx := by show Z.env.scope.names.lookup fx = _; rw [zsc]; exact hfx
    have gP : Gl Z cP := by show Z.env.scope.names.lookup cP = _; rw [zsc]; exact hcP
    have ht' : Z.env.scope.names.lookup told = some .local := by rw [zsc]; exact ht
    have he' : Z.env.scope.names.lookup e = some .local := by rw [zsc]; exact he
    have nd' : Z.N.Nodup := by rw [zN]; exact hN
    have i1 : Z.N[1]? = some told := by rw [zN]; rfl
    have i2 : Z.N[2]? = some e := by rw [zN]; rfl
    let tb : WX → TS := fun W D σ HH => ∃ Ech : XK, (∀ cls d σ' H', Ech cls d H' → W cls d σ' H') ∧ σ[0]? = some (some (.ref f)) ∧ HH c' = some (LamX.CodeO c' q) ∧ tl Ech HH fun _ H' => D.nx σ H'
    have hbody : ∀ (W : WX) (pn : List (Addr × Obj)) (xe : Value → Shared → Prop), Takes (Z.tr pn xe) W → PassesOwn (model Z.prog Z.w) Z.A Z.env xe → PSs (Z.tr pn xe) [.Expr (.Call (.Name ask pa1) [] [] pc1) pe1] (tb W) := fun W pn xe tk _ => by
      refine ⟨fun pins s' σ H' D I h' => ?_⟩
      obtain ⟨Ech, hW, h1, h2, h3⟩ := h'
      have tk' : Takes ((cxOf C8.CX0 X.prog X.w X.K X.mg X.base [ask, told, e] x sg g cdg X.A X.stack s H C8.E0).tr pn xe) W := by
        rw [← hZ] at tk; exact tk
      have hp := pss_one (ps_expr (pos := pe1) (act W pn xe Ech pa1 pc1 tk' hW) rfl)
      have I' : Inv ((cxOf C8.CX0 X.prog X.w X.K X.mg X.base [ask, told, e] x sg g cdg X.A X.stack s H C8.E0).tr pn xe) pins σ H' s' := by
        rw [← hZ] at I; exact I
      have r := hp.run pins s' σ H' D I' ⟨h1, h2, h3⟩
      rw [← hZ]
      exact r
    have hT := pss_cons (ps_set (X := Z) (pos := pa) (pos' := py1) nd' i1 (.inl ht') (pe_tup (x1 := kt) (pos := pt) (pa_cons (pe_str (x := ("" : Str)) (j := kz) (pos := pz)) (pa_cons (pe_non (j := kn) (pos := pn1)) pa_nil rfl) rfl)) rfl (.inr ht'))
      (pss_cons (ps_try1 (X := Z) (np := pc) (pos := ptry) (pos' := ph) (more := more) hst hfr nd' i2 he' ⟨gP, n0, .inl mP'⟩ hbody fun a oe cls d pn hz hd => ref_suite (py := py2) (p1 := pe2) (p2 := pn2) (p3 := pf1) (p4 := pe3) (p5 := pcl) (p6 := pt2) (p7 := pas) (k2 := kt2) zN hN F' (by rw [zA]; omega) gf mf' kf' ht' he' n1 n2 n3 (hdep Z.A) hz hd)
        (pss_one (ps_ret (pos := prt) (pe_var (pos := pt3) i1 (.inl ht') n4 n5))))
    refine ⟨_, hT, ?_⟩
    refine ⟨by rw [sizeLine_eq]; simp, fun p0 hp0 => ?_⟩
    have h := h p0 hp0
    have h0 : (L2.start [ask, told, e] [V.ref f]) = [some (V.ref f), none, none] := rfl
    rw [h0]
    refine ⟨_, fun cls d σ' H' hE => ?_, rfl, ?_, h⟩
    · obtain ⟨b, C, dd, fs, cz, v, k1, k2, k3, k4, k5, k6, k7⟩ := hE
      refine ⟨by rw [hK]; exact b, fun hl a na => ?_⟩
      rw [zN] at hl
      have hl : σ'.length = 3 := hl
      match σ', hl with
      | [x0, x1, x2], _ =>
        refine ⟨C, dd, fs, cz, v, k1, k2, by rw [hK]; exact k3, rfl, k4, k5, k6, fun H2 kp p hpn => ?_⟩
        exact ⟨.ref p, rfl, k7 H2 kp p hpn⟩
    · rw [upd_ne (ne_of_none hc hp0)]; exact hc
  · cases hB
end
end Ev

/-! X9: the term for `the law's def tells how a lambda ends`. -/
namespace Ev
open PySem PySem.Spec PyProof.Rows L2 Calls
/-- the clauses by texts -/
def clS (T : Tb) (l : List (List Tx × Nat)) : List (List Str × Str) := l.map fun q => (q.1.map tS, T.sy q.2)
def RfdG (T : Tb) (p : Pg) (P : Program) (w : World) (K : PySem.W.Frag) (mg : Str → Option Value) (base : Heap) (x : Str) : Prop := ∃ (ask told e cP fx : Str) (g CP ff : Addr) (pg : Arguments) (bg : List Stmt) (sg : Scope) (dV kV doc pm cdv ct oc : Value) (an od : Option Addr) (osl : Array (Option Value)), mg x = some (.ref g) ∧ PySem.W.keepIn K (.ref g) = true ∧
    K.lookup g = some ⟨oc, od, .func (PySem.W.fnOf x x pg bg sg dV kV doc pm an cdv ct), osl⟩ ∧ PySem.W.codeIn K cdv x = true ∧ L2.Binds K (PySem.W.fnOf x x pg bg sg dV kV doc pm an cdv ct) [ask] [] ∧ FnScope [ask, told, e] [ask] sg ∧ Vis sg ask ∧
    sg.names.lookup fx = some .globalImplicit ∧ mg fx = some (.ref ff) ∧ PySem.W.keepIn K (.ref ff) = true ∧ sg.names.lookup told = some .local ∧ sg.names.lookup e = some .local ∧ sg.names.lookup cP = some .globalImplicit ∧ mg cP = some (.ref CP) ∧
    (cP == ("__debug__" : Str)) = false ∧ (fx == ("__debug__" : Str)) = false ∧ (e == ("__debug__" : Str)) = false ∧ (e == ("__classdict__" : Str)) = false ∧ (told == ("__debug__" : Str)) = false ∧ (told == ("__classdict__" : Str)) = false ∧ (ask == ("__debug__" : Str)) = false ∧ (ask == ("__classdict__" : Str)) = false ∧
    refB ask told e cP fx bg = true ∧ FnR P w K mg base ff (clS T p.rfd) ∧ ∀ C ∈ p.rok, PySem.W.exmOne K (.ref (T.ca C)) (.ref CP) = some true ∧ CauC K (T.ca C) (clS T p.rfd)
structure RfdF (T : Tb) (p : Pg) (X : Cx) (k : Nat) (x : Str) : Prop where
  room : Room (k + 3) X.A
  cd : ∃ c, X.env.code = .ref c ∧ LamX.TabB X.base X.mg c T.ta
  q : X.env.qual ++ "<lambda>" = T.tq
  code : T.sy p.sCode = "code"
  df : RfdG T p X.prog X.w X.K X.mg X.base x
section
variable {T : Tb} {X : Cx} {Wx : WX} {p : Pg} {cal : Bool → Nat → List W → List OO → RC} {k : Nat} {c : Cf} {st : St} {σ : L2.St} {H H1 : Hp}
/-- the tables grow -/
theorem RSt.ext (h : RSt T c st σ H) (e : LamX.ExtN H H1) (ht : LamX.TabS H1 T.ta T.tq) : RSt T c st σ H1 := by
  have kp : ∀ a o, H a = some o → noTb o = true → H1 a = some o := fun a o z n => e a o z fun ps q => by subst q; cases n
  have m : Mn c.lv c.nf H c.lv c.nf H1 := ⟨fun a o z n _ => kp a o z n, fun _ q => .inl q, fun _ _ e => e, fun a f z => kp a _ z rfl⟩
  have keR : ∀ {o : OO} {a : Addr}, RO T c.lv c.nf H o a → RO T c.lv c.nf H1 o a := fun {o a} r => by
    cases o with
    | tab => exact ⟨r.1, by rw [r.1]; exact ht⟩
    | lst ws =>
      obtain ⟨vs, h1, h2⟩ := r
      exact ⟨vs, kp _ _ h1 rfl, h2.mono m⟩
    | dct ks ws =>
      obtain ⟨vs, h1, h2, h3⟩ := r
      exact ⟨vs, kp _ _ h1 rfl, h2, h3.mono m⟩
    | ins C ns ws =>
      obtain ⟨dx, vs, h1, h2, h3⟩ := r
      exact ⟨dx, vs, kp _ _ h1 rfl, h2, h3.mono m⟩
  refine ⟨h.len, fun i w e => ?_, fun i o e => ?_, h.back, h.inj, h.dis, h.ou, fun a q => ?_, ⟨h.sto.len, h.sto.nd, fun n o a e1 e2 => keR (h.sto.at_ n o a e1 e2)⟩⟩
  · obtain ⟨v, e1, r⟩ := h.val i w e
    exact ⟨v, e1, r.mono m⟩
  · obtain ⟨a, e1, e2, r⟩ := h.own i o e
    exact ⟨a, e1, e2, (keR r.ro).n r.nt⟩
  · obtain ⟨o, e, n⟩ := h.ouh a q
    exact ⟨o, kp a o e n, n⟩
theorem Stp.extN (e : LamX.ExtN H H1) : Stp c H c H1 := by
  have kp : ∀ a o, H a = some o → noTb o = true → H1 a = some o := fun a o z n => e a o z fun ps q => by subst q; cases n
  exact ⟨fun a o z n _ => kp a o z n, fun _ h => .inl h, fun _ _ e => e, rfl, fun a o z n => ⟨o, kp a o z n, rfl⟩, fun _ _ e => .inl e⟩
theorem fget_ix {f : Nat} {w : W} : ∀ {ns : List Nat} {xs : List W}, fget f ns xs = some w → ∃ i : Nat, ns[i]? = some f ∧ xs[i]? = some w
  | [], _, h => by simp [fget] at h
  | _ :: _, [], h => by simp [fget] at h
  | g :: ns, y :: xs, h => by
    unfold fget at h
    split at h
    · rename_i e
      exact ⟨0, by simp [e], by simpa using h⟩
    · obtain ⟨i, h1, h2⟩ := fget_ix h
      exact ⟨i + 1, by simpa using h1, by simpa using h2⟩
theorem fldX_ok {fs : List (Str × V)} {ns : List Nat} {xs : List W} {cz : Tx} {w : W} (hf : ∀ (i n : Nat) w, ns[i]? = some n → xs[i]? = some w → ∃ v, fs.lookup (T.sy n) = some v ∧ RW T c.lv c.nf H w v) :
    ∀ {l : List (List Tx × Nat)}, fldX l cz ns xs = some w → ∃ v, fldOf (clS T l) (tS cz) fs = some v ∧ RW T c.lv c.nf H w v
  | [], h => by
    simp only [fldX, Option.some.injEq] at h
    subst h
    exact ⟨.non, rfl, by simp only [RW]⟩
  | (ts, f) :: r, h => by
    have hm : (tS cz ∈ ts.map tS) ↔ cz ∈ ts := by
      rw [List.mem_map]
      constructor
      · rintro ⟨y, hy, e⟩
        rw [← SX.S_inj e]; exact hy
      · exact fun z => ⟨cz, z, rfl⟩
    show ∃ v, (if tS cz ∈ ts.map tS then fs.lookup (T.sy f) else fldOf (clS T r) (tS cz) fs) = some v ∧ _
    unfold fldX at h
    by_cases z : cz ∈ ts
    · rw [if_pos z] at h
      rw [if_pos (hm.mpr z)]
      obtain ⟨i, h1, h2⟩ := fget_ix h
      exact hf i f w h1 h2
    · rw [if_neg z] at h
      rw [if_neg fun y => z (hm.mp y)]
      exact fldX_ok hf h
theorem se_rfd {x : Str} {g : Nat} {body : Expr} {params : Arguments} {scope : Scope} {p1 lpos pos : Pos} {b : E} (F : RfdF T p X k x) (hgl : Gl X x) (hdb : (x == ("__debug__" : Str)) = false) (L : LamX.LamS X.env.scope scope) (hdef : defaultsOf params X.env = ([], []))
    (hbind : ∀ (q : Str) (cl : List (Str × Addr)) (pm cv ctv : Value), bindArgs (PySem.W.kla_fn "<lambda>" q params body scope cl pm cv ctv) ⟨[], []⟩ = pure [])
    (hbody : ∀ (A : Around) (outer : List Env) (s : Shared) (H : Hp) (E : XK) (f c' : Addr), Room (k + 1) (A.deeper (LamX.lamEnv X scope s.heap.objs.size f c')) → SE T (LamX.lamCx X A outer s H E scope f c') (fun cls d _ H => E cls d H) body (evE p cal b)) :
    SE T X Wx (.Call (.Name x p1) [.Lambda params body scope lpos] [] pos) (evE p cal (.rfd g b)) := by
  obtain ⟨ask, told, e, cP, fx, ga, CP, ff, pg, bg, sg, dV, kV, doc, pm, cdv, ct, oc, an, od, osl, f1, f2, f3, f4, f5, f6, f7, f8, f9, f10, f11, f12, f13, f14, n0, n1, n2, n3, n4, n5, n6, n7, hB, hF, hR⟩ := F.df
  obtain ⟨cc, hcc, TB⟩ := F.cd
  have hA : X.A.depth + 1 < recursionLimit := by have := F.room.dp; omega
  have hG := LamX.pe_lamcall (X := X) (T := [(T.ta, T.tq)]) (TT := TRef X.K CP (clS T p.rfd)) (t := fun E => rdE T (fun cls d _ H => E cls d H) (evE p cal b)) (p := p1) (lpos := lpos) (pos := pos) hgl f1 f2 f3 f4 f5 f6 rfl f7
    (ref_gives f6.nd hF hA (fun _ _ => rfl) f8 f9 f10 f11 f12 f13 f14 n0 n1 n2 n3 n4 n5 hB) TB hcc (by rw [F.q]; exact List.mem_singleton.mpr rfl) (fun z hz _ => by rw [List.mem_singleton.mp hz, F.q]) F.room L hdef hbind hbody hdb n6 n7
  refine PE.imp hG fun σ H Q ⟨c, st, h, q⟩ => ?_
  rw [evE] at q
  cases e0 : st.s[0]? with
  | none => rw [e0] at q; exact (show False from q).elim
  | some o =>
  cases o with
  | lst _ => rw [e0] at q; exact (show False from q).elim
  | dct _ _ => rw [e0] at q; exact (show False from q).elim
  | ins _ _ _ => rw [e0] at q; exact (show False from q).elim
  | tab =>
  rw [e0] at q
  simp only at q
  have hl : 0 < c.lv.length := by
    rw [← h.sto.len]
    exact (List.getElem?_eq_some_iff.mp e0).1
  obtain ⟨ea, ht⟩ := h.sto.at_ 0 _ _ e0 (List.getElem?_eq_getElem hl)
  rw [ea] at ht
  refine ⟨fun z hz => by rw [List.mem_singleton.mp hz]; exact ht, fun H1 x1 T1 p0 hp0 => ?_⟩
  have ht1 : LamX.TabS H1 T.ta T.tq := T1 _ (List.mem_singleton.mpr rfl)
  have S1 : Stp c H c (upd H1 p0 (.tup [V.str ("" : Str), .non])) := (Stp.extN x1).trans (Stp.grow hp0)
  have h1 : RSt T c st σ (upd H1 p0 (.tup [V.str ("" : Str), .non])) := (h.ext x1 ht1).grow hp0
  refine ⟨c, st, h1, ?_⟩
  cases eb : evE p cal b st with
  | stk => rw [eb] at q; exact (show False from q).elim
  | ok w st' =>
    rw [eb] at q
    intro v H2 c2 S2 h2 r2
    refine ⟨_, rfl, q (.ref p0) H2 c2 (S1.trans S2) h2 ?_⟩
    have m := S2.mn
    have g0 : upd H1 p0 (.tup [V.str ("" : Str), .non]) p0 = some (.tup [V.str ("" : Str), .non]) := upd_same
    have nf0 : ¬ c.nf p0 := (h.ext x1 ht1).new hp0
    show RW T c2.lv c2.nf H2 (.tup [.str [], .non]) (.ref p0)
    simp only [RW]
    exact ⟨p0, _, rfl, m.fr _ _ g0 rfl nf0, m.nn g0 rfl nf0, RWs.cons (by simp only [RW]; exact ⟨rfl, rfl⟩) (RWs.cons (by simp only [RW]) RWs.nil)⟩
  | exc xx st' =>
    rw [eb] at q
    intro cls d H2 c2 S2 h2 rx
    unfold refR at q
    simp only at q
    split at q
    · exact (show False from q).elim
    rename_i hrok
    have hrok : xx.C ∈ p.rok := by simpa using hrok
    split at q
    · rename_i cz hcz
      split at q
      · rename_i w hw
        obtain ⟨r1, dx, fs, r2, r3, r4, r5⟩ := rx
        obtain ⟨i, g1, g2⟩ := fget_ix hcz
        obtain ⟨v1, k1, k2⟩ := r5 i _ _ g1 g2
        obtain ⟨k2, k3⟩ : v1 = .str (tS cz) ∧ tOk cz = true := k2
        subst k2
        rw [F.code] at k1
        obtain ⟨v, k4, k5⟩ := fldX_ok r5 hw
        obtain ⟨y1, y2⟩ := hR _ hrok
        refine ⟨by rw [r1]; exact y1, T.ca xx.C, dx, fs, tS cz, v, r1, r2, y2, r3, k1, k4, fun H3 kp p1 hp1 => ?_⟩
        have S3 : Stp c2 H2 c2 (upd H3 p1 (.tup [V.str (tS cz), v])) := (Stp.extN (LamX.ExtN.of kp)).trans (Stp.grow hp1)
        refine q (.ref p1) _ c2 ((S1.trans S2).trans S3) ((h2.keep kp).grow hp1) ?_
        have nf1 : ¬ c2.nf p1 := (h2.keep kp).new hp1
        show RW T c2.lv c2.nf _ (.tup [.str cz, w]) (.ref p1)
        simp only [RW]
        exact ⟨p1, _, rfl, upd_same, nf1, RWs.cons (show V.str (tS cz) = V.str (tS cz) ∧ tOk cz = true from ⟨rfl, k3⟩) (RWs.cons (k5.mono S3.mn) RWs.nil)⟩
      · exact (show False from q).elim
    · exact (show False from q).elim
end
end Ev

/-! S25: a check that ties terms to the row's syntax. -/
namespace Ev
open PySem PySem.Spec PyProof.Rows L2 Calls ClX RZ
/-- what is known of the module's names -/
structure Inf where
  fnN : List (Str × Nat)
  clN : List (Str × Nat)
  cons : List (Str × W)
  free : List Str
  sites : List (Nat × Nat × List Str × List W)
  makes : List (Nat × Nat × List Str × List W)
  sy : List Str
  /-- the exceptions that are raised; the law's def that tells how a lambda ends -/
  rais : List Nat := []
  rf : Option Str := none
def Inf.sub (i : Inf) : Inf := { i with rf := none }
def Inf.at (i : Inf) (q : Str) : Inf := if q = ("law" : Str) then i else i.sub
def beqC : W → W → Bool
  | .non, .non => true
  | .bl a, .bl b => a == b
  | .int i, .int j => decide (i = j)
  | .str x, .str y => decide (x = y)
  | _, _ => false
theorem beqC_eq {a b : W} (h : beqC a b = true) : a = b := by
  cases a <;> cases b <;> simp [beqC] at h <;> simp [h]
def beqCs : List W → List W → Bool
  | [], [] => true
  | a :: as, b :: bs => beqC a b && beqCs as bs
  | _, _ => false
theorem beqCs_eq : ∀ {a b : List W}, beqCs a b = true → a = b
  | [], [], _ => rfl
  | [], _ :: _, h => by simp [beqCs] at h
  | _ :: _, [], h => by simp [beqCs] at h
  | a :: as, b :: bs, h => by
    simp only [beqCs, Bool.and_eq_true] at h
    rw [beqC_eq h.1, beqCs_eq h.2]
def csts : List E → Option (List W)
  | [] => some []
  | x :: r => match x with
    | .cst w => (csts r).map (w :: ·)
    | _ => none
theorem csts_eq : ∀ {zs : List E} {ds : List W}, csts zs = some ds → zs = ds.map .cst
  | [], ds, h => by
    simp [csts] at h
    subst h; rfl
  | x :: r, ds, h => by
    unfold csts at h
    split at h
    · obtain ⟨ds', e1, e2⟩ := Option.map_eq_some_iff.mp h
      subst e2
      rw [csts_eq e1]; rfl
    · cases h
def siteB (l : List (Nat × Nat × List Str × List W)) (f n : Nat) (ks : List Str) (ds : List W) : Bool := l.any fun q => decide (q.1 = f) && decide (q.2.1 = n) && decide (q.2.2.1 = ks) && beqCs q.2.2.2 ds
theorem siteB_ok {l : List (Nat × Nat × List Str × List W)} {f n : Nat} {ks : List Str} {ds : List W} (h : siteB l f n ks ds = true) : (f, n, ks, ds) ∈ l := by
  unfold siteB at h
  obtain ⟨q, hq, h⟩ := List.any_eq_true.mp h
  simp only [Bool.and_eq_true, decide_eq_true_eq] at h
  obtain ⟨⟨⟨h1, h2⟩, h3⟩, h4⟩ := h
  have h5 := beqCs_eq h4
  obtain ⟨q1, q2, q3, q4⟩ := q
  simp only at h1 h2 h3 h5
  subst h1 h2 h3 h5
  exact hq
structure IF (T : Tb) (p : Pg) (X : Cx) (k : Nat) (cal : Bool → Nat → List W → List OO → RC) (inf : Inf) : Prop where
  fn : ∀ x f, inf.fnN.lookup x = some f → X.mg x = some (.ref (T.fa f)) ∧ PySem.W.keepIn X.K (.ref (T.fa f)) = true
  cl : ∀ x C, inf.clN.lookup x = some C → X.mg x = some (.ref (T.ca C))
  co : ∀ x w, inf.cons.lookup x = some w → ∃ v u, vC w = some v ∧ X.mg x = some u ∧ RelV v u
  fr : ∀ x, x ∈ inf.free → X.mg x = none
  si : ∀ q, q ∈ inf.sites → SiteF T X k cal q.1 q.2.1 q.2.2.1 q.2.2.2
  ma : ∀ q, q ∈ inf.makes → MakeF T X k cal q.1 q.2.1 q.2.2.1 q.2.2.2
  sy : ∀ m x, inf.sy[m]? = some x → T.sy m = x
  kpm : ∀ C c m f, clsG p C = some c → c.meths.lookup m = some f → PySem.W.keepIn X.K (.ref (T.fa f)) = true
  kon : ∀ C f w, ((p.cls[C]?).bind fun c => c.consts.lookup f) = some w → ∃ mc v u, vC w = some v ∧ CRead X.K (T.ca C) mc ∧ CVal X.K (T.ca C) mc (T.sy f) v u
  ex : ∀ C, C ∈ inf.rais → ∃ c pl ns code, p.cls[C]? = some c ∧ c.exn = some (pl, ns, code) ∧ ExnF T X C pl.length ns code
theorem IF.sub {T : Tb} {p : Pg} {X : Cx} {k : Nat} {cal : Bool → Nat → List W → List OO → RC} {inf : Inf} (F : IF T p X k cal inf) : IF T p X k cal inf.sub := ⟨F.fn, F.cl, F.co, F.fr, F.si, F.ma, F.sy, F.kpm, F.kon, F.ex⟩
theorem IF.at {T : Tb} {p : Pg} {X : Cx} {k : Nat} {cal : Bool → Nat → List W → List OO → RC} {inf : Inf} (F : IF T p X k cal inf) (q : Str) : IF T p X k cal (inf.at q) := by
  unfold Inf.at
  split
  · exact F
  · exact F.sub
/-- a frame: its names by slot, their kinds -/
structure Frm (T : Tb) (p : Pg) (X : Cx) (Wx : WX) (k : Nat) (cal : Bool → Nat → List W → List OO → RC) (inf : Inf) (top : Bool) (N : List Str) (nm : List (Str × NameKind)) : Prop where
  O : XO T p X Wx k cal
  F : IF T p X k cal inf
  hN : X.N = N
  kind : X.env.scope.kind = .function
  nm : X.env.scope.names = nm
  top : top = true → (∀ x, X.fn x = true) ∧ PassesOwn (model X.prog X.w) X.A X.env X.xe
  rf : ∀ x, inf.rf = some x → RfdF T p X k x
def noIf : Expr → Bool
  | .IfExp .. => false
  | _ => true
/-- a new list or dict -/
def frs : E → Bool
  | .lst _ => true
  | .cpr .. => true
  | .dcp .. => true
  | .slc .. => true
  | .bin .. => true
  | .bif .list _ => true
  | .bif .sorted _ => true
  | _ => false
structure Chk (T : Tb) (p : Pg) (X : Cx) (Wx : WX) (cal : Bool → Nat → List W → List OO → RC) (e : Expr) (x : E) : Prop where
  se : SE T X Wx e (evE p cal x)
  st : noIf e = true → ST T X Wx e (tst p cal x)
  sf : frs x = true → SF T X Wx e (evE p cal x)
/-! ### names -/
def glB (nm : List (Str × NameKind)) (x : Str) : Bool := decide (nm.lookup x = some .globalImplicit) && !(x == ("__debug__" : Str))
def visB (N : List Str) (nm : List (Str × NameKind)) (i : Nat) (x : Str) : Bool := decide (N[i]? = some x) && (match nm.lookup x with
  | some .local => true
  | some .cell => true
  | some .free => true
  | _ => false) && !(x == ("__debug__" : Str)) && !(x == ("__classdict__" : Str))
def locB (top : Bool) (N : List Str) (nm : List (Str × NameKind)) (i : Nat) (x : Str) : Bool := decide (N[i]? = some x) && (match nm.lookup x with
  | some .local => true
  | some .cell => top
  | _ => false)
section
variable {T : Tb} {p : Pg} {X : Cx} {Wx : WX} {k : Nat} {cal : Bool → Nat → List W → List OO → RC} {inf : Inf} {top : Bool} {N : List Str} {nm : List (Str × NameKind)}
theorem gl_ok (R : Frm T p X Wx k cal inf top N nm) {x : Str} (h : glB nm x = true) : Gl X x ∧ (x == ("__debug__" : Str)) = false := by
  unfold glB at h
  simp only [Bool.and_eq_true, decide_eq_true_eq, Bool.not_eq_true'] at h
  refine ⟨?_, h.2⟩
  show X.env.scope.names.lookup x = _
  rw [R.nm]; exact h.1
theorem vis_ok (R : Frm T p X Wx k cal inf top N nm) {i : Nat} {x : Str} (h : visB N nm i x = true) : X.N[i]? = some x ∧ Vis X.env.scope x ∧ (x == ("__debug__" : Str)) = false ∧ (x == ("__classdict__" : Str)) = false := by
  unfold visB at h
  simp only [Bool.and_eq_true, decide_eq_true_eq, Bool.not_eq_true'] at h
  obtain ⟨⟨⟨h1, h2⟩, h3⟩, h4⟩ := h
  refine ⟨by rw [R.hN]; exact h1, ?_, h3, h4⟩
  unfold Vis
  rw [R.nm]
  split at h2
  · exact .inl (by assumption)
  · exact .inr (.inl (by assumption))
  · exact .inr (.inr (by assumption))
  · cases h2
theorem loc_ok (R : Frm T p X Wx k cal inf top N nm) {i : Nat} {x : Str} (h : locB top N nm i x = true) : X.N[i]? = some x ∧ Loc X.env.scope x ∧ (X.fn x = true ∨ X.env.scope.names.lookup x = some .local) := by
  unfold locB at h
  simp only [Bool.and_eq_true, decide_eq_true_eq] at h
  obtain ⟨h1, h2⟩ := h
  refine ⟨by rw [R.hN]; exact h1, ?_⟩
  unfold L2.Loc
  rw [R.nm]
  split at h2
  · exact ⟨.inl (by assumption), .inr (by assumption)⟩
  · exact ⟨.inr (by assumption), .inl ((R.top h2).1 x)⟩
  · cases h2
end
/-! ### lists of expressions -/
def chkL (f : Expr → E → Bool) : List Expr → List E → Bool
  | [], [] => true
  | e :: es, x :: xs => notStar e && f e x && chkL f es xs
  | _, _ => false
def chkK (f : Expr → E → Bool) : List Keyword → List E → Bool
  | [], [] => true
  | q :: qs, x :: xs => q.arg.isSome && f q.value x && chkK f qs xs
  | _, _ => false
def chkB (f : Expr → E → Bool) (an : Bool) : List Expr → E → Bool
  | [], _ => false
  | [e], x => f e x && noIf e
  | e :: e2 :: es, x => match x with
    | .bnd a b => an && f e a && noIf e && chkB f an (e2 :: es) b
    | .bor a b => !an && f e a && noIf e && chkB f an (e2 :: es) b
    | _ => false
def chkO (f : Expr → E → Bool) : Option Expr → Option E → Bool
  | none, none => true
  | some e, some x => f e x
  | _, _ => false
def chkJ (f : Expr → E → Bool) : List Expr → List E → Bool
  | [], [] => true
  | e :: es, x :: xs => (match e with
    | .Constant (.str z) _ _ => (match x with
      | .cst (.str y) => decide (z = tS y) && tOk y
      | _ => false)
    | .FormattedValue a c none _ => decide (c = -1) && f a x
    | _ => false) && chkJ f es xs
  | _, _ => false
section
variable {T : Tb} {p : Pg} {X : Cx} {Wx : WX} {k : Nat} {cal : Bool → Nat → List W → List OO → RC} {f : Expr → E → Bool}
theorem chkL_ok (hf : ∀ e x, f e x = true → Chk T p X Wx cal e x) : ∀ {es : List Expr} {xs : List E}, chkL f es xs = true → SA T X Wx es (evEs p cal xs) ∧ es.all notStar = true ∧ xs.length = es.length
  | [], [], _ => ⟨sa_nil, rfl, rfl⟩
  | [], _ :: _, h => by simp [chkL] at h
  | _ :: _, [], h => by simp [chkL] at h
  | e :: es, x :: xs, h => by
    simp only [chkL, Bool.and_eq_true] at h
    obtain ⟨⟨h1, h2⟩, h3⟩ := h
    obtain ⟨g1, g2, g3⟩ := chkL_ok hf h3
    exact ⟨sa_cons (hf _ _ h2).se g1 (star_ok h1), by simp [h1, g2], by simp [g3]⟩
theorem chkK_ok (hf : ∀ e x, f e x = true → Chk T p X Wx cal e x) : ∀ {es : List Keyword} {xs : List E}, chkK f es xs = true → SK T X Wx es (evEs p cal xs) ∧ (es.all fun q => q.arg.isSome) = true ∧ xs.length = es.length ∧ (es.filterMap (·.arg)).length = es.length
  | [], [], _ => ⟨sk_nil, rfl, rfl, rfl⟩
  | [], _ :: _, h => by simp [chkK] at h
  | _ :: _, [], h => by simp [chkK] at h
  | ⟨nm, a, kp⟩ :: es, x :: xs, h => by
    simp only [chkK, Bool.and_eq_true] at h
    obtain ⟨⟨h1, h2⟩, h3⟩ := h
    obtain ⟨g1, g2, g3, g4⟩ := chkK_ok hf h3
    refine ⟨sk_cons (hf _ _ h2).se g1, by simp [h1, g2], by simp [g3], ?_⟩
    cases nm with
    | none => simp at h1
    | some z => simp [g4]
theorem chkB_ok (hf : ∀ e x, f e x = true → Chk T p X Wx cal e x) {an : Bool} {pos : Pos} : ∀ {es : List Expr} {x : E}, chkB f an es x = true →
    SE T X Wx (.BoolOp (if an then .And else .Or) es pos) (evE p cal x) ∧ SW T X Wx (.BoolOp (if an then .And else .Or) es pos) (tst p cal x)
  | [], _, h => by simp [chkB] at h
  | [e], x, h => by
    simp only [chkB, Bool.and_eq_true] at h
    refine ⟨pe_one (hf _ _ h.1).se, ?_⟩
    cases an with
    | true => exact pw_and1 ((hf _ _ h.1).st h.2)
    | false => exact pw_or1 ((hf _ _ h.1).st h.2)
  | e :: e2 :: es, x, h => by
    unfold chkB at h
    split at h
    · simp only [Bool.and_eq_true] at h
      obtain ⟨⟨⟨h1, h2⟩, h3⟩, h4⟩ := h
      subst h1
      obtain ⟨g1, g2⟩ := chkB_ok hf (an := true) (pos := pos) h4
      exact ⟨se_and (hf _ _ h2).se g1, sw_and ((hf _ _ h2).st h3) g2⟩
    · simp only [Bool.and_eq_true, Bool.not_eq_true'] at h
      obtain ⟨⟨⟨h1, h2⟩, h3⟩, h4⟩ := h
      subst h1
      obtain ⟨g1, g2⟩ := chkB_ok hf (an := false) (pos := pos) h4
      exact ⟨se_or (hf _ _ h2).se g1, sw_or ((hf _ _ h2).st h3) g2⟩
    · cases h
theorem chkO_ok (hf : ∀ e x, f e x = true → Chk T p X Wx cal e x) : ∀ {e : Option Expr} {x : Option E}, chkO f e x = true → SO T X Wx e (evO p cal x)
  | none, none, _ => so_none
  | some e, some x, h => so_some (hf _ _ h).se
  | none, some _, h => by simp [chkO] at h
  | some _, none, h => by simp [chkO] at h
theorem chkJ_ok (hf : ∀ e x, f e x = true → Chk T p X Wx cal e x) : ∀ {es : List Expr} {xs : List E}, chkJ f es xs = true → SJ T X Wx p cal es xs
  | [], [], _ => sj_nil
  | [], _ :: _, h => by simp [chkJ] at h
  | _ :: _, [], h => by simp [chkJ] at h
  | e :: es, x :: xs, h => by
    simp only [chkJ, Bool.and_eq_true] at h
    obtain ⟨h1, h2⟩ := h
    have ih := chkJ_ok hf h2
    split at h1
    · split at h1
      · simp only [Bool.and_eq_true, decide_eq_true_eq] at h1
        exact sj_cst h1.1 h1.2 ih
      · cases h1
    · simp only [Bool.and_eq_true, decide_eq_true_eq] at h1
      obtain ⟨h3, h4⟩ := h1
      subst h3
      exact sj_fmt (hf _ _ h4).se ih
    · cases h1
end
/-! ### targets, walks -/
def isTupE : Expr → Bool
  | .Tuple .. => true
  | _ => false
mutual
def chkTg (top : Bool) (N : List Str) (nm : List (Str × NameKind)) : Tg → Expr → Bool
  | .nam i, e => match e with
    | .Name x _ => locB top N nm i x
    | _ => false
  | .tup ts, e => match e with
    | .Tuple es _ _ => chkTgs top N nm ts es
    | _ => false
def chkTgs (top : Bool) (N : List Str) (nm : List (Str × NameKind)) : List Tg → List Expr → Bool
  | [], es => es.isEmpty
  | t :: ts, es => match es with
    | e :: es => notStar e && chkTg top N nm t e && chkTgs top N nm ts es
    | [] => false
end
section
variable {T : Tb} {p : Pg} {X : Cx} {Wx : WX} {k : Nat} {cal : Bool → Nat → List W → List OO → RC} {inf : Inf} {top : Bool} {N : List Str} {nm : List (Str × NameKind)}
theorem assign_one {e : Expr} {es : List Expr} {env : Env} (h : notStar e = true) : assignEach (e :: es) env = (false, assign e env) :: assignEach es env := by
  cases e <;> first | rfl | cases h
mutual
theorem chkTg_ok (R : Frm T p X Wx k cal inf top N nm) : ∀ (t : Tg) (e : Expr), chkTg top N nm t e = true → SG T X e t
  | .nam i, e, h => by
    unfold chkTg at h
    split at h
    · obtain ⟨h1, h2, h3⟩ := loc_ok R h
      exact sg_nam R.O.nd h1 h2 h3
    · cases h
  | .tup ts, e, h => by
    unfold chkTg at h
    split at h
    · obtain ⟨h1, h2, h3⟩ := chkTgs_ok R ts _ h
      exact sg_tup R.O.calm h1 h2 h3
    · cases h
theorem chkTgs_ok (R : Frm T p X Wx k cal inf top N nm) : ∀ (ts : List Tg) (es : List Expr), chkTgs top N nm ts es = true → SGs T X es ts ∧ (assignEach es X.env).length = ts.length ∧ (assignEach es X.env).findIdx? (·.1) = none
  | [], es, h => by
    simp only [chkTgs, List.isEmpty_iff] at h
    subst h
    exact ⟨sgs_nil, rfl, rfl⟩
  | t :: ts, es, h => by
    unfold chkTgs at h
    split at h
    · simp only [Bool.and_eq_true] at h
      obtain ⟨⟨h1, h2⟩, h3⟩ := h
      have g1 := chkTg_ok R t _ h2
      obtain ⟨g2, g3, g4⟩ := chkTgs_ok R ts _ h3
      refine ⟨sgs_cons g1 g2 (by rw [assign_one h1]; rfl), by rw [assign_one h1]; simp [g3], ?_⟩
      rw [assign_one h1, List.findIdx?_cons]
      simp [g4]
    · cases h
end
end
def freeB (inf : Inf) (x : Str) : Bool := inf.free.any fun y => decide (y = x)
theorem freeB_ok {inf : Inf} {x : Str} (h : freeB inf x = true) : x ∈ inf.free := by
  unfold freeB at h
  obtain ⟨y, hy, e⟩ := List.any_eq_true.mp h
  rw [← of_decide_eq_true e]; exact hy
def chkI (inf : Inf) (f : Expr → E → Bool) (nm : List (Str × NameKind)) (tg : Expr) (e : Expr) : I → Bool
  | .val x => f e x
  | .rng xs => (match e with
    | .Call (.Name y _) args [] _ => decide (y = "range") && glB nm y && freeB inf y && chkL f args xs && (decide (xs.length = 1) || decide (xs.length = 2))
    | _ => false)
  | .enu x none => isTupE tg && (match e with
    | .Call (.Name y _) [a] [] _ => decide (y = "enumerate") && glB nm y && freeB inf y && notStar a && f a x
    | _ => false)
  | .enu _ (some _) => false
  | .zip x y => isTupE tg && (match e with
    | .Call (.Name z _) [a, b] [] _ => decide (z = "zip") && glB nm z && freeB inf z && notStar a && notStar b && f a x && f b y
    | _ => false)
  | .itm _ => false
section
variable {T : Tb} {p : Pg} {X : Cx} {Wx : WX} {k : Nat} {cal : Bool → Nat → List W → List OO → RC} {inf : Inf} {top : Bool} {N : List Str} {nm : List (Str × NameKind)} {f : Expr → E → Bool}
theorem chkI_ok (R : Frm T p X Wx k cal inf top N nm) (hf : ∀ e x, f e x = true → Chk T p X Wx cal e x) {tg e : Expr} {it : I} (h : chkI inf f nm tg e it = true) : SI T X Wx tg e (evI p cal it) := by
  cases it with
  | val x => exact si_val (hf _ _ h).se
  | rng xs =>
    simp only [chkI] at h
    split at h
    · rename_i y _ args _
      simp only [Bool.and_eq_true, decide_eq_true_eq, Bool.or_eq_true] at h
      obtain ⟨⟨⟨⟨h1, h2⟩, h3⟩, h4⟩, h5⟩ := h
      subst h1
      obtain ⟨g1, _⟩ := gl_ok R h2
      have g2 := R.F.fr _ (freeB_ok h3)
      match args, xs, h4, h5 with
      | [a], [x], h4, _ =>
        simp only [chkL, Bool.and_eq_true] at h4
        exact si_rng1 g1 g2 h4.1.1 (hf _ _ h4.1.2).se
      | [a, b], [x, y], h4, _ =>
        simp only [chkL, Bool.and_eq_true] at h4
        exact si_rng2 g1 g2 h4.1.1 h4.2.1.1 (hf _ _ h4.1.2).se (hf _ _ h4.2.1.2).se
      | [], [x], h4, _ => simp [chkL] at h4
      | [], [x, y], h4, _ => simp [chkL] at h4
      | [a], [x, y], h4, _ => simp [chkL] at h4
      | _ :: _ :: _, [x], h4, _ => simp [chkL] at h4
      | _ :: _ :: _ :: _, [x, y], h4, _ => simp [chkL] at h4
      | _, [], _, h5 => simp at h5
      | _, _ :: _ :: _ :: _, _, h5 => simp at h5
    · cases h
  | enu x o =>
    cases o with
    | some _ => simp [chkI] at h
    | none =>
      simp only [chkI, Bool.and_eq_true] at h
      obtain ⟨h0, h⟩ := h
      cases tg <;> first | (cases h0; done) | skip
      split at h
      · simp only [Bool.and_eq_true, decide_eq_true_eq] at h
        obtain ⟨⟨⟨⟨h1, h2⟩, h3⟩, h4⟩, h5⟩ := h
        subst h1
        exact si_enu (gl_ok R h2).1 (R.F.fr _ (freeB_ok h3)) h4 (hf _ _ h5).se
      · cases h
  | zip x y =>
    simp only [chkI, Bool.and_eq_true] at h
    obtain ⟨h0, h⟩ := h
    cases tg <;> first | (cases h0; done) | skip
    split at h
    · simp only [Bool.and_eq_true, decide_eq_true_eq] at h
      obtain ⟨⟨⟨⟨⟨⟨h1, h2⟩, h3⟩, h4⟩, h5⟩, h6⟩, h7⟩ := h
      subst h1
      exact si_zip (gl_ok R h2).1 (R.F.fr _ (freeB_ok h3)) h4 h5 (hf _ _ h6).se (hf _ _ h7).se
    · cases h
  | itm _ => simp [chkI] at h
end
end Ev

/-! S26: the check of expressions. -/
namespace Ev
open PySem PySem.Spec PyProof.Rows L2 Calls ClX RZ
def cstB : Const → W → Bool
  | .none, w => (match w with | .non => true | _ => false)
  | .bool b, w => (match w with | .bl c => b == c | _ => false)
  | .int i, w => (match w with | .int j => decide (i = j) | _ => false)
  | .str z, w => (match w with | .str y => decide (z = tS y) && tOk y | _ => false)
  | _, _ => false
/-- a built-in type's or an own class's name -/
def kdB (inf : Inf) (nm : List (Str × NameKind)) (q : Kd) (e : Expr) : Bool := match e with
  | .Name x _ => glB nm x && (match q with
    | .cls C => decide (inf.clN.lookup x = some C)
    | .none => false
    | .bool => freeB inf x && decide (x = "bool")
    | .int => freeB inf x && decide (x = "int")
    | .str => freeB inf x && decide (x = "str")
    | .list => freeB inf x && decide (x = "list")
    | .tuple => freeB inf x && decide (x = "tuple"))
  | _ => false
def notSetE : Expr → Bool
  | .Set .. => false
  | _ => true
/-- the kinds of names in a comprehension's block -/
def blkNm (nm names : List (Str × NameKind)) : List (Str × NameKind) := names.map fun (n, k) => if (k == NameKind.free && nm.lookup n == some NameKind.cell) then (n, NameKind.cell) else (n, k)
def ownL (N : List Str) (t : Tg) : List (Str × Nat) := (tgIx t).map fun i => (N.getD i Str.empty, i)
def argsB (inf : Inf) (f : Expr → E → Bool) (l : List (Nat × Nat × List Str × List W)) (g : Nat) (args : List Expr) (kws : List Keyword) (es : List E) : Bool :=
  (match csts (es.drop (args.length + kws.length)) with
    | some ds => siteB l g args.length (kws.filterMap (·.arg)) ds
    | none => false) && chkL f args (es.take args.length) && chkK f kws ((es.drop args.length).take kws.length)
def compB (N : List Str) (nm : List (Str × NameKind)) (scope : Scope) (t : Tg) : Bool := blkC N ⟨.function, nm, false, false, []⟩ scope (ownL N t)
def compP (inf : Inf) (f : Expr → E → Bool) (N : List Str) (nm : List (Str × NameKind)) (scope : Scope) (tg iter : Expr) (t : Tg) (it : I) : Bool :=
  notSetE iter && chkI inf f nm tg iter it && compB N nm scope t && chkTg false N (blkNm nm scope.names) t tg
def ifsB (g : Expr → E → Bool) : List Expr → Option E → Bool
  | [], none => true
  | [e], some x => g e x && noIf e
  | _, _ => false
def noPar : Arguments → Bool
  | ⟨[], [], none, [], [], none, []⟩ => true
  | _ => false
def chkE1 (inf : Inf) (f : Expr → E → Bool) (g : List (Str × NameKind) → Expr → E → Bool) (N : List Str) (nm : List (Str × NameKind)) (e : Expr) : E → Bool
  | .nvr => true
  | .var i => (match e with | .Name y _ => visB N nm i y | _ => false)
  | .frz i => (match e with | .Name y _ => visB N nm i y | _ => false)
  | .cst w => (match e with | .Constant c _ _ => cstB c w | _ => false)
  | .glo _ w => (match e with | .Name y _ => glB nm y && (match inf.cons.lookup y with | some w' => beqC w w' | none => false) | _ => false)
  | .bin op a b => (match e with | .BinOp ea o eb _ => decide (o = opOf op) && f ea a && f eb b | _ => false)
  | .neg a => (match e with | .UnaryOp .USub ea _ => f ea a | _ => false)
  | .bnt a => (match e with | .UnaryOp .Not ea _ => f ea a && noIf ea | _ => false)
  | .cmp op a b => (match e with | .Compare ea [o] [eb] _ => decide (o = cpOf op) && notSet eb && f ea a && f eb b | _ => false)
  | .chn o1 o2 a b c => (match e with | .Compare ea [p1, p2] [eb, ec] _ => decide (p1 = cpOf o1) && decide (p2 = cpOf o2) && notSet ec && f ea a && f eb b && f ec c | _ => false)
  | .bnd a b => (match e with | .BoolOp .And es _ => chkB f true es (.bnd a b) | _ => false)
  | .bor a b => (match e with | .BoolOp .Or es _ => chkB f false es (.bor a b) | _ => false)
  | .ite c a b => (match e with | .IfExp ec ea eb _ => f ec c && noIf ec && f ea a && f eb b | _ => false)
  | .tup es => (match e with | .Tuple xs _ _ => chkL f xs es | _ => false)
  | .lst es => (match e with | .List xs _ => chkL f xs es | _ => false)
  | .sub a i => (match e with | .Subscript ea ei _ => notSlice ei && f ea a && f ei i | _ => false)
  | .slc a lo hi => (match e with | .Subscript ea (.Slice l h none _) _ => f ea a && chkO f l lo && chkO f h hi | _ => false)
  | .att a m => (match e with | .Attribute ea y _ => decide (inf.sy[m]? = some y) && noSup ea && f ea a | _ => false)
  | .kon C m => (match e with | .Attribute (.Name y _) z _ => decide (inf.sy[m]? = some z) && glB nm y && decide (inf.clN.lookup y = some C) | _ => false)
  | .cal q es => (match e with | .Call (.Name y _) args kws _ => glB nm y && decide (inf.fnN.lookup y = some q) && argsB inf f inf.sites q args kws es | _ => false)
  | .new C es => (match e with | .Call (.Name y _) args kws _ => glB nm y && decide (inf.clN.lookup y = some C) && argsB inf f inf.makes C args kws es | _ => false)
  | .mth a m es => (match e with | .Call (.Attribute ea y apos) args [] pos => decide (inf.sy[m]? = some y) && noSup ea && decide (args.length < 29) && (apos.endLine == pos.line) && f ea a && chkL f args es | _ => false)
  | .bif b es => (match e with | .Call (.Name y _) (a :: args) [] _ => decide (y = bfNm b) && glB nm y && freeB inf y && chkL f (a :: args) es | _ => false)
  | .isi a qs => (match qs with
    | [q] => (match e with | .Call (.Name y _) [ea, ce] [] _ => decide (y = "isinstance") && glB nm y && freeB inf y && notStar ea && notStar ce && kdB inf nm q ce && f ea a | _ => false)
    | _ => false)
  | .bmt b a es => (match e with | .Call (.Attribute ea y apos) args [] pos => decide (y = bmNm b) && (decide (b = .count) || decide (b = .index) || decide (b = .get)) && noSup ea && decide (args.length < 29) && (apos.endLine == pos.line) && f ea a && chkL f args es | _ => false)
  | .cmt b a es => (match e with | .Call (.Attribute ea y apos) args [] pos => decide (y = cmNm b) && decide (b ≠ .setdefault) && noSup ea && decide (args.length < 29) && (apos.endLine == pos.line) && f ea a && chkL f args es | _ => false)
  | .cpr x t it co => (match e with | .ListComp elt [⟨tg, iter, ifs, asy⟩] scope _ => decide (asy = 0) && compP inf f N nm scope tg iter t it && ifsB (g (blkNm nm scope.names)) ifs co && g (blkNm nm scope.names) elt x | _ => false)
  | .dcp k v t it => (match e with | .DictComp ek ev [⟨tg, iter, [], asy⟩] scope _ => decide (asy = 0) && compP inf f N nm scope tg iter t it && g (blkNm nm scope.names) ek k && g (blkNm nm scope.names) ev v | _ => false)
  | .fst es => (match e with | .JoinedStr (v1 :: v2 :: vs) _ => chkJ f (v1 :: v2 :: vs) es | _ => false)
  | .alc a => frs a && plainT e && f e a
  | .rfd _ b => (match e with | .Call (.Name y _) [.Lambda params body scope _] [] _ => glB nm y && decide (inf.rf = some y) && noPar params && LamX.lamSB ⟨.function, nm, false, false, []⟩ scope && g scope.names body b | _ => false)
  | .dic _ _ => false
  | .cp2 .. => false
def chkE (inf : Inf) : Nat → List Str → List (Str × NameKind) → Expr → E → Bool
  | 0, _, _, _, _ => false
  | n + 1, N, nm, e, x => chkE1 inf (chkE inf n N nm) (chkE inf.sub n N) N nm e x
section
variable {T : Tb} {p : Pg} {X : Cx} {Wx : WX} {k : Nat} {cal : Bool → Nat → List W → List OO → RC} {inf : Inf} {top : Bool} {N : List Str} {nm : List (Str × NameKind)} {f : Expr → E → Bool}
variable {e a b : Expr} {x y z : E} {pos : Pos}
theorem chk_se (O : XO T p X Wx k cal) (h : SE T X Wx e (evE p cal x)) (hp : plainT e = true) (hf : frs x = false) : Chk T p X Wx cal e x :=
  ⟨h, fun _ => st_truth h O.G.hK (plainT_ok hp), fun z => by rw [hf] at z; cases z⟩
theorem chk_sf (O : XO T p X Wx k cal) (h : SF T X Wx e (evE p cal x)) (hp : plainT e = true) : Chk T p X Wx cal e x :=
  ⟨h.se, fun _ => st_truth h.se O.G.hK (plainT_ok hp), fun _ => h⟩
theorem cst_ok (O : XO T p X Wx k cal) {cc : Const} {w : W} {j : Nat} (h : cstB cc w = true) : SE T X Wx (.Constant cc j pos) (evE p cal (.cst w)) := by
  cases cc <;> simp only [cstB] at h <;> first | (cases h; done) | skip
  · split at h
    · exact se_cst pe_non rfl
    · cases h
  · split at h
    · rw [beq_iff_eq] at h
      subst h
      exact se_cst pe_bl rfl
    · cases h
  · split at h
    · rw [decide_eq_true_eq] at h
      subst h
      exact se_cst pe_int rfl
    · cases h
  · split at h
    · rw [Bool.and_eq_true, decide_eq_true_eq] at h
      obtain ⟨h1, h2⟩ := h
      subst h1
      exact se_cst pe_str (by simp [vC, h2])
    · cases h
theorem kd_ok (R : Frm T p X Wx k cal inf top N nm) {q : Kd} (h : kdB inf nm q e = true) : PE X e (tC (kdV T q)) := by
  unfold kdB at h
  split at h
  · rw [Bool.and_eq_true] at h
    obtain ⟨h1, h2⟩ := h
    obtain ⟨g1, g2⟩ := gl_ok R h1
    cases q <;> simp only [Bool.and_eq_true, decide_eq_true_eq] at h2 <;> first | (cases h2; done) | skip
    · obtain ⟨h3, h4⟩ := h2
      subst h4
      exact pe_bltn g1 (R.F.fr _ (freeB_ok h3)) (u := .type "bool") (by kernel_rfl) rfl (by decide) g2
    · obtain ⟨h3, h4⟩ := h2
      subst h4
      exact pe_bltn g1 (R.F.fr _ (freeB_ok h3)) (u := .type "int") (by kernel_rfl) rfl (by decide) g2
    · obtain ⟨h3, h4⟩ := h2
      subst h4
      exact pe_bltn g1 (R.F.fr _ (freeB_ok h3)) (u := .type "str") (by kernel_rfl) rfl (by decide) g2
    · obtain ⟨h3, h4⟩ := h2
      subst h4
      exact pe_bltn g1 (R.F.fr _ (freeB_ok h3)) (u := .type "list") (by kernel_rfl) rfl (by decide) g2
    · obtain ⟨h3, h4⟩ := h2
      subst h4
      exact pe_bltn g1 (R.F.fr _ (freeB_ok h3)) (u := .type "tuple") (by kernel_rfl) rfl (by decide) g2
    · exact pe_glob g1 (R.F.cl _ _ h2) rfl g2
  · cases h
theorem folded_ok {iter : Expr} {env : Env} (h : notSetE iter = true) : ∀ x, foldedSetIterable iter env x = pure x := by
  intro x
  cases iter <;> first | rfl | cases h
theorem ownL_ix (N : List Str) (t : Tg) : (ownL N t).map (·.2) = tgIx t := by
  unfold ownL
  rw [List.map_map]
  exact List.map_id _
theorem blk_ok (R : Frm T p X Wx k cal inf top N nm) {scope : Scope} {t : Tg} (h : compB N nm scope t = true) : BlkOk X.N X.env.scope scope (ownL N t) := by
  have b := blkOk_by h
  rw [R.hN]
  refine ⟨b.kind, b.uniq, b.ix, fun y hy e => ?_, b.own⟩
  have := b.free y hy e
  rw [R.nm]
  exact this
theorem IF.blk (F : IF T p X k cal inf) {s : Shared} {H : Hp} {scope : Scope} {cenv : Env} {fp : List Addr} : IF T p (X.blk s H scope cenv fp) k cal inf := ⟨F.fn, F.cl, F.co, F.fr, F.si, F.ma, F.sy, F.kpm, F.kon, F.ex⟩
theorem frm_blk (R : Frm T p X Wx k cal inf top N nm) {scope : Scope} (hk : scope.kind = .function) (s : Shared) (H : Hp) (C : Addr) (cl : List (Str × Addr)) (fp : List Addr) :
    Frm T p (X.blk s H scope (compEnvC scope cl C X.env) fp) F0 k cal inf.sub false N (blkNm nm scope.names) where
  O := ⟨R.O.G, ⟨R.O.M.room, R.O.M.mt, R.O.M.pr⟩, takes_no, R.O.deep, R.O.calm, R.O.nd⟩
  F := R.F.sub.blk
  hN := R.hN
  kind := hk
  nm := by
    show (relabel scope X.env).names = _
    unfold relabel blkNm
    simp only
    refine List.map_congr_left fun y _ => ?_
    obtain ⟨n, kk⟩ := y
    have e1 : X.env.kindOf n = nm.lookup n := by
      unfold Env.kindOf
      rw [R.nm]
    have e2 : (X.env.scope.kind == ScopeKind.function) = true := by rw [R.kind]; rfl
    rw [e1, e2]
    simp only [Bool.and_true]
  top := fun z => by cases z
  rf := fun x z => by cases z
/-- a lambda's body -/
theorem frm_lam (R : Frm T p X Wx k cal inf top N nm) {scope : Scope} (L : LamX.LamS X.env.scope scope) {A : Around} {outer : List Env} {s : Shared} {H : Hp} {E : XK} {f c' : Addr} (hr : Room (k + 1) (A.deeper (LamX.lamEnv X scope s.heap.objs.size f c'))) :
    Frm T p (LamX.lamCx X A outer s H E scope f c') (fun cls d _ H => E cls d H) k cal inf.sub false N scope.names where
  O := ⟨R.O.G, ⟨hr, R.O.M.mt, R.O.M.pr⟩, takes_of rfl rfl rfl rfl, by
    have := hr.un
    show (A.deeper (LamX.lamEnv X scope s.heap.objs.size f c')).units + 140 < cLine
    omega, rfl, R.O.nd⟩
  F := ⟨R.F.fn, R.F.cl, R.F.co, R.F.fr, R.F.si, R.F.ma, R.F.sy, R.F.kpm, R.F.kon, R.F.ex⟩
  hN := R.hN
  kind := L.kind
  nm := rfl
  top := fun z => by cases z
  rf := fun x z => by cases z
theorem lam_ok (R : Frm T p X Wx k cal inf top N nm) {scope : Scope} (h : LamX.lamSB ⟨.function, nm, false, false, []⟩ scope = true) : LamX.LamS X.env.scope scope := by
  have L := LamX.lamS_by h
  exact ⟨L.kind, L.co, L.gen, L.own, fun y hy e => by rw [R.nm]; exact L.free y hy e⟩
end
end Ev

/-! S27: the check of expressions is right. -/
namespace Ev
open PySem PySem.Spec PyProof.Rows L2 Calls ClX RZ
section
variable {T : Tb} {p : Pg} {X : Cx} {Wx : WX} {k : Nat} {cal : Bool → Nat → List W → List OO → RC} {inf : Inf} {top : Bool} {N : List Str} {nm : List (Str × NameKind)} {f : Expr → E → Bool} {g : List (Str × NameKind) → Expr → E → Bool}
variable {e a b : Expr} {x y z : E} {pos : Pos}
theorem args_ok (hf : ∀ e x, f e x = true → Chk T p X Wx cal e x) {l : List (Nat × Nat × List Str × List W)} {q : Nat} {args : List Expr} {kws : List Keyword} {es : List E} (h : argsB inf f l q args kws es = true) :
    ∃ xs ys ds, es = xs ++ ys ++ ds.map .cst ∧ xs.length = args.length ∧ ys.length = (kws.filterMap (·.arg)).length ∧ (args = [] → xs = []) ∧ args.all notStar = true ∧ (kws.all fun q => q.arg.isSome) = true ∧
      SA T X Wx args (evEs p cal xs) ∧ SK T X Wx kws (evEs p cal ys) ∧ (q, args.length, kws.filterMap (·.arg), ds) ∈ l := by
  unfold argsB at h
  rw [Bool.and_eq_true, Bool.and_eq_true] at h
  obtain ⟨⟨h1, h2⟩, h3⟩ := h
  split at h1
  · rename_i ds hd
    obtain ⟨g1, g2, g3⟩ := chkL_ok hf h2
    obtain ⟨g4, g5, g6, g7⟩ := chkK_ok hf h3
    refine ⟨es.take args.length, (es.drop args.length).take kws.length, ds, ?_, g3, by rw [g6, g7], fun z => by subst z; rfl, g2, g5, g1, g4, siteB_ok h1⟩
    rw [← csts_eq hd, List.append_assoc, ← List.drop_drop, List.take_append_drop, List.take_append_drop]
  · cases h1
theorem ifs_ok {X' : Cx} (hg : ∀ e x, f e x = true → Chk T p X' F0 cal e x) {ifs : List Expr} {co : Option E} (h : ifsB f ifs co = true) : PTs X' ifs (rdT T F0 (evT p cal co)) := by
  unfold ifsB at h
  split at h
  · exact pts_none
  · rw [Bool.and_eq_true] at h
    exact pts_some ((hg _ _ h.1).st h.2)
  · cases h
structure CompF (T : Tb) (p : Pg) (X : Cx) (Wx : WX) (cal : Bool → Nat → List W → List OO → RC) (inf : Inf) (k : Nat) (N : List Str) (nm : List (Str × NameKind)) (scope : Scope) (tg iter : Expr) (t : Tg) (it : I) : Prop where
  hi : SI T X Wx tg iter (evI p cal it)
  ok : BlkOk X.N X.env.scope scope (ownL N t)
  hg : ∀ (s : Shared) (H : Hp) (C : Addr) (cl : List (Str × Addr)) (fp : List Addr), SG T (X.blk s H scope (compEnvC scope cl C X.env) fp) tg t
  hs : ∀ x, foldedSetIterable iter X.env x = pure x
  fr : ∀ (s : Shared) (H : Hp) (C : Addr) (cl : List (Str × Addr)) (fp : List Addr), Frm T p (X.blk s H scope (compEnvC scope cl C X.env) fp) F0 k cal inf.sub false N (blkNm nm scope.names)
theorem comp_ok (R : Frm T p X Wx k cal inf top N nm) (hf : ∀ e x, f e x = true → Chk T p X Wx cal e x) {scope : Scope} {tg iter : Expr} {t : Tg} {it : I} (h : compP inf f N nm scope tg iter t it = true) : CompF T p X Wx cal inf k N nm scope tg iter t it := by
  unfold compP at h
  simp only [Bool.and_eq_true] at h
  obtain ⟨⟨⟨h1, h2⟩, h3⟩, h4⟩ := h
  have b := blk_ok R h3
  have fr := frm_blk R b.kind
  exact ⟨chkI_ok R hf h2, b, fun s H C cl fp => chkTg_ok (fr s H C cl fp) t tg h4, folded_ok h1, fr⟩
set_option maxHeartbeats 1000000
theorem chkE1_ok (R : Frm T p X Wx k cal inf top N nm) (hf : ∀ e x, f e x = true → Chk T p X Wx cal e x) (hg : ∀ nm2 e x, g nm2 e x = true → ∀ X' Wx', Frm T p X' Wx' k cal inf.sub false N nm2 → Chk T p X' Wx' cal e x)
    (h : chkE1 inf f g N nm e x = true) : Chk T p X Wx cal e x := by
  have hK := R.O.G.hK
  cases x with
  | nvr => exact ⟨se_nvr, fun _ => ⟨fun pins s σ H Q I ⟨c, st, h, q⟩ => by
      simp only [tst, evE] at q
      exact (show False from q).elim⟩, fun z => by cases z⟩
  | var i =>
    simp only [chkE1] at h
    split at h
    · obtain ⟨h1, h2, h3, h4⟩ := vis_ok R h
      exact chk_se R.O (se_var h1 h2 h3 h4) rfl rfl
    · cases h
  | frz i =>
    simp only [chkE1] at h
    split at h
    · obtain ⟨h1, h2, h3, h4⟩ := vis_ok R h
      exact chk_se R.O (se_frz h1 h2 h3 h4) rfl rfl
    · cases h
  | cst w =>
    simp only [chkE1] at h
    split at h
    · exact chk_se R.O (cst_ok R.O h) rfl rfl
    · cases h
  | glo n w =>
    simp only [chkE1] at h
    split at h
    · rw [Bool.and_eq_true] at h
      obtain ⟨h1, h2⟩ := h
      obtain ⟨g1, g2⟩ := gl_ok R h1
      split at h2
      · rename_i w' hw
        obtain ⟨v, u, k1, k2, k3⟩ := R.F.co _ _ hw
        have e1 := beqC_eq h2
        subst e1
        exact chk_se R.O (se_glo (pe_glob g1 k2 k3 g2) k1) rfl rfl
      · cases h2
    · cases h
  | bin op a b =>
    simp only [chkE1] at h
    split at h
    · simp only [Bool.and_eq_true, decide_eq_true_eq] at h
      obtain ⟨⟨h1, h2⟩, h3⟩ := h
      subst h1
      exact chk_sf R.O (sf_bin R.O (hf _ _ h2).se (hf _ _ h3).se) rfl
    · cases h
  | neg a =>
    simp only [chkE1] at h
    split at h
    · exact chk_se R.O (se_neg (hf _ _ h).se) rfl rfl
    · cases h
  | bnt a =>
    simp only [chkE1] at h
    split at h
    · rw [Bool.and_eq_true] at h
      exact ⟨se_notE (hf _ _ h.1).se hK, fun _ => st_not ((hf _ _ h.1).st h.2), fun z => by cases z⟩
    · cases h
  | cmp op a b =>
    simp only [chkE1] at h
    split at h
    · simp only [Bool.and_eq_true, decide_eq_true_eq] at h
      obtain ⟨⟨⟨h1, h2⟩, h3⟩, h4⟩ := h
      subst h1
      exact ⟨se_cmp R.O (hf _ _ h3).se (hf _ _ h4).se h2, fun _ => st_cmp R.O (hf _ _ h3).se (hf _ _ h4).se h2, fun z => by cases z⟩
    · cases h
  | chn o1 o2 a b c =>
    simp only [chkE1] at h
    split at h
    · simp only [Bool.and_eq_true, decide_eq_true_eq] at h
      obtain ⟨⟨⟨⟨⟨h1, h2⟩, h3⟩, h4⟩, h5⟩, h6⟩ := h
      subst h1
      subst h2
      exact ⟨se_chn R.O (hf _ _ h4).se (hf _ _ h5).se (hf _ _ h6).se h3, fun _ => tst_chn R.O h3 (hf _ _ h4).se (hf _ _ h5).se (hf _ _ h6).se, fun z => by cases z⟩
    · cases h
  | bnd a b =>
    simp only [chkE1] at h
    split at h
    · obtain ⟨g1, g2⟩ := chkB_ok hf (an := true) h
      exact ⟨g1, fun _ => PW.pt g2, fun z => by cases z⟩
    · cases h
  | bor a b =>
    simp only [chkE1] at h
    split at h
    · obtain ⟨g1, g2⟩ := chkB_ok hf (an := false) h
      exact ⟨g1, fun _ => PW.pt g2, fun z => by cases z⟩
    · cases h
  | ite c a b =>
    simp only [chkE1] at h
    split at h
    · simp only [Bool.and_eq_true] at h
      obtain ⟨⟨⟨h1, h2⟩, h3⟩, h4⟩ := h
      exact ⟨se_ite ((hf _ _ h1).st h2) (hf _ _ h3).se (hf _ _ h4).se, fun z => (by cases z), fun z => (by cases z)⟩
    · cases h
  | tup es =>
    simp only [chkE1] at h
    split at h
    · exact chk_se R.O (se_tup (chkL_ok hf h).1) rfl rfl
    · cases h
  | lst es =>
    simp only [chkE1] at h
    split at h
    · exact chk_sf R.O (sf_lst (chkL_ok hf h).1) rfl
    · cases h
  | sub a i =>
    simp only [chkE1] at h
    split at h
    · simp only [Bool.and_eq_true] at h
      obtain ⟨⟨h1, h2⟩, h3⟩ := h
      exact chk_se R.O (se_sub R.O.deep (hf _ _ h2).se (hf _ _ h3).se (plainIx_ok h1)) rfl rfl
    · cases h
  | slc a lo hi =>
    simp only [chkE1] at h
    split at h
    · simp only [Bool.and_eq_true] at h
      obtain ⟨⟨h1, h2⟩, h3⟩ := h
      exact chk_sf R.O (sf_slc hK (hf _ _ h1).se (chkO_ok hf h2) (chkO_ok hf h3)) rfl
    · cases h
  | att a m =>
    simp only [chkE1] at h
    split at h
    · simp only [Bool.and_eq_true, decide_eq_true_eq] at h
      obtain ⟨⟨h1, h2⟩, h3⟩ := h
      exact chk_se R.O (se_att R.O (R.F.sy _ _ h1).symm (hf _ _ h3).se h2) rfl rfl
    · cases h
  | kon C m =>
    simp only [chkE1] at h
    split at h
    · simp only [Bool.and_eq_true, decide_eq_true_eq] at h
      obtain ⟨⟨h1, h2⟩, h3⟩ := h
      obtain ⟨g1, g2⟩ := gl_ok R h2
      exact chk_se R.O (se_kon (R.F.sy _ _ h1).symm g1 (R.F.cl _ _ h3) g2 (R.F.kon _ _)) rfl rfl
    · cases h
  | cal q es =>
    simp only [chkE1] at h
    split at h
    · simp only [Bool.and_eq_true, decide_eq_true_eq] at h
      obtain ⟨⟨h1, h2⟩, h3⟩ := h
      obtain ⟨g1, g2⟩ := gl_ok R h1
      obtain ⟨m1, m2⟩ := R.F.fn _ _ h2
      obtain ⟨xs, ys, ds, e1, e2, e3, e4, e5, e6, e7, e8, e9⟩ := args_ok hf h3
      subst e1
      exact chk_se R.O (se_cal R.O g1 m1 m2 g2 (R.F.si _ e9) e2 e3 e4 e5 e6 rfl e7 e8) rfl rfl
    · cases h
  | new C es =>
    simp only [chkE1] at h
    split at h
    · simp only [Bool.and_eq_true, decide_eq_true_eq] at h
      obtain ⟨⟨h1, h2⟩, h3⟩ := h
      obtain ⟨g1, g2⟩ := gl_ok R h1
      obtain ⟨xs, ys, ds, e1, e2, e3, e4, e5, e6, e7, e8, e9⟩ := args_ok hf h3
      subst e1
      exact chk_se R.O (se_new R.O g1 (R.F.cl _ _ h2) g2 (R.F.ma _ e9) e2 e3 e4 e5 e6 rfl e7 e8) rfl rfl
    · cases h
  | mth a m es =>
    simp only [chkE1] at h
    split at h
    · simp only [Bool.and_eq_true, decide_eq_true_eq] at h
      obtain ⟨⟨⟨⟨⟨h1, h2⟩, h3⟩, h4⟩, h5⟩, h6⟩ := h
      obtain ⟨g1, g2, g3⟩ := chkL_ok hf h6
      exact chk_se R.O (se_mth R.O (R.F.sy _ _ h1).symm h2 g2 (fun z => by subst z; exact List.eq_nil_of_length_eq_zero g3) h3 h4 (fun C c f => R.F.kpm C c m f) (hf _ _ h5).se g1) rfl rfl
    · cases h
  | «bif» bb es =>
    simp only [chkE1] at h
    split at h
    · simp only [Bool.and_eq_true, decide_eq_true_eq] at h
      obtain ⟨⟨⟨h1, h2⟩, h3⟩, h4⟩ := h
      subst h1
      obtain ⟨g1, g2⟩ := gl_ok R h2
      obtain ⟨k1, k2, k3⟩ := chkL_ok hf h4
      have m := R.F.fr _ (freeB_ok h3)
      refine ⟨se_bif R.O g1 m k2 k1, fun _ => st_truth (se_bif R.O g1 m k2 k1) hK (plainT_ok rfl), fun z => ?_⟩
      cases bb <;> first | (cases z; done) | skip
      · exact sf_bif R.O (.inr rfl) g1 m k2 k1
      · exact sf_bif R.O (.inl rfl) g1 m k2 k1
    · cases h
  | isi a qs =>
    simp only [chkE1] at h
    split at h
    · split at h
      · simp only [Bool.and_eq_true, decide_eq_true_eq] at h
        obtain ⟨⟨⟨⟨⟨⟨h1, h2⟩, h3⟩, h4⟩, h5⟩, h6⟩, h7⟩ := h
        subst h1
        exact chk_se R.O (se_isi R.O (gl_ok R h2).1 (R.F.fr _ (freeB_ok h3)) h4 h5 (hf _ _ h7).se (kd_ok R h6)) rfl rfl
      · cases h
    · cases h
  | bmt bb a es =>
    simp only [chkE1] at h
    split at h
    · simp only [Bool.and_eq_true, decide_eq_true_eq, Bool.or_eq_true] at h
      obtain ⟨⟨⟨⟨⟨⟨h1, h2⟩, h3⟩, h4⟩, h5⟩, h6⟩, h7⟩ := h
      subst h1
      obtain ⟨g1, g2, g3⟩ := chkL_ok hf h7
      refine chk_se R.O (se_bmt R.O ?_ h3 g2 h4 h5 (fun z => by subst z; exact List.eq_nil_of_length_eq_zero g3) (hf _ _ h6).se g1) rfl rfl
      rcases h2 with (h2 | h2) | h2
      · exact .inl h2
      · exact .inr (.inl h2)
      · exact .inr (.inr h2)
    · cases h
  | cmt bb a es =>
    simp only [chkE1] at h
    split at h
    · simp only [Bool.and_eq_true, decide_eq_true_eq] at h
      obtain ⟨⟨⟨⟨⟨⟨h1, h2⟩, h3⟩, h4⟩, h5⟩, h6⟩, h7⟩ := h
      subst h1
      obtain ⟨g1, g2, g3⟩ := chkL_ok hf h7
      exact chk_se R.O (se_cmt h3 g2 h4 h5 (fun z => by subst z; exact List.eq_nil_of_length_eq_zero g3) h2 (hf _ _ h6).se g1) rfl rfl
    · cases h
  | cpr x t it co =>
    simp only [chkE1] at h
    split at h
    · simp only [Bool.and_eq_true, decide_eq_true_eq] at h
      obtain ⟨⟨⟨h1, h2⟩, h3⟩, h4⟩ := h
      subst h1
      have C := comp_ok R hf h2
      exact chk_sf R.O (sf_cpr R.O.calm R.O.nd C.hi C.ok (ownL_ix N t) C.hg (fun s H D cl fp => ifs_ok (fun e x z => hg _ e x z _ _ (C.fr s H D cl fp)) h3) (fun s H D cl fp => (hg _ _ _ h4 _ _ (C.fr s H D cl fp)).se) C.hs) rfl
    · cases h
  | dcp k v t it =>
    simp only [chkE1] at h
    split at h
    · simp only [Bool.and_eq_true, decide_eq_true_eq] at h
      obtain ⟨⟨⟨h1, h2⟩, h3⟩, h4⟩ := h
      subst h1
      have C := comp_ok R hf h2
      exact chk_sf R.O (sf_dcp R.O.calm R.O.nd C.hi C.ok (ownL_ix N t) C.hg (fun s H D cl fp => (hg _ _ _ h3 _ _ (C.fr s H D cl fp)).se) (fun s H D cl fp => (hg _ _ _ h4 _ _ (C.fr s H D cl fp)).se) C.hs) rfl
    · cases h
  | fst es =>
    simp only [chkE1] at h
    split at h
    · exact chk_se R.O (se_fst (chkJ_ok hf h)) rfl rfl
    · cases h
  | alc a =>
    simp only [chkE1, Bool.and_eq_true] at h
    exact chk_se R.O (se_alc ((hf _ _ h.2).sf h.1.1)) h.1.2 rfl
  | dic _ _ => simp [chkE1] at h
  | cp2 => simp [chkE1] at h
  | rfd q b =>
    simp only [chkE1] at h
    split at h
    · simp only [Bool.and_eq_true, decide_eq_true_eq] at h
      obtain ⟨⟨⟨⟨h1, h2⟩, h3⟩, h4⟩, h5⟩ := h
      obtain ⟨g1, g2⟩ := gl_ok R h1
      have L := lam_ok R h4
      unfold noPar at h3
      split at h3
      · exact chk_se R.O (se_rfd (R.rf _ h2) g1 g2 L rfl (fun _ _ _ _ _ => rfl) fun A outer s H E f c' hr => (hg _ _ _ h5 _ _ (frm_lam R L hr)).se) rfl rfl
      · cases h3
    · cases h
theorem chkE_ok : ∀ {inf : Inf} (n : Nat) (X : Cx) (Wx : WX) (top : Bool) (N : List Str) (nm : List (Str × NameKind)) (e : Expr) (x : E), Frm T p X Wx k cal inf top N nm → chkE inf n N nm e x = true → Chk T p X Wx cal e x
  | _, 0, _, _, _, _, _, _, _, _, h => by simp [chkE] at h
  | inf, n + 1, X, Wx, top, N, nm, e, x, R, h => by
    simp only [chkE] at h
    exact chkE1_ok R (fun e x z => chkE_ok n X Wx top N nm e x R z) (fun nm2 e x z X' Wx' R' => chkE_ok n X' Wx' false N nm2 e x R' z) h
end
end Ev

/-! S28: the check of statements. -/
namespace Ev
open PySem PySem.Spec PyProof.Rows L2 Calls ClX RZ
/-- no swap where the name takes the value -/
def swF (nm : List (Str × NameKind)) (y : Str) (py : Pos) (e : Expr) : Bool := !isCmp e || decide (nm.lookup y = some .cell) || !(py.line == e.pos.line)
/-- a comprehension given to a local name on one line -/
def shB (nm : List (Str × NameKind)) (y : Str) (py : Pos) : Expr → Bool
  | .ListComp _ _ scope pos => decide (nm.lookup y = some .local) && (py.line == pos.line) && !(scope.names.any fun (n, k) => n == y && (k == .local || k == .cell))
  | .DictComp _ _ _ scope pos => decide (nm.lookup y = some .local) && (py.line == pos.line) && !(scope.names.any fun (n, k) => n == y && (k == .local || k == .cell))
  | _ => false
def chkSl (h : Stmt → S → Bool) : List Stmt → List S → Bool
  | [], [] => true
  | s :: ss, x :: xs => h s x && chkSl h ss xs
  | _, _ => false
def isCpr : E → Bool
  | .cpr .. => true
  | .dcp .. => true
  | _ => false
def setB (inf : Inf) (m : Nat) (N : List Str) (nm : List (Str × NameKind)) (y : Str) (py : Pos) (e : Expr) (i : Nat) (x : E) : Bool :=
  locB true N nm i y && ((swF nm y py e && chkE inf m N nm e x) || (shB nm y py e && isCpr x && chkE inf m N nm e x))
def isTup4 : Expr → Bool
  | .Tuple .. => true
  | _ => false
def locL (nm : List (Str × NameKind)) (N : List Str) (i : Nat) (x : Str) : Bool := decide (N[i]? = some x) && decide (nm.lookup x = some .local)
def chkS1 (inf : Inf) (m : Nat) (h : Stmt → S → Bool) (N : List Str) (nm : List (Str × NameKind)) (s : Stmt) : S → Bool
  | .nvr => true
  | .pas => (match s with | .Pass _ => true | .Expr (.Constant (.str _) _ _) _ => true | _ => false)
  | .brk => (match s with | .Break _ => true | _ => false)
  | .cnt => (match s with | .Continue _ => true | _ => false)
  | .ex x => (match s with | .Expr e _ => !isCmp e && chkE inf m N nm e x | _ => false)
  | .ret x => (match s with | .Return (some e) _ => chkE inf m N nm e x | _ => false)
  | .rtn => (match s with | .Return none _ => true | _ => false)
  | .ife c a b => (match s with | .If ec sa sb _ => chkE inf m N nm ec c && noIf ec && chkSl h sa a && chkSl h sb b | _ => false)
  | .set i x => (match s with | .Assign [.Name y py] e _ => setB inf m N nm y py e i x | _ => false)
  | .own i x => (match s with | .Assign [.Name y py] e _ => frs x && setB inf m N nm y py e i x | _ => false)
  | .unp t x => (match s with | .Assign [tg] e _ => isTupE tg && !isTupE e && chkTg true N nm t tg && chkE inf m N nm e x | _ => false)
  | .sti o i x => (match s with | .Assign [.Subscript eo ei _] e _ => notSlice ei && chkE inf m N nm eo o && chkE inf m N nm ei i && chkE inf m N nm e x | _ => false)
  | .sta o q x => (match s with | .Assign [.Attribute eo y _] e _ => decide (inf.sy[q]? = some y) && chkE inf m N nm eo o && chkE inf m N nm e x | _ => false)
  | .aug i op x => (match s with | .AugAssign (.Name y _) o e _ => locB true N nm i y && decide (o = opOf op) && (decide (op = .add) || decide (op = .sub)) && chkE inf m N nm e x | _ => false)
  | .for t it b => (match s with | .For tg iter body [] _ => notSetE iter && chkI inf (chkE inf m N nm) nm tg iter it && chkTg true N nm t tg && chkSl h body b | _ => false)
  | .whl c b => (match s with | .While ec body [] _ => chkE inf m N nm ec c && noIf ec && chkSl h body b | _ => false)
  | .agi .. => false
  | .aga .. => false
  | .rai C xs => (match s with | .Raise (some (.Call (.Name y _) es [] _)) none _ => glB nm y && decide (inf.clN.lookup y = some C) && decide (C ∈ inf.rais) && chkL (chkE inf m N nm) es xs | _ => false)
  | .dli .. => false
  | .par is es => (match s with
    | .Assign [.Tuple [.Name x _, .Name y _] _ _] (.Tuple [a, b] _ _) _ => (match is, es with
      | [i, j], [xa, xb] => locL nm N i x && locL nm N j y && decide (i ≠ j) && false
      | _, _ => false)
    | _ => false)
def chkS (inf : Inf) (m : Nat) (N : List Str) (nm : List (Str × NameKind)) : Nat → Stmt → S → Bool
  | 0, _, _ => false
  | n + 1, s, x => chkS1 inf m (chkS inf m N nm n) N nm s x
section
variable {T : Tb} {p : Pg} {X : Cx} {Wx : WX} {k wf m : Nat} {cal : Bool → Nat → List W → List OO → RC} {inf : Inf} {N : List Str} {nm : List (Str × NameKind)} {h : Stmt → S → Bool}
variable {e a b : Expr} {x y z : E} {pos : Pos} {s : Stmt} {u : S}
theorem chkSl_ok (hh : ∀ s u, h s u = true → SS T X Wx s (exS p cal wf u)) : ∀ {ss : List Stmt} {us : List S}, chkSl h ss us = true → SSs T X Wx ss (exSs p cal wf us)
  | [], [], _ => sss_nil
  | [], _ :: _, q => by simp [chkSl] at q
  | _ :: _, [], q => by simp [chkSl] at q
  | s :: ss, u :: us, q => by
    simp only [chkSl, Bool.and_eq_true] at q
    exact sss_cons (hh _ _ q.1) (chkSl_ok hh q.2)
theorem set_ok (R : Frm T p X Wx k cal inf true N nm) (fresh : Bool) (hfr : fresh = true → frs x = true) {v : Str} {py : Pos} {i : Nat} (q : setB inf m N nm v py e i x = true) :
    SS T X Wx (.Assign [.Name v py] e pos) (exS p cal wf (if fresh then .own i x else .set i x)) := by
  unfold setB at q
  simp only [Bool.and_eq_true, Bool.or_eq_true] at q
  obtain ⟨q1, q2⟩ := q
  obtain ⟨l1, l2, l3⟩ := loc_ok R q1
  rcases q2 with ⟨q2, q3⟩ | ⟨⟨q2, q4⟩, q3⟩
  · have sw : swapsWith e (some (.Name v py)) pos.line X.env = pure false := by
      unfold swF at q2
      simp only [Bool.or_eq_true, Bool.not_eq_true', decide_eq_true_eq] at q2
      rcases q2 with (q2 | q2) | q2
      · exact sw_plain q2
      · exact sw_cell e (by rw [R.nm]; exact q2)
      · exact sw_line e q2
    have C := chkE_ok m X Wx true N nm e x R q3
    cases fresh with
    | false => exact ss_set R.O.nd l1 l2 l3 sw C.se
    | true => exact ss_own R.O.nd l1 l2 l3 sw (C.sf (hfr rfl))
  · cases m with
    | zero => simp [chkE] at q3
    | succ m =>
    simp only [chkE] at q3
    have hf : ∀ e x, chkE inf m N nm e x = true → Chk T p X Wx cal e x := fun e x z => chkE_ok m X Wx true N nm e x R z
    have hg : ∀ nm2 e x, chkE inf.sub m N nm2 e x = true → ∀ X' Wx', Frm T p X' Wx' k cal inf.sub false N nm2 → Chk T p X' Wx' cal e x := fun nm2 e x z X' Wx' R' => chkE_ok m X' Wx' false N nm2 e x R' z
    have kd := R.kind
    cases e <;> first | (cases q2; done) | skip
    · rename_i elt gs scope cpos
      simp only [shB, Bool.and_eq_true, decide_eq_true_eq, Bool.not_eq_true'] at q2
      obtain ⟨⟨k1, k2⟩, k3⟩ := q2
      have k1' : X.env.scope.names.lookup v = some .local := by rw [R.nm]; exact k1
      cases x <;> first | (cases q4; done) | (simp [chkE1] at q3; done) | skip
      simp only [chkE1] at q3
      split at q3
      · rename_i heq
        cases heq
        simp only [Bool.and_eq_true, decide_eq_true_eq] at q3
        obtain ⟨⟨⟨h1, h2⟩, h3⟩, h4⟩ := q3
        subst h1
        have C := comp_ok R hf h2
        exact ss_setLc fresh R.O.calm R.O.nd l1 k1' (sw_true kd k1' k2 k3) C.hi C.ok (ownL_ix N _) C.hg (fun s H D cl fp => ifs_ok (fun e x z => hg _ e x z _ _ (C.fr s H D cl fp)) h3) (fun s H D cl fp => (hg _ _ _ h4 _ _ (C.fr s H D cl fp)).se) C.hs
      · cases q3
    · rename_i kx vx gs scope cpos
      simp only [shB, Bool.and_eq_true, decide_eq_true_eq, Bool.not_eq_true'] at q2
      obtain ⟨⟨k1, k2⟩, k3⟩ := q2
      have k1' : X.env.scope.names.lookup v = some .local := by rw [R.nm]; exact k1
      cases x <;> first | (cases q4; done) | (simp [chkE1] at q3; done) | skip
      simp only [chkE1] at q3
      split at q3
      · rename_i heq
        cases heq
        simp only [Bool.and_eq_true, decide_eq_true_eq] at q3
        obtain ⟨⟨⟨h1, h2⟩, h3⟩, h4⟩ := q3
        subst h1
        have C := comp_ok R hf h2
        exact ss_setDc fresh R.O.calm R.O.nd l1 k1' (sw_trueD kd k1' k2 k3) C.hi C.ok (ownL_ix N _) C.hg (fun s H D cl fp => (hg _ _ _ h3 _ _ (C.fr s H D cl fp)).se) (fun s H D cl fp => (hg _ _ _ h4 _ _ (C.fr s H D cl fp)).se) C.hs
      · cases q3
theorem chkS1_ok (R : Frm T p X Wx k cal inf true N nm) (hh : ∀ s u, h s u = true → SS T X Wx s (exS p cal wf u)) (q : chkS1 inf m h N nm s u = true) : SS T X Wx s (exS p cal wf u) := by
  have hE : ∀ {e x}, chkE inf m N nm e x = true → Chk T p X Wx cal e x := fun {e x} z => chkE_ok m X Wx true N nm e x R z
  cases u with
  | nvr => exact ss_nvr
  | pas =>
    simp only [chkS1] at q
    split at q
    · exact ss_pas
    · exact ss_doc
    · cases q
  | brk =>
    simp only [chkS1] at q
    split at q
    · exact ss_brk
    · cases q
  | cnt =>
    simp only [chkS1] at q
    split at q
    · exact ss_cnt
    · cases q
  | ex x =>
    simp only [chkS1] at q
    split at q
    · simp only [Bool.and_eq_true, Bool.not_eq_true'] at q
      exact ss_ex (hE q.2).se (sw_plain q.1)
    · cases q
  | ret x =>
    simp only [chkS1] at q
    split at q
    · exact ss_ret (hE q).se
    · cases q
  | rtn =>
    simp only [chkS1] at q
    split at q
    · exact ss_rtn
    · cases q
  | ife c a b =>
    simp only [chkS1] at q
    split at q
    · simp only [Bool.and_eq_true] at q
      obtain ⟨⟨⟨h1, h2⟩, h3⟩, h4⟩ := q
      exact ss_ife ((hE h1).st h2) (chkSl_ok hh h3) (chkSl_ok hh h4)
    · cases q
  | set i x =>
    simp only [chkS1] at q
    split at q
    · exact set_ok R false (fun z => by cases z) q
    · cases q
  | own i x =>
    simp only [chkS1] at q
    split at q
    · simp only [Bool.and_eq_true] at q
      exact set_ok R true (fun _ => q.1) q.2
    · cases q
  | unp t x =>
    simp only [chkS1] at q
    split at q
    · rename_i tg e _
      simp only [Bool.and_eq_true, Bool.not_eq_true'] at q
      obtain ⟨⟨⟨h1, h2⟩, h3⟩, h4⟩ := q
      cases tg <;> first | (cases h1; done) | skip
      refine ss_unp (chkTg_ok R t _ h3) ?_ ?_ rfl (hE h4).se
      · cases e <;> rfl
      · cases e <;> first | (cases h2; done) | rfl
    · cases q
  | sti o i x =>
    simp only [chkS1] at q
    split at q
    · simp only [Bool.and_eq_true] at q
      obtain ⟨⟨⟨h1, h2⟩, h3⟩, h4⟩ := q
      exact ss_sti R.O.deep (hE h2).se (hE h3).se (hE h4).se h1
    · cases q
  | sta o f x =>
    simp only [chkS1] at q
    split at q
    · simp only [Bool.and_eq_true, decide_eq_true_eq] at q
      obtain ⟨⟨h1, h2⟩, h3⟩ := q
      exact ss_sta R.O (R.F.sy _ _ h1).symm (sw_att _) (hE h2).se (hE h3).se
    · cases q
  | aug i op x =>
    simp only [chkS1] at q
    split at q
    · simp only [Bool.and_eq_true, decide_eq_true_eq, Bool.or_eq_true] at q
      obtain ⟨⟨⟨h1, h2⟩, h3⟩, h4⟩ := q
      subst h2
      obtain ⟨l1, l2, l3⟩ := loc_ok R h1
      exact ss_aug h3 R.O.nd l1 l2 l3 (hE h4).se
    · cases q
  | «for» t it b =>
    simp only [chkS1] at q
    split at q
    · simp only [Bool.and_eq_true] at q
      obtain ⟨⟨⟨h1, h2⟩, h3⟩, h4⟩ := q
      exact ss_for (R.top rfl).2 R.O.calm (chkI_ok R (fun e x z => hE z) h2) (chkTg_ok R t _ h3) (chkSl_ok hh h4) (folded_ok h1)
    · cases q
  | whl c b =>
    simp only [chkS1] at q
    split at q
    · simp only [Bool.and_eq_true] at q
      obtain ⟨⟨h1, h2⟩, h3⟩ := q
      exact ss_whl (R.top rfl).2 ((hE h1).st h2) (chkSl_ok hh h3)
    · cases q
  | agi => simp [chkS1] at q
  | aga => simp [chkS1] at q
  | rai C xs =>
    simp only [chkS1] at q
    split at q
    · simp only [Bool.and_eq_true, decide_eq_true_eq] at q
      obtain ⟨⟨⟨h1, h2⟩, h3⟩, h4⟩ := q
      obtain ⟨g1, g2⟩ := gl_ok R h1
      obtain ⟨c, pl, ns, code, k1, k2, k3⟩ := R.F.ex C h3
      obtain ⟨a1, a2, a3⟩ := chkL_ok (fun e x z => hE z) h4
      exact ss_rai R.O (R.O.M.room.mono (by omega)) k1 k2 k3 g1 (R.F.cl _ _ h2) g2 a1 a2 fun z => by
        subst z
        exact List.eq_nil_of_length_eq_zero a3
    · cases q
  | dli => simp [chkS1] at q
  | par is es =>
    simp only [chkS1] at q
    split at q
    · split at q
      · simp at q
      · cases q
    · cases q
theorem chkS_ok (R : Frm T p X Wx k cal inf true N nm) : ∀ (n : Nat) (s : Stmt) (u : S), chkS inf m N nm n s u = true → SS T X Wx s (exS p cal wf u)
  | 0, _, _, q => by simp [chkS] at q
  | n + 1, s, u, q => by
    simp only [chkS] at q
    exact chkS1_ok R (fun s u z => chkS_ok R n s u z) q
theorem chkSs_ok (R : Frm T p X Wx k cal inf true N nm) {n : Nat} {ss : List Stmt} {us : List S} (q : chkSl (chkS inf m N nm n) ss us = true) : SSs T X Wx ss (exSs p cal wf us) := chkSl_ok (fun s u z => chkS_ok R n s u z) q
end
end Ev

/-! S29: the defs keep their promises. -/
namespace Ev
open PySem PySem.Spec PyProof.Rows L2 Calls ClX RZ
/-- a def's text, its names by slot, its parameters -/
structure DD where
  name : Str
  qual : Str
  params : Arguments
  body : List Stmt
  scope : Scope
  N : List Str
  ps : List Str
structure DefF (K : PySem.W.Frag) (T : Tb) (f : Nat) (d : DD) (fd : FuncData) : Prop where
  ex : ∃ (dV kV doc pm cdv ct oc : Value) (an od : Option Addr) (osl : Array (Option Value)), fd = PySem.W.fnOf d.name d.qual d.params d.body d.scope dV kV doc pm an cdv ct ∧ K.lookup (T.fa f) = some ⟨oc, od, .func fd, osl⟩ ∧ PySem.W.codeIn K cdv d.qual = true
  bd : ∀ (s : Shared) (us : List Value), K.In s.heap → us.length = d.ps.length → BindsTo s fd ⟨us, []⟩ (d.ps.zip us)
def scB (N P : List Str) (sc : Scope) : Bool :=
  decide (sc.kind = .function) && !sc.isCoroutine && !sc.isGenerator && decide N.Nodup && decide (N.take P.length = P) && P.all (fun x => decide (sc.names.lookup x = some .local) || decide (sc.names.lookup x = some .cell)) && sc.names.all (fun y => !decide (y.2 = .free))
theorem scB_ok {N P : List Str} {sc : Scope} (h : scB N P sc = true) : FnScope N P sc := by
  unfold scB at h
  simp only [Bool.and_eq_true, Bool.not_eq_true', decide_eq_true_eq, List.all_eq_true, Bool.or_eq_true, decide_eq_false_iff_not] at h
  obtain ⟨⟨⟨⟨⟨⟨h1, h2⟩, h3⟩, h4⟩, h5⟩, h6⟩, h7⟩ := h
  exact ⟨h1, h2, h3, h4, h5, h6, h7⟩
/-- the static look at a def -/
def stB (inf : Inf) (m sn : Nat) (d : DD) (fn : Fn) : Bool := scB d.N d.ps d.scope && decide (d.N.length = fn.nl) && decide (d.ps.length = fn.np) && decide (fn.np ≤ fn.nl) && chkSl (chkS (inf.at d.qual) m d.N d.scope.names sn) d.body fn.body
/-- what is known of the exceptions, of the law's def that tells how a lambda ends -/
structure XP (T : Tb) (p : Pg) (K : PySem.W.Frag) (mg : Str → Option Value) (inf : Inf) (P : Program) (w : World) (base : Heap) : Prop where
  ex : ∀ C, C ∈ inf.rais → ∃ c pl ns code, p.cls[C]? = some c ∧ c.exn = some (pl, ns, code) ∧ ExnG T P w K mg base C pl.length ns code
  rf : ∀ x, inf.rf = some x → RfdG T p P w K mg base x ∧ T.sy p.sCode = "code" ∧ T.tq = ("law" : Str) ++ ".<locals>." ++ "<lambda>"
/-- .. of the law's code object -/
def CdJ (T : Tb) (K : PySem.W.Frag) (mg : Str → Option Value) (inf : Inf) (base : Heap) (dd : List DD) : Prop := ∀ f d fd, dd[f]? = some d → DefF K T f d fd → d.qual = ("law" : Str) → inf.rf ≠ none → ∃ c, fd.code = .ref c ∧ LamX.TabB base mg c T.ta
/-- what is known of the program behind its top -/
structure Prj (T : Tb) (p : Pg) (K : PySem.W.Frag) (mg : Str → Option Value) (inf : Inf) (m sn : Nat) (dd : List DD) : Prop where
  G : GF T p K
  defs : ∀ f fn, p.fns[f]? = some fn → ∃ d fd, dd[f]? = some d ∧ DefF K T f d fd ∧ stB inf m sn d fn = true
  fn : ∀ x f, inf.fnN.lookup x = some f → mg x = some (.ref (T.fa f)) ∧ PySem.W.keepIn K (.ref (T.fa f)) = true
  cl : ∀ x C, inf.clN.lookup x = some C → mg x = some (.ref (T.ca C))
  co : ∀ x w, inf.cons.lookup x = some w → ∃ v u, vC w = some v ∧ mg x = some u ∧ RelV v u
  fr : ∀ x, x ∈ inf.free → mg x = none
  sy : ∀ m x, inf.sy[m]? = some x → T.sy m = x
  kpm : ∀ C c m f, clsG p C = some c → c.meths.lookup m = some f → PySem.W.keepIn K (.ref (T.fa f)) = true
  kon : ∀ C f w, ((p.cls[C]?).bind fun c => c.consts.lookup f) = some w → ∃ mc v u, vC w = some v ∧ CRead K (T.ca C) mc ∧ CVal K (T.ca C) mc (T.sy f) v u
  mts : ∀ C c m f, clsG p C = some c → c.meths.lookup m = some f ∨ c.props.lookup m = some f → ∃ fn, p.fns[f]? = some fn
  si : ∀ q, q ∈ inf.sites → ∃ fn d fd, p.fns[q.1]? = some fn ∧ dd[q.1]? = some d ∧ DefF K T q.1 d fd ∧ fn.np = q.2.1 + q.2.2.1.length + q.2.2.2.length ∧ ∃ dvs dus, q.2.2.2.mapM vC = some dvs ∧ Vals dvs dus ∧
    ∀ (s : Shared) (us ws : List Value), K.In s.heap → us.length = q.2.1 → ws.length = q.2.2.1.length → BindsTo s fd ⟨us, q.2.2.1.zip ws⟩ (d.ps.zip (us ++ ws ++ dus))
  ma : ∀ q, q ∈ inf.makes → ∃ c g fn d fd, p.cls[q.1]? = some c ∧ c.init = some g ∧ Mk K (T.ca q.1) (T.fa g) ∧ p.fns[g]? = some fn ∧ dd[g]? = some d ∧ DefF K T g d fd ∧ fn.np = q.2.1 + q.2.2.1.length + q.2.2.2.length + 1 ∧ ∃ dvs dus, q.2.2.2.mapM vC = some dvs ∧ Vals dvs dus ∧
    ∀ (s : Shared) (x : Addr) (us ws : List Value), K.In s.heap → us.length = q.2.1 → ws.length = q.2.2.1.length → BindsTo s fd ⟨.ref x :: us, q.2.2.1.zip ws⟩ (d.ps.zip (.ref x :: (us ++ ws ++ dus)))
section
variable {T : Tb} {p : Pg} {K : PySem.W.Frag} {mg : Str → Option Value} {inf : Inf} {m sn wf : Nat} {dd : List DD} {P : Program} {w : World} {base : Heap}
theorem DefF.uniq {f : Nat} {d : DD} {fd fd' : FuncData} (a : DefF K T f d fd) (b : DefF K T f d fd') : fd = fd' := by
  obtain ⟨_, _, _, _, _, _, _, _, _, _, _, e1, _⟩ := a.ex
  obtain ⟨_, _, _, _, _, _, _, _, _, _, _, e2, _⟩ := b.ex
  rw [e1] at e2
  cases e2
  rfl
theorem callN_arity {n f : Nat} {fn : Fn} (e : p.fns[f]? = some fn) (ws : List W) (s : List OO) (h : ws.length ≠ fn.np) : callN p wf n false f ws s = .stk := by
  cases n with
  | zero => rfl
  | succ n =>
    simp only [callN, e]
    rw [if_neg h]
/-! ### a def's start -/
theorem start_ok {c : Cf} {H : Hp} {ws : List W} {vs : List V} {s : List OO} {N : List Str} (h : CalSt T c H s) (r : RWs T c.lv c.nf H ws vs) {nl : Nat} (hn : N.length = nl) (hl : ws.length ≤ nl) : RSt T c ⟨ws.map .val ++ List.replicate (nl - (ws.map Sl.val).length) .un, s⟩ (L2.start N vs) H := by
  have e1 := r.len
  have ow := h.ow
  refine ⟨?_, fun i w e => ?_, fun i o e => ?_, fun i a e => ?_, fun i j a e => ?_, fun i a e => ?_, h.ou, h.ouh, h.sto⟩
  · unfold L2.start
    simp only [List.length_append, List.length_map, List.length_replicate]
    omega
  · simp only at e
    by_cases hi : i < ws.length
    · rw [List.getElem?_append_left (by simpa using hi), List.getElem?_map] at e
      cases e2 : ws[i]? with
      | none => rw [e2] at e; cases e
      | some w' =>
        rw [e2] at e
        cases e
        obtain ⟨v, g1, g2⟩ := r.get e2
        refine ⟨v, ?_, g2⟩
        unfold L2.start
        rw [List.getElem?_append_left (by simp; omega), List.getElem?_map, g1]
        rfl
    · rw [List.getElem?_append_right (by simp; omega)] at e
      have := List.mem_of_getElem? e
      rw [List.mem_replicate] at this
      cases this.2
  · exfalso
    simp only at e
    by_cases hi : i < ws.length
    · rw [List.getElem?_append_left (by simpa using hi), List.getElem?_map] at e
      cases e2 : ws[i]? with
      | none => rw [e2] at e; cases e
      | some w' => rw [e2] at e; cases e
    · rw [List.getElem?_append_right (by simp; omega)] at e
      have := List.mem_of_getElem? e
      rw [List.mem_replicate] at this
      cases this.2
  · rw [ow] at e; cases e
  · rw [ow] at e; cases e
  · rw [ow] at e; cases e
/-- the caller's look at the callee's end -/
theorem end_mn {c c' : Cf} {H' : Hp} : Mn c'.lv c'.nf H' (Cf.at c c'.lv).lv (Cf.at c c'.lv).nf H' → True := fun _ => trivial
theorem end_ok {c c' : Cf} {st' : St} {σ' : L2.St} {H H' : Hp} (ow : c.ow = fun _ => none) (S : Stp c H c' H') (h : RSt T c' st' σ' H') :
    Stp c H (c.at c'.lv) H' ∧ RSto T c'.lv (c.at c'.lv).nf H' st'.s ∧ Mn c'.lv c'.nf H' (c.at c'.lv).lv (c.at c'.lv).nf H' := by
  have sub : ∀ a, (c.at c'.lv).nf a → c'.nf a := fun a q => by
    rcases q with (q | ⟨i, q⟩) | q
    · exact .inl (.inl q)
    · have q : c.ow i = some a := q
      rw [ow] at q; cases q
    · refine .inr ?_
      rw [S.ou]; exact q
  have mn : Mn c'.lv c'.nf H' (c.at c'.lv).lv (c.at c'.lv).nf H' := ⟨fun _ _ e _ _ => e, fun a q => .inl (sub a q), fun _ _ e => e, fun _ _ e => e⟩
  refine ⟨⟨S.fr, fun a q => ?_, S.lv, rfl, S.kk, fun i a e => .inl e⟩, ⟨h.sto.len, h.sto.nd, fun n o a e1 e2 => (h.sto.at_ n o a e1 e2).mono mn rfl⟩, mn⟩
  rcases q with q | ⟨i, q⟩
  · exact S.mw a (.inl q)
  · have q : c.ow i = some a := q
    rw [ow] at q; cases q
theorem RX.mono' {c c' : Cf} {H' : Hp} {x : Xn} {cls : Value} {d : Option Addr} (mn : Mn c'.lv c'.nf H' (c.at c'.lv).lv (c.at c'.lv).nf H') (h : RX T c' H' x cls d) : RX T (c.at c'.lv) H' x cls d := by
  obtain ⟨e1, dx, fs, e2, e3, e4, e5⟩ := h
  exact ⟨e1, dx, fs, e2, e3, mn.nn e3 rfl e4, fun i n w a b => by
    obtain ⟨v, g1, g2⟩ := e5 i n w a b
    exact ⟨v, g1, g2.mono mn⟩⟩
/-- all that the checks ask of the frame -/
structure Lev (T : Tb) (p : Pg) (K : PySem.W.Frag) (mg : Str → Option Value) (dd : List DD) (P : Program) (w : World) (base : Heap) (wf n : Nat) : Prop where
  fn : ∀ f fn d fd, p.fns[f]? = some fn → dd[f]? = some d → DefF K T f d fd → FnOk P w K mg base (L2.CX P w) (4 * n) (T.fa f) fd d.ps (spF T fn.np (callN p wf n false f))
  ini : ∀ C c g fn d fd, p.cls[C]? = some c → c.init = some g → p.fns[g]? = some fn → dd[g]? = some d → DefF K T g d fd → FnOk P w K mg base (L2.CX P w) (4 * n) (T.fa g) fd d.ps (spI T fn.np C (callN p wf n true C))
theorem frm_ok (J : Prj T p K mg inf m sn dd) {n : Nat} (L : Lev T p K mg dd P w base wf n) {d : DD} (S : FnScope d.N d.ps d.scope) {f : Addr} {cdv : Value} {A : Around} {outer : List Env} {s : Shared} {H : Hp} {E : XK} (hr : Room (4 * n + 3) (A.deeper (envOfC d.qual d.scope s.heap.objs.size f cdv))) (XJ : XP T p K mg inf P w base) (hcd : d.qual = ("law" : Str) → inf.rf ≠ none → ∃ c, cdv = .ref c ∧ LamX.TabB base mg c T.ta) :
    Frm T p (cxOf (L2.CX P w) P w K mg base d.N d.qual d.scope f cdv A outer s H E) (fun cls dx _ H => E cls dx H) (4 * n) (callN p wf n) (inf.at d.qual) true d.N d.scope.names where
  O := {
    G := J.G
    M := {
      room := hr.mono (by omega)
      mt := fun C c mm f hc hm => by
        obtain ⟨fn, hfn⟩ := J.mts C c mm f hc (.inl hm)
        obtain ⟨d, fd, hd, hD, hst⟩ := J.defs f fn hfn
        have hnp : d.ps.length = fn.np := by
          unfold stB at hst
          simp only [Bool.and_eq_true, decide_eq_true_eq] at hst
          exact hst.1.1.2
        exact ⟨fn.np, fd, d.ps, L.fn f fn d fd hfn hd hD, callN_arity hfn, fun s us hk hl => hD.bd s us hk (by rw [hl, hnp])⟩
      pr := fun C c mm f hc hm => by
        obtain ⟨fn, hfn⟩ := J.mts C c mm f hc (.inr hm)
        obtain ⟨d, fd, hd, hD, hst⟩ := J.defs f fn hfn
        have hnp : d.ps.length = fn.np := by
          unfold stB at hst
          simp only [Bool.and_eq_true, decide_eq_true_eq] at hst
          exact hst.1.1.2
        exact ⟨fn.np, fd, d.ps, L.fn f fn d fd hfn hd hD, callN_arity hfn, fun s us hk hl => hD.bd s us hk (by rw [hl, hnp])⟩ }
    tk := takes_of rfl rfl rfl rfl
    deep := by
      have := hr.un
      show (A.deeper (envOfC d.qual d.scope s.heap.objs.size f cdv)).units + 140 < cLine
      omega
    calm := rfl
    nd := S.nd }
  F := IF.at (inf := inf) {
    fn := J.fn
    cl := J.cl
    co := J.co
    fr := J.fr
    si := fun q hq => by
      obtain ⟨fn, d, fd, h1, h2, h3, h4, dvs, dus, h5, h6, h7⟩ := J.si q hq
      exact ⟨fd, d.ps, fn.np, dvs, dus, L.fn q.1 fn d fd h1 h2 h3, h4, h5, h6, h7⟩
    ma := fun q hq => by
      obtain ⟨c, g, fn, d, fd, h0, h1, hm, h2, h3, h4, h5, dvs, dus, h6, h7, h8⟩ := J.ma q hq
      exact ⟨T.fa g, fd, d.ps, fn.np, dvs, dus, hm, L.ini q.1 c g fn d fd h0 h1 h2 h3 h4, h5, h6, h7, h8⟩
    sy := J.sy
    kpm := J.kpm
    kon := J.kon
    ex := XJ.ex } d.qual
  hN := rfl
  kind := S.kind
  nm := rfl
  top := fun _ => ⟨fun _ => rfl, passes_of rfl⟩
  rf := fun x hx => by
    unfold Inf.at at hx
    split at hx
    · rename_i hq
      obtain ⟨h1, h2, h3⟩ := XJ.rf x hx
      exact ⟨hr, hcd hq (by rw [hx]; simp), by rw [h3, ← hq]; rfl, h2, h1⟩
    · cases hx
theorem fn_ok (J : Prj T p K mg inf m sn dd) (XJ : XP T p K mg inf P w base) (CJ : CdJ T K mg inf base dd) {n : Nat} (L : Lev T p K mg dd P w base wf n) {f : Nat} {fn : Fn} {d : DD} {fd : FuncData} (e1 : p.fns[f]? = some fn) (e2 : dd[f]? = some d) (hD : DefF K T f d fd) :
    FnOk P w K mg base (L2.CX P w) (4 * n + 3 + 1) (T.fa f) fd d.ps (spF T fn.np (callN p wf (n + 1) false f)) := by
  obtain ⟨d', fd', e2', hD', hst⟩ := J.defs f fn e1
  rw [e2] at e2'
  cases e2'
  unfold stB at hst
  simp only [Bool.and_eq_true, decide_eq_true_eq] at hst
  obtain ⟨⟨⟨⟨hsc, hN⟩, hps⟩, hle⟩, hck⟩ := hst
  have S := scB_ok hsc
  obtain ⟨dV, kV, doc, pm, cdv, ct, oc, an, od, osl, rfl, lk, hcd⟩ := hD.ex
  refine fn_of lk hcd S (fun vs H Q E h => by rw [h.1, hps]) fun A outer s H vs Q E hr hsp => ?_
  have R := frm_ok J L S (XJ := XJ) (hcd := fun z1 z2 => CJ _ _ _ e2 hD z1 z2) (P := P) (w := w) (base := base) (f := T.fa f) (cdv := cdv) (A := A) (outer := outer) (s := s) (H := H) (E := E) hr
  refine ⟨_, chkSs_ok (wf := wf) R hck, ?_⟩
  obtain ⟨hl, c, ws, s0, hc, rr, hm⟩ := hsp
  have hwl : ws.length = fn.np := by rw [rr.len, hl]
  refine ⟨c, ⟨ws.map .val ++ List.replicate (fn.nl - (ws.map Sl.val).length) .un, s0⟩, start_ok hc rr hN (by omega), ?_⟩
  simp only [callN, e1] at hm
  rw [if_pos hwl] at hm
  unfold runF at hm
  cases e : exSs p (callN p wf n) wf fn.body ⟨ws.map .val ++ List.replicate (fn.nl - (ws.map Sl.val).length) .un, s0⟩ with
  | stk => rw [e] at hm; exact hm
  | exc x st' =>
    rw [e] at hm
    intro cls dx σ' H' c' St h' rx
    obtain ⟨g1, g2, g3⟩ := end_ok hc.ow St h'
    exact hm cls dx H' c'.lv g1 g2 (RX.mono' g3 rx)
  | ok fl st' =>
    rw [e] at hm
    cases fl with
    | brk => exact (show False from hm).elim
    | cnt => exact (show False from hm).elim
    | nx =>
      intro σ' H' c' St h'
      obtain ⟨g1, g2, g3⟩ := end_ok hc.ow St h'
      exact hm .non H' c'.lv g1 g2 rw_non
    | ret w' =>
      intro v σ' H' c' St h' rw'
      obtain ⟨g1, g2, g3⟩ := end_ok hc.ow St h'
      exact hm v H' c'.lv g1 g2 (rw'.mono g3)
/-! ### an __init__ -/
theorem RSt.cons_un {c : Cf} {H : Hp} {r : List Sl} {s : List OO} {σ : L2.St} (h : RSt T c ⟨r, s⟩ σ H) (ow : c.ow = fun _ => none) : RSt T c ⟨.un :: r, s⟩ (none :: σ) H := by
  refine ⟨by have := h.len; simp at this ⊢; exact this, fun i w e => ?_, fun i o e => ?_, fun i a e => (by rw [ow] at e; cases e), fun i j a e => (by rw [ow] at e; cases e), fun i a e => (by rw [ow] at e; cases e), h.ou, h.ouh, h.sto⟩
  · cases i with
    | zero => cases e
    | succ i => exact h.val i w e
  · cases i with
    | zero => cases e
    | succ i =>
      obtain ⟨a, e1, _⟩ := h.own i o e
      rw [ow] at e1; cases e1
theorem ini_start {c : Cf} {H : Hp} {x dx : Addr} {C : Nat} {ws : List W} {vs : List V} {s : List OO} {N : List Str} (h : CalSt T (c.opn x) H s) (r : RWs T (c.opn x).lv (c.opn x).nf H ws vs) (hx : H x = some (.ins (T.ca C) dx [])) (nx : ¬ c.nf x) {nl : Nat} (hn : N.length = nl) (hl : ws.length + 1 ≤ nl) :
    RSt T (c.own 0 x) ⟨(.own (.ins C [] []) :: ws.map .val) ++ List.replicate (nl - (Sl.own (.ins C [] []) :: ws.map Sl.val).length) .un, s⟩ (L2.start N (.ref x :: vs)) H := by
  have h0 := start_ok (N := N.drop 1) (nl := nl - 1) h r (by simp; omega) (by omega)
  have h1 := RSt.cons_un h0 h.ow
  have h2 := RSt.setO (i := 0) (o := .ins C [] []) h1 (fun z => nx (.inr z)) ⟨dx, [], hx, rfl, RWs.nil⟩ (by simp)
  have e1 : (nl - 1 - (ws.map Sl.val).length) = nl - (Sl.own (.ins C [] []) :: ws.map Sl.val).length := by simp; omega
  have e2 : (none :: L2.start (N.drop 1) vs).set 0 (some (V.ref x)) = L2.start N (.ref x :: vs) := by
    unfold L2.start
    simp only [List.set_cons_zero, List.map_cons, List.cons_append, List.length_drop, List.length_cons]
    congr 2
    congr 1
    omega
  rw [e2] at h2
  rw [e1] at h2
  exact h2
theorem ini_ok (J : Prj T p K mg inf m sn dd) (XJ : XP T p K mg inf P w base) (CJ : CdJ T K mg inf base dd) {n : Nat} (L : Lev T p K mg dd P w base wf n) {C g : Nat} {cl : Cl} {fn : Fn} {d : DD} {fd : FuncData} (e0 : p.cls[C]? = some cl) (e00 : cl.init = some g) (e1 : p.fns[g]? = some fn) (e2 : dd[g]? = some d) (hD : DefF K T g d fd) :
    FnOk P w K mg base (L2.CX P w) (4 * n + 3 + 1) (T.fa g) fd d.ps (spI T fn.np C (callN p wf (n + 1) true C)) := by
  obtain ⟨d', fd', e2', hD', hst⟩ := J.defs g fn e1
  rw [e2] at e2'
  cases e2'
  unfold stB at hst
  simp only [Bool.and_eq_true, decide_eq_true_eq] at hst
  obtain ⟨⟨⟨⟨hsc, hN⟩, hps⟩, hle⟩, hck⟩ := hst
  have S := scB_ok hsc
  obtain ⟨dV, kV, doc, pm, cdv, ct, oc, an, od, osl, rfl, lk, hcd⟩ := hD.ex
  refine fn_of lk hcd S (fun vs H Q E h => by rw [h.1, hps]) fun A outer s H vs Q E hr hsp => ?_
  have R := frm_ok J L S (XJ := XJ) (hcd := fun z1 z2 => CJ _ _ _ e2 hD z1 z2) (P := P) (w := w) (base := base) (f := T.fa g) (cdv := cdv) (A := A) (outer := outer) (s := s) (H := H) (E := E) hr
  refine ⟨_, chkSs_ok (wf := wf) R hck, ?_⟩
  obtain ⟨hl, x, dx, vs', c, ws, s0, rfl, hx, hc, nx, rr, hm⟩ := hsp
  have hwl : ws.length + 1 = fn.np := by rw [rr.len, ← hl]; rfl
  have ow : c.ow = fun _ => none := hc.ow
  have nou : ¬ c.ou x := fun z => nx (.inr z)
  refine ⟨c.own 0 x, ⟨(.own (.ins C [] []) :: ws.map .val) ++ List.replicate (fn.nl - (Sl.own (.ins C [] []) :: ws.map Sl.val).length) .un, s0⟩, ini_start hc rr hx nx hN (by omega), ?_⟩
  simp only [callN, e0, e00, e1] at hm
  rw [if_pos hwl] at hm
  unfold runF at hm
  -- the frame's end seen from outside
  have fin : ∀ {c' : Cf} {st' : St} {σ' : L2.St} {H' : Hp}, Stp (c.own 0 x) H c' H' → RSt T c' st' σ' H' → StpX x c H (c.at c'.lv) H' ∧ RSto T c'.lv (c.at c'.lv).nf H' st'.s ∧ Mn c'.lv c'.nf H' (c.at c'.lv).lv (c.at c'.lv).nf H' := fun {c' st' σ' H'} St h' => by
    have sub : ∀ a, (c.at c'.lv).nf a → c'.nf a := fun a q => by
      rcases q with (q | ⟨i, q⟩) | q
      · exact .inl (.inl q)
      · have q : c.ow i = some a := q
        rw [ow] at q; cases q
      · refine .inr ?_
        rw [St.ou]; exact q
    have mn : Mn c'.lv c'.nf H' (c.at c'.lv).lv (c.at c'.lv).nf H' := ⟨fun _ _ e _ _ => e, fun a q => .inl (sub a q), fun _ _ e => e, fun _ _ e => e⟩
    have omu : ∀ b, (c.own 0 x).mu b → c.mu b ∨ b = x := fun b q => by
      rcases q with q | ⟨j, q⟩
      · exact .inl (.inl q)
      · unfold Cf.own at q
        simp only at q
        split at q
        · cases q; exact .inr rfl
        · exact .inl (.inr ⟨j, q⟩)
    refine ⟨⟨fun b o e t n ne => St.fr b o e t fun q => ?_, fun b q => ?_, St.lv, rfl, St.kk⟩, ⟨h'.sto.len, h'.sto.nd, fun n o a e1 e2 => (h'.sto.at_ n o a e1 e2).mono mn rfl⟩, mn⟩
    · rcases omu b q with z | z
      · exact n z
      · exact ne z
    · rcases q with q | ⟨i, q⟩
      · rcases St.mw b (.inl q) with z | z
        · rcases omu b z with y | y
          · exact .inl y
          · exact .inr (.inr y)
        · exact .inr (.inl z)
      · have q : c.ow i = some b := q
        rw [ow] at q; cases q
  cases e : exSs p (callN p wf n) wf fn.body ⟨(.own (.ins C [] []) :: ws.map .val) ++ List.replicate (fn.nl - (Sl.own (.ins C [] []) :: ws.map Sl.val).length) .un, s0⟩ with
  | stk => rw [e] at hm; exact hm
  | exc xx st' =>
    rw [e] at hm
    intro cls dx σ' H' c' St h' rx
    obtain ⟨g1, g2, g3⟩ := fin St h'
    exact hm cls dx H' c'.lv g1 g2 (RX.mono' g3 rx)
  | ok fl st' =>
    rw [e] at hm
    cases fl with
    | brk => exact (show False from hm).elim
    | cnt => exact (show False from hm).elim
    | ret w' => exact (show False from hm).elim
    | nx =>
      intro σ' H' c' St h'
      obtain ⟨g1, g2, g3⟩ := fin St h'
      unfold endN at hm
      cases er : st'.r[0]? with
      | none => simp only [er] at hm
      | some sl =>
      cases sl with
      | un => simp only [er] at hm
      | val _ => simp only [er] at hm
      | own o =>
      cases o with
      | lst _ => simp only [er] at hm
      | dct _ _ => simp only [er] at hm
      | tab => simp only [er] at hm
      | ins C' ns xs =>
      simp only [er] at hm
      obtain ⟨a, k1, k2, dx', vs2, k3, k4, k5⟩ := h'.own 0 _ er
      have ax : a = x := by
        rcases St.ow 0 a k1 with z | ⟨o, z, zi⟩
        · have z : (if (0 : Nat) = 0 then some x else c.ow 0) = some a := z
          rw [if_pos rfl] at z
          cases z; rfl
        · rw [k3] at z; cases z; cases zi
      subst ax
      have nlv : a ∉ c'.lv := h'.dis 0 a k1
      cases fz : cl.frozen with
      | true =>
        rw [fz] at hm
        simp only [if_true] at hm
        refine hm H' c'.lv g1 g2 ?_
        simp only [RW]
        refine ⟨a, dx', vs2, rfl, k3, fun z => ?_, k4, k5.mono g3⟩
        rcases z with (z | ⟨i, z⟩) | z
        · exact nlv z
        · have z : c.ow i = some a := z
          rw [ow] at z; cases z
        · exact nou z
      | false =>
        rw [fz] at hm
        simp only [Bool.false_eq_true, if_false] at hm
        have lvx : ∀ (n : Nat) b, c'.lv[n]? = some b → (c'.lv ++ [a])[n]? = some b := fun n b e => by
          rw [List.getElem?_append_left (List.getElem?_eq_some_iff.mp e).1]; exact e
        have mn2 : Mn c'.lv c'.nf H' (c.at (c'.lv ++ [a])).lv (c.at (c'.lv ++ [a])).nf H' := ⟨fun _ _ e _ _ => e, fun b q => by
          rcases q with (q | ⟨i, q⟩) | q
          · rcases List.mem_append.mp (show b ∈ c'.lv ++ [a] from q) with z | z
            · exact .inl (.inl (.inl z))
            · have : b = a := by simpa using z
              subst this
              exact .inl (.inl (.inr ⟨0, k1⟩))
          · have q : c.ow i = some b := q
            rw [ow] at q; cases q
          · refine .inl (.inr ?_)
            rw [St.ou]; exact q, lvx, fun _ _ e => e⟩
        have hln : st'.s.length = c'.lv.length := h'.sto.len
        refine hm H' (c'.lv ++ [a]) ⟨g1.fr, fun b q => ?_, fun n b e => lvx n b (g1.lv n b e), rfl, g1.kk⟩ ⟨by simp [hln], ?_, fun n o b z1 z2 => ?_⟩ ?_
        · rcases q with q | ⟨i, q⟩
          · rcases List.mem_append.mp (show b ∈ c'.lv ++ [a] from q) with z | z
            · exact g1.mw b (.inl z)
            · exact .inr (.inr (by simpa using z))
          · have q : c.ow i = some b := q
            rw [ow] at q; cases q
        · refine List.nodup_append.mpr ⟨h'.sto.nd, by simp, fun y hy z hz => ?_⟩
          have : z = a := by simpa using hz
          subst this
          rintro rfl
          exact nlv hy
        · by_cases hn : n < st'.s.length
          · rw [List.getElem?_append_left hn] at z1
            rw [List.getElem?_append_left (by omega)] at z2
            exact (h'.sto.at_ n o b z1 z2).mono mn2 rfl
          · rw [List.getElem?_append_right (by omega)] at z1
            rw [List.getElem?_append_right (by omega), ← hln] at z2
            cases hk : n - st'.s.length with
            | zero =>
              rw [hk] at z1 z2
              cases z1; cases z2
              exact ⟨dx', vs2, k3, k4, k5.mono mn2⟩
            | succ k => rw [hk] at z1; simp at z1
        · simp only [RW]
          exact ⟨a, rfl, by rw [hln]; simp⟩
/-! ### all levels -/
theorem lev_ok (J : Prj T p K mg inf m sn dd) (XJ : XP T p K mg inf P w base) (CJ : CdJ T K mg inf base dd) : ∀ n, Lev T p K mg dd P w base wf n
  | 0 => by
    have np : ∀ {f : Nat} {fn : Fn} {d : DD}, p.fns[f]? = some fn → dd[f]? = some d → d.ps.length = fn.np := fun {f fn d} e1 e2 => by
      obtain ⟨d', fd', e2', hD', hst⟩ := J.defs f fn e1
      rw [e2] at e2'
      cases e2'
      unfold stB at hst
      simp only [Bool.and_eq_true, decide_eq_true_eq] at hst
      exact hst.1.1.2
    exact ⟨fun f fn d fd e1 e2 hD => ⟨fun vs H Q E h => by rw [h.1, np e1 e2], fun A outer s H args us vs Q E hr e0 hb r h => by
        obtain ⟨_, c, ws, s, _, _, z⟩ := h
        exact (show False from z).elim⟩,
      fun C c g fn d fd e0 e00 e1 e2 hD => ⟨fun vs H Q E h => by rw [h.1, np e1 e2], fun A outer s H args us vs Q E hr e0 hb r h => by
        obtain ⟨_, x, dx, vs', c, ws, s, _, _, _, _, _, z⟩ := h
        exact (show False from z).elim⟩⟩
  | n + 1 => by
    have L := lev_ok J XJ CJ n
    exact ⟨fun f fn d fd e1 e2 hD => fn_ok J XJ CJ L e1 e2 hD, fun C c g fn d fd e0 e00 e1 e2 hD => ini_ok J XJ CJ L e0 e00 e1 e2 hD⟩
end
end Ev

/-! S30: the facts behind the program's top, looked up by a Hook. -/
namespace Ev
open PySem PySem.Spec PyProof.Rows L2 Calls ClX RZ He
/-- where a def stands: a global, a method, a property's getter -/
inductive At where
  | glo (x : Str) | met (c m : Str) | prp (c m : Str)
def At.ad (K : PySem.W.Frag) : At → Addr
  | .glo x => ga K x
  | .met c m => ma K (ga K c) m
  | .prp c m => match PySem.W.recIn K (ma K (ga K c) m) "property" with
    | some (.ref g :: _) => g
    | _ => 0
/-- a program's tables -/
structure TD where
  syms : List Str
  fat : List At
  can : List Str
def symF (l : List Str) (i : Nat) : Str := match l[i]? with
  | some s => s
  | none => ⟨#[1114112 + i]⟩
def symB (l : List Str) : Bool := decide l.Nodup && l.all fun s => s.cps.all fun c => decide (c < 1114112)
theorem symF_inj {l : List Str} (h : symB l = true) : ∀ i j, symF l i = symF l j → i = j := by
  unfold symB at h
  simp only [Bool.and_eq_true, decide_eq_true_eq, List.all_eq_true] at h
  obtain ⟨nd, ok⟩ := h
  have odd : ∀ (i : Nat) (s : Str) (j : Nat), l[i]? = some s → s ≠ ⟨#[1114112 + j]⟩ := fun i s j e z => by
    have := ok s (List.mem_of_getElem? e)
    rw [z] at this
    simp at this
    omega
  intro i j e
  unfold symF at e
  cases e1 : l[i]? with
  | none =>
    cases e2 : l[j]? with
    | none =>
      simp only [e1, e2, Str.mk.injEq] at e
      have : [1114112 + i] = [1114112 + j] := by simpa using e
      simp at this
      exact this
    | some s =>
      simp only [e1, e2] at e
      exact (odd j s i e2 e.symm).elim
  | some s =>
    cases e2 : l[j]? with
    | none =>
      simp only [e1, e2] at e
      exact (odd i s j e1 e).elim
    | some s' =>
      simp only [e1, e2] at e
      subst e
      exact nodup_ix nd e1 e2
def tbOf (td : TD) (K : PySem.W.Frag) : Tb where
  K := K
  ca := fun C => ga K (td.can.getD C Str.empty)
  sy := symF td.syms
  gv := fun _ => .non
  fa := fun f => (td.fat.getD f (.glo Str.empty)).ad K
  ta := (cT K ("law", none)).2
  tq := ("law" : Str) ++ ".<locals>." ++ "<lambda>"
/-! ### looks -/
def methB (K : PySem.W.Frag) (C : Addr) (m : Str) (f : Addr) : Bool := eqO (PySem.W.findIn K (.ref C) m) (some (some (.ref f))) && PySem.W.isFn K (.ref f) && PySem.W.keepIn K (.ref f)
def propB (K : PySem.W.Frag) (C : Addr) (m : Str) (f : Addr) : Bool := match PySem.W.findIn K (.ref C) m with
  | some (some (.ref q)) => eqO (PySem.W.specialIn K (.ref q) "__get__") (some (some (.builtin "property.__get__"))) && decide (PySem.W.takesIn K (.ref q) = some true) && (match PySem.W.recIn K q "property" with
    | some (.ref g :: _) => decide (g = f)
    | _ => false)
  | _ => false
def conB (K : PySem.W.Frag) (C : Addr) (m : Str) (w : W) : Bool := match vC w, PySem.W.findIn K (.ref C) m with
  | some v, some (some u) => He.relB v u && eqO (PySem.W.specialIn K u "__get__") (some none) && !(PySem.W.copiedNames.contains m)
  | _, _ => false
def konB (K : PySem.W.Frag) (C : Addr) (m : Str) (w : W) : Bool := match vC w, PySem.W.findCls K (.ref C) (.type "type") m with
  | some v, some (.val u) => He.relB v u && PySem.W.readsIn K C (.type "type") && eqO (PySem.W.specialIn K (.ref C) "__getattribute__") (some (some (.builtin "type.__getattribute__")))
  | _, _ => false
def clsB (p : Pg) (T : Tb) (K : PySem.W.Frag) (C : Nat) (c : Cl) : Bool :=
  let a := T.ca C
  PySem.W.plainGet K a Str.empty && (PySem.W.hasDictIn K a && (PySem.W.plainOver K a && eqO (PySem.W.findIn K (.ref a) "__setattr__") (some (some (.builtin "object.__setattr__"))))) &&
  eqO (PySem.W.findIn K (.ref a) "__class__") (some (some (.builtin "object.__class__"))) &&
  eqO (PySem.W.specialIn K (.builtin "object.__class__") "__get__") (some (some (.builtin "getset_descriptor.__get__"))) &&
  decide (PySem.W.takesIn K (.builtin "object.__class__") = some true) && decide (PySem.W.mroIn K a (.type "object") = some true) &&
  ([0, 1, 2, 3, 4, 5, 6].all fun n => decide (PySem.W.kitOne K (.ref a) (.type (tyN n)) = some false) && decide (PySem.W.kitOne K (.type (tyN n)) (.ref a) = some false)) &&
  ((List.range p.cls.length).all fun D => match clsG p D with
    | some _ => decide (PySem.W.kitOne K (.ref a) (.ref (T.ca D)) = some (subC p C D))
    | none => true) &&
  (if (c.meths.lookup p.sEq).isSome then ([0, 1, 2, 3, 4, 5, 6].all fun n => PySem.W.notFirst K a (.type (tyN n))) && ((List.range p.cls.length).all fun D => match clsG p D with
      | some _ => PySem.W.notFirst K a (.ref (T.ca D))
      | none => true) && eqO (PySem.W.findIn K (.ref a) "__ne__") (some (some (.builtin "object.__ne__"))) else true) &&
  PySem.W.selfFirst K a &&
  (c.flds.all fun f => eqO (PySem.W.findIn K (.ref a) (T.sy f)) (some none)) &&
  (c.meths.all fun q => methB K a (T.sy q.1) (T.fa q.2)) && (c.props.all fun q => propB K a (T.sy q.1) (T.fa q.2)) && (c.consts.all fun q => conB K a (T.sy q.1) q.2)
def factB (p : Pg) (inf : Inf) (T : Tb) (K : PySem.W.Frag) : Bool :=
  ((List.range p.cls.length).all fun C => match clsG p C with
    | some c => clsB p T K C c
    | none => true) &&
  ((List.range p.cls.length).all fun C => match p.cls[C]? with
    | some c => c.consts.all fun q => konB K (T.ca C) (T.sy q.1) q.2
    | none => true) &&
  (inf.fnN.all fun q => eqO (PySem.W.nsIn K mainGlobals q.1) (some (some (.ref (T.fa q.2)))) && PySem.W.keepIn K (.ref (T.fa q.2))) &&
  (inf.clN.all fun q => eqO (PySem.W.nsIn K mainGlobals q.1) (some (some (.ref (T.ca q.2))))) &&
  (inf.cons.all fun q => match vC q.2, PySem.W.nsIn K mainGlobals q.1 with
    | some v, some (some u) => He.relB v u
    | _, _ => false) &&
  (inf.free.all fun x => eqO (PySem.W.nsIn K mainGlobals x) (some none)) &&
  (inf.makes.all fun q => match (p.cls[q.1]?).bind (·.init) with
    | some g => PySem.W.makesIn K (T.ca q.1) && eqO (PySem.W.findIn K (.ref (T.ca q.1)) "__init__") (some (some (.ref (T.fa g)))) && PySem.W.isFn K (.ref (T.fa g)) && PySem.W.keepIn K (.ref (T.ca q.1))
    | none => false)
/-! ### defs -/
structure DX where
  at_ : At
  d : DD
  dfl : List Dv := []
  kwd : List (Str × Dv) := []
def fnO (K : PySem.W.Frag) (a : Addr) : FnW := match K.lookup a with
  | some ⟨_, _, .func fd, _⟩ => some (fd.name, fd.qualname, fd.params, fd.body, fd.scope, fd.globals, fd.closure, fd.builtins)
  | _ => none
def DX.val (x : DX) : FnW := some (x.d.name, x.d.qual, x.d.params, .stmts x.d.body, x.d.scope, mainGlobals, [], builtinsNs)
def DX.ok (K : PySem.W.Frag) (x : DX) : Bool := match K.lookup (x.at_.ad K) with
  | some ⟨_, _, .func fd, _⟩ => PySem.W.codeIn K fd.code x.d.qual && (dflB K fd.defaults (x.dfl.map (Dv.v K)) && kwdB K fd.kwdefaults (x.kwd.map fun q => (q.1, q.2.v K)))
  | _ => false
/-- what a look tells of a def -/
structure FunX (K : PySem.W.Frag) (x : DX) (fd : FuncData) : Prop where
  ex : ∃ (dV kV doc pm cdv ct oc : Value) (an od : Option Addr) (osl : Array (Option Value)), fd = PySem.W.fnOf x.d.name x.d.qual x.d.params x.d.body x.d.scope dV kV doc pm an cdv ct ∧ K.lookup (x.at_.ad K) = some ⟨oc, od, .func fd, osl⟩ ∧ PySem.W.codeIn K cdv x.d.qual = true ∧
    DflV K dV (x.dfl.map (Dv.v K)) ∧ KwdV K kV (x.kwd.map fun q => (q.1, q.2.v K))
theorem DX.fun_ {K : PySem.W.Frag} {x : DX} (e : fnO K (x.at_.ad K) = x.val) (c2 : x.ok K = true) : ∃ fd, FunX K x fd := by
  unfold fnO at e
  unfold DX.ok at c2
  cases q : K.lookup (x.at_.ad K) with
  | none =>
    rw [q] at c2
    cases c2
  | some o =>
    obtain ⟨oc, od, dt, osl⟩ := o
    rw [q] at c2 e
    cases dt with
    | func fd =>
      obtain ⟨n1, n2, n3, n4, n5, n6, n7, n8, n9, n10, n11, n12, n13, n14, n15⟩ := fd
      have e2 : (some (n1, n2, n3, n4, n5, n6, n7, n15) : FnW) = some (x.d.name, x.d.qual, x.d.params, .stmts x.d.body, x.d.scope, mainGlobals, [], builtinsNs) := e
      simp only [Option.some.injEq, Prod.mk.injEq] at e2
      obtain ⟨h1, h2, h3, h4, h5, h6, h7, h8⟩ := e2
      subst h1 h2 h3 h4 h5 h6 h7 h8
      have c3 : (PySem.W.codeIn K n13 x.d.qual && (dflB K n8 (x.dfl.map (Dv.v K)) && kwdB K n9 (x.kwd.map fun q => (q.1, q.2.v K)))) = true := c2
      obtain ⟨k1, k2⟩ := ba c3
      obtain ⟨k3, k4⟩ := ba k2
      exact ⟨_, ⟨n8, n9, n10, n11, n13, n14, oc, n12, od, osl, rfl, q, k1, dflB_ok k3, kwdB_ok k4⟩⟩
    | _ => cases c2
/-! ### exceptions, refused lambdas -/
/-- an exception class that is raised: its __init__ -/
structure XC where
  C : Nat
  dx : DX
  me : Str
/-- the law's defs that tell how a lambda ends -/
structure RF where
  x : Str
  dr : DX
  ask : Str
  told : Str
  e : Str
  cP : Str
  fx : Str
  df : DX
  fe : Str
structure XT where
  xc : List XC := []
  rf : Option RF := none
  file : Str := Str.empty
def XT.dx (xt : XT) : List DX := match xt.rf with
  | some r => [r.dr, r.df]
  | none => []
abbrev FnC : Type := Option (Str × Str × Arguments × FuncBody × Scope × Addr × List Str × Addr)
def fnC (K : PySem.W.Frag) (a : Addr) : FnC := match K.lookup a with
  | some ⟨_, _, .func fd, _⟩ => some (fd.name, fd.qualname, fd.params, fd.body, fd.scope, fd.globals, fd.closure.map Prod.fst, fd.builtins)
  | _ => none
def DX.valC (x : DX) : FnC := some (x.d.name, x.d.qual, x.d.params, .stmts x.d.body, x.d.scope, mainGlobals, ["__class__"], builtinsNs)
def exClsB (K : PySem.W.Frag) (C : Addr) : Bool := match K.lookup C with
  | some ⟨.type t, _, .cls ci, sl⟩ => decide (t = "type") && (match ci.mro with
    | .ref b :: bm => decide (b = C) && PySem.HandSPX.refsVE bm
    | _ => false) && ci.hasDict && !ci.hasDel && (match sl.toList with
    | [_, _, _, _, some (.builtin n), _] => decide (n = "ValueError.__new__")
    | _ => false)
  | _ => false
theorem exClsB_ok {K : PySem.W.Frag} {C : Addr} (h : exClsB K C = true) : ∃ nm q N bs bm sn sub ab col dd k0 k1 k2 k3 k5, K.lookup C = some (excClassObj nm q C N bs bm true sn sub ab col dd k0 k1 k2 k3 k5 "ValueError.__new__") ∧ PySem.HandSPX.refsVE bm = true := by
  unfold exClsB at h
  split at h
  · rename_i t dd ci sl hl
    obtain ⟨nm, bs, mro, N, q, hdt, sn, sub, ab, col, hdl⟩ := ci
    simp only [Bool.and_eq_true, decide_eq_true_eq, Bool.not_eq_true'] at h
    obtain ⟨⟨⟨⟨h1, h2⟩, h3⟩, h4⟩, h5⟩ := h
    subst h1 h3 h4
    split at h2
    · rename_i b bm
      simp only [Bool.and_eq_true, decide_eq_true_eq] at h2
      obtain ⟨h6, h7⟩ := h2
      subst h6
      split at h5
      · rename_i k0 k1 k2 k3 n k5 hsl
        have := of_decide_eq_true h5
        subst this
        have es : sl = #[k0, k1, k2, k3, some (.builtin "ValueError.__new__"), k5] := by
          rw [← Array.toList_inj, hsl]
        subst es
        exact ⟨nm, q, N, bs, bm, sn, sub, ab, col, dd, k0, k1, k2, k3, k5, hl, h7⟩
      · cases h5
    · cases h2
  · cases h
def xcB (p : Pg) (T : Tb) (K : PySem.W.Frag) (file : Str) (x : XC) : Bool :=
  exClsB K (T.ca x.C) && eqO (PySem.W.findIn K (.ref (T.ca x.C)) "__setattr__") (some (some (.builtin "object.__setattr__"))) && decide (PySem.W.subIn K (.ref (T.ca x.C)) (.type "BaseException") = some true) &&
  decide (PySem.W.typeIn K (.ref (T.ca x.C)) = some (.type "type")) && PySem.W.keepIn K (.ref (T.ca x.C)) && eqO (PySem.W.findIn K (.ref (T.ca x.C)) "__init__") (some (some (.ref (x.dx.at_.ad K)))) &&
  decide (PySem.W.typeIn K (.ref (x.dx.at_.ad K)) = some (.type "function")) &&
  (match K.lookup (x.dx.at_.ad K) with
  | some ⟨_, _, .func fd, _⟩ => PySem.W.codeIn K fd.code x.dx.d.qual && (dflB K fd.defaults [] && kwdB K fd.kwdefaults []) && (match fd.code with
    | .ref cda => (match K.lookup cda with
      | some ⟨_, _, .fields vs, _⟩ => (match vs[2]? with
        | some (Value.str f _) => decide (f = file)
        | _ => false)
      | _ => false)
    | _ => false) && (match fd.closure with
    | [(_, cc)] => (match K.lookup cc with
      | some ⟨_, _, .cell (some (.ref b)), _⟩ => decide (b = T.ca x.C)
      | _ => false)
    | _ => false)
  | _ => false) &&
  decide (PySem.W.mroIn K (T.ca x.C) (.ref (T.ca x.C)) = some true) && eqO (PySem.W.ks_superIn K (T.ca x.C) (T.ca x.C) "__init__") (some (some (.builtin "ValueError.__init__"))) && decide (PySem.W.subIn K (.ref (T.ca x.C)) (.type "ValueError") = some true) &&
  eqO (PySem.W.nsIn K cStatics "thirdparty.any") (some none) && (match (p.cls[x.C]?).bind (·.exn) with
    | some (_, ns, _) => ns.all fun n => eqO (PySem.W.findIn K (.ref (T.ca x.C)) (T.sy n)) (some none)
    | none => false)
def rfB (p : Pg) (T : Tb) (K : PySem.W.Frag) (r : RF) : Bool :=
  PySem.W.keepIn K (.ref (r.dr.at_.ad K)) && PySem.W.keepIn K (.ref (r.df.at_.ad K)) && eqO (PySem.W.nsIn K mainGlobals r.x) (some (some (.ref (r.dr.at_.ad K)))) && eqO (PySem.W.nsIn K mainGlobals r.fx) (some (some (.ref (r.df.at_.ad K)))) &&
  eqO (PySem.W.nsIn K mainGlobals r.cP) (some (some (.ref (ga K r.cP)))) && p.rok.all fun C => decide (PySem.W.exmOne K (.ref (T.ca C)) (.ref (ga K r.cP)) = some true) && xfB K (T.ca C) && eqO (PySem.W.findIn K (.ref (T.ca C)) "code") (some none) &&
    (clS T p.rfd).all fun q => eqO (PySem.W.findIn K (.ref (T.ca C)) q.2) (some none)
def exB (p : Pg) (T : Tb) (K : PySem.W.Frag) (xt : XT) : Bool := (xt.xc.all fun x => xcB p T K xt.file x) && (match xt.rf with
  | some r => rfB p T K r
  | none => true)
def tfOf (xt : XT) : List Defn := match xt.rf with
  | some _ => [("law", none)]
  | none => []
abbrev AlX : Type := Bool × List FnW × List FnC
def obsX (p : Pg) (inf : Inf) (td : TD) (dx : List DX) (xt : XT) (K : PySem.W.Frag) (b : Bool) : AlX := (factB p inf (tbOf td K) K && ((dx ++ xt.dx).all fun x => x.ok K) && exB p (tbOf td K) K xt && b, (dx ++ xt.dx).map fun x => fnO K (x.at_.ad K), xt.xc.map fun x => fnC K (x.dx.at_.ad K))
def valX (dx : List DX) (xt : XT) : AlX := (true, (dx ++ xt.dx).map DX.val, xt.xc.map fun x => x.dx.valC)
/-- what is told -/
structure SaysX (p : Pg) (inf : Inf) (td : TD) (dx : List DX) (xt : XT) (h : Heap) (K : PySem.W.Frag) : Prop where
  t : obsX p inf td dx xt K true = valX dx xt
  hd : ∀ q ∈ tfOf xt, PySem.W.codeHdIn K (cT K q).1 (cT K q).2 = true
  out : ∀ q ∈ tfOf xt, K.lookup (cT K q).2 = none
  empty : ∀ q ∈ tfOf xt, h.get? (cT K q).2 = some { cls := .none, data := .fields #[] }
def frX (g : Addr → Option Obj) (n : Nat) : PySem.W.Frag := frT g (cStatics :: asD g n)
def obsXG (n : Nat) (p : Pg) (inf : Inf) (td : TD) (dx : List DX) (xt : XT) (g : Addr → Option Obj) : AlX := obsX p inf td dx xt (frX g n) (tabsB g (tfOf xt) (frX g n))
theorem saysX_of {n : Nat} {p : Pg} {inf : Inf} {td : TD} {dx : List DX} {xt : XT} {h : Heap} (e : obsXG n p inf td dx xt h.get? = valX dx xt) : SaysX p inf td dx xt h (frX h.get? n) := by
  have e1 : (factB p inf (tbOf td (frX h.get? n)) (frX h.get? n) && ((dx ++ xt.dx).all fun x => x.ok (frX h.get? n)) && exB p (tbOf td (frX h.get? n)) (frX h.get? n) xt && tabsB h.get? (tfOf xt) (frX h.get? n)) = true := congrArg (fun z : AlX => z.1) e
  obtain ⟨e2, e3⟩ := ba e1
  have key : ∀ q ∈ tfOf xt, PySem.W.codeHdIn (frX h.get? n) (cT (frX h.get? n) q).1 (cT (frX h.get? n) q).2 = true ∧ ∃ o, h.get? (cT (frX h.get? n) q).2 = some o ∧ emptyTab o = true := fun q hq => by
    obtain ⟨h3, h4⟩ := ba (List.all_eq_true.mp e3 q hq)
    refine ⟨h3, ?_⟩
    split at h4
    · rename_i o ho
      exact ⟨o, ho, h4⟩
    · cases h4
  refine ⟨?_, fun q hq => (key q hq).1, fun q hq => ?_, fun q hq => ?_⟩
  · have e4 : (factB p inf (tbOf td (frX h.get? n)) (frX h.get? n) && ((dx ++ xt.dx).all fun x => x.ok (frX h.get? n)) && exB p (tbOf td (frX h.get? n)) (frX h.get? n) xt && true) = true := by
      rw [e2] <;> rfl
    exact Prod.ext e4 (show (obsXG n p inf td dx xt h.get?).2 = (valX dx xt).2 from congrArg (fun z : AlX => z.2) e)
  · obtain ⟨_, o, z1, z2⟩ := key q hq
    exact frT_none z1 z2
  · obtain ⟨_, o, z1, z2⟩ := key q hq
    rw [z1, emptyTab_eq z2]
def hookX (n : Nat) (p : Pg) (inf : Inf) (td : TD) (dx : List DX) (xt : XT) : PySem.W.Hook where
  α := AlX
  obs := fun s => obsXG n p inf td dx xt s.heap.get?
  val := fun _ => valX dx xt
  says := fun _ h => ∃ K : PySem.W.Frag, K.In h ∧ SaysX p inf td dx xt h K
  of := fun _ _ e => ⟨_, frT_in, saysX_of e⟩
  keeps := fun _ _ _ ⟨K, hK, c⟩ k => ⟨K, PySem.W.Frag.In.keeps hK k, ⟨c.t, c.hd, c.out, fun q hq => k _ _ (c.empty q hq)⟩⟩
theorem obsXG_eq {n : Nat} {p : Pg} {inf : Inf} {td : TD} {dx : List DX} {xt : XT} {g : Addr → Option Obj} {s : Shared} (h : ∀ a, g a = s.heap.get? a) : obsXG n p inf td dx xt g = (hookX n p inf td dx xt).obs s := by
  have e : g = s.heap.get? := funext h
  rw [e] <;> rfl
end Ev

/-! S31: from the looks to what the checks ask. -/
namespace Ev
open PySem PySem.Spec PyProof.Rows L2 Calls ClX RZ He
section
variable {p : Pg} {T : Tb} {K : PySem.W.Frag} {inf : Inf} {m sn : Nat} {mg : Str → Option Value} {h : Heap}
theorem tyN_six (n : Nat) : ∃ k, k ∈ [0, 1, 2, 3, 4, 5, 6] ∧ tyN n = tyN k := by
  match n with
  | 0 => exact ⟨0, by simp, rfl⟩
  | 1 => exact ⟨1, by simp, rfl⟩
  | 2 => exact ⟨2, by simp, rfl⟩
  | 3 => exact ⟨3, by simp, rfl⟩
  | 4 => exact ⟨4, by simp, rfl⟩
  | 5 => exact ⟨5, by simp, rfl⟩
  | n + 6 => exact ⟨6, by simp, rfl⟩
theorem clsG_lt {C : Nat} {c : Cl} (e : clsG p C = some c) : C ∈ List.range p.cls.length := by
  unfold clsG at e
  cases q : p.cls[C]? with
  | none => rw [q] at e; cases e
  | some c' => exact List.mem_range.mpr (List.getElem?_eq_some_iff.mp q).1
theorem look_mem {β : Type} {l : List (Nat × β)} {a : Nat} {b : β} (e : l.lookup a = some b) : (a, b) ∈ l := by
  induction l with
  | nil => cases e
  | cons q r ih =>
    obtain ⟨k, v⟩ := q
    rw [List.lookup_cons] at e
    split at e
    · rename_i hk
      cases e
      rw [beq_iff_eq] at hk
      subst hk
      exact List.mem_cons_self
    · exact List.mem_cons_of_mem _ (ih e)
theorem meth_of_B {C : Addr} {mm : Str} {f : Addr} (q : methB K C mm f = true) : Meth K C mm f := by
  unfold methB at q
  simp only [Bool.and_eq_true] at q
  exact ⟨eqO_ok q.1.1, q.1.2, q.2⟩
theorem prop_of_B {C : Addr} {mm : Str} {f : Addr} (q : propB K C mm f = true) : ∃ z, PropOf K C mm z f := by
  unfold propB at q
  split at q
  · rename_i z hz
    simp only [Bool.and_eq_true, decide_eq_true_eq] at q
    obtain ⟨⟨q1, q2⟩, q3⟩ := q
    refine ⟨z, hz, eqO_ok q1, q2, ?_⟩
    split at q3
    · rename_i g rest hg
      have := of_decide_eq_true q3
      subst this
      exact ⟨rest, hg⟩
    · cases q3
  · cases q
theorem con_of_B {C : Addr} {mm : Str} {w : W} (q : conB K C mm w = true) : ∃ v u, vC w = some v ∧ Con K C mm v u := by
  unfold conB at q
  split at q
  · rename_i v u hv hu
    simp only [Bool.and_eq_true, Bool.not_eq_true'] at q
    exact ⟨v, u, hv, hu, relB_ok q.1.1, eqO_ok q.1.2, q.2⟩
  · cases q
theorem kon_of_B {C : Addr} {mm : Str} {w : W} (q : konB K C mm w = true) : ∃ mc v u, vC w = some v ∧ CRead K C mc ∧ CVal K C mc mm v u := by
  unfold konB at q
  split at q
  · rename_i v u hv hu
    simp only [Bool.and_eq_true] at q
    exact ⟨_, v, u, hv, ⟨q.1.2, eqO_ok q.2⟩, ⟨hu, relB_ok q.1.1⟩⟩
  · cases q
theorem cls_of_B {C : Nat} {c : Cl} (q : clsB p T K C c = true) : ClsF T K p C c := by
  unfold clsB at q
  simp only [Bool.and_eq_true, List.all_eq_true, decide_eq_true_eq] at q
  obtain ⟨⟨⟨⟨⟨⟨⟨⟨⟨⟨⟨⟨⟨q1, q2, q3, q4⟩, q5⟩, q6⟩, q7⟩, q8⟩, q9⟩, q10⟩, q11⟩, q12⟩, q13⟩, q14⟩, q15⟩, q16⟩ := q
  have kit3 : ∀ D d, clsG p D = some d → PySem.W.kitOne K (.ref (T.ca C)) (.ref (T.ca D)) = some (subC p C D) := fun D d e => by
    have := q10 D (clsG_lt e)
    rw [e] at this
    exact of_decide_eq_true this
  have own : c.meths.lookup p.sEq ≠ none → (∀ n, n ∈ [0, 1, 2, 3, 4, 5, 6] → PySem.W.notFirst K (T.ca C) (.type (tyN n)) = true) ∧ (∀ D d, clsG p D = some d → PySem.W.notFirst K (T.ca C) (.ref (T.ca D)) = true) ∧ PySem.W.findIn K (.ref (T.ca C)) "__ne__" = some (some (.builtin "object.__ne__")) := fun z => by
    have is : (c.meths.lookup p.sEq).isSome = true := by
      cases e : c.meths.lookup p.sEq with
      | none => exact (z e).elim
      | some _ => rfl
    rw [if_pos is] at q11
    simp only [Bool.and_eq_true, List.all_eq_true] at q11
    obtain ⟨⟨r1, r2⟩, r3⟩ := q11
    refine ⟨r1, fun D d e => ?_, eqO_ok r3⟩
    have := r2 D (clsG_lt e)
    rw [e] at this
    exact this
  exact {
    cl := ⟨q1, q2, q3, eqO_ok q4⟩
    ha := eqO_ok q5
    hn := eqO_ok q6
    tk := q7
    hm := q8
    kit1 := fun n h1 h2 => (q9 n (by simp; omega)).1
    kit2 := fun n => by
      obtain ⟨k, hk, e⟩ := tyN_six n
      rw [e]
      exact (q9 k hk).2
    kit3 := kit3
    nfT := fun z n => by
      obtain ⟨k, hk, e⟩ := tyN_six n
      rw [e]
      exact (own z).1 k hk
    nfC := fun z => (own z).2.1
    ne := fun z => (own z).2.2
    sf := q12
    na := fun f hf => eqO_ok (q13 f (by simpa using hf))
    mt := fun mm f e => meth_of_B (q14 (mm, f) (look_mem e))
    pr := fun mm f e => prop_of_B (q15 (mm, f) (look_mem e))
    co := fun mm w e => con_of_B (q16 (mm, w) (look_mem e)) }
theorem map_at {α β : Type} {l : List α} {g k : α → β} (e : l.map g = l.map k) {x : α} (hx : x ∈ l) : g x = k x := by
  obtain ⟨i, hi, ex⟩ := List.mem_iff_getElem.mp hx
  have e2 : (l.map g)[i]? = (l.map k)[i]? := by rw [e]
  rw [List.getElem?_map, List.getElem?_map, List.getElem?_eq_getElem hi, ex] at e2
  exact Option.some.inj e2
theorem funX_of {l : List DX} (c2 : l.map (fun x => fnO K (x.at_.ad K)) = l.map DX.val) (c4 : ∀ x ∈ l, x.ok K = true) {x : DX} (hx : x ∈ l) : ∃ fd, FunX K x fd := DX.fun_ (map_at c2 hx) (c4 x hx)
/-- the parameters of a def, all given -/
def BindA (x : DX) : Prop := x.dfl = [] ∧ x.kwd = [] ∧ ∀ (kV doc pm : Value) (an : Option Addr) (cdv ct : Value) (us : List Value), us.length = x.d.ps.length → bindArgs (PySem.W.fnOf x.d.name x.d.qual x.d.params x.d.body x.d.scope .none kV doc pm an cdv ct) ⟨us, []⟩ = pure (x.d.ps.zip us)
def AllB : List DX → Prop
  | [] => True
  | x :: r => BindA x ∧ AllB r
theorem AllB.get : ∀ {l : List DX} {i : Nat} {x : DX}, AllB l → l[i]? = some x → BindA x
  | [], _, _, _, e => by simp at e
  | y :: r, 0, x, h, e => by
    simp at e
    subst e
    exact h.1
  | y :: r, i + 1, x, h, e => AllB.get (i := i) h.2 (by simpa using e)
/-- a site with keywords -/
def KwS (p : Pg) (dx : List DX) (q : Nat × Nat × List Str × List W) : Prop := ∃ fn x, p.fns[q.1]? = some fn ∧ dx[q.1]? = some x ∧ fn.np = q.2.1 + q.2.2.1.length ∧ q.2.2.2 = [] ∧
  ∀ (kV doc pm : Value) (an : Option Addr) (cdv ct : Value) (us ws : List Value), us.length = q.2.1 → ws.length = q.2.2.1.length → bindArgs (PySem.W.fnOf x.d.name x.d.qual x.d.params x.d.body x.d.scope .none kV doc pm an cdv ct) ⟨us, q.2.2.1.zip ws⟩ = pure (x.d.ps.zip (us ++ ws))
def KwM (p : Pg) (dx : List DX) (q : Nat × Nat × List Str × List W) : Prop := ∃ c g fn x, p.cls[q.1]? = some c ∧ c.init = some g ∧ p.fns[g]? = some fn ∧ dx[g]? = some x ∧ fn.np = q.2.1 + q.2.2.1.length + 1 ∧ q.2.2.2 = [] ∧
  ∀ (kV doc pm : Value) (an : Option Addr) (cdv ct : Value) (y : Addr) (us ws : List Value), us.length = q.2.1 → ws.length = q.2.2.1.length → bindArgs (PySem.W.fnOf x.d.name x.d.qual x.d.params x.d.body x.d.scope .none kV doc pm an cdv ct) ⟨.ref y :: us, q.2.2.1.zip ws⟩ = pure (x.d.ps.zip (.ref y :: (us ++ ws)))
def sitB (p : Pg) (q : Nat × Nat × List Str × List W) : Bool := q.2.2.1.isEmpty && q.2.2.2.isEmpty && (match p.fns[q.1]? with
  | some fn => decide (fn.np = q.2.1)
  | none => false)
def makB (p : Pg) (q : Nat × Nat × List Str × List W) : Bool := q.2.2.1.isEmpty && q.2.2.2.isEmpty && (match p.cls[q.1]? with
  | some c => (match c.init with
    | some g => (match p.fns[g]? with
      | some fn => decide (fn.np = q.2.1 + 1)
      | none => false)
    | none => false)
  | none => false)
/-- the static look at the tables -/
def tabB (p : Pg) (inf : Inf) (m sn : Nat) (td : TD) (dx : List DX) : Bool :=
  symB td.syms && decide (symF td.syms p.sEq = "__eq__") && decide (symF td.syms p.sLen = "__len__") && decide (symF td.syms p.sIn = "__contains__") && decide (symF td.syms p.sRepr = "__repr__") && decide (symF td.syms p.sAdd = "__add__") && decide (symF td.syms p.sMul = "__mul__") &&
  decide (inf.sy = td.syms) && decide (dx.length = p.fns.length) && ((dx.zip p.fns).all fun q => stB inf m sn q.1.d q.2) &&
  ((List.range p.cls.length).all fun C => match clsG p C with
    | some c => (c.meths.all fun q => decide (q.2 < p.fns.length)) && (c.props.all fun q => decide (q.2 < p.fns.length))
    | none => true)
theorem fnX_bd {x : DX} {fd : FuncData} (F : FunX K x fd) (b : BindA x) (s : Shared) (us : List Value) (hl : us.length = x.d.ps.length) : BindsTo s fd ⟨us, []⟩ (x.d.ps.zip us) := by
  obtain ⟨dV, kV, doc, pm, cdv, ct, oc, an, od, osl, rfl, lk, hcd, hD, hK⟩ := F.ex
  obtain ⟨b1, b2, b3⟩ := b
  rcases hD with ⟨_, rfl⟩ | ⟨e, _⟩
  · exact .of_eq (b3 kV doc pm an cdv ct us hl)
  · rw [b1] at e; exact absurd rfl e
theorem saysX_dx {td : TD} {dx : List DX} {xt : XT} (c : SaysX p inf td dx xt h K) : factB p inf (tbOf td K) K = true ∧ (∀ x ∈ dx ++ xt.dx, x.ok K = true) ∧ exB p (tbOf td K) K xt = true ∧ (dx ++ xt.dx).map (fun x => fnO K (x.at_.ad K)) = (dx ++ xt.dx).map DX.val ∧ xt.xc.map (fun x => fnC K (x.dx.at_.ad K)) = xt.xc.map fun x => x.dx.valC := by
  have c1 : (factB p inf (tbOf td K) K && ((dx ++ xt.dx).all fun x => x.ok K) && exB p (tbOf td K) K xt && true) = true := congrArg (fun z : AlX => z.1) c.t
  have c2 : (dx ++ xt.dx).map (fun x => fnO K (x.at_.ad K)) = (dx ++ xt.dx).map DX.val := congrArg (fun z : AlX => z.2.1) c.t
  have c3 : xt.xc.map (fun x => fnC K (x.dx.at_.ad K)) = xt.xc.map fun x => x.dx.valC := congrArg (fun z : AlX => z.2.2) c.t
  simp only [Bool.and_eq_true, List.all_eq_true, and_true] at c1
  exact ⟨c1.1.1, c1.1.2, c1.2, c2, c3⟩
theorem prj_of {td : TD} {dx : List DX} {xt : XT} (hfat : td.fat = dx.map (·.at_)) (X : K.In h) (Gm : h.Ns mainGlobals mg) (c : SaysX p inf td dx xt h K) (st : tabB p inf m sn td dx = true) (AB : AllB dx)
    (SX : ∀ q, q ∈ inf.sites → sitB p q = true ∨ KwS p dx q) (MX : ∀ q, q ∈ inf.makes → makB p q = true ∨ KwM p dx q) : Prj (tbOf td K) p K mg inf m sn (dx.map (·.d)) := by
  obtain ⟨c3, c4, _, c2, _⟩ := saysX_dx c
  unfold factB at c3
  simp only [Bool.and_eq_true, List.all_eq_true] at c3
  obtain ⟨⟨⟨⟨⟨⟨f1, f2⟩, f3⟩, f4⟩, f5⟩, f6⟩, f7⟩ := c3
  unfold tabB at st
  simp only [Bool.and_eq_true, decide_eq_true_eq, List.all_eq_true] at st
  obtain ⟨⟨⟨⟨⟨⟨⟨⟨⟨⟨t1, t2⟩, t3⟩, t4⟩, t5⟩, t6⟩, t7⟩, t8⟩, t9⟩, t10⟩, t11⟩ := st
  have fa : ∀ (f : Nat) (x : DX), dx[f]? = some x → (tbOf td K).fa f = x.at_.ad K := fun f x e => by
    show (td.fat.getD f (.glo Str.empty)).ad K = _
    rw [hfat, List.getD_eq_getElem?_getD, List.getElem?_map, e]
    rfl
  have dfx : ∀ (f : Nat) (x : DX), dx[f]? = some x → ∃ fd, FunX K x fd := fun f x e => by
    exact funX_of c2 c4 (List.mem_append_left _ (List.mem_of_getElem? e))
  have dfF : ∀ (f : Nat) (x : DX) (fd : FuncData), dx[f]? = some x → FunX K x fd → DefF K (tbOf td K) f x.d fd := fun f x fd e F => by
    refine ⟨?_, fun s us _ hl => fnX_bd F (AB.get e) s us hl⟩
    obtain ⟨dV, kV, doc, pm, cdv, ct, oc, an, od, osl, e1, lk, hcd, _, _⟩ := F.ex
    exact ⟨dV, kV, doc, pm, cdv, ct, oc, an, od, osl, e1, by rw [fa f x e]; exact lk, hcd⟩
  have dxs : ∀ (f : Nat) (fn : Fn), p.fns[f]? = some fn → ∃ x, dx[f]? = some x ∧ stB inf m sn x.d fn = true := fun f fn e => by
    have hl : f < dx.length := by rw [t9]; exact (List.getElem?_eq_some_iff.mp e).1
    refine ⟨dx[f], List.getElem?_eq_getElem hl, ?_⟩
    refine t10 (dx[f], fn) (List.mem_of_getElem? (i := f) ?_)
    rw [List.getElem?_zip_eq_some]
    exact ⟨List.getElem?_eq_getElem hl, e⟩
  have G : GF (tbOf td K) p K := {
    hK := rfl
    inj := symF_inj t1
    cls := fun C c e => by
      have := f1 C (clsG_lt e)
      rw [e] at this
      exact cls_of_B this
    sEq := t2
    sLen := t3
    sIn := t4
    sRepr := t5
    sAdd := t6
    sMul := t7 }
  refine ⟨G, fun f fn e => ?_, fun x f e => ?_, fun x C e => ?_, fun x w e => ?_, fun x hx => ?_, fun mm x e => ?_, fun C c mm f hc e => ?_, fun C f w e => ?_, fun C c mm f hc e => ?_, fun q hq => ?_, fun q hq => ?_⟩
  · obtain ⟨x, e1, e2⟩ := dxs f fn e
    obtain ⟨fd, F⟩ := dfx f x e1
    exact ⟨x.d, fd, by rw [List.getElem?_map, e1]; rfl, dfF f x fd e1 F, e2⟩
  · have := f3 _ (PySem.mem_of_lookup_some e)
    exact ⟨PySem.W.mg_of X Gm (eqO_ok this.1), this.2⟩
  · exact PySem.W.mg_of X Gm (eqO_ok (f4 _ (PySem.mem_of_lookup_some e)))
  · have := f5 _ (PySem.mem_of_lookup_some e)
    split at this
    · rename_i v u hv hu
      exact ⟨v, u, hv, PySem.W.mg_of X Gm hu, relB_ok this⟩
    · cases this
  · exact PySem.W.mg_none_of X Gm (eqO_ok (f6 x hx))
  · show symF td.syms mm = x
    rw [t8] at e
    unfold symF
    rw [e]
  · exact ((G.cls C c hc).mt mm f e).kp
  · obtain ⟨cc, e1, e2⟩ := Option.bind_eq_some_iff.mp e
    have hl : C ∈ List.range p.cls.length := List.mem_range.mpr (List.getElem?_eq_some_iff.mp e1).1
    have := f2 C hl
    rw [e1] at this
    simp only [List.all_eq_true] at this
    exact kon_of_B (this (f, w) (look_mem e2))
  · have := t11 C (clsG_lt hc)
    rw [hc] at this
    simp only [Bool.and_eq_true, List.all_eq_true, decide_eq_true_eq] at this
    have hl : f < p.fns.length := by
      rcases e with e | e
      · exact this.1 (mm, f) (look_mem e)
      · exact this.2 (mm, f) (look_mem e)
    exact ⟨p.fns[f], List.getElem?_eq_getElem hl⟩
  · rcases SX q hq with z | ⟨fn, x, e1, e2, e3, e4, e5⟩
    · unfold sitB at z
      simp only [Bool.and_eq_true, List.isEmpty_iff] at z
      obtain ⟨⟨z1, z2⟩, z3⟩ := z
      split at z3
      · rename_i fn hfn
        have np := of_decide_eq_true z3
        obtain ⟨x, e1, e2⟩ := dxs _ fn hfn
        obtain ⟨fd, F⟩ := dfx _ x e1
        have hps : x.d.ps.length = fn.np := by
          unfold stB at e2
          simp only [Bool.and_eq_true, decide_eq_true_eq] at e2
          exact e2.1.1.2
        refine ⟨fn, x.d, fd, hfn, by rw [List.getElem?_map, e1]; rfl, dfF _ x fd e1 F, by rw [z1, z2]; simpa using np, [], [], by rw [z2]; rfl, .nil, fun s us ws _ l1 l2 => ?_⟩
        rw [z1] at l2 ⊢
        have : ws = [] := List.eq_nil_of_length_eq_zero l2
        subst this
        simp only [List.zip_nil_right, List.append_nil]
        exact fnX_bd F (AB.get e1) s us (by rw [hps, np, l1])
      · cases z3
    · obtain ⟨fd, F⟩ := dfx _ x e2
      refine ⟨fn, x.d, fd, e1, by rw [List.getElem?_map, e2]; rfl, dfF _ x fd e2 F, by rw [e4]; simpa using e3, [], [], by rw [e4]; rfl, .nil, fun s us ws _ l1 l2 => ?_⟩
      obtain ⟨b1, b2, _⟩ := AB.get e2
      obtain ⟨dV, kV, doc, pm, cdv, ct, oc, an, od, osl, rfl, lk, hcd, hD, hK⟩ := F.ex
      simp only [List.append_nil]
      rcases hD with ⟨_, rfl⟩ | ⟨e, _⟩
      · exact .of_eq (e5 kV doc pm an cdv ct us ws l1 l2)
      · rw [b1] at e; exact absurd rfl e
  · have mk : ∀ (cc : Cl) (g : Nat), p.cls[q.1]? = some cc → cc.init = some g → Mk K ((tbOf td K).ca q.1) ((tbOf td K).fa g) := fun cc g e1 e2 => by
      have := f7 q hq
      rw [e1] at this
      simp only [Option.bind_some, e2, Bool.and_eq_true] at this
      obtain ⟨⟨⟨m1, m2⟩, m3⟩, m4⟩ := this
      exact ⟨m1, eqO_ok m2, m3, m4⟩
    rcases MX q hq with z | ⟨cc, g, fn, x, e0, e00, e1, e2, e3, e4, e5⟩
    · unfold makB at z
      simp only [Bool.and_eq_true, List.isEmpty_iff] at z
      obtain ⟨⟨z1, z2⟩, z3⟩ := z
      split at z3
      · rename_i cc hcc
        split at z3
        · rename_i g hg
          split at z3
          · rename_i fn hfn
            have np := of_decide_eq_true z3
            obtain ⟨x, e1, e2⟩ := dxs _ fn hfn
            obtain ⟨fd, F⟩ := dfx _ x e1
            have hps : x.d.ps.length = fn.np := by
              unfold stB at e2
              simp only [Bool.and_eq_true, decide_eq_true_eq] at e2
              exact e2.1.1.2
            refine ⟨cc, g, fn, x.d, fd, hcc, hg, mk cc g hcc hg, hfn, by rw [List.getElem?_map, e1]; rfl, dfF _ x fd e1 F, by rw [z1, z2]; simpa using np, [], [], by rw [z2]; rfl, .nil, fun s y us ws _ l1 l2 => ?_⟩
            rw [z1] at l2 ⊢
            have : ws = [] := List.eq_nil_of_length_eq_zero l2
            subst this
            simp only [List.zip_nil_right, List.append_nil]
            exact fnX_bd F (AB.get e1) s (.ref y :: us) (by rw [hps, np, ← l1]; rfl)
          · cases z3
        · cases z3
      · cases z3
    · obtain ⟨fd, F⟩ := dfx _ x e2
      refine ⟨cc, g, fn, x.d, fd, e0, e00, mk cc g e0 e00, e1, by rw [List.getElem?_map, e2]; rfl, dfF _ x fd e2 F, by rw [e4]; simpa using e3, [], [], by rw [e4]; rfl, .nil, fun s y us ws _ l1 l2 => ?_⟩
      obtain ⟨b1, b2, _⟩ := AB.get e2
      obtain ⟨dV, kV, doc, pm, cdv, ct, oc, an, od, osl, rfl, lk, hcd, hD, hK⟩ := F.ex
      simp only [List.append_nil]
      rcases hD with ⟨_, rfl⟩ | ⟨e, _⟩
      · exact .of_eq (e5 kV doc pm an cdv ct y us ws l1 l2)
      · rw [b1] at e; exact absurd rfl e
end
end Ev

/-! X10: from the looks to what is asked of exceptions. -/
namespace Ev
open PySem PySem.Spec PyProof.Rows L2 Calls ClX RZ He
def bodyS (ps : List Str) (nm : List (Str × NameKind)) (items : List (Str × FI)) : List Stmt → Bool
  | .Expr (.Call (.Attribute (.Call (.Name s _) [] [] _) i apos) [.Constant (.str _) _ _] [] pos) _ :: rest => decide (s = ("super" : Str)) && decide (i = ("__init__" : Str)) && (apos.endLine == pos.line) && asgB ps nm items rest
  | _ => false
def xcS (p : Pg) (sy : Nat → Str) (x : XC) : Bool := match (p.cls[x.C]?).bind (·.exn) with
  | some (pl, ns, code) => decide ns.Nodup && decide (ns.length = pl.length + 1) && tOk code && decide (ns.length ≤ 900) && bodyS x.dx.d.ps x.dx.d.scope.names (itemsX sy ns pl.length code) x.dx.d.body &&
    decide (x.dx.d.ps.length = pl.length + 1) && decide (x.dx.d.ps[0]? = some x.me) && !x.dx.d.scope.isCoroutine && !x.dx.d.scope.isGenerator && decide x.dx.d.ps.Nodup && (x.dx.d.ps.all fun y => decide (x.dx.d.scope.names.lookup y = some .local)) &&
    (x.dx.d.scope.names.all fun y => !decide (y.2 = .cell) && (!decide (y.2 = .free) || decide (y.1 = ("__class__" : Str)))) && decide (x.dx.d.scope.names.lookup ("super" : Str) = some .globalImplicit) && decide (x.dx.d.scope.names.lookup ("__class__" : Str) = some .free) &&
    decide (x.dx.d.scope.names.lookup x.me = some .local) && decide (x.dx.d.scope.kind = .function) && (match x.dx.d.params.posonlyargs ++ x.dx.d.params.args with
    | ar :: _ => decide (ar.arg = x.me)
    | [] => false)
  | none => false
def BindC (x : XC) : Prop := ∀ (kV doc pm : Value) (an : Option Addr) (cdv ct : Value) (cc : Addr) (us : List Value), us.length = x.dx.d.ps.length → bindArgs (PySem.W.ksFn x.dx.d.name x.dx.d.qual x.dx.d.params x.dx.d.body x.dx.d.scope .none kV doc pm an cdv ct cc) ⟨us, []⟩ = pure (x.dx.d.ps.zip us)
section
variable {p : Pg} {T : Tb} {K : PySem.W.Frag} {inf : Inf} {mg : Str → Option Value} {P : Program} {w : World} {base : Heap}
theorem dfl_nil {dV : Value} (h : DflV K dV []) : dV = .none := by
  rcases h with ⟨_, e⟩ | ⟨e, _⟩
  · exact e
  · exact absurd rfl e
theorem xc_ok {file : Str} {x : XC} (c : xcB p T K file x = true) (fn : fnC K (x.dx.at_.ad K) = x.dx.valC) (s : xcS p T.sy x = true) (b : BindC x) (hP1 : ((P.main.file : Str) == file) = true) (hP2 : (P.main.scope.names.lookup ("super" : Str)).isSome = false) (mS : mg "super" = none) :
    ∃ c pl ns code, p.cls[x.C]? = some c ∧ c.exn = some (pl, ns, code) ∧ ExnG T P w K mg base x.C pl.length ns code := by
  unfold xcS at s
  cases hb : (p.cls[x.C]?).bind (·.exn) with
  | none => rw [hb] at s; cases s
  | some q =>
  obtain ⟨pl, ns, code⟩ := q
  obtain ⟨cl, hcl, hex⟩ := Option.bind_eq_some_iff.mp hb
  rw [hb] at s
  unfold xcB at c
  rw [hb] at c
  simp only [Bool.and_eq_true, decide_eq_true_eq, List.all_eq_true, Bool.not_eq_true', Bool.or_eq_true, decide_eq_false_iff_not] at s c
  obtain ⟨⟨⟨⟨⟨⟨⟨⟨⟨⟨⟨⟨⟨⟨⟨⟨s1, s2⟩, s3⟩, s4⟩, s5⟩, s6⟩, s7⟩, s8⟩, s9⟩, s10⟩, s11⟩, s12⟩, s13⟩, s14⟩, s15⟩, s16⟩, s17⟩ := s
  obtain ⟨⟨⟨⟨⟨⟨⟨⟨⟨⟨⟨⟨c1, c2⟩, c3⟩, c4⟩, c5⟩, c6⟩, c7⟩, c8⟩, c9⟩, c10⟩, c11⟩, c12⟩, c13⟩ := c
  obtain ⟨nm, qq, NN, bs, bm, sn, sub, ab, col, dd, k0, k1, k2, k3, k5, hC, hbm⟩ := exClsB_ok c1
  have TX : OexC K (T.ca x.C) := ⟨⟨nm, qq, NN, bs, bm, sn, sub, ab, col, dd, k0, k1, k2, k3, k5, hC, hbm⟩, eqO_ok c2, c3, c4, c5⟩
  unfold fnC at fn
  cases q : K.lookup (x.dx.at_.ad K) with
  | none =>
    rw [q] at c8
    cases c8
  | some o =>
  obtain ⟨oc, od, dt, osl⟩ := o
  rw [q] at c8 fn
  cases dt with
  | func fd =>
    obtain ⟨n1, n2, n3, n4, n5, n6, n7, n8, n9, n10, n11, n12, n13, n14, n15⟩ := fd
    have e2 : (some (n1, n2, n3, n4, n5, n6, n7.map Prod.fst, n15) : FnC) = (some (x.dx.d.name, x.dx.d.qual, x.dx.d.params, .stmts x.dx.d.body, x.dx.d.scope, mainGlobals, ["__class__"], builtinsNs) : FnC) := fn
    simp only [Option.some.injEq, Prod.mk.injEq] at e2
    obtain ⟨h1, h2, h3, h4, h5, h6, h7, h8⟩ := e2
    subst h1 h2 h3 h4 h5 h6 h8
    simp only [Bool.and_eq_true] at c8
    obtain ⟨⟨⟨d1, d2, d3⟩, d4⟩, d5⟩ := c8
    have e8 := dfl_nil (dflB_ok d2)
    subst e8
    match n7, h7, d5 with
    | [(nn, cc)], h7, d5 =>
    simp only [List.map_cons, List.map_nil, List.cons.injEq, and_true] at h7
    subst h7
    cases n13 <;> first | (cases d4; done) | skip
    rename_i cda
    simp only at d4 d5
    split at d4
    · rename_i ccl cdd vs ccs hcode
      split at d4
      · rename_i f tf hvs
        have ef := of_decide_eq_true d4
        subst ef
        split at d5
        · rename_i ccl2 cdd2 b2 ccs2 hcell
          have eb := of_decide_eq_true d5
          subst eb
          split at s17
          · rename_i ar rest hpar
            have ear := of_decide_eq_true s17
            have s5' := s5
            unfold bodyS at s5
            split at s5
            · rename_i ss p0 p1 ii apos zz kk p2 pos spos rs hbody
              simp only [Bool.and_eq_true, decide_eq_true_eq] at s5
              obtain ⟨⟨⟨g1, g2⟩, g3⟩, g4⟩ := s5
              subst g1 g2
              have b' := b
              unfold BindC at b'
              rw [hbody] at b' q
              have bd : ∀ (s : Shared) (us : List Value), us.length = pl.length + 1 → BindsTo s (PySem.W.ksFn x.dx.d.name x.dx.d.qual x.dx.d.params (.Expr (.Call (.Attribute (.Call (.Name "super" p0) [] [] p1) "__init__" apos) [.Constant (.str zz) kk p2] [] pos) spos :: rs) x.dx.d.scope .none n9 n10 n11 n12 (.ref cda) n14 cc) ⟨us, []⟩ (x.dx.d.ps.zip us) :=
                fun s us hl => .of_eq (b' n9 n10 n11 n12 (.ref cda) n14 cc us (by rw [s6, hl]))
              have SF : SupF K P mg (T.ca x.C) (x.dx.at_.ad K) cda cc x.dx.d.scope (PySem.W.ksFn x.dx.d.name x.dx.d.qual x.dx.d.params (.Expr (.Call (.Attribute (.Call (.Name "super" p0) [] [] p1) "__init__" apos) [.Constant (.str zz) kk p2] [] pos) spos :: rs) x.dx.d.scope .none n9 n10 n11 n12 (.ref cda) n14 cc) x.me "ValueError" "ValueError.__new__" "ValueError.__init__" veBase :=
                ⟨PySem.W.kxs_ValueError, PySem.F.excBase_ValueError, ⟨nm, qq, NN, bs, bm, sn, sub, ab, col, dd, k0, k1, k2, k3, k5, hC⟩, mS, ⟨oc, od, osl, ar, q, by rw [show (PySem.W.ksFn x.dx.d.name x.dx.d.qual x.dx.d.params _ x.dx.d.scope .none n9 n10 n11 n12 (.ref cda) n14 cc).params = x.dx.d.params from rfl, hpar]; rfl, ear⟩,
                  ⟨ccl, cdd, vs, ccs, f, tf, hcode, hvs, hP1⟩, ⟨ccl2, cdd2, ccs2, hcell⟩, c9, eqO_ok c10, c11, eqO_ok c12, s13, s14, s15, s16, hP2⟩
              have hil : (itemsX T.sy ns pl.length code).length = ns.length := by simp [itemsX]
              have hmem : ∀ q ∈ itemsX T.sy ns pl.length code, ∃ i n, ns[i]? = some n ∧ q = (T.sy n, if i < pl.length then FI.par (i + 1) else .txt (tS code)) := fun q hq => by
                unfold itemsX at hq
                obtain ⟨⟨n, i⟩, hz, e⟩ := List.mem_map.mp hq
                exact ⟨i, n, (List.mem_zipIdx_iff_getElem? (x := (n, i))).mp hz, e.symm⟩
              refine ⟨cl, pl, ns, code, hcl, hex, x.dx.at_.ad K, _, x.dx.d.ps, TX, eqO_ok c6, c7, ?_, bd, s1, s2, s3, by omega⟩
              have R := init_ok (P := P) (w := w) (base := base) (items := itemsX T.sy ns pl.length code) q d1 SF TX ⟨s8, s9, s10, fun y hy => s11 y hy, fun y hy => (s12 y hy).1, fun y hy => by
                  rcases (s12 (y, .free) (PySem.mem_of_lookup hy)).2 with z | z
                  · exact absurd rfl z
                  · exact z⟩ s7 g3 (fun z => by rw [z] at hil; simp at hil; omega) (by omega) g4 (fun q hq => by
                  obtain ⟨i, n, h1, rfl⟩ := hmem q hq
                  exact eqO_ok (c13 n (List.mem_of_getElem? h1))) (fun q hq i hi => by
                  obtain ⟨j, n, h1, rfl⟩ := hmem q hq
                  simp only at hi
                  split at hi
                  · cases hi; omega
                  · cases hi)
              rw [s6] at R
              exact R
            · cases s5
          · cases s17
        · cases d5
      · cases d4
    · cases d4
  | _ => cases c8
def clS0 (sy : Nat → Str) (l : List (List Tx × Nat)) : List (List Str × Str) := l.map fun q => (q.1.map tS, sy q.2)
def rfS (p : Pg) (sy : Nat → Str) (r : RF) : Bool :=
  decide (r.dr.d.name = r.x) && decide (r.dr.d.qual = r.x) && scB [r.ask, r.told, r.e] [r.ask] r.dr.d.scope && decide (r.dr.d.ps = [r.ask]) && decide (r.dr.d.scope.names.lookup r.fx = some .globalImplicit) && decide (r.dr.d.scope.names.lookup r.told = some .local) &&
  decide (r.dr.d.scope.names.lookup r.e = some .local) && decide (r.dr.d.scope.names.lookup r.cP = some .globalImplicit) && !(r.cP == ("__debug__" : Str)) && !(r.fx == ("__debug__" : Str)) && !(r.e == ("__debug__" : Str)) && !(r.e == ("__classdict__" : Str)) &&
  !(r.told == ("__debug__" : Str)) && !(r.told == ("__classdict__" : Str)) && !(r.ask == ("__debug__" : Str)) && !(r.ask == ("__classdict__" : Str)) && refB r.ask r.told r.e r.cP r.fx r.dr.d.body &&
  scB [r.fe] [r.fe] r.df.d.scope && decide (r.df.d.ps = [r.fe]) && !(r.fe == ("__debug__" : Str)) && !(r.fe == ("__classdict__" : Str)) && fldB r.fe (clS0 sy p.rfd) r.df.d.body && decide (sy p.sCode = "code")
theorem vis_of {N P : List Str} {sc : Scope} {x : Str} (S : FnScope N P sc) (h : x ∈ P) : Vis sc x := by
  rcases S.par x h with z | z
  · exact .inl z
  · exact .inr (.inl z)
theorem rf_ok {h : Heap} (X : K.In h) (Gm : h.Ns mainGlobals mg) {r : RF} {fd1 fd2 : FuncData} (c : rfB p T K r = true) (s : rfS p T.sy r = true) (F1 : FunX K r.dr fd1) (b1 : BindA r.dr) (F2 : FunX K r.df fd2) (b2 : BindA r.df) : RfdG T p P w K mg base r.x := by
  unfold rfB at c
  unfold rfS at s
  simp only [Bool.and_eq_true, decide_eq_true_eq, List.all_eq_true, Bool.not_eq_true'] at s c
  obtain ⟨⟨⟨⟨⟨c1, c2⟩, c3⟩, c4⟩, c5⟩, c6⟩ := c
  obtain ⟨⟨⟨⟨⟨⟨⟨⟨⟨⟨⟨⟨⟨⟨⟨⟨⟨⟨⟨⟨⟨⟨s1, s2⟩, s3⟩, s4⟩, s5⟩, s6⟩, s7⟩, s8⟩, s9⟩, s10⟩, s11⟩, s12⟩, s13⟩, s14⟩, s15⟩, s16⟩, s17⟩, s18⟩, s19⟩, s20⟩, s21⟩, s22⟩, s23⟩ := s
  have bd2 := fnX_bd F2 b2
  obtain ⟨dV, kV, doc, pm, cdv, ct, oc, an, od, osl, rfl, lk, hcd, hD, _⟩ := F1.ex
  obtain ⟨dV2, kV2, doc2, pm2, cdv2, ct2, oc2, an2, od2, osl2, rfl, lk2, hcd2, hD2, _⟩ := F2.ex
  obtain ⟨a1, a2, a3⟩ := b1
  have S := scB_ok s3
  have S2 := scB_ok s18
  have e1 : dV = .none := by
    rcases hD with ⟨_, e⟩ | ⟨e, _⟩
    · exact e
    · rw [a1] at e; exact absurd rfl e
  subst e1
  have a3' := a3 kV doc pm an cdv ct
  rw [s4] at a3'
  rw [s1, s2] at a3' lk
  rw [s2] at hcd
  refine ⟨r.ask, r.told, r.e, r.cP, r.fx, r.dr.at_.ad K, ga K r.cP, r.df.at_.ad K, r.dr.d.params, r.dr.d.body, r.dr.d.scope, .none, kV, doc, pm, cdv, ct, oc, an, od, osl, PySem.W.mg_of X Gm (eqO_ok c3), c1, lk, hcd, L2.Binds.all a3', S, vis_of S (by simp), s5, PySem.W.mg_of X Gm (eqO_ok c4), c2, s6, s7, s8, PySem.W.mg_of X Gm (eqO_ok c5), s9, s10, s11, s12, s13, s14, s15, s16, s17, ?_, fun C hC => ?_⟩
  · exact fnR_of lk2 hcd2 S2 rfl (vis_of S2 (by simp)) s20 s21 (fun s u => by
      have := bd2 s [u] (by rw [s19]; rfl)
      rw [s19] at this
      exact this) s22
  · obtain ⟨⟨⟨z1, z2⟩, z3⟩, z4⟩ := c6 C hC
    exact ⟨z1, ⟨xfB_ok z2, eqO_ok z3, fun q hq => eqO_ok (z4 q hq)⟩⟩
def glawB : At → Bool
  | .glo x => decide (x = ("law" : Str))
  | _ => false
/-- the static look at the exceptions -/
def xtB (p : Pg) (inf : Inf) (td : TD) (dx : List DX) (xt : XT) : Bool :=
  decide (inf.rais = xt.xc.map (·.C)) && decide (inf.rf = xt.rf.map (·.x)) && (xt.xc.all fun x => xcS p (symF td.syms) x) && (match xt.rf with
  | some r => rfS p (symF td.syms) r
  | none => true) && (dx.all fun x => decide (x.d.qual ≠ ("law" : Str)) || glawB x.at_) && (xt.xc.isEmpty || decide (("super" : Str) ∈ inf.free))
def AllC : List XC → Prop
  | [] => True
  | x :: r => BindC x ∧ AllC r
theorem AllC.get : ∀ {l : List XC} {x : XC}, AllC l → x ∈ l → BindC x
  | y :: r, x, h, hx => by
    rcases List.mem_cons.mp hx with e | e
    · rw [e]; exact h.1
    · exact AllC.get h.2 e
theorem AllB.mem : ∀ {l : List DX} {x : DX}, AllB l → x ∈ l → BindA x
  | y :: r, x, h, hx => by
    rcases List.mem_cons.mp hx with e | e
    · rw [e]; exact h.1
    · exact AllB.mem h.2 e
theorem xp_of {h : Heap} {td : TD} {dx : List DX} {xt : XT} (X : K.In h) (Gm : h.Ns mainGlobals mg) (c : SaysX p inf td dx xt h K) (st : xtB p inf td dx xt = true) (AC : AllC xt.xc) (AR : AllB xt.dx) (hP1 : xt.xc ≠ [] → ((P.main.file : Str) == xt.file) = true) (hP2 : xt.xc ≠ [] → (P.main.scope.names.lookup ("super" : Str)).isSome = false)
    (fr : ∀ x, x ∈ inf.free → mg x = none) : XP (tbOf td K) p K mg inf P w base := by
  obtain ⟨f1, f2, f3, f4, f5⟩ := saysX_dx c
  unfold exB at f3
  unfold xtB at st
  simp only [Bool.and_eq_true, List.all_eq_true, decide_eq_true_eq, Bool.or_eq_true] at f3 st
  obtain ⟨f3, f6⟩ := f3
  obtain ⟨⟨⟨⟨⟨t1, t2⟩, t3⟩, t4⟩, t5⟩, t6⟩ := st
  refine ⟨fun C hC => ?_, fun x hx => ?_⟩
  · rw [t1] at hC
    obtain ⟨x, hx, rfl⟩ := List.mem_map.mp hC
    have ne : xt.xc ≠ [] := fun z => by rw [z] at hx; cases hx
    have hs : ("super" : Str) ∈ inf.free := by
      rcases t6 with z | z
      · exact absurd (List.isEmpty_iff.mp z) ne
      · exact z
    exact xc_ok (f3 x hx) (map_at f5 hx) (t3 x hx) (AC.get hx) (hP1 ne) (hP2 ne) (fr _ hs)
  · rw [t2] at hx
    obtain ⟨r, hr, rfl⟩ := Option.map_eq_some_iff.mp hx
    rw [hr] at f6 t4
    have m1 : r.dr ∈ xt.dx := by unfold XT.dx; rw [hr]; simp
    have m2 : r.df ∈ xt.dx := by unfold XT.dx; rw [hr]; simp
    obtain ⟨fd1, F1⟩ := funX_of f4 f2 (List.mem_append_right dx m1)
    obtain ⟨fd2, F2⟩ := funX_of f4 f2 (List.mem_append_right dx m2)
    refine ⟨rf_ok X Gm f6 t4 F1 (AR.mem m1) F2 (AR.mem m2), ?_, rfl⟩
    have t4' : rfS p (symF td.syms) r = true := t4
    unfold rfS at t4'
    simp only [Bool.and_eq_true, decide_eq_true_eq] at t4'
    exact t4'.2
theorem cd_of {td : TD} {dx : List DX} {xt : XT} (hfat : td.fat = dx.map (·.at_)) (st : xtB p inf td dx xt = true) (TB : inf.rf ≠ none → LamX.TabB base mg (cT K ("law", none)).1 (cT K ("law", none)).2) : CdJ (tbOf td K) K mg inf base (dx.map (·.d)) := by
  intro f d fd e hD hq hn
  rw [List.getElem?_map] at e
  obtain ⟨x, hx, rfl⟩ := Option.map_eq_some_iff.mp e
  unfold xtB at st
  simp only [Bool.and_eq_true, List.all_eq_true, decide_eq_true_eq, Bool.or_eq_true] at st
  have hg : glawB x.at_ = true := by
    rcases st.1.2 x (List.mem_of_getElem? hx) with z | z
    · exact absurd hq z
    · exact z
  have ea : x.at_.ad K = fAd K ("law", none) := by
    unfold glawB at hg
    split at hg
    · rename_i y hy
      rw [hy, of_decide_eq_true hg] <;> rfl
    · cases hg
  have fa : (tbOf td K).fa f = x.at_.ad K := by
    show (td.fat.getD f (.glo Str.empty)).ad K = _
    rw [hfat, List.getD_eq_getElem?_getD, List.getElem?_map, hx]
    rfl
  obtain ⟨dV, kV, doc, pm, cdv, ct, oc, an, od, osl, rfl, lk, hcd⟩ := hD.ex
  obtain ⟨cc, rfl⟩ := codeIn_ref hcd
  rw [fa, ea] at lk
  have ec : codeOf K ("law", none) = cc := codeOf_eq lk rfl
  have := TB hn
  refine ⟨cc, rfl, ?_⟩
  rw [← ec]
  exact this
end
end Ev

/-! S32: a law's end. -/
namespace Ev
open PySem PySem.Spec PyProof.Rows L2 Calls ClX RZ He
theorem fn_calm {P : Program} {w : World} {K : PySem.W.Frag} {mg : Str → Option Value} {base : Heap} {k : Nat} {f : Addr} {fd : FuncData} {ps : List Str} {sp : Sp} (F : FnOk P w K mg base (L2.CX P w) k f fd ps sp) :
    FnOk P w K mg base CX0 k f fd ps (fun vs H Q _ => sp vs H Q fun _ _ _ => False) :=
  ⟨fun vs H Q E h => F.len vs H Q _ h, fun A outer s H args us vs Q E hr e0 hb r h => codeAny_mono (F.run A outer s H args us vs Q _ hr e0 hb r h) fun z s' q => by
    cases z with
    | error e =>
      obtain ⟨a, B, H', cls, d, _, _, _, _, _, _, _, hE⟩ := q
      exact hE.elim
    | ok fl => cases fl <;> exact q⟩
/-- the store at the start -/
def st0 (xt : XT) : List OO := match xt.rf with
  | some _ => [.tab]
  | none => []
theorem spF_law {T : Tb} {p : Pg} {wf n f : Nat} {H : Hp} {a : Addr} {ns : List Int} {s' : List OO} {xt : XT} (hS : SqL T.K H a (ns.map V.int)) (hT : xt.rf.isSome = true → H T.ta = some (.tbl #[])) (e : callN p wf n false f [.scr ns] (st0 xt) = .ok (.bl true) s') :
    spF T 1 (callN p wf n false f) [.ref a] H (fun v _ => v = .bl true) fun _ _ _ => False := by
  have main : ∀ lv : List Addr, (∀ b ∈ lv, H b = some (.tbl #[])) → RSto T lv (⟨lv, fun _ => none, fun _ => False⟩ : Cf).nf H (st0 xt) → spF T 1 (callN p wf n false f) [.ref a] H (fun v _ => v = .bl true) fun _ _ _ => False := fun lv hlv so => by
    refine ⟨rfl, ⟨lv, fun _ => none, fun _ => False⟩, [.scr ns], st0 xt, ⟨rfl, so, fun a z => z.elim, fun a z => z.elim⟩, ?_, ?_⟩
    · refine RWs.cons ?_ RWs.nil
      simp only [RW]
      refine ⟨a, rfl, ?_⟩
      rcases hS with h | h
      · refine .inl ⟨h, fun z => ?_⟩
        rcases z with (z | ⟨i, z⟩) | z
        · have q := hlv a z
          rcases h with h | ⟨u, h⟩
          · rw [h] at q; cases q
          · rw [h] at q; cases q
        · cases z
        · exact z
      · exact .inr h
    · rw [e]
      intro v H' lv' S so r
      exact r
  cases q : xt.rf with
  | none =>
    refine main [] (fun b z => by cases z) ?_
    unfold st0
    rw [q]
    exact ⟨rfl, List.nodup_nil, fun n o a e => by simp at e⟩
  | some r =>
    have h := hT (by rw [q] <;> rfl)
    refine main [T.ta] (fun b z => by rw [List.mem_singleton.mp z]; exact h) ?_
    unfold st0
    rw [q]
    refine ⟨rfl, by simp, fun n o a e1 e2 => ?_⟩
    cases n with
    | zero =>
      cases e1
      cases e2
      exact ⟨rfl, LamX.TabS.nil h⟩
    | succ n => simp at e1
/-- the law's def is kept -/
theorem law_fn {p : Pg} {inf : Inf} {m sn wf n lw : Nat} {td : TD} {dx : List DX} {xt : XT} {l : PySem.W.OpenLaw} {w : World} {K : PySem.W.Frag} {h : Heap} {mg : Str → Option Value} {fa : Addr} {x : Str} (hfat : td.fat = dx.map (·.at_)) (X : K.In h) (Gm : h.Ns mainGlobals mg) (c : SaysX p inf td dx xt h K) (st : tabB p inf m sn td dx = true) (AB : AllB dx)
    (SX : ∀ q, q ∈ inf.sites → sitB p q = true ∨ KwS p dx q) (MX : ∀ q, q ∈ inf.makes → makB p q = true ∨ KwM p dx q) (sx : xtB p inf td dx xt = true) (AC : AllC xt.xc) (AR : AllB xt.dx) (hP1 : xt.xc ≠ [] → ((l.prog.main.file : Str) == xt.file) = true) (hP2 : xt.xc ≠ [] → (l.prog.main.scope.names.lookup ("super" : Str)).isSome = false)
    {fn : Fn} {dl : DX} (e1 : p.fns[lw]? = some fn) (e2 : dx[lw]? = some dl) (hps : dl.d.ps = [x]) (hat : dl.at_ = .glo "law") (hmg : mg ("law" : Str) = some (.ref fa)) (hk : inf.fnN.lookup ("law" : Str) = some lw)
    (run : ∀ ns : List Int, ns.length ≤ 63 → ∃ s', callN p wf n false lw [.scr ns] (st0 xt) = .ok (.bl true) s') :
    LamX.LawAtS l w K CX0 (4 * n) 63 x mg fa h := by
  have J := prj_of hfat X Gm c st AB SX MX
  obtain ⟨fn0, hfn0⟩ : ∃ fn, p.fns[lw]? = some fn := ⟨fn, e1⟩
  obtain ⟨d, fd, hd, hD, hst⟩ := J.defs lw fn e1
  have ed : d = dl.d := by
    rw [List.getElem?_map, e2] at hd
    exact (Option.some.inj hd).symm
  subst ed
  have hf := (J.fn "law" lw hk).1
  rw [hmg] at hf
  have efa : fa = (tbOf td K).fa lw := by
    have := Option.some.inj hf
    injection this
  have hnp : fn.np = 1 := by
    unfold stB at hst
    simp only [Bool.and_eq_true, decide_eq_true_eq] at hst
    have := hst.1.1.2
    rw [hps] at this
    exact this.symm
  obtain ⟨_, f2, _, f4, _⟩ := saysX_dx c
  obtain ⟨fd', F⟩ : ∃ fd', FunX K dl fd' := funX_of f4 f2 (List.mem_append_left _ (List.mem_of_getElem? e2))
  have efd : fd = fd' := by
    obtain ⟨_, _, _, _, _, _, _, _, _, _, g1, g2, _⟩ := hD.ex
    obtain ⟨_, _, _, _, _, _, _, _, _, _, g3, g4, _⟩ := F.ex
    have ea : (tbOf td K).fa lw = dl.at_.ad K := by
      show (td.fat.getD lw (.glo Str.empty)).ad K = _
      rw [hfat, List.getD_eq_getElem?_getD, List.getElem?_map, e2]
      rfl
    rw [ea, g4] at g2
    simp only [Option.some.injEq, Obj.mk.injEq, Data.func.injEq] at g2
    exact g2.2.2.1.symm
  subst efd
  refine ⟨fd, (tfOf xt).map (cT K), fun vs H Q _ => spF (tbOf td K) 1 (callN p wf n false lw) vs H Q fun _ _ _ => False, fun q hq => ?_, fun q hq => ?_, fun q hq => ?_, fun s u => ?_, fun H a ns hl _ hT hS => ?_, fun base hb hg hTB => ?_⟩
  · obtain ⟨z, hz, rfl⟩ := List.mem_map.mp hq
    exact c.empty z hz
  · obtain ⟨z, hz, rfl⟩ := List.mem_map.mp hq
    exact c.out z hz
  · obtain ⟨z, hz, rfl⟩ := List.mem_map.mp hq
    exact PySem.W.codeHd_of_K X (c.hd z hz)
  · have := fnX_bd F (AB.get e2) s [u] (by rw [hps]; rfl)
    rw [hps] at this
    exact this
  · obtain ⟨s', e⟩ := run ns hl
    refine spF_law (T := tbOf td K) (xt := xt) hS (fun z => ?_) e
    have hm : cT K ("law", none) ∈ (tfOf xt).map (cT K) := by
      unfold tfOf
      cases q : xt.rf with
      | none => rw [q] at z; cases z
      | some r => simp
    exact hT _ hm
  · have hrf : inf.rf = xt.rf.map (·.x) := by
      unfold xtB at sx
      simp only [Bool.and_eq_true, decide_eq_true_eq] at sx
      exact sx.1.1.1.1.2
    have XJ : XP (tbOf td K) p K mg inf l.prog w base := xp_of X Gm c sx AC AR hP1 hP2 J.fr
    have CJ : CdJ (tbOf td K) K mg inf base (dx.map (·.d)) := cd_of hfat sx fun z => by
      refine hTB (cT K ("law", none)) ?_
      unfold tfOf
      cases q : xt.rf with
      | none => rw [hrf, q] at z; exact absurd rfl z
      | some r => simp
    have := fn_calm ((lev_ok (P := l.prog) (w := w) (wf := wf) (base := base) J XJ CJ n).fn lw fn dl.d fd e1 hd hD)
    rw [hps, hnp, ← efa] at this
    exact this
end Ev

section
set_option maxHeartbeats 0

namespace G
open PySem PySem.Spec PyProof.Rows L2 Ev
def top (i : Nat) : Stmt := PySem.Challenge.pw_reparcel_k06_bundles_refused.main.body.getD i (.Pass ⟨0, 0, 0, 0⟩)
def dx0 : DX := { at_ := .glo "_wall", d := ⟨"_wall", "_wall", C8.fnArgs (top 0), C8.fnBody (top 0), C8.fnScope (top 0), ["k"], ["k"]⟩ }
def dx1 : DX := { at_ := .glo "is_whole", d := ⟨"is_whole", "is_whole", C8.fnArgs (top 13), C8.fnBody (top 13), C8.fnScope (top 13), ["thing"], ["thing"]⟩ }
def dx2 : DX := { at_ := .glo "is_word", d := ⟨"is_word", "is_word", C8.fnArgs (top 14), C8.fnBody (top 14), C8.fnScope (top 14), ["text", "most", "sign"], ["text", "most"]⟩ }
def dx3 : DX := { at_ := .glo "is_constructor", d := ⟨"is_constructor", "is_constructor", C8.fnArgs (top 15), C8.fnBody (top 15), C8.fnScope (top 15), ["thing"], ["thing"]⟩ }
def dx4 : DX := { at_ := .met "Shape" "__init__", d := ⟨"__init__", "Shape.__init__", C8.fnArgs ((C8.clsBody (top 16)).getD 1 (.Pass ⟨0, 0, 0, 0⟩)), C8.fnBody ((C8.clsBody (top 16)).getD 1 (.Pass ⟨0, 0, 0, 0⟩)), C8.fnScope ((C8.clsBody (top 16)).getD 1 (.Pass ⟨0, 0, 0, 0⟩)), ["self", "constructors", "names", "at", "one", "name", "parts"], ["self", "constructors"]⟩ }
def dx5 : DX := { at_ := .met "Shape" "__eq__", d := ⟨"__eq__", "Shape.__eq__", C8.fnArgs ((C8.clsBody (top 16)).getD 2 (.Pass ⟨0, 0, 0, 0⟩)), C8.fnBody ((C8.clsBody (top 16)).getD 2 (.Pass ⟨0, 0, 0, 0⟩)), C8.fnScope ((C8.clsBody (top 16)).getD 2 (.Pass ⟨0, 0, 0, 0⟩)), ["self", "other"], ["self", "other"]⟩ }
def dx6 : DX := { at_ := .met "Shape" "__len__", d := ⟨"__len__", "Shape.__len__", C8.fnArgs ((C8.clsBody (top 16)).getD 3 (.Pass ⟨0, 0, 0, 0⟩)), C8.fnBody ((C8.clsBody (top 16)).getD 3 (.Pass ⟨0, 0, 0, 0⟩)), C8.fnScope ((C8.clsBody (top 16)).getD 3 (.Pass ⟨0, 0, 0, 0⟩)), ["self"], ["self"]⟩ }
def dx7 : DX := { at_ := .met "Shape" "__contains__", d := ⟨"__contains__", "Shape.__contains__", C8.fnArgs ((C8.clsBody (top 16)).getD 4 (.Pass ⟨0, 0, 0, 0⟩)), C8.fnBody ((C8.clsBody (top 16)).getD 4 (.Pass ⟨0, 0, 0, 0⟩)), C8.fnScope ((C8.clsBody (top 16)).getD 4 (.Pass ⟨0, 0, 0, 0⟩)), ["self", "name"], ["self", "name"]⟩ }
def dx8 : DX := { at_ := .met "Shape" "__repr__", d := ⟨"__repr__", "Shape.__repr__", C8.fnArgs ((C8.clsBody (top 16)).getD 5 (.Pass ⟨0, 0, 0, 0⟩)), C8.fnBody ((C8.clsBody (top 16)).getD 5 (.Pass ⟨0, 0, 0, 0⟩)), C8.fnScope ((C8.clsBody (top 16)).getD 5 (.Pass ⟨0, 0, 0, 0⟩)), ["self"], ["self"]⟩ }
def dx9 : DX := { at_ := .prp "Shape" "leaf", d := ⟨"leaf", "Shape.leaf", C8.fnArgs ((C8.clsBody (top 16)).getD 6 (.Pass ⟨0, 0, 0, 0⟩)), C8.fnBody ((C8.clsBody (top 16)).getD 6 (.Pass ⟨0, 0, 0, 0⟩)), C8.fnScope ((C8.clsBody (top 16)).getD 6 (.Pass ⟨0, 0, 0, 0⟩)), ["self", "name", "parts"], ["self"]⟩ }
def dx10 : DX := { at_ := .prp "Shape" "branches", d := ⟨"branches", "Shape.branches", C8.fnArgs ((C8.clsBody (top 16)).getD 7 (.Pass ⟨0, 0, 0, 0⟩)), C8.fnBody ((C8.clsBody (top 16)).getD 7 (.Pass ⟨0, 0, 0, 0⟩)), C8.fnScope ((C8.clsBody (top 16)).getD 7 (.Pass ⟨0, 0, 0, 0⟩)), ["self"], ["self"]⟩ }
def dx11 : DX := { at_ := .met "Shape" "constructors", d := ⟨"constructors", "Shape.constructors", C8.fnArgs ((C8.clsBody (top 16)).getD 8 (.Pass ⟨0, 0, 0, 0⟩)), C8.fnBody ((C8.clsBody (top 16)).getD 8 (.Pass ⟨0, 0, 0, 0⟩)), C8.fnScope ((C8.clsBody (top 16)).getD 8 (.Pass ⟨0, 0, 0, 0⟩)), ["self"], ["self"]⟩ }
def dx12 : DX := { at_ := .met "Shape" "polynomial", d := ⟨"polynomial", "Shape.polynomial", C8.fnArgs ((C8.clsBody (top 16)).getD 9 (.Pass ⟨0, 0, 0, 0⟩)), C8.fnBody ((C8.clsBody (top 16)).getD 9 (.Pass ⟨0, 0, 0, 0⟩)), C8.fnScope ((C8.clsBody (top 16)).getD 9 (.Pass ⟨0, 0, 0, 0⟩)), ["self"], ["self"]⟩ }
def dx13 : DX := { at_ := .glo "is_tree", d := ⟨"is_tree", "is_tree", C8.fnArgs (top 18), C8.fnBody (top 18), C8.fnScope (top 18), ["shape", "thing", "part"], ["shape", "thing"]⟩ }
def dx14 : DX := { at_ := .glo "check_counts", d := ⟨"check_counts", "check_counts", C8.fnArgs (top 20), C8.fnBody (top 20), C8.fnScope (top 20), ["counts", "cases", "trees", "at", "count"], ["counts", "cases", "trees"]⟩ }
def dx15 : DX := { at_ := .met "Bundle" "__init__", d := ⟨"__init__", "Bundle.__init__", C8.fnArgs ((C8.clsBody (top 21)).getD 2 (.Pass ⟨0, 0, 0, 0⟩)), C8.fnBody ((C8.clsBody (top 21)).getD 2 (.Pass ⟨0, 0, 0, 0⟩)), C8.fnScope ((C8.clsBody (top 21)).getD 2 (.Pass ⟨0, 0, 0, 0⟩)), ["self", "shape", "counts"], ["self", "shape", "counts"]⟩ }
def dx16 : DX := { at_ := .met "Bundle" "__eq__", d := ⟨"__eq__", "Bundle.__eq__", C8.fnArgs ((C8.clsBody (top 21)).getD 3 (.Pass ⟨0, 0, 0, 0⟩)), C8.fnBody ((C8.clsBody (top 21)).getD 3 (.Pass ⟨0, 0, 0, 0⟩)), C8.fnScope ((C8.clsBody (top 21)).getD 3 (.Pass ⟨0, 0, 0, 0⟩)), ["self", "other"], ["self", "other"]⟩ }
def dx17 : DX := { at_ := .met "Bundle" "__len__", d := ⟨"__len__", "Bundle.__len__", C8.fnArgs ((C8.clsBody (top 21)).getD 4 (.Pass ⟨0, 0, 0, 0⟩)), C8.fnBody ((C8.clsBody (top 21)).getD 4 (.Pass ⟨0, 0, 0, 0⟩)), C8.fnScope ((C8.clsBody (top 21)).getD 4 (.Pass ⟨0, 0, 0, 0⟩)), ["self"], ["self"]⟩ }
def dx18 : DX := { at_ := .met "Bundle" "__contains__", d := ⟨"__contains__", "Bundle.__contains__", C8.fnArgs ((C8.clsBody (top 21)).getD 5 (.Pass ⟨0, 0, 0, 0⟩)), C8.fnBody ((C8.clsBody (top 21)).getD 5 (.Pass ⟨0, 0, 0, 0⟩)), C8.fnScope ((C8.clsBody (top 21)).getD 5 (.Pass ⟨0, 0, 0, 0⟩)), ["self", "row"], ["self", "row"]⟩ }
def dx19 : DX := { at_ := .met "Bundle" "__add__", d := ⟨"__add__", "Bundle.__add__", C8.fnArgs ((C8.clsBody (top 21)).getD 6 (.Pass ⟨0, 0, 0, 0⟩)), C8.fnBody ((C8.clsBody (top 21)).getD 6 (.Pass ⟨0, 0, 0, 0⟩)), C8.fnScope ((C8.clsBody (top 21)).getD 6 (.Pass ⟨0, 0, 0, 0⟩)), ["self", "other"], ["self", "other"]⟩ }
def dx20 : DX := { at_ := .met "Bundle" "__mul__", d := ⟨"__mul__", "Bundle.__mul__", C8.fnArgs ((C8.clsBody (top 21)).getD 7 (.Pass ⟨0, 0, 0, 0⟩)), C8.fnBody ((C8.clsBody (top 21)).getD 7 (.Pass ⟨0, 0, 0, 0⟩)), C8.fnScope ((C8.clsBody (top 21)).getD 7 (.Pass ⟨0, 0, 0, 0⟩)), ["self", "other"], ["self", "other"]⟩ }
def dx21 : DX := { at_ := .met "Bundle" "__repr__", d := ⟨"__repr__", "Bundle.__repr__", C8.fnArgs ((C8.clsBody (top 21)).getD 8 (.Pass ⟨0, 0, 0, 0⟩)), C8.fnBody ((C8.clsBody (top 21)).getD 8 (.Pass ⟨0, 0, 0, 0⟩)), C8.fnScope ((C8.clsBody (top 21)).getD 8 (.Pass ⟨0, 0, 0, 0⟩)), ["self"], ["self"]⟩ }
def dx22 : DX := { at_ := .met "Bundle" "counts", d := ⟨"counts", "Bundle.counts", C8.fnArgs ((C8.clsBody (top 21)).getD 9 (.Pass ⟨0, 0, 0, 0⟩)), C8.fnBody ((C8.clsBody (top 21)).getD 9 (.Pass ⟨0, 0, 0, 0⟩)), C8.fnScope ((C8.clsBody (top 21)).getD 9 (.Pass ⟨0, 0, 0, 0⟩)), ["self"], ["self"]⟩ }
def dx23 : DX := { at_ := .met "Bundle" "polynomial", d := ⟨"polynomial", "Bundle.polynomial", C8.fnArgs ((C8.clsBody (top 21)).getD 10 (.Pass ⟨0, 0, 0, 0⟩)), C8.fnBody ((C8.clsBody (top 21)).getD 10 (.Pass ⟨0, 0, 0, 0⟩)), C8.fnScope ((C8.clsBody (top 21)).getD 10 (.Pass ⟨0, 0, 0, 0⟩)), ["self"], ["self"]⟩ }
def dx24 : DX := { at_ := .met "Bundle" "worth", d := ⟨"worth", "Bundle.worth", C8.fnArgs ((C8.clsBody (top 21)).getD 11 (.Pass ⟨0, 0, 0, 0⟩)), C8.fnBody ((C8.clsBody (top 21)).getD 11 (.Pass ⟨0, 0, 0, 0⟩)), C8.fnScope ((C8.clsBody (top 21)).getD 11 (.Pass ⟨0, 0, 0, 0⟩)), ["self"], ["self"]⟩ }
def dx25 : DX := { at_ := .met "Bundle" "has_row", d := ⟨"has_row", "Bundle.has_row", C8.fnArgs ((C8.clsBody (top 21)).getD 12 (.Pass ⟨0, 0, 0, 0⟩)), C8.fnBody ((C8.clsBody (top 21)).getD 12 (.Pass ⟨0, 0, 0, 0⟩)), C8.fnScope ((C8.clsBody (top 21)).getD 12 (.Pass ⟨0, 0, 0, 0⟩)), ["self", "row", "tree"], ["self", "row"]⟩ }
def dx26 : DX := { at_ := .met "Bundle" "check_row", d := ⟨"check_row", "Bundle.check_row", C8.fnArgs ((C8.clsBody (top 21)).getD 13 (.Pass ⟨0, 0, 0, 0⟩)), C8.fnBody ((C8.clsBody (top 21)).getD 13 (.Pass ⟨0, 0, 0, 0⟩)), C8.fnScope ((C8.clsBody (top 21)).getD 13 (.Pass ⟨0, 0, 0, 0⟩)), ["self", "row"], ["self", "row"]⟩ }
def dx27 : DX := { at_ := .met "Bundle" "rows", d := ⟨"rows", "Bundle.rows", C8.fnArgs ((C8.clsBody (top 21)).getD 14 (.Pass ⟨0, 0, 0, 0⟩)), C8.fnBody ((C8.clsBody (top 21)).getD 14 (.Pass ⟨0, 0, 0, 0⟩)), C8.fnScope ((C8.clsBody (top 21)).getD 14 (.Pass ⟨0, 0, 0, 0⟩)), ["self", "nodes"], ["self", "nodes"]⟩ }
def dx28 : DX := { at_ := .met "Bundle" "row_count", d := ⟨"row_count", "Bundle.row_count", C8.fnArgs ((C8.clsBody (top 21)).getD 15 (.Pass ⟨0, 0, 0, 0⟩)), C8.fnBody ((C8.clsBody (top 21)).getD 15 (.Pass ⟨0, 0, 0, 0⟩)), C8.fnScope ((C8.clsBody (top 21)).getD 15 (.Pass ⟨0, 0, 0, 0⟩)), ["self", "nodes"], ["self", "nodes"]⟩ }
def dx29 : DX := { at_ := .met "Bundle" "has_trees", d := ⟨"has_trees", "Bundle.has_trees", C8.fnArgs ((C8.clsBody (top 21)).getD 16 (.Pass ⟨0, 0, 0, 0⟩)), C8.fnBody ((C8.clsBody (top 21)).getD 16 (.Pass ⟨0, 0, 0, 0⟩)), C8.fnScope ((C8.clsBody (top 21)).getD 16 (.Pass ⟨0, 0, 0, 0⟩)), ["self"], ["self"]⟩ }
def dx30 : DX := { at_ := .glo "_law_feed", d := ⟨"_law_feed", "_law_feed", C8.fnArgs (top 23), C8.fnBody (top 23), C8.fnScope (top 23), ["_law_script", "_law_cells", "_law_cell", "_law_mark"], ["_law_script"]⟩ }
def dx31 : DX := { at_ := .glo "_law_draw", d := ⟨"_law_draw", "_law_draw", C8.fnArgs (top 24), C8.fnBody (top 24), C8.fnScope (top 24), ["_law_feed_here", "_law_many", "_law_cell", "_law_one", "_law_two", "_law_drawn"], ["_law_feed_here", "_law_many"]⟩ }
def dx32 : DX := { at_ := .glo "_law_any", d := ⟨"_law_any", "_law_any", C8.fnArgs (top 25), C8.fnBody (top 25), C8.fnScope (top 25), ["_law_feed_here", "_law_row"], ["_law_feed_here", "_law_row"]⟩ }
def dx33 : DX := { at_ := .glo "_law_pairs", d := ⟨"_law_pairs", "_law_pairs", C8.fnArgs (top 26), C8.fnBody (top 26), C8.fnScope (top 26), ["_law_feed_here", "_law_found", "_law_more", "_law_turn", "_law_at"], ["_law_feed_here"]⟩ }
def dx34 : DX := { at_ := .glo "_law_field", d := ⟨"_law_field", "_law_field", C8.fnArgs (top 27), C8.fnBody (top 27), C8.fnScope (top 27), ["_law_e"], ["_law_e"]⟩ }
def dx35 : DX := { at_ := .glo "_law_refused", d := ⟨"_law_refused", "_law_refused", C8.fnArgs (top 28), C8.fnBody (top 28), C8.fnScope (top 28), ["_law_ask"], ["_law_ask"]⟩ }
def dx36 : DX := { at_ := .glo "_law_whole", d := ⟨"_law_whole", "_law_whole", C8.fnArgs (top 29), C8.fnBody (top 29), C8.fnScope (top 29), ["_law_found"], ["_law_found"]⟩ }
def dx37 : DX := { at_ := .glo "_law_same", d := ⟨"_law_same", "_law_same", C8.fnArgs (top 30), C8.fnBody (top 30), C8.fnScope (top 30), ["_law_found", "_law_due", "_law_one", "_law_other"], ["_law_found", "_law_due"]⟩ }
def dx38 : DX := { at_ := .glo "law", d := ⟨"law", "law", C8.fnArgs (top 31), C8.fnBody (top 31), C8.fnScope (top 31), ["_law_script", "_law_feed_here", "_law_made", "_law_turn", "_law_counts", "_law_k", "_law_at", "_law_odd", "_law_late", "_law_many", "_law_due"], ["_law_script"]⟩ }
def dx : List DX := [dx0, dx1, dx2, dx3, dx4, dx5, dx6, dx7, dx8, dx9, dx10, dx11, dx12, dx13, dx14, dx15, dx16, dx17, dx18, dx19, dx20, dx21, dx22, dx23, dx24, dx25, dx26, dx27, dx28, dx29, dx30, dx31, dx32, dx33, dx34, dx35, dx36, dx37, dx38]
def td : TD := { syms := ((["__eq__", "__len__", "__contains__", "__repr__", "__add__", "__mul__", "MOST", "pairs", "by_name", "places", "form", "numbers", "MAX_CASES", "MAX_TREES", "has_row", "code", "at", "bound", "name", "number", "value", "first", "position", "counts"] : List PySem.Str) ++ (["leaf", "branches", "constructors", "polynomial", "worth", "check_row", "rows", "row_count", "has_trees"] : List PySem.Str)), fat := dx.map (·.at_), can := ["ParcelError", "Missing", "InvalidShape", "InvalidBundle", "Unlike", "TooLarge", "NothingLeft", "Shape", "Bundle"] }
def inf : Inf := { fnN := [("_wall", 0), ("is_whole", 1), ("is_word", 2), ("is_constructor", 3), ("is_tree", 13), ("check_counts", 14), ("_law_feed", 30), ("_law_draw", 31), ("_law_any", 32), ("_law_pairs", 33), ("_law_field", 34), ("_law_refused", 35), ("_law_whole", 36), ("_law_same", 37), ("law", 38)], clN := [("ParcelError", 0), ("Missing", 1), ("InvalidShape", 2), ("InvalidBundle", 3), ("Unlike", 4), ("TooLarge", 5), ("NothingLeft", 6), ("Shape", 7), ("Bundle", 8)], cons := [("SMALL", (.str [97, 98, 99, 100, 101, 102, 103, 104, 105, 106, 107, 108, 109, 110, 111, 112, 113, 114, 115, 116, 117, 118, 119, 120, 121, 122])), ("MAX_NAME", (.int 6)), ("MAX_PARTS", (.int 3))], free := ["all", "any", "bool", "enumerate", "int", "isinstance", "len", "list", "max", "min", "range", "repr", "sorted", "str", "sum", "super", "tuple", "zip"], sites := [(0, 1, [], []), (1, 1, [], []), (2, 2, [], []), (3, 1, [], []), (13, 2, [], []), (14, 3, [], []), (30, 1, [], []), (31, 2, [], []), (32, 2, [], []), (33, 1, [], []), (36, 1, [], []), (37, 2, [], [])], makes := [(7, 1, [], []), (8, 2, [], [])], sy := td.syms, rais := [2, 3, 4, 5], rf := some "_law_refused" }
theorem tab : tabB pg inf 60 60 td dx = true := by decide +kernel
theorem ba0 : BindA dx0 := ⟨rfl, rfl, fun _ _ _ _ _ _ us hl => match us, hl with | [_], _ => rfl⟩
theorem ba1 : BindA dx1 := ⟨rfl, rfl, fun _ _ _ _ _ _ us hl => match us, hl with | [_], _ => rfl⟩
theorem ba2 : BindA dx2 := ⟨rfl, rfl, fun _ _ _ _ _ _ us hl => match us, hl with | [_, _], _ => rfl⟩
theorem ba3 : BindA dx3 := ⟨rfl, rfl, fun _ _ _ _ _ _ us hl => match us, hl with | [_], _ => rfl⟩
theorem ba4 : BindA dx4 := ⟨rfl, rfl, fun _ _ _ _ _ _ us hl => match us, hl with | [_, _], _ => rfl⟩
theorem ba5 : BindA dx5 := ⟨rfl, rfl, fun _ _ _ _ _ _ us hl => match us, hl with | [_, _], _ => rfl⟩
theorem ba6 : BindA dx6 := ⟨rfl, rfl, fun _ _ _ _ _ _ us hl => match us, hl with | [_], _ => rfl⟩
theorem ba7 : BindA dx7 := ⟨rfl, rfl, fun _ _ _ _ _ _ us hl => match us, hl with | [_, _], _ => rfl⟩
theorem ba8 : BindA dx8 := ⟨rfl, rfl, fun _ _ _ _ _ _ us hl => match us, hl with | [_], _ => rfl⟩
theorem ba9 : BindA dx9 := ⟨rfl, rfl, fun _ _ _ _ _ _ us hl => match us, hl with | [_], _ => rfl⟩
theorem ba10 : BindA dx10 := ⟨rfl, rfl, fun _ _ _ _ _ _ us hl => match us, hl with | [_], _ => rfl⟩
theorem ba11 : BindA dx11 := ⟨rfl, rfl, fun _ _ _ _ _ _ us hl => match us, hl with | [_], _ => rfl⟩
theorem ba12 : BindA dx12 := ⟨rfl, rfl, fun _ _ _ _ _ _ us hl => match us, hl with | [_], _ => rfl⟩
theorem ba13 : BindA dx13 := ⟨rfl, rfl, fun _ _ _ _ _ _ us hl => match us, hl with | [_, _], _ => rfl⟩
theorem ba14 : BindA dx14 := ⟨rfl, rfl, fun _ _ _ _ _ _ us hl => match us, hl with | [_, _, _], _ => rfl⟩
theorem ba15 : BindA dx15 := ⟨rfl, rfl, fun _ _ _ _ _ _ us hl => match us, hl with | [_, _, _], _ => rfl⟩
theorem ba16 : BindA dx16 := ⟨rfl, rfl, fun _ _ _ _ _ _ us hl => match us, hl with | [_, _], _ => rfl⟩
theorem ba17 : BindA dx17 := ⟨rfl, rfl, fun _ _ _ _ _ _ us hl => match us, hl with | [_], _ => rfl⟩
theorem ba18 : BindA dx18 := ⟨rfl, rfl, fun _ _ _ _ _ _ us hl => match us, hl with | [_, _], _ => rfl⟩
theorem ba19 : BindA dx19 := ⟨rfl, rfl, fun _ _ _ _ _ _ us hl => match us, hl with | [_, _], _ => rfl⟩
theorem ba20 : BindA dx20 := ⟨rfl, rfl, fun _ _ _ _ _ _ us hl => match us, hl with | [_, _], _ => rfl⟩
theorem ba21 : BindA dx21 := ⟨rfl, rfl, fun _ _ _ _ _ _ us hl => match us, hl with | [_], _ => rfl⟩
theorem ba22 : BindA dx22 := ⟨rfl, rfl, fun _ _ _ _ _ _ us hl => match us, hl with | [_], _ => rfl⟩
theorem ba23 : BindA dx23 := ⟨rfl, rfl, fun _ _ _ _ _ _ us hl => match us, hl with | [_], _ => rfl⟩
theorem ba24 : BindA dx24 := ⟨rfl, rfl, fun _ _ _ _ _ _ us hl => match us, hl with | [_], _ => rfl⟩
theorem ba25 : BindA dx25 := ⟨rfl, rfl, fun _ _ _ _ _ _ us hl => match us, hl with | [_, _], _ => rfl⟩
theorem ba26 : BindA dx26 := ⟨rfl, rfl, fun _ _ _ _ _ _ us hl => match us, hl with | [_, _], _ => rfl⟩
theorem ba27 : BindA dx27 := ⟨rfl, rfl, fun _ _ _ _ _ _ us hl => match us, hl with | [_, _], _ => rfl⟩
theorem ba28 : BindA dx28 := ⟨rfl, rfl, fun _ _ _ _ _ _ us hl => match us, hl with | [_, _], _ => rfl⟩
theorem ba29 : BindA dx29 := ⟨rfl, rfl, fun _ _ _ _ _ _ us hl => match us, hl with | [_], _ => rfl⟩
theorem ba30 : BindA dx30 := ⟨rfl, rfl, fun _ _ _ _ _ _ us hl => match us, hl with | [_], _ => rfl⟩
theorem ba31 : BindA dx31 := ⟨rfl, rfl, fun _ _ _ _ _ _ us hl => match us, hl with | [_, _], _ => rfl⟩
theorem ba32 : BindA dx32 := ⟨rfl, rfl, fun _ _ _ _ _ _ us hl => match us, hl with | [_, _], _ => rfl⟩
theorem ba33 : BindA dx33 := ⟨rfl, rfl, fun _ _ _ _ _ _ us hl => match us, hl with | [_], _ => rfl⟩
theorem ba34 : BindA dx34 := ⟨rfl, rfl, fun _ _ _ _ _ _ us hl => match us, hl with | [_], _ => rfl⟩
theorem ba35 : BindA dx35 := ⟨rfl, rfl, fun _ _ _ _ _ _ us hl => match us, hl with | [_], _ => rfl⟩
theorem ba36 : BindA dx36 := ⟨rfl, rfl, fun _ _ _ _ _ _ us hl => match us, hl with | [_], _ => rfl⟩
theorem ba37 : BindA dx37 := ⟨rfl, rfl, fun _ _ _ _ _ _ us hl => match us, hl with | [_, _], _ => rfl⟩
theorem ba38 : BindA dx38 := ⟨rfl, rfl, fun _ _ _ _ _ _ us hl => match us, hl with | [_], _ => rfl⟩
theorem ab : AllB dx := ⟨ba0, ba1, ba2, ba3, ba4, ba5, ba6, ba7, ba8, ba9, ba10, ba11, ba12, ba13, ba14, ba15, ba16, ba17, ba18, ba19, ba20, ba21, ba22, ba23, ba24, ba25, ba26, ba27, ba28, ba29, ba30, ba31, ba32, ba33, ba34, ba35, ba36, ba37, ba38, trivial⟩
def xc_InvalidShape : XC := { C := 2, dx := { at_ := .met "InvalidShape" "__init__", d := ⟨"__init__", "InvalidShape.__init__", C8.fnArgs ((C8.clsBody (top 4)).getD 0 (.Pass ⟨0, 0, 0, 0⟩)), C8.fnBody ((C8.clsBody (top 4)).getD 0 (.Pass ⟨0, 0, 0, 0⟩)), C8.fnScope ((C8.clsBody (top 4)).getD 0 (.Pass ⟨0, 0, 0, 0⟩)), ["self", "at"], ["self", "at"]⟩ }, me := "self" }
def xc_InvalidBundle : XC := { C := 3, dx := { at_ := .met "InvalidBundle" "__init__", d := ⟨"__init__", "InvalidBundle.__init__", C8.fnArgs ((C8.clsBody (top 5)).getD 0 (.Pass ⟨0, 0, 0, 0⟩)), C8.fnBody ((C8.clsBody (top 5)).getD 0 (.Pass ⟨0, 0, 0, 0⟩)), C8.fnScope ((C8.clsBody (top 5)).getD 0 (.Pass ⟨0, 0, 0, 0⟩)), ["self", "at"], ["self", "at"]⟩ }, me := "self" }
def xc_Unlike : XC := { C := 4, dx := { at_ := .met "Unlike" "__init__", d := ⟨"__init__", "Unlike.__init__", C8.fnArgs ((C8.clsBody (top 6)).getD 0 (.Pass ⟨0, 0, 0, 0⟩)), C8.fnBody ((C8.clsBody (top 6)).getD 0 (.Pass ⟨0, 0, 0, 0⟩)), C8.fnScope ((C8.clsBody (top 6)).getD 0 (.Pass ⟨0, 0, 0, 0⟩)), ["self"], ["self"]⟩ }, me := "self" }
def xc_TooLarge : XC := { C := 5, dx := { at_ := .met "TooLarge" "__init__", d := ⟨"__init__", "TooLarge.__init__", C8.fnArgs ((C8.clsBody (top 7)).getD 0 (.Pass ⟨0, 0, 0, 0⟩)), C8.fnBody ((C8.clsBody (top 7)).getD 0 (.Pass ⟨0, 0, 0, 0⟩)), C8.fnScope ((C8.clsBody (top 7)).getD 0 (.Pass ⟨0, 0, 0, 0⟩)), ["self", "bound"], ["self", "bound"]⟩ }, me := "self" }
def xt : XT := { xc := [xc_InvalidShape, xc_InvalidBundle, xc_Unlike, xc_TooLarge], rf := some { x := "_law_refused", dr := dx35, ask := "_law_ask", told := "_law_told", e := "_law_e", cP := "ParcelError", fx := "_law_field", df := dx34, fe := "_law_e" }, file := PySem.Challenge.pw_reparcel_k06_bundles_refused.main.file }
theorem xtb : xtB pg inf td dx xt = true := by decide +kernel
theorem xtc : AllC xt.xc := ⟨fun _ _ _ _ _ _ _ us hl => match us, hl with | [_, _], _ => rfl, fun _ _ _ _ _ _ _ us hl => match us, hl with | [_, _], _ => rfl, fun _ _ _ _ _ _ _ us hl => match us, hl with | [_], _ => rfl, fun _ _ _ _ _ _ _ us hl => match us, hl with | [_, _], _ => rfl, trivial⟩
theorem xtd : AllB xt.dx := ⟨ba35, ba34, trivial⟩
theorem sx : ∀ q, q ∈ inf.sites → sitB pg q = true ∨ KwS pg dx q := by
  intro q hq
  simp only [inf, List.mem_cons, List.not_mem_nil, or_false] at hq
  rcases hq with rfl | rfl | rfl | rfl | rfl | rfl | rfl | rfl | rfl | rfl | rfl | rfl
  · exact .inl (by decide +kernel)
  · exact .inl (by decide +kernel)
  · exact .inl (by decide +kernel)
  · exact .inl (by decide +kernel)
  · exact .inl (by decide +kernel)
  · exact .inl (by decide +kernel)
  · exact .inl (by decide +kernel)
  · exact .inl (by decide +kernel)
  · exact .inl (by decide +kernel)
  · exact .inl (by decide +kernel)
  · exact .inl (by decide +kernel)
  · exact .inl (by decide +kernel)
theorem mx : ∀ q, q ∈ inf.makes → makB pg q = true ∨ KwM pg dx q := by
  intro q hq
  simp only [inf, List.mem_cons, List.not_mem_nil, or_false] at hq
  rcases hq with rfl | rfl
  · exact .inl (by decide +kernel)
  · exact .inl (by decide +kernel)
abbrev R : PySem.W.OpenRow := PySem.W.OpenLaw.row PySem.Challenge.rw_reparcel_k06_bundles_refused
abbrev qv : Program := PySem.W.view R.prog [31]
def names : List PySem.Str := (((["_wall", "ParcelError", "Missing", "InvalidShape", "InvalidBundle", "Unlike", "TooLarge", "NothingLeft", "SMALL", "MAX_NAME", "MAX_PARTS", "is_whole", "is_word", "is_constructor", "Shape", "is_tree", "check_counts", "Bundle", "_law_feed", "_law_draw", "_law_any", "_law_pairs", "_law_field", "_law_refused"] : List PySem.Str) ++ (["_law_whole", "_law_same"] : List PySem.Str)) : List PySem.Str)
abbrev hk : PySem.W.Hook := hookX 6 pg inf td dx xt
def ob (s : PySem.W.SharedT) : AlX := obsXG 6 pg inf td dx xt (HandSHeadRun.getT s)
theorem ob_eq (s : PySem.W.SharedT) : ob s = hk.obs s.abs := obsXG_eq (HandSHeadRun.getT_eq s)
theorem run (w : World) : HandSHeadRun.RunEq R qv hk ob 60000 names w := by
  intro os
  kernel_rfl
end G
open PySem PySem.W PySem.Calls PyProof.Rows
theorem G.holds (main : ∀ ns : List Int, ns.length ≤ 63 → ∃ s', Ev.callN G.pg 10000 14 false 38 [.scr ns] (Ev.st0 G.xt) = .ok (.bl true) s') : PySem.Challenge.rw_reparcel_k06_bundles_refused.Holds := by
  w_on; o_law
  refine HandSHeadRun.head_any (r := G.R) (q := G.qv) (H := G.hk) (ob := G.ob) (M := 60000) (loose := G.names) (d := HandSHeadRun.topDef G.R.prog 31) (kwd := []) G.ob_eq
    (by kernel_rfl) (fun s => by kernel_rfl) G.run (by kernel_rfl) (by kernel_rfl) (by kernel_rfl) (by rfl) (by first | assumption | decide +kernel) (by decide +kernel) ⟨rfl, rfl, rfl, rfl, rfl, by decide +kernel⟩ ?hw ?hc
  case hw => w_witness2
  case hc =>
    refine LamX.walk_ofTsE (l := PySem.Challenge.rw_reparcel_k06_bundles_refused) (n := 63) (k := 4 * 14) (x := "_law_script") (CX := fun _ => L2.CX0) rfl (by decide) (by kernel_rfl) ⟨rfl, by decide, by decide⟩ ?F (fun _ _ _ _ _ z => z)
    intro w mg fa h Y G0 hmg0
    obtain ⟨K, KX, c⟩ := Y
    have hmg : mg ("law" : PySem.Str) = some (.ref fa) := by
      have e : (HandSHeadRun.topDef G.R.prog 31).name = ("law" : PySem.Str) := by kernel_rfl
      rw [← e]
      exact hmg0
    exact ⟨K, KX, Ev.law_fn (l := PySem.Challenge.rw_reparcel_k06_bundles_refused) (w := w) (wf := 10000) (n := 14) (lw := 38) rfl KX G0 c G.tab G.ab G.sx G.mx G.xtb G.xtc G.xtd (fun _ => by decide +kernel) (fun _ => by decide +kernel) (fn := G.f_law) (dl := G.dx38) rfl rfl rfl rfl hmg (by decide +kernel) main⟩


end

/-! k06, joined. -/
theorem G.main : ∀ ns : List Int, ns.length ≤ 63 → ∃ s', Ev.callN G.pg 10000 14 false 38 [.scr ns] (Ev.st0 G.xt) = .ok (.bl true) s' := fun ns hl => by
  obtain ⟨w, s, e, h⟩ := Ev.rc_ex (G.law_ok (wf := 10000) (n := 4) hl)
  exact ⟨s, by rw [← h]; exact e⟩
theorem PySem.Challenge.cw_reparcel_k06_bundles_refused_holds : PySem.Challenge.rw_reparcel_k06_bundles_refused.Holds := by
  exact G.holds G.main

import PyProof.Rows.All
import Wide.All
import OpenK.AllK
import Wide.FinOn
import HandS.GenList
import HandS.ForMost
import HandS.Exc
import HandS.ExcOwn
import HandS.Codes
import HandS.Lambda
import HandS.ExcInit
import KE.KDictKeyed
import HandS.ClsMeth
import HandS.Comp
import HandS.Conv
import HandS.Deep
import HandS.DictComp
import HandS.FStr
import HandS.Flow
import HandS.Head0
import HandS.Head1
import HandS.Head2
import HandS.HeadEnd
import HandS.HeadHook2
import HandS.IsInst
import HandS.Iter
import HandS.More
import HandS.Property
import HandS.RaiseMore
import HandS.SortInts
import HandS.Style
import HandS.TupAny
import HandS.WordsDict
import HandS.Zip
import KE.KStateDown
import Lean
import KE.IntTextLaws
import OpenK.KMeth
import PyProof.Draws
import PyProof.EnumMake
import PyProof.PinEval
import HandS.TupMul
import HandS.Strs
import KE.GoesZip
import KE.GoesMore
import KE.KTurns
import HandS.ExcSuper
import HandS.TryMany
import HandS.ExcField
import HandS.HeadWalk
import KE.KExcSuper
import HandS.HotCalls
import KE.KDflt
import KE.KUnpackStar
import HandS.Replace
import HandS.SortOrd
import HandS.Sort
import PyProof.TupleKey
import KE.KRevSl
import PyProof.ListStr
import KE.GoesEnumKw
import PyProof.Rows.CallKwBuiltin
import HandS.List
import KE.KExcIs
import HandS.ExcIs
import HandS.HeadHook4
import HandS.EndTab
import PySem.Challenge.RW_reparcel_k65_trees_of_great_nodes
set_option linter.all false
set_option Elab.async false
set_option maxRecDepth 100000
namespace Ev
open PySem (Str)
abbrev Tx := List Nat
abbrev Ky := Sum Int Tx
inductive W where
 | non | bl (b : Bool) | int (i : Int) | str (x : Tx)
 | tup (xs : List W) | lst (xs : List W) | dct (ks : List Ky) (xs : List W)
 | obj (C : Nat) (ns : List Nat) (xs : List W)
 | loc (n : Nat) | sl (i : Nat)
 | glo (x : Nat) | scr (ns : List Int)
 | exn (C : Nat) (ns : List Nat) (xs : List W)
 deriving Inhabited, Repr
inductive OO where
 | lst (xs : List W) | dct (ks : List Ky) (xs : List W) | ins (C : Nat) (ns : List Nat) (xs : List W)
 | tab
 | dnk (ks : List (Tx × List Int)) (xs : List W)
 deriving Inhabited, Repr
inductive Sl where
 | un | val (w : W) | own (o : OO)
 deriving Inhabited, Repr
structure St where
 r : List Sl
 s : List OO
 deriving Inhabited, Repr
structure Xn where
 C : Nat
 ns : List Nat
 xs : List W
 deriving Inhabited, Repr
inductive R (α : Type) where
 | ok (a : α) (st : St) | exc (x : Xn) (st : St) | stk
 deriving Repr
instance {α} : Inhabited (R α) := ⟨.stk⟩
def R.calm {α} : R α → R α
 | .ok a st => .ok a st
 | _ => .stk
def R.bind {α β} : R α → (α → St → R β) → R β
 | .ok a st, f => f a st
 | .exc x st, _ => .exc x st
 | .stk, _ => .stk
inductive RC where
 | ok (w : W) (s : List OO) | exc (x : Xn) (s : List OO) | stk
 deriving Repr
instance : Inhabited RC := ⟨.stk⟩
def RC.at (r : List Sl) : RC → R W
 | .ok w s => .ok w ⟨r, s⟩
 | .exc x s => .exc x ⟨r, s⟩
 | .stk => .stk
def R.lift {α} (st : St) : Option α → R α
 | some a => .ok a st
 | none => .stk
inductive Fl where
 | nx | brk | cnt | ret (w : W)
 deriving Inhabited, Repr
def look (st : St) : W → Option OO
 | .loc n => st.s[n]?
 | .sl i => match st.r[i]? with
  | some (.own o) => some o
  | _ => none
 | .lst xs => some (.lst xs)
 | .dct ks xs => some (.dct ks xs)
 | .obj C ns xs => some (.ins C ns xs)
 | _ => none
def seqOf (st : St) : W → Option (List W)
 | .tup xs => some xs
 | w => match look st w with
  | some (.lst xs) => some xs
  | _ => none
def lstOf (st : St) (w : W) : Option (List W) := match look st w with
 | some (.lst xs) => some xs
 | _ => none
def put (st : St) (o : OO) : W → Option St
 | .loc n => if n < st.s.length then some ⟨st.r, st.s.set n o⟩ else none
 | .sl i => match st.r[i]? with
  | some (.own _) => some ⟨st.r.set i (.own o), st.s⟩
  | _ => none
 | _ => none
def isL : W → Bool
 | .lst _ => true
 | .dct _ _ => true
 | _ => false
def oOf : W → OO
 | .dct ks xs => .dct ks xs
 | .lst xs => .lst xs
 | _ => .lst []
def noL (r : R W) : R W := r.bind fun w st => if isL w then .stk else .ok w st
def okv : W → Bool
 | .sl _ => false
 | _ => true
def okvs (ws : List W) : Bool := ws.all okv
def lineMax : Nat := 16777216
mutual
def isD : W → Bool
 | .non | .bl _ | .int _ | .str _ => true
 | .tup xs | .lst xs => isDs xs
 | _ => false
def isDs : List W → Bool
 | [] => true
 | x :: xs => isD x && isDs xs
end
mutual
def dep : W → Nat
 | .tup xs | .lst xs => deps xs + 1
 | _ => 0
def deps : List W → Nat
 | [] => 0
 | x :: xs => max (dep x) (deps xs)
end
mutual
def eqD : W → W → Bool
 | .non, .non => true
 | .bl a, .bl b => a == b
 | .bl a, .int j => (if a then 1 else 0) == j
 | .int i, .bl b => i == (if b then 1 else 0)
 | .int i, .int j => i == j
 | .str x, .str y => x == y
 | .lst xs, .lst ys => eqDs xs ys
 | .tup xs, .tup ys => eqDs xs ys
 | _, _ => false
def eqDs : List W → List W → Bool
 | [], [] => true
 | x :: xs, y :: ys => eqD x y && eqDs xs ys
 | _, _ => false
end
def dOk (w : W) : Bool := isD w && decide (dep w ≤ 128)
def tOk (x : Tx) : Bool := x.all fun c => decide (c < 1114112)
def memD (x : W) (xs : List W) : Bool := xs.any fun y => eqD y x
def ixN (n : Nat) (i : Int) : Option Nat := if 0 ≤ i then (if i < n then some i.toNat else none) else if -(n : Int) ≤ i then some (i + n).toNat else none
def sIx (n d : Nat) : Option Int → Nat
 | none => d
 | some v => if v < 0 then (v + (n : Int)).toNat else min v.toNat n
def cut {α} (xs : List α) (lo hi : Option Int) : List α := (xs.drop (sIx xs.length 0 lo)).take (sIx xs.length xs.length hi - sIx xs.length 0 lo)
def dig (i : Int) : Tx := (toString i).toList.map Char.toNat
def strsW : List W → Option (List Tx)
 | [] => some []
 | .str x :: r => (strsW r).map (x :: ·)
 | _ => none
def intsW : List W → Option (List Int)
 | [] => some []
 | .int x :: r => (intsW r).map (x :: ·)
 | _ => none
def bls : List W → Option (List Bool)
 | [] => some []
 | .bl x :: r => (bls r).map (x :: ·)
 | _ => none
inductive Bop where | add | sub | mul | fdv | mod | pow
 deriving Repr, DecidableEq
inductive Cop where | eq | ne | lt | le | gt | ge | isn | ntn | inn | nin
 deriving Repr, DecidableEq
inductive Bif where | len | sum | max | min | all | any | sorted | list | tuple | int | str | repr | set | dict | max2 | min2
 deriving Repr, DecidableEq
inductive Bmt where | count | index | split | join | partition | get | items | values
 deriving Repr, DecidableEq
inductive Cmt where | append | extend | pop | insert | clear | reverse | setdefault
 deriving Repr, DecidableEq
inductive Tg where | nam (i : Nat) | tup (ts : List Tg)
 deriving Repr, Inhabited
inductive Kd where | bool | int | str | list | tuple | none | cls (C : Nat)
 deriving Repr, DecidableEq
mutual
inductive E where
 | var (i : Nat) | cst (w : W) | glo (x : Nat) (w : W)
 | bin (op : Bop) (a b : E) | neg (a : E)
 | cmp (op : Cop) (a b : E) | chn (o1 o2 : Cop) (a b c : E) | chn3 (o1 o2 o3 : Cop) (a b c d : E)
 | bnd (a b : E) | bor (a b : E) | bnt (a : E)
 | ite (c a b : E)
 | tup (es : List E) | lst (es : List E) | dic (es : List E) (vs : List E)
 | alc (e : E) | frz (i : Nat)
 | sub (a i : E) | slc (a : E) (lo hi : Option E)
 | att (a : E) (f : Nat) | kon (C f : Nat)
 | cal (f : Nat) (es : List E) | new (C : Nat) (es : List E) | mth (a : E) (m : Nat) (es : List E)
 | bif (b : Bif) (es : List E) | isi (a : E) (ks : List Kd)
 | bmt (b : Bmt) (a : E) (es : List E) | cmt (c : Cmt) (a : E) (es : List E)
 | cpr (e : E) (t : Tg) (it : I) (ifs : Option E)
 | cp2 (e : E) (t : Tg) (it : I) (t2 : Tg) (it2 : I)
 | rev (a k : E)
 | dcp (k v : E) (t : Tg) (it : I)
 | fst (es : List E)
 | rfd (g : Nat) (e : E)
 | rgl (t : Bool) (a : Option E) (b : E)
 | ind (neg : Bool) (ks : List Tx) (e : E)
 | ixd (ks : List Tx) (ws : List W) (e : E)
 | txm (b : Bmt) (a e : E) | itx (a : E)
 | alf (k : Nat) | rfx (g v : Nat) (bs : List E)
 | rfe (g : Nat) (a : E) (bs : List E)
 | lsg (C f m : Nat) (a e : E)
 | srt (a : E)
 | srs (a : E) | lns (a : E)
 | lss (a : E)
 | exn (C : Nat) (es : List E) | isx (a : E) (k : Sum Nat Nat) | xat (a : E) (f : Nat)
 | dkn | dki (neg : Bool) (k d : E) | dkg (d k : E)
 | mtv (a : E) (m k : Nat) (es : List E)
 | nvr
inductive I where
 | val (e : E) | rng (es : List E) | enu (e : E) (k : Option E) | zip (a b : E) | itm (e : E)
end
instance : Inhabited E := ⟨.cst .non⟩
inductive S where
 | ex (e : E) | set (i : Nat) (e : E) | own (i : Nat) (e : E) | unp (t : Tg) (e : E) | unq (i j : Nat) (e : E)
 | sti (o i e : E) | sta (o : E) (f : Nat) (e : E)
 | aug (i : Nat) (op : Bop) (e : E) | agi (o i : E) (op : Bop) (e : E) | aga (o : E) (f : Nat) (op : Bop) (e : E)
 | ret (e : E) | rtn
 | ife (c : E) (a b : List S)
 | for (t : Tg) (it : I) (b : List S)
 | whl (c : E) (b : List S)
 | brk | cnt | pas
 | rai (C : Nat) (es : List E)
 | dli (o i : E)
 | par (is : List Nat) (es : List E) | nvr
 | tri (b : List S)
instance : Inhabited S := ⟨.pas⟩
structure Fn where
 np : Nat
 nl : Nat
 body : List S
 deriving Inhabited
inductive G where
 | pl (s : S) | yld (e : E) | for (t : Tg) (it : I) (b : List G)
instance : Inhabited G := ⟨.pl .pas⟩
structure Gn where
 np : Nat
 nl : Nat
 body : List G
 deriving Inhabited
structure Cl where
 init : Option Nat
 frozen : Bool
 meths : List (Nat × Nat)
 props : List (Nat × Nat)
 consts : List (Nat × W)
 exn : Option (List Nat × List Nat × Tx) := none
 bases : List Nat := []
 flds : List Nat := []
 deriving Inhabited
structure Pg where
 fns : List Fn
 cls : List Cl
 gens : List Gn := []
 nst : List Nat := []
 xcl : List Nat := []
 xk : List (Sum Nat Nat) := []
 xbs : List (Nat × Nat) := []
 xfs : List Nat := []
 vms : List (Nat × Nat × Nat) := []
 cms : List (Nat × Fn) := []
 sEq : Nat := 0
 sLen : Nat := 1
 sIn : Nat := 2
 sRepr : Nat := 3
 sAdd : Nat := 4
 sMul : Nat := 5
 sCode : Nat := 0
 rfd : List (List Tx × Nat) := []
 rok : List Nat := []
 rk : Bool := false
 rc : Bool := false
 rl : Bool := false
 lk : List (Nat × List Nat × List (Option Nat)) := []
 ask : Option Fn := none
 deriving Inhabited
def kget (k : Ky) : List Ky → List W → Option W
 | g :: ks, w :: xs => if g = k then some w else kget k ks xs
 | _, _ => none
def krep (k : Ky) (v : W) : List Ky → List W → List W
 | g :: ks, w :: xs => (if g = k then v else w) :: krep k v ks xs
 | _, _ => []
def kput (k : Ky) (v : W) (ks : List Ky) (xs : List W) : List Ky × List W :=
 if ks.any (fun g => decide (g = k)) then (ks, krep k v ks xs) else (ks ++ [k], xs ++ [v])
def kyOf : W → Option Ky
 | .int i => some (.inl i)
 | .str x => some (.inr x)
 | _ => none
def mulOk (i j : Int) : Bool := (decide (-(2 ^ 64) < i) && decide (i < 2 ^ 64)) || (decide (-(2 ^ 64) < j) && decide (j < 2 ^ 64))
def binW : Bop → W → W → Option W
 | .add, .int i, .int j => some (.int (i + j))
 | .sub, .int i, .int j => some (.int (i - j))
 | .mul, .int i, .int j => if mulOk i j then some (.int (i * j)) else none
 | .fdv, .int i, .int j => if 0 < j ∧ j < 1073741824 then some (.int (i / j)) else none
 | .mod, .int i, .int j => if 0 < j then some (.int (i % j)) else none
 | .pow, .int i, .int j => if 0 ≤ j ∧ j ≤ 1000000 ∧ i.natAbs < 2 ^ 64 then some (.int (i ^ j.toNat)) else none
 | .add, .str x, .str y => if x.length + y.length ≤ lineMax then some (.str (x ++ y)) else none
 | .add, .tup x, .tup y => if x.length + y.length ≤ lineMax then some (.tup (x ++ y)) else none
 | .add, .lst x, .lst y => if x.length + y.length ≤ lineMax then some (.lst (x ++ y)) else none
 | .mul, .tup x, .int k => if x ≠ [] ∧ 0 ≤ k ∧ k ≤ 1000 ∧ x.length ≤ 1000 then some (.tup (List.replicate k.toNat x).flatten) else none
 | .mul, .lst x, .int k => if -(2 ^ 63) ≤ k ∧ k < 2 ^ 63 ∧ x.length * k.toNat ≤ lineMax then some (.lst (List.replicate k.toNat x).flatten) else none
 | _, _, _ => none
def cmpW : Cop → W → W → Option Bool
 | .lt, .int i, .int j => some (decide (i < j))
 | .le, .int i, .int j => some (decide (i ≤ j))
 | .gt, .int i, .int j => some (decide (j < i))
 | .ge, .int i, .int j => some (decide (j ≤ i))
 | .eq, a, b => if dOk a && dOk b then some (eqD a b) else none
 | .ne, a, b => if dOk a && dOk b then some (!eqD a b) else none
 | .inn, .str [x], .str y => some (decide (x ∈ y))
 | .nin, .str [x], .str y => some (!decide (x ∈ y))
 | .inn, x, .lst ys => if dOk x && dOk (.lst ys) then some (memD x ys) else none
 | .nin, x, .lst ys => if dOk x && dOk (.lst ys) then some (!memD x ys) else none
 | .inn, x, .tup ys => if dOk x && dOk (.tup ys) then some (memD x ys) else none
 | .nin, x, .tup ys => if dOk x && dOk (.tup ys) then some (!memD x ys) else none
 | .inn, x, .dct ks xs => (kyOf x).map fun k => (kget k ks xs).isSome
 | .nin, x, .dct ks xs => (kyOf x).map fun k => !(kget k ks xs).isSome
 | _, _, _ => none
def isnW : W → Option Bool
 | .non => some true
 | .sl _ => none
 | .glo _ => none
 | .exn _ _ _ => none
 | _ => some false
def truW : W → Option Bool
 | .non => some false
 | .bl b => some b
 | .int i => some (i != 0)
 | .str x => if x.length ≤ lineMax then some (!x.isEmpty) else none
 | .tup xs | .lst xs => some (!xs.isEmpty)
 | .dct ks _ => some (!ks.isEmpty)
 | _ => none
def vw (st : St) (w : W) : W := match w with
 | .loc _ | .sl _ => (match look st w with
  | some (.lst xs) => .lst xs
  | some (.dct ks xs) => .dct ks xs
  | _ => w)
 | w => w
def subW (a i : W) : Option W := match a, i with
 | .tup xs, .int k => (ixN xs.length k).bind fun j => xs[j]?
 | .lst xs, .int k => (ixN xs.length k).bind fun j => xs[j]?
 | .str x, .int k => if x.length ≤ lineMax then (ixN x.length k).bind fun j => (x[j]?).map fun c => .str [c] else none
 | .dct ks xs, k => (kyOf k).bind fun q => kget q ks xs
 | _, _ => none
def slcW (a : W) (lo hi : Option Int) : Option W := match a with
 | .tup xs => some (.tup (cut xs lo hi))
 | .lst xs => some (.lst (cut xs lo hi))
 | .str x => if x.length ≤ lineMax then some (.str (cut x lo hi)) else none
 | .scr ns => some (.lst ((cut ns lo hi).map .int))
 | _ => none
def lenW : W → Option Nat
 | .str x => if x.length ≤ lineMax then some x.length else none
 | .tup xs | .lst xs => some xs.length
 | .dct ks _ => some ks.length
 | _ => none
def maxI : List Int → Option Int
 | [] => none
 | x :: r => some (r.foldl max x)
def minI : List Int → Option Int
 | [] => none
 | x :: r => some (r.foldl min x)
def insI (x : Int) : List Int → List Int
 | [] => [x]
 | y :: r => if x ≤ y then x :: y :: r else y :: insI x r
def sortI : List Int → List Int
 | [] => []
 | x :: r => insI x (sortI r)
def leT : Tx → Tx → Bool
 | [], _ => true
 | _ :: _, [] => false
 | a :: x, b :: y => decide (a < b) || (decide (a = b) && leT x y)
def insT (x : Tx) : List Tx → List Tx
 | [] => [x]
 | y :: r => if leT x y then x :: y :: r else y :: insT x r
def bifW : Bif → List W → Option W
 | .len, [w] => (lenW w).map fun n => .int n
 | .sum, [.lst xs] => (intsW xs).map fun ns => .int ns.sum
 | .max, [.lst xs] => ((intsW xs).bind maxI).map .int
 | .min, [.lst xs] => ((intsW xs).bind minI).map .int
 | .max2, [.int i, .int j] => some (.int (if j > i then j else i))
 | .min2, [.int i, .int j] => some (.int (if j < i then j else i))
 | .all, [.lst xs] => (bls xs).map fun bs => .bl (bs.all id)
 | .any, [.lst xs] => (bls xs).map fun bs => .bl (bs.any id)
 | .list, [.lst xs] => some (.lst xs)
 | .list, [.tup xs] => some (.lst xs)
 | .tuple, [.lst xs] => some (.tup xs)
 | .tuple, [.tup xs] => some (.tup xs)
 | .int, [.int i] => some (.int i)
 | .int, [.bl b] => some (.int (if b then 1 else 0))
 | .str, [.int i] => if i.natAbs.log2 < 1920 then some (.str (dig i)) else none
 | .str, [.str x] => some (.str x)
 | .sorted, [.lst xs] => (intsW xs).map fun ns => .lst ((sortI ns).map .int)
 | .sorted, [.tup xs] => (intsW xs).map fun ns => .lst ((sortI ns).map .int)
 | _, _ => none
def fmtW : W → Option Tx
 | .str x => if x.length ≤ lineMax then some x else none
 | .int i => if i.natAbs.log2 < 1920 then some (dig i) else none
 | _ => none
def bmtW : Bmt → W → List W → Option W
 | .count, .lst xs, [y] => if dOk y && dOk (.lst xs) then some (.int (xs.countP fun x => eqD x y)) else none
 | .count, .tup xs, [y] => if dOk y && dOk (.tup xs) then some (.int (xs.countP fun x => eqD x y)) else none
 | .index, .lst xs, [y] => if dOk y && dOk (.lst xs) then (xs.findIdx? fun x => eqD x y).map fun (j : Nat) => W.int (j : Int) else none
 | .index, .tup xs, [y] => if dOk y && dOk (.tup xs) then (xs.findIdx? fun x => eqD x y).map fun (j : Nat) => W.int (j : Int) else none
 | .get, .dct ks xs, [k] => (kyOf k).map fun q => (kget q ks xs).getD .non
 | _, _, _ => none
def bmT : Bmt → W → Bool
 | .count, .lst _ => true
 | .count, .tup _ => true
 | .index, .lst _ => true
 | .index, .tup _ => true
 | .get, .dct _ _ => true
 | _, _ => false
def cmT : Cmt → Option OO → Bool
 | .setdefault, _ => false
 | _, some (.lst _) => true
 | _, _ => false
def cmtW : Cmt → OO → List W → Option (W × OO)
 | .append, .lst xs, [y] => if xs.length < lineMax then some (.non, .lst (xs ++ [y])) else none
 | .extend, .lst xs, [.lst ys] => if xs.length + ys.length ≤ lineMax then some (.non, .lst (xs ++ ys)) else none
 | .pop, .lst xs, [] => (xs[xs.length - 1]?).map fun y => (y, .lst xs.dropLast)
 | .pop, .lst xs, [.int i] => if -(2 ^ 63) ≤ i ∧ i < 2 ^ 63 then (ixN xs.length i).bind fun k => (xs[k]?).map fun y => (y, .lst (xs.eraseIdx k)) else none
 | .insert, .lst xs, [.int i, y] => if xs.length < lineMax ∧ 0 ≤ i ∧ i < 2 ^ 63 then some (.non, .lst (xs.take i.toNat ++ [y] ++ xs.drop i.toNat)) else none
 | .clear, .lst _, [] => some (.non, .lst [])
 | .reverse, .lst xs, [] => some (.non, .lst xs.reverse)
 | _, _, _ => none
def fget (f : Nat) : List Nat → List W → Option W
 | g :: ns, w :: xs => if g = f then some w else fget f ns xs
 | _, _ => none
def fput (f : Nat) (v : W) : List Nat → List W → List Nat × List W
 | g :: ns, w :: xs => if g = f then (g :: ns, v :: xs) else let p := fput f v ns xs; (g :: p.1, w :: p.2)
 | _, _ => ([f], [v])
def nkOf : W → Option (Tx × List Int)
 | .tup [.str x, .tup ys] => (intsW ys).map fun zs => (x, zs)
 | _ => none
def nget (q : Tx × List Int) : List (Tx × List Int) → List W → Option W
 | k :: ks, x :: xs => if k = q then some x else nget q ks xs
 | _, _ => none
def nput (q : Tx × List Int) (v : W) : List (Tx × List Int) → List W → List (Tx × List Int) × List W
 | k :: ks, x :: xs => if k = q then (k :: ks, v :: xs) else let p := nput q v ks xs; (k :: p.1, x :: p.2)
 | _, _ => ([q], [v])
def stiW : OO → W → W → Option OO
 | .dnk ks xs, k, v => (nkOf k).bind fun q => if ks.length < lineMax then some (let p := nput q v ks xs; .dnk p.1 p.2) else none
 | .lst xs, .int k, v => (ixN xs.length k).map fun j => .lst (xs.set j v)
 | .dct ks xs, k, v => (kyOf k).bind fun q => if ks.length < lineMax then some (let p := kput q v ks xs; .dct p.1 p.2) else none
 | _, _, _ => none
def dliW : OO → W → Option OO
 | .lst xs, .int k => if -(2 ^ 63) ≤ k ∧ k < 2 ^ 63 then (ixN xs.length k).map fun j => .lst (xs.eraseIdx j) else none
 | _, _ => none
def tgW : Tg → W → List Sl → Option (List Sl)
 | .nam i, w, r => if i < r.length && okv w then some (r.set i (.val w)) else none
 | .tup ts, w, r => match w with
  | .tup xs => tgWs ts xs r
  | _ => none
where tgWs : List Tg → List W → List Sl → Option (List Sl)
 | [], [], r => some r
 | t :: ts, x :: xs, r => (tgW t x r).bind fun r1 => tgWs ts xs r1
 | _, _, _ => none
def tgIx : Tg → List Nat
 | .nam i => [i]
 | .tup ts => tgIxs ts
where tgIxs : List Tg → List Nat
 | [] => []
 | t :: ts => tgIx t ++ tgIxs ts
def clsOf (st : St) (w : W) : Option Nat := match look st w with
 | some (.ins C _ _) => some C
 | _ => none
def subC (p : Pg) (C D : Nat) : Bool := C == D || (match p.cls[C]? with
 | some c => c.bases.contains D
 | none => false)
def clsG (p : Pg) (C : Nat) : Option Cl := (p.cls[C]?).bind fun c => if c.init.isSome then some c else none
def tyW (st : St) : W → Option (Sum Nat Nat)
 | .non => some (.inl 0) | .bl _ => some (.inl 1) | .int _ => some (.inl 2) | .str _ => some (.inl 3) | .tup _ => some (.inl 4)
 | .scr _ => some (.inl 5) | .glo _ => none | .exn _ _ _ => none
 | w => match look st w with
  | some (.lst _) => some (.inl 5)
  | some (.dct _ _) => some (.inl 6)
  | some (.ins C _ _) => some (.inr C)
  | some .tab => none
  | some (.dnk _ _) => none
  | none => none
def tyG (p : Pg) (st : St) (w : W) : Option (Sum Nat Nat) := (tyW st w).bind fun t => match t with
 | .inl n => some (.inl n)
 | .inr D => (clsG p D).map fun _ => .inr D
def kdN : Kd → Nat
 | .none => 0 | .bool => 1 | .int => 2 | .str => 3 | .tuple => 4 | .list => 5 | .cls _ => 9
def isK (p : Pg) (t : Sum Nat Nat) (k : Kd) : Option Bool := match k, t with
 | .none, _ => none
 | .cls D, .inl _ => (clsG p D).map fun _ => false
 | .cls D, .inr C => (clsG p C).bind fun _ => (clsG p D).map fun _ => subC p C D
 | k, .inl n => some (n == kdN k || (n == 1 && kdN k == 2))
 | k, .inr C => (clsG p C).map fun _ => false
def isKs (p : Pg) (st : St) (w : W) : List Kd → Option Bool
 | [] => some false
 | k :: ks => ((tyW st w).bind fun t => isK p t k).bind fun b => if b then some true else isKs p st w ks
inductive Src where
 | fix (xs : List W) | seq (w : W) | enu (w : W) | zip (a b : W) | enk (k : Int) (w : W)
 deriving Inhabited
def wkOf (st : St) (w : W) : Option (List W) := if okv w then seqOf st w else none
def wlOf (st : St) (w : W) : Option (List W) := if okv w then lstOf st w else none
def Src.at (st : St) (i : Nat) : Src → Option (Option W)
 | .fix xs => some xs[i]?
 | .seq w => (wkOf st w).map fun xs => xs[i]?
 | .enu w => (wkOf st w).map fun xs => (xs[i]?).map fun x => .tup [.int (i : Int), x]
 | .enk k w => (wkOf st w).map fun xs => (xs[i]?).map fun x => .tup [.int (k + (i : Int)), x]
 | .zip a b => match a, b with
  | .tup xs, .tup ys => some (match xs[i]?, ys[i]? with | some x, some y => some (.tup [x, y]) | _, _ => none)
  | a, .tup ys => (wlOf st a).map fun xs => match xs[i]?, ys[i]? with | some x, some y => some (.tup [x, y]) | _, _ => none
  | a, b => (wlOf st a).bind fun xs => (wlOf st b).map fun ys => match xs[i]?, ys[i]? with | some x, some y => some (.tup [x, y]) | _, _ => none
def Src.len (st : St) : Src → Nat
 | .fix xs => xs.length
 | .seq w => ((wkOf st w).getD []).length
 | .enu w => ((wkOf st w).getD []).length
 | .enk _ w => ((wkOf st w).getD []).length
 | .zip a _ => ((wkOf st a).getD []).length
def mapR (f : W → St → R (Option W)) (q : Src) : Nat → Nat → St → R (List W)
 | m, i, st => match q.at st i with
  | none => .stk
  | some none => .ok [] st
  | some (some x) => match m with
   | 0 => .stk
   | m + 1 => (f x st).bind fun o st1 => (mapR f q m (i + 1) st1).bind fun ys st2 => .ok (match o with | some y => y :: ys | none => ys) st2
def foldR (f : W → List W → St → R (List W)) (q : Src) : Nat → Nat → List W → St → R (List W)
 | m, i, acc, st => match q.at st i with
  | none => .stk
  | some none => .ok acc st
  | some (some x) => match m with
   | 0 => .stk
   | m + 1 => (f x acc st).bind fun acc1 st1 => foldR f q m (i + 1) acc1 st1
def forR (tg : W → List Sl → Option (List Sl)) (b : St → R Fl) (q : Src) : Nat → Nat → St → R Fl
 | m, i, st => match q.at st i with
   | none => .stk
   | some none => .ok .nx st
   | some (some x) => match m with
     | 0 => .stk
     | m + 1 => (match tg x st.r with
       | none => .stk
       | some r => (b ⟨r, st.s⟩).bind fun f st2 => match f with
         | .nx => forR tg b q m (i + 1) st2
         | .cnt => forR tg b q m (i + 1) st2
         | .brk => .ok .nx st2
         | .ret w => .ok (.ret w) st2)
def whlR (c : St → R Bool) (b : St → R Fl) : Nat → St → R Fl
 | 0, _ => .stk
 | n + 1, st => (c st).bind fun k st1 => if k then (b st1).bind fun f st2 => (match f with
   | .nx => whlR c b n st2
   | .cnt => whlR c b n st2
   | .brk => .ok .nx st2
   | .ret w => .ok (.ret w) st2) else .ok .nx st1
def wipe (r : List Sl) : List Nat → List Sl
 | [] => r
 | i :: is => (wipe r is).set i .un
def noOwn (r : List Sl) : List Nat → Bool
 | [] => true
 | i :: is => (match r[i]? with | some (.own _) => false | some _ => true | none => false) && noOwn r is
def backS (is : List Nat) (r0 r1 : List Sl) : List Sl := match is with
 | [] => r1
 | i :: js => (backS js r0 r1).set i (r0.getD i .un)
def rngW : List W → Option (List W)
 | [.int j] => if -(2 ^ 62) ≤ j ∧ j < 2 ^ 62 then some ((List.range j.toNat).map fun (k : Nat) => W.int (k : Int)) else none
 | [.int i, .int j] => if -(2 ^ 62) ≤ i ∧ i < 2 ^ 62 ∧ -(2 ^ 62) ≤ j ∧ j < 2 ^ 62 then some ((List.range (j - i).toNat).map fun (k : Nat) => W.int (i + (k : Int))) else none
 | [.int i, .int j, .int (-1)] => if -(2 ^ 62) ≤ i ∧ i < 2 ^ 62 ∧ -(2 ^ 62) ≤ j ∧ j < 2 ^ 62 then some ((List.range (i - j).toNat).map fun (k : Nat) => W.int (i - (k : Int))) else none
 | _ => none
def enuW (k : Int) : List W → List W
 | [] => []
 | x :: xs => .tup [.int k, x] :: enuW (k + 1) xs
def dicW (qs : List Ky) (ws : List W) : List Ky × List W := (qs.zip ws).foldl (fun a q => kput q.1 q.2 a.1 a.2) ([], [])
def prsW (ys : List W) : Option (List Ky × List W) := ys.foldl (fun a y => match a, y with
   | some a, .tup [k, v] => (kyOf k).map fun q => kput q v a.1 a.2
   | _, _ => none) (some ([], []))
def fldX : List (List Tx × Nat) → Tx → List Nat → List W → Option W
 | [], _, _, _ => some .non
 | (ts, f) :: r, c, ns, xs => if c ∈ ts then fget f ns xs else fldX r c ns xs
def rglW (t : Bool) (i : Int) (w : W) (st : St) : R W := match w with
 | .int j => if -(2 ^ 62) ≤ i ∧ i < 2 ^ 62 ∧ -(2 ^ 62) ≤ j ∧ j < 2 ^ 62 ∧ (j - i).toNat ≤ 2 ^ 24 then .ok (if t then .tup ((List.range (j - i).toNat).map fun (k : Nat) => W.int (i + (k : Int))) else .lst ((List.range (j - i).toNat).map fun (k : Nat) => W.int (i + (k : Int)))) st else .stk
 | _ => .stk
def dGet (z : Tx) : List Tx → List W → Option W
 | k :: ks, w :: ws => if k = z then some w else dGet z ks ws
 | _, _ => none
def indR (neg : Bool) (ks : List Tx) (w : W) (st : St) : R W := match w with
 | .str z => .ok (.bl (if neg then !decide (z ∈ ks) else decide (z ∈ ks))) st
 | _ => .stk
def ixdR (ks : List Tx) (ws : List W) (w : W) (st : St) : R W := match w with
 | .str z => .lift st (dGet z ks ws)
 | _ => .stk
def isTx : W → Bool
 | .str _ => true
 | _ => false
def txmW (b : Bmt) (x y : W) : Option W := match b, x, y with
 | .split, .str x, .str y => if y ≠ [] ∧ (y.all fun c => decide (c < 256)) = true ∧ x.length + 2 ≤ lineMax then some (.lst ((TL.spl y 0 [] x).map .str)) else none
 | .partition, .str x, .str y => if y ≠ [] ∧ x.length ≤ lineMax then some (match TL.par y [] x with | some (a, b) => .tup [.str a, .str y, .str b] | none => .tup [.str x, .str [], .str []]) else none
 | .index, .str x, .str [c] => if x.length ≤ lineMax then (x.findIdx? fun d => d == c).map fun (j : Nat) => W.int (j : Int) else none
 | .join, .str x, .lst ys => (strsW ys).bind fun zs => if (zs.map (·.length)).sum + zs.length * x.length ≤ lineMax then some (.str (TL.joinL x zs)) else none
 | _, _, _ => none
def itxW : W → Option W
 | .str x => if x ≠ [] ∧ (x.all fun c => decide (48 ≤ c) && decide (c ≤ 57)) = true ∧ x.length ≤ 640 then some (.int ((x.foldl (fun acc c => acc * 10 + (c - 48)) 0 : Nat) : Int)) else none
 | _ => none
def lssW : W → Option W
 | .str x => if x.length ≤ lineMax then some (.lst ((x.map fun c => [c]).map .str)) else none
 | _ => none
def itX (x : Xn) : List (Option Nat) → Option (List W)
 | [] => some []
 | none :: r => (itX x r).map fun l => .non :: l
 | some f :: r => (fget f x.ns x.xs).bind fun w => (itX x r).map fun l => w :: l
def lkR (p : Pg) (x : Xn) : Option W := match p.lk with
 | [(C1, z1, i1), (C2, z2, i2)] => if x.C = C1 then (itX x i1).map fun l => .tup (.str z1 :: l) else if x.C = C2 then (itX x i2).map fun l => .tup (.str z2 :: l) else none
 | _ => none
def isxB (p : Pg) (C : Nat) : Sum Nat Nat → Bool
 | .inl D => subC p C D
 | .inr n => p.xbs.contains (C, n)
def isxW (p : Pg) (C : Nat) (k : Sum Nat Nat) : Option W := if p.xcl.contains C && p.xk.contains k then some (.bl (isxB p C k)) else none
def xatW (p : Pg) (f : Nat) : W → Option W
 | .exn C ns xs => if p.xcl.contains C && p.xfs.contains f then fget f ns xs else none
 | _ => none
def refR (p : Pg) : R W → R W
 | .ok _ st => .ok (if p.rl then .tup [.str [], .non, .non, .non] else if p.rc then .str [] else .tup [.str [], .non]) st
 | .exc x st => if p.rl then (match lkR p x with | some w => .ok w st | none => .stk) else if !p.rok.contains x.C then .stk else match fget p.sCode x.ns x.xs with
  | some (.str c) => if p.rc then .ok (.str c) st else (match fldX p.rfd c x.ns x.xs with
   | some w => if p.rk && !(p.rfd.any fun q => q.1.contains c) then .stk else .ok (.tup [.str c, w]) st
   | none => .stk)
  | _ => .stk
 | .stk => .stk
def keysT : List W → Option (List Int)
 | [] => some []
 | x :: xs => match x with
  | .tup [.int n, .tup []] => (keysT xs).map (n :: ·)
  | _ => none
def srtW : W → Option W
 | .lst xs => (keysT xs).map fun ns => .lst ((sortI ns).map fun n => .tup [.int n, .tup []])
 | _ => none
def dedL {α : Type} [DecidableEq α] (xs : List α) : List α := xs.foldl (fun acc x => if x ∈ acc then acc else acc ++ [x]) []
def insX (x : Tx) : List Tx → List Tx
 | [] => [x]
 | y :: r => if PySem.Spec.ltCps y x then y :: insX x r else x :: y :: r
def srtX : List Tx → List Tx
 | [] => []
 | x :: r => insX x (srtX r)
def srsW : W → Option W
 | .lst xs => (strsW xs).bind fun zs => if zs.length < 64 then some (.lst ((srtX zs).map .str)) else none
 | _ => none
def lnsW : W → Option W
 | .lst xs => (strsW xs).bind fun zs => if zs.length ≤ 4000 then some (.int ((dedL zs).length : Nat)) else none
 | _ => none
def lsgR (p : Pg) : R W → R W
 | .ok w st => if (match w with | .lst _ => true | _ => false) then .ok w st else .stk
 | .exc x st => if p.nst.contains x.C then .exc x st else .stk
 | .stk => .stk
section
variable (p : Pg) (cal : Bool → Nat → List W → List OO → RC) (wf : Nat)
def callR (k : Bool) (f : Nat) (ws : List W) (st : St) : R W := if okvs ws then (cal k f ws st.s).at st.r else .stk
def metOf (C m : Nat) : Option Nat := (clsG p C).bind fun c => c.meths.lookup m
def ownR (m : Nat) (a : W) (ws : List W) (st : St) (els : R W) : R W := match clsOf st a with
 | some C => (match metOf p C m with
  | some f => callR cal false f (a :: ws) st
  | none => .stk)
 | none => els
def blR (r : R W) : R W := r.bind fun w st => match w with
 | .bl b => .ok (.bl b) st
 | _ => .stk
def notR (r : R W) : R W := r.bind fun w st => match w with
 | .bl b => .ok (.bl !b) st
 | _ => .stk
def binR (op : Bop) (a b : W) (st : St) : R W := match op with
 | .add => (match clsOf st a with
  | some C => if clsOf st b = some C then noL (ownR p cal p.sAdd a [b] st .stk) else .stk
  | none => .lift st (binW op (vw st a) (vw st b)))
 | .mul => (match clsOf st a with
  | some C => if clsOf st b = some C then noL (ownR p cal p.sMul a [b] st .stk) else .stk
  | none => .lift st (binW op (vw st a) (vw st b)))
 | op => .lift st (binW op (vw st a) (vw st b))
def cmpR (op : Cop) (a b : W) (st : St) : R W :=
 let plain : R W := .lift st ((cmpW op (vw st a) (vw st b)).map .bl)
 match op with
 | .eq => (match clsOf st a with
  | some _ => (match tyG p st b with
   | some _ => blR (ownR p cal p.sEq a [b] st .stk)
   | none => .stk)
  | none => plain)
 | .ne => (match clsOf st a with
  | some _ => (match tyG p st b with
   | some _ => notR (ownR p cal p.sEq a [b] st .stk)
   | none => .stk)
  | none => plain)
 | .inn => (match clsOf st b with
  | some _ => blR (ownR p cal p.sIn b [a] st .stk)
  | none => plain)
 | .nin => (match clsOf st b with
  | some _ => notR (ownR p cal p.sIn b [a] st .stk)
  | none => plain)
 | .isn => .lift st (match b with | .non => (isnW a).map .bl | _ => none)
 | .ntn => .lift st (match b with | .non => (isnW a).map fun k => .bl !k | _ => none)
 | _ => plain
def truR (w : W) (st : St) : R Bool := .lift st (truW (vw st w))
def attR (f : Nat) (a : W) (st : St) : R W := match look st a with
 | some (.ins C ns xs) => (match clsG p C with
  | none => .stk
  | some c => (match c.props.lookup f with
   | some g => (callR cal false g [a] st).calm
   | none => (match fget f ns xs with
    | some w => if c.flds.contains f then .ok w st else .stk
    | none => .lift st (c.consts.lookup f))))
 | _ => .stk
def mthF (m : Nat) (a : W) (st : St) : Option Nat := match look st a with
 | some (.ins C ns _) => if ns.contains m then none else metOf p C m
 | _ => none
def vmF (m : Nat) (a : W) (st : St) : Option Nat := match look st a with
 | some (.ins C ns _) => if ns.contains m then none else (p.vms.find? fun q => q.1 == C && q.2.1 == m).map (·.2.2)
 | _ => none
def fldOk (C f : Nat) : Bool := match clsG p C with
 | some c => c.flds.contains f
 | none => false
def bifR (b : Bif) (ws : List W) (st : St) : R W := match b, ws with
 | .len, [w] => (match clsOf st w with
  | some _ => (ownR p cal p.sLen w [] st .stk).bind fun v st1 => (match v with
   | .int i => if 0 ≤ i ∧ i < 2 ^ 63 then .ok (.int i) st1 else .stk
   | _ => .stk)
  | none => .lift st (bifW .len [vw st w]))
 | .repr, [w] => (ownR p cal p.sRepr w [] st .stk).bind fun v st1 => (match v with
   | .str x => .ok (.str x) st1
   | _ => .stk)
 | b, ws => .lift st (bifW b (ws.map (vw st)))
mutual
def evE : E → St → R W
 | .var i, st => match st.r[i]? with
   | some (.val w) => .ok w st
   | some (.own _) => .ok (.sl i) st
   | _ => .stk
 | .cst w, st => .ok w st
 | .glo _ w, st => .ok w st
 | .bin op a b, st => (evE a st).bind fun x st1 => (evE b st1).bind fun y st2 => binR p cal op x y st2
 | .neg a, st => (evE a st).bind fun x st1 => match x with
   | .int i => .ok (.int (-i)) st1
   | _ => .stk
 | .cmp op a b, st => (evE a st).bind fun x st1 => (evE b st1).bind fun y st2 => cmpR p cal op x y st2
 | .chn o1 o2 a b c, st => (evE a st).bind fun x st1 => (evE b st1).bind fun y st2 => (cmpR p cal o1 x y st2).bind fun k st3 => match k with
   | .bl true => (evE c st3).bind fun z st4 => cmpR p cal o2 y z st4
   | .bl false => .ok (.bl false) st3
   | _ => .stk
 | .chn3 o1 o2 o3 a b c d, st => (evE a st).bind fun x st1 => (evE b st1).bind fun y st2 => (cmpR p cal o1 x y st2).bind fun k st3 => match k with
   | .bl true => (evE c st3).bind fun z st4 => (cmpR p cal o2 y z st4).bind fun k2 st5 => (match k2 with
     | .bl true => (evE d st5).bind fun u st6 => cmpR p cal o3 z u st6
     | .bl false => .ok (.bl false) st5
     | _ => .stk)
   | .bl false => .ok (.bl false) st3
   | _ => .stk
 | .bnd a b, st => (evE a st).bind fun x st1 => match x with
   | .bl true => evE b st1
   | .bl false => .ok (.bl false) st1
   | _ => .stk
 | .bor a b, st => (evE a st).bind fun x st1 => match x with
   | .bl true => .ok (.bl true) st1
   | .bl false => evE b st1
   | _ => .stk
 | .bnt a, st => (evE a st).bind fun x st1 => (truR x st1).bind fun k st2 => .ok (.bl !k) st2
 | .ite c a b, st => (evE c st).bind fun x st1 => (truR x st1).bind fun k st2 => if k then evE a st2 else evE b st2
 | .tup es, st => (evEs es st).bind fun ws st1 => if okvs ws && decide (ws.length ≤ lineMax) then .ok (.tup ws) st1 else .stk
 | .lst es, st => (evEs es st).bind fun ws st1 => if okvs ws && decide (ws.length ≤ lineMax) then .ok (.lst ws) st1 else .stk
 | .dic es vs, st => R.calm ((evEs es st).bind fun ks st1 => (evEs vs st1).bind fun ws st2 => if okvs ws then (match ks.mapM kyOf with
     | some qs => .ok (let q := dicW qs ws; .dct q.1 q.2) st2
     | none => .stk) else .stk)
 | .alc e, st => (evE e st).bind fun w st1 => if isL w then .ok (.loc st1.s.length) ⟨st1.r, st1.s ++ [oOf w]⟩ else .stk
 | .frz i, st => match st.r[i]? with
   | some (.own (.lst xs)) => .ok (.lst xs) ⟨st.r.set i (.val (.lst xs)), st.s⟩
   | some (.own (.dct ks xs)) => .ok (.dct ks xs) ⟨st.r.set i (.val (.dct ks xs)), st.s⟩
   | some (.val w) => .ok w st
   | _ => .stk
 | .sub a i, st => (evE a st).bind fun x st1 => (evE i st1).bind fun y st2 => .lift st2 (subW (vw st2 x) y)
 | .slc a lo hi, st => (evE a st).bind fun x st1 => (evO lo st1).bind fun l st2 => (evO hi st2).bind fun h st3 => .lift st3 (slcW (vw st3 x) l h)
 | .att a f, st => (evE a st).bind fun x st1 => attR p cal f x st1
 | .kon C f, st => .lift st ((p.cls[C]?).bind fun c => c.consts.lookup f)
 | .cal f es, st => (evEs es st).bind fun ws st1 => callR cal false f ws st1
 | .new C es, st => (evEs es st).bind fun ws st1 => callR cal true C ws st1
 | .mth a m es, st => (evE a st).bind fun x st1 => match mthF p m x st1 with
   | some f => (evEs es st1).bind fun ws st2 => callR cal false f (x :: ws) st2
   | none => .stk
 | .lsg C f m a e, st => (evE a st).bind fun x st1 => match look st1 x with
   | some (.ins C' ns _) => if C' = C && !ns.contains m then (evE e st1).bind fun w st2 => lsgR p (callR cal false f [x, w] st2) else .stk
   | _ => .stk
 | .srt a, st => (evE a st).bind fun x st1 => .lift st1 (srtW (vw st1 x))
 | .lss a, st => (evE a st).bind fun x st1 => .lift st1 (lssW x)
 | .srs a, st => (evE a st).bind fun x st1 => .lift st1 (srsW (vw st1 x))
 | .lns a, st => (evE a st).bind fun x st1 => .lift st1 (lnsW (vw st1 x))
 | .bif b es, st => (evEs es st).bind fun ws st1 => bifR p cal b ws st1
 | .isi a ks, st => (evE a st).bind fun x st1 => .lift st1 ((isKs p st1 x ks).map .bl)
 | .bmt b a es, st => (evE a st).bind fun x st1 => if bmT b (vw st1 x) then (evEs es st1).bind fun ws st2 => if bmT b (vw st2 x) then .lift st2 (bmtW b (vw st2 x) (ws.map (vw st2))) else .stk else .stk
 | .cmt c a es, st => (evE a st).bind fun x st1 => if cmT c (look st1 x) then (evEs es st1).bind fun ws st2 => (match look st2 x with
   | some o => if okvs ws || c = .extend then (match cmtW c o (ws.map fun w => if c = .extend then vw st2 w else w) with
     | some (w, o') => (match put st2 o' x with
       | some st3 => .ok w st3
       | none => .stk)
     | none => .stk) else .stk
   | none => .stk) else .stk
 | .cpr e t it c, st => (evI it st).bind fun q st1 => let is := tgIx t
     if noOwn st1.r is then
     (mapR (fun x st2 => match (if noOwn st2.r is then tgW t x (wipe st2.r is) else none) with
       | none => .stk
       | some r => R.calm ((evT c ⟨r, st2.s⟩).bind fun k st3 => if k then (evE e st3).bind fun y st4 => if okv y then .ok (some y) st4 else .stk else .ok none st3)) q (q.len st1) 0 st1).bind fun ys st5 =>
     if decide (ys.length ≤ lineMax) && noOwn st5.r is then .ok (.lst ys) ⟨backS is st1.r st5.r, st5.s⟩ else .stk else .stk
 | .cp2 e t it t2 it2, st => (evI it st).bind fun q st1 => let is := tgIx t ++ tgIx t2
     if noOwn st1.r is then
     (foldR (fun x acc st2 => match (if noOwn st2.r is then tgW t x (wipe st2.r is) else none) with
       | none => .stk
       | some r => R.calm ((evI it2 ⟨r, st2.s⟩).bind fun q2 st3 => if noOwn st3.r (tgIx t2) then foldR (fun y acc2 st4 => match (if noOwn st4.r (tgIx t2) then tgW t2 y (wipe st4.r (tgIx t2)) else none) with
         | none => .stk
         | some r4 => R.calm ((evE e ⟨r4, st4.s⟩).bind fun z st5 => if okv z && decide (acc2.length < lineMax) then .ok (acc2 ++ [z]) st5 else .stk)) q2 (q2.len st3) 0 acc st3 else .stk)) q (q.len st1) 0 [] st1).bind fun ys st5 =>
     if noOwn st5.r is then .ok (.lst ys) ⟨backS is st1.r st5.r, st5.s⟩ else .stk else .stk
 | .rev a k, st => (evE a st).bind fun x st1 => (evE k st1).bind fun l st2 => match l with
   | .int i => if i = -1 then (match vw st2 x with
     | .lst xs => .ok (.lst xs.reverse) st2
     | .tup xs => .ok (.tup xs.reverse) st2
     | _ => .stk) else .stk
   | _ => .stk
 | .dcp k v t it, st => (evI it st).bind fun q st1 => let is := tgIx t
     if noOwn st1.r is then
     (mapR (fun x st2 => match (if noOwn st2.r is then tgW t x (wipe st2.r is) else none) with
       | none => .stk
       | some r => R.calm ((evE k ⟨r, st2.s⟩).bind fun y st3 => (evE v st3).bind fun z st4 => if okv z && (kyOf y).isSome then .ok (some (.tup [y, z])) st4 else .stk)) q (q.len st1) 0 st1).bind fun ys st5 =>
     (match prsW ys with
     | some q => if decide (ys.length ≤ lineMax) && noOwn st5.r is then .ok (.dct q.1 q.2) ⟨backS is st1.r st5.r, st5.s⟩ else .stk
     | none => .stk) else .stk
 | .fst es, st => evJ es [] st
 | .rfd _ e, st => match st.s[0]? with
   | some OO.tab => refR p (evE e st)
   | _ => .stk
 | .ind neg ks e, st => (evE e st).bind fun w st1 => indR neg ks w st1
 | .ixd ks ws e, st => (evE e st).bind fun w st1 => ixdR ks ws w st1
 | .txm b a e, st => (evE a st).bind fun x st1 => if isTx x then (evE e st1).bind fun y st2 => .lift st2 (txmW b x (vw st2 y)) else .stk
 | .exn C es, st => (evEs es st).bind fun ws st1 => match p.cls[C]? with
   | some c => (match c.exn with
     | some (ps, ns, code) => if ps.length = ws.length && okvs ws then .ok (.exn C ns (ws ++ [.str code])) st1 else .stk
     | none => .stk)
   | none => .stk
 | .isx a k, st => (evE a st).bind fun w st1 => match w with
   | .exn C _ _ => .lift st1 (isxW p C k)
   | _ => .stk
 | .xat a f, st => (evE a st).bind fun w st1 => .lift st1 (xatW p f w)
 | .itx a, st => (evE a st).bind fun x st1 => .lift st1 (itxW x)
 | .mtv a m k es, st => (evE a st).bind fun x st1 => match vmF p m x st1 with
   | some f => (evEs es st1).bind fun ws st2 => if okvs ws && (decide (k ≤ ws.length) && decide (ws.length ≤ k + 3)) then callR cal false f (x :: (ws.take k ++ [.tup (ws.drop k)])) st2 else .stk
   | none => .stk
 | .dkn, st => .ok (.loc st.s.length) ⟨st.r, st.s ++ [.dnk [] []]⟩
 | .dki neg k d, st => (evE k st).bind fun w st1 => (evE d st1).bind fun x st2 => match look st2 x with
   | some (.dnk ks xs) => (match nkOf w with
     | some q => .ok (.bl (neg != (nget q ks xs).isSome)) st2
     | none => .stk)
   | _ => .stk
 | .dkg d k, st => (evE d st).bind fun x st1 => (evE k st1).bind fun w st2 => match look st2 x with
   | some (.dnk ks xs) => (match (nkOf w).bind fun q => nget q ks xs with
     | some v => .ok v st2
     | none => .stk)
   | _ => .stk
 | .alf k, st => match st.s[0]? with
   | some OO.tab => .ok (.glo k) st
   | _ => .stk
 | .rfx _ v bs, st => match st.r[v]? with
   | some (Sl.val (.glo k)) => (match st.s[0]? with
     | some OO.tab => refR p (evN bs k ⟨wipe st.r [v], st.s⟩)
     | _ => .stk)
   | _ => .stk
 | .rfe _ a bs, st => (evE a st).bind fun w st1 => match w with
   | .glo k => (match st1.s[0]? with
     | some OO.tab => refR p (evN bs k st1)
     | _ => .stk)
   | _ => .stk
 | .rgl t a b, st => (evO a st).bind fun i st1 => (evE b st1).bind fun w st2 => rglW t (i.getD 0) w st2
 | .nvr, _ => .stk
def evN : List E → Nat → St → R W
 | [], _, _ => .stk
 | b :: bs, k, st => match k with
  | 0 => evE b st
  | k + 1 => evN bs k st
def evJ : List E → Tx → St → R W
 | [], acc, st => .ok (.str acc) st
 | e :: es, acc, st => (evE e st).bind fun w st1 => match fmtW w with
  | some y => if acc.length + y.length ≤ lineMax then evJ es (acc ++ y) st1 else .stk
  | none => .stk
def evEs : List E → St → R (List W)
 | [], st => .ok [] st
 | e :: es, st => (evE e st).bind fun w st1 => (evEs es st1).bind fun ws st2 => .ok (w :: ws) st2
def evO : Option E → St → R (Option Int)
 | none, st => .ok none st
 | some e, st => (evE e st).bind fun w st1 => match w with
  | .int i => .ok (some i) st1
  | _ => .stk
def evT : Option E → St → R Bool
 | none, st => .ok true st
 | some e, st => (evE e st).bind fun w st1 => truR w st1
def evI : I → St → R Src
 | .val e, st => (evE e st).bind fun w st1 => match w with
  | .str x => .ok (.fix (x.map fun c => .str [c])) st1
  | w => if (wkOf st1 w).isSome then .ok (.seq w) st1 else .stk
 | .rng es, st => (evEs es st).bind fun ws st1 => .lift st1 ((rngW ws).map .fix)
 | .enu e k, st => match k with
  | some (.cst (.int j)) => (evE e st).bind fun w st1 => if (wkOf st1 w).isSome && (decide (-(2 ^ 62) ≤ j) && decide (j < 2 ^ 62)) then .ok (.enk j w) st1 else .stk
  | some _ => .stk
  | none => (evE e st).bind fun w st1 => if (wkOf st1 w).isSome then .ok (.enu w) st1 else .stk
 | .zip a b, st => (evE a st).bind fun x st1 => (evE b st1).bind fun y st2 => if (Src.at st2 0 (.zip x y)).isSome then .ok (.zip x y) st2 else .stk
 | .itm _, _ => .stk
end
def setVs : List Nat → List W → List Sl → List Sl
 | i :: is, w :: ws, r => setVs is ws (r.set i (.val w))
 | _, _, r => r
def staW (p : Pg) (f : Nat) (v : W) : OO → Option OO
 | .ins C ns xs => if ns.length < 900 && fldOk p C f then some (let q := fput f v ns xs; .ins C q.1 q.2) else none
 | _ => none
mutual
def exS : S → St → R Fl
 | .ex e, st => (evE p cal e st).bind fun _ st1 => .ok .nx st1
 | .set i e, st => (evE p cal e st).bind fun w st1 => if okv w && decide (i < st1.r.length) then .ok .nx ⟨st1.r.set i (.val w), st1.s⟩ else .stk
 | .own i e, st => (evE p cal e st).bind fun w st1 => if decide (i < st1.r.length) && isL w then .ok .nx ⟨st1.r.set i (.own (oOf w)), st1.s⟩ else .stk
 | .unp t e, st => (evE p cal e st).bind fun w st1 => match tgW t w st1.r with
  | some r => .ok .nx ⟨r, st1.s⟩
  | none => .stk
 | .unq i j e, st => (evE p cal e st).bind fun w st1 => match w with
  | .tup (x :: xs) => (match tgW.tgWs [.nam i, .nam j] [x, .lst xs] st1.r with
   | some r => .ok .nx ⟨r, st1.s⟩
   | none => .stk)
  | .lst (x :: xs) => (match tgW.tgWs [.nam i, .nam j] [x, .lst xs] st1.r with
   | some r => .ok .nx ⟨r, st1.s⟩
   | none => .stk)
  | _ => .stk
 | .sti o i e, st => (evE p cal e st).bind fun v st1 => (evE p cal o st1).bind fun x st2 => (evE p cal i st2).bind fun k st3 =>
   match (look st3 x).bind fun ob => if okv v then (stiW ob k v).bind fun ob' => put st3 ob' x else none with
   | some st4 => .ok .nx st4
   | none => .stk
 | .sta o f e, st => (evE p cal e st).bind fun v st1 => (evE p cal o st1).bind fun x st2 =>
   match (look st2 x).bind fun ob => if okv v then (staW p f v ob).bind fun ob' => put st2 ob' x else none with
   | some st3 => .ok .nx st3
   | none => .stk
 | .aug i op e, st => match st.r[i]? with
  | some (.val x) => (evE p cal e st).bind fun y st1 => match binW op x (vw st1 y) with
   | some (.int k) => .ok .nx ⟨st1.r.set i (.val (.int k)), st1.s⟩
   | _ => .stk
  | _ => .stk
 | .agi o i op e, st => (evE p cal o st).bind fun x st1 => (evE p cal i st1).bind fun k st2 => match (match vw st2 x with | .lst xs => subW (.lst xs) k | _ => none) with
  | some old => (evE p cal e st2).bind fun y st3 => (match binW op old y with
   | some (.int z) => (match (look st3 x).bind fun ob => (stiW ob k (.int z)).bind fun ob' => put st3 ob' x with
    | some st4 => .ok .nx st4
    | none => .stk)
   | _ => .stk)
  | none => .stk
 | .aga o f op e, st => (evE p cal o st).bind fun x st1 => match look st1 x with
  | some (.ins C ns xs) => (match fget f ns xs with
   | some old => if fldOk p C f then (evE p cal e st1).bind fun y st2 => (match binW op old y with
    | some (.int z) => (match look st2 x with
     | some (.ins C2 ns2 xs2) => if decide (C2 = C) && decide (ns2.length < 900) then (match put st2 (.ins C2 (fput f (.int z) ns2 xs2).1 (fput f (.int z) ns2 xs2).2) x with
      | some st3 => .ok .nx st3
      | none => .stk) else .stk
     | _ => .stk)
    | _ => .stk) else .stk
   | none => .stk)
  | _ => .stk
 | .ret e, st => (evE p cal e st).bind fun w st1 => if okv w then .ok (.ret w) st1 else .stk
 | .rtn, st => .ok (.ret .non) st
 | .ife c a b, st => (evE p cal c st).bind fun w st1 => (truR w st1).bind fun k st2 => if k then exSs a st2 else exSs b st2
 | .for t it b, st => (evI p cal it st).bind fun xs st1 => forR (tgW t) (exSs b) xs (xs.len st1) 0 st1
 | .whl c b, st => whlR (fun st1 => (evE p cal c st1).bind fun w st2 => truR w st2) (exSs b) wf st
 | .brk, st => .ok .brk st
 | .cnt, st => .ok .cnt st
 | .pas, st => .ok .nx st
 | .rai C es, st => (evEs p cal es st).bind fun ws st1 => match p.cls[C]? with
  | some c => (match c.exn with
   | some (ps, ns, code) => if ps.length = ws.length && okvs ws then .exc ⟨C, ns, ws ++ [.str code]⟩ st1 else .stk
   | none => .stk)
  | none => .stk
 | .nvr, _ => .stk
 | .tri b, st => R.calm (exSs b st)
 | .par is es, st => (evEs p cal es st).bind fun ws st1 => if okvs ws && decide (is.length = ws.length) && is.all (fun i => decide (i < st1.r.length)) then .ok .nx ⟨setVs is ws st1.r, st1.s⟩ else .stk
 | .dli o i, st => (evE p cal o st).bind fun x st1 => (evE p cal i st1).bind fun k st2 =>
   match (look st2 x).bind fun ob => (dliW ob k).bind fun ob' => put st2 ob' x with
   | some st3 => .ok .nx st3
   | none => .stk
def exSs : List S → St → R Fl
 | [], st => .ok .nx st
 | a :: b, st => (exS a st).bind fun f st1 => match f with
  | .nx => exSs b st1
  | f => .ok f st1
end
def forG (tg : W → List Sl → Option (List Sl)) (b : List W → St → R (List W)) (q : Src) : Nat → Nat → List W → St → R (List W)
 | m, i, ws, st => match q.at st i with
  | none => .stk
  | some none => .ok ws st
  | some (some x) => match m with
   | 0 => .stk
   | m + 1 => (match tg x st.r with
    | none => .stk
    | some r => (b ws ⟨r, st.s⟩).bind fun ws1 st2 => forG tg b q m (i + 1) ws1 st2)
mutual
def exG : G → List W → St → R (List W)
 | .pl s, ws, st => (exS p cal wf s st).bind fun f st1 => match f with
  | .nx => .ok ws st1
  | _ => .stk
 | .yld e, ws, st => if ws.length < lineMax then (evE p cal e st).bind fun w st1 => if okv w then .ok (ws ++ [w]) st1 else .stk else .stk
 | .for t it b, ws, st => (evI p cal it st).bind fun xs st1 => forG (tgW t) (exGs b) xs (xs.len st1) 0 ws st1
def exGs : List G → List W → St → R (List W)
 | [], ws, st => .ok ws st
 | g :: gs, ws, st => (exG g ws st).bind fun ws1 st1 => exGs gs ws1 st1
end
def endG : R (List W) → RC
 | .ok ws st => .ok (.lst ws) st.s
 | .exc x st => .exc x st.s
 | .stk => .stk
def runG (g : Gn) (r0 : List Sl) (s : List OO) : RC := endG (exGs p cal wf g.body [] ⟨r0 ++ List.replicate (g.nl - r0.length) .un, s⟩)
def runF (f : Fn) (r0 : List Sl) (s : List OO) : R Fl := exSs p cal wf f.body ⟨r0 ++ List.replicate (f.nl - r0.length) .un, s⟩
end
def endF : R Fl → RC
 | .ok .nx st => .ok .non st.s
 | .ok (.ret w) st => .ok w st.s
 | .exc x st => .exc x st.s
 | _ => .stk
def endN (fz : Bool) : R Fl → RC
 | .ok .nx (st : St) => match (st.r[0]? : Option Sl) with
  | some (Sl.own (OO.ins C ns xs)) => if fz then .ok (.obj C ns xs) st.s else .ok (.loc st.s.length) (st.s ++ [.ins C ns xs])
  | _ => .stk
 | .exc x st => .exc x st.s
 | _ => .stk
mutual
def NG : W → Prop
 | .glo _ => False
 | .tup ws => NGs ws
 | .lst ws => NGs ws
 | .dct _ ws => NGs ws
 | .obj _ _ ws => NGs ws
 | .exn _ _ ws => NGs ws
 | _ => True
def NGs : List W → Prop
 | [] => True
 | w :: ws => NG w ∧ NGs ws
end
def NGo : OO → Prop
 | .lst ws => NGs ws
 | .dct _ ws => NGs ws
 | .ins _ _ ws => NGs ws
 | .tab => True
 | .dnk _ ws => NGs ws
open Classical in
noncomputable def endA (s : List OO) (r : R Fl) : RC := match endF r with
 | .ok (.bl b) s' => if ∃ ex, s' = s ++ ex ∧ ∀ o ∈ ex, NGo o then .ok (.bl b) s' else .stk
 | _ => .stk
noncomputable def callN (p : Pg) (wf : Nat) : Nat → Bool → Nat → List W → List OO → RC
 | 0, _, _, _, _ => .stk
 | k + 1, false, f, ws, s => match p.fns[f]? with
  | some fn => if ws.length = fn.np then endF (runF p (callN p wf k) wf fn (ws.map .val) s) else .stk
  | none => match p.gens[f - p.fns.length]? with
   | some g => if ws.length = g.np then runG p (callN p wf k) wf g (ws.map .val) s else .stk
   | none => match p.ask with
    | some fn => (match k with
     | j + 2 => if f = p.fns.length + p.gens.length ∧ ws.length = fn.np then endA s (runF p (callN p wf j) wf fn (ws.map .val) s) else .stk
     | _ => .stk)
    | none => match p.cms[f - (p.fns.length + p.gens.length)]? with
     | some q => if ws.length + 1 = q.2.np then endF (runF p (callN p wf k) wf q.2 (.un :: ws.map .val) s) else .stk
     | none => .stk
 | k + 1, true, C, ws, s => match p.cls[C]? with
  | some c => (match c.init with
   | some g => (match p.fns[g]? with
    | some fn => if ws.length + 1 = fn.np then endN c.frozen (runF p (callN p wf k) wf fn (.own (.ins C [] []) :: ws.map .val) s) else .stk
    | none => .stk)
   | none => .stk)
  | none => .stk
end Ev
namespace Ev
open PySem PySem.Spec PyProof.Rows L2
structure Tb where
 K : PySem.W.Frag
 ca : Nat → Addr
 sy : Nat → Str
 gv : Nat → V
 fa : Nat → Addr
 ta : Addr
 tq : Str
 lb : List (Str × Addr) → Nat → Obj → Addr → List (Addr × Obj) → Prop := fun _ _ _ _ _ => False
 cl : List (Str × Addr) := []
 hs : NestedKey → Int := fun _ => 0
abbrev tS (x : Tx) : Str := SX.S x
def KL (K : PySem.W.Frag) (a : Addr) (xs : List V) : Prop := ∃ (o : Obj) (its : Array Value) (n : Nat), K.lookup a = some o ∧ o.cls = .type "list" ∧ o.dict = none ∧ o.data = .seq its n ∧ its.size ≤ sizeLine ∧ Vals xs its.toList
def kS : Ky → L2.Key
 | .inl i => .inl i
 | .inr x => .inr (tS x)
def Cln (H : Hp) (a : Addr) (vs : List V) : Prop := ∃ o : Obj, o.dict = none ∧ H a = some (.frz o (.tup vs))
theorem Cln.rd {H : Hp} {a : Addr} {vs : List V} (h : Cln H a vs) : Rd H a (.tup vs) := let ⟨o, _, e⟩ := h; .inr ⟨o, e⟩
theorem Cln.sq {K : PySem.W.Frag} {H : Hp} {a : Addr} {vs : List V} (h : Cln H a vs) : SqT K H a vs := .inl h.rd
def KT (K : PySem.W.Frag) (a : Addr) (vs : List V) : Prop := vs = [] ∧ ∃ (o : Obj) (n : Nat), K.lookup a = some o ∧ o.cls = .type "tuple" ∧ o.dict = none ∧ o.data = .seq #[] n
theorem KT.sq {K : PySem.W.Frag} {H : Hp} {a : Addr} {vs : List V} (h : KT K a vs) : SqT K H a vs := by
 obtain ⟨rfl, o, n, e1, e2, e3, e4⟩ := h
 exact .inr ⟨o, #[], n, e1, e2, e4, by decide, .nil⟩
def CT (K : PySem.W.Frag) (nf : Addr → Prop) (H : Hp) (a : Addr) (vs : List V) : Prop := (Cln H a vs ∧ ¬ nf a) ∨ KT K a vs
theorem CT.sq {K K' : PySem.W.Frag} {nf : Addr → Prop} {H : Hp} {a : Addr} {vs : List V} (h : CT K nf H a vs) (e : K = K') : SqT K' H a vs := by
 subst e
 rcases h with ⟨h, _⟩ | h
 ·exact h.sq
 ·exact h.sq
abbrev DL : Type := List (NestedKey × Addr × V)
def dnP (hs : NestedKey → Int) (a : Addr) (L : DL) (h : Heap) : Prop := L.length ≤ sizeLine ∧ (a == sysModules) = false ∧ ∃ xs : List (NestedKey × Addr × Value), Paired (fun (p : NestedKey × Addr × V) (q : NestedKey × Addr × Value) => p.1 = q.1 ∧ p.2.1 = q.2.1 ∧ RelV p.2.2 q.2.2) L xs ∧
 ∃ o es ep, h.get? a = some o ∧ o.ExactDict ∧ o.data = .dict es ep ∧ es.toList = xs.map (fun x => (⟨hs x.1, .ref x.2.1, x.2.2⟩ : DictEntry)) ∧ (xs.map (·.1)).Nodup
def DN (hs : NestedKey → Int) (a : Addr) (L : DL) : HO := .ext (dnP hs a L)
def DnA (a : Addr) (f : Heap → Prop) : Prop := ∃ hs L, f = dnP hs a L ∧ ∃ h, f h
def ndict (o : Obj) : Prop := ∀ es ep, o.data ≠ .dict es ep
theorem pin_st {a : Addr} {o : Obj} (n : ndict o) : ¬ DnA a (fun h => h.get? a = some o) := fun ⟨hs, L, e, h, hh⟩ => by
 have hd : dnP hs a L h := e ▸ hh
 obtain ⟨_, _, xs, _, o', es, ep, h1, _, h2, _⟩ := hd
 have hh : h.get? a = some o := hh
 rw [hh] at h1
 cases h1
 exact n _ _ h2
theorem code_st {a : Addr} {q : Str} {f : Heap → Prop} (e0 : LamX.CodeO a q = .ext f) : ¬ DnA a f := fun ⟨hs, L, e, h, hh⟩ => by
 have hd : dnP hs a L h := e ▸ hh
 have e1 := HO.ext.inj e0
 rw [← e1] at hh
 obtain ⟨_, _, xs, _, o', es, ep, h1, _, h2, _⟩ := hd
 obtain ⟨oc, vs, t, g1, g2, _⟩ := hh
 rw [g1] at h1
 cases h1
 rw [g2] at h2
 cases h2
theorem exo_st {a C : Addr} {d : Option Addr} {f : Heap → Prop} (e0 : exo a C d = .ext f) : ¬ DnA a f := fun ⟨hs, L, e, h, hh⟩ => by
 have hd : dnP hs a L h := e ▸ hh
 have e1 := HO.ext.inj e0
 rw [← e1] at hh
 obtain ⟨_, _, xs, _, o', es, ep, h1, _, h2, _⟩ := hd
 obtain ⟨t, g1⟩ := hh
 rw [g1] at h1
 cases h1
 cases h2
theorem exd_st {a : Addr} {fs : List (Str × V)} {n : Str} {u : V} (l : fs.lookup n = some u) {f : Heap → Prop} (e0 : exd a fs = .ext f) : ¬ DnA a f := fun ⟨hs, L, e, h, hh⟩ => by
 have hd : dnP hs a L h := e ▸ hh
 have e1 := HO.ext.inj e0
 rw [← e1] at hh
 obtain ⟨_, _, xs, _, o', es, ep, h1, _, h2, h3, _⟩ := hd
 obtain ⟨mA, ⟨o2, es2, ep2, g1, g2, g3, _, g4⟩, hr⟩ := hh
 rw [g1] at h1
 cases h1
 rw [g2] at h2
 cases h2
 have hn := hr n
 rw [l] at hn
 cases xs with
 | cons x xs =>
  have hm : (⟨hs x.1, .ref x.2.1, x.2.2⟩ : DictEntry) ∈ es.toList := by rw [h3]; simp
  obtain ⟨z, t, e⟩ := g3 _ (by simpa using hm)
  cases e
 | nil =>
  have e2 : es = #[] := by simpa using h3
  have := g4 n
  rw [e2] at this
  have e3 : mA n = none := by rw [← this]; rfl
  rw [e3] at hn
  exact hn.elim
abbrev pinO (a : Addr) (o : Obj) : HO := .ext fun h => h.get? a = some o
def LamO (T : Tb) (k : Nat) (H : Hp) (f : Addr) : Prop := ∃ (o : Obj) (c' : Addr) (ts : List (Addr × Obj)), T.lb T.cl k o c' ts ∧ ndict o ∧ (∀ q ∈ ts, ndict q.2) ∧ H f = some (pinO f o) ∧ H c' = some (LamX.CodeO c' T.tq) ∧ ∀ q ∈ ts, H q.1 = some (pinO q.1 q.2)
section
variable (T : Tb) (lv : List Addr) (nf : Addr → Prop) (H : Hp)
mutual
def RW : W → V → Prop
 | .non, v => v = .non
 | .bl b, v => v = .bl b
 | .int i, v => v = .int i
 | .str x, v => v = .str (tS x) ∧ tOk x = true
 | .tup ws, v => ∃ a vs, v = .ref a ∧ CT T.K nf H a vs ∧ RWs ws vs
 | .lst ws, v => ∃ a vs, v = .ref a ∧ H a = some (.lst vs) ∧ ¬ nf a ∧ RWs ws vs
 | .dct ks ws, v => ∃ a vs, v = .ref a ∧ H a = some (.dK ((ks.map kS).zip vs)) ∧ ¬ nf a ∧ ks.length = vs.length ∧ RWs ws vs
 | .obj C ns ws, v => ∃ a dx vs, v = .ref a ∧ H a = some (.ins (T.ca C) dx ((ns.map T.sy).zip vs)) ∧ ¬ nf a ∧ ns.length = vs.length ∧ RWs ws vs
 | .loc n, v => ∃ a, v = .ref a ∧ lv[n]? = some a
 | .sl _, _ => False
 | .glo k, v => ∃ f, v = .ref f ∧ LamO T k H f
 | .scr ns, v => ∃ a, v = .ref a ∧ ((Rd H a (.lst (ns.map V.int)) ∧ ¬ nf a) ∨ KL T.K a (ns.map V.int))
 | .exn C ns ws, v => ∃ a d fs vs, v = .ref a ∧ H a = some (exo a (T.ca C) (some d)) ∧ H d = some (exd d fs) ∧ ns.length = vs.length ∧ (∀ (i : Nat) n u, ns[i]? = some n → vs[i]? = some u → fs.lookup (T.sy n) = some u) ∧ (∃ n u, fs.lookup n = some u) ∧ RWs ws vs
def RWs : List W → List V → Prop
 | [], vs => vs = []
 | w :: ws, vs => ∃ v r, vs = v :: r ∧ RW w v ∧ RWs ws r
end
def nkK (q : Tx × List Int) : NestedKey := .tup [.text (tS q.1), .tup (q.2.map .num)]
def kW (q : Tx × List Int) : W := .tup [.str q.1, .tup (q.2.map .int)]
def RO : OO → Addr → Prop
 | .lst ws, a => ∃ vs, H a = some (.lst vs) ∧ RWs T lv nf H ws vs
 | .dct ks ws, a => ∃ vs, H a = some (.dK ((ks.map kS).zip vs)) ∧ ks.length = vs.length ∧ RWs T lv nf H ws vs
 | .ins C ns ws, a => ∃ dx vs, H a = some (.ins (T.ca C) dx ((ns.map T.sy).zip vs)) ∧ ns.length = vs.length ∧ RWs T lv nf H ws vs
 | .tab, a => a = T.ta ∧ LamX.TabS H a T.tq
 | .dnk ks ws, a => ∃ L : DL, H a = some (DN T.hs a L) ∧ (∃ h0, dnP T.hs a L h0) ∧ L.map (·.1) = ks.map nkK ∧ RWs T lv nf H (ks.map kW) (L.map fun q => V.ref q.2.1) ∧ RWs T lv nf H ws (L.map fun q => q.2.2)
def ROn : OO → Addr → Prop
 | .tab, _ => False
 | .dnk _ _, _ => False
 | o, a => RO T lv nf H o a
structure RSto (s : List OO) : Prop where
 len : s.length = lv.length
 nd : lv.Nodup
 at_ : ∀ (n : Nat) o a, s[n]? = some o → lv[n]? = some a → RO T lv nf H o a
end
section
variable {T : Tb} {lv lv' : List Addr} {nf nf' : Addr → Prop} {H H' : Hp}
theorem RWs.len : ∀ {ws : List W} {vs : List V}, RWs T lv nf H ws vs → ws.length = vs.length
 | [], _, h => by simp only [RWs] at h; subst h; rfl
 | w :: ws, _, h => by
  simp only [RWs] at h
  obtain ⟨v, r, rfl, _, h⟩ := h
  simp [RWs.len h]
theorem RWs.get : ∀ {ws : List W} {vs : List V} {i : Nat} {w : W}, RWs T lv nf H ws vs → ws[i]? = some w → ∃ v, vs[i]? = some v ∧ RW T lv nf H w v
 | [], _, _, _, _, e => by simp at e
 | w :: ws, _, 0, x, h, e => by
  simp only [RWs] at h
  obtain ⟨v, r, rfl, h1, _⟩ := h
  simp at e; subst e
  exact ⟨v, rfl, h1⟩
 | w :: ws, _, i + 1, x, h, e => by
  simp only [RWs] at h
  obtain ⟨v, r, rfl, _, h⟩ := h
  obtain ⟨u, h1, h2⟩ := RWs.get (i := i) h (by simpa using e)
  exact ⟨u, by simpa using h1, h2⟩
theorem RWs.of_get : ∀ {ws : List W} {vs : List V}, ws.length = vs.length → (∀ (i : Nat) w v, ws[i]? = some w → vs[i]? = some v → RW T lv nf H w v) → RWs T lv nf H ws vs
 | [], [], _, _ => by simp [RWs]
 | [], _ :: _, e, _ => by simp at e
 | _ :: _, [], e, _ => by simp at e
 | w :: ws, v :: vs, e, h => by
  simp only [RWs]
  exact ⟨v, vs, rfl, h 0 w v rfl rfl, RWs.of_get (by simpa using e) fun i x y h1 h2 => h (i + 1) x y (by simpa using h1) (by simpa using h2)⟩
theorem RWs.nil : RWs T lv nf H [] [] := by simp [RWs]
theorem RWs.cons {w : W} {v : V} {ws : List W} {vs : List V} (h : RW T lv nf H w v) (t : RWs T lv nf H ws vs) : RWs T lv nf H (w :: ws) (v :: vs) := by
 simp only [RWs]; exact ⟨v, vs, rfl, h, t⟩
theorem RWs.append : ∀ {ws ws' : List W} {vs vs' : List V}, RWs T lv nf H ws vs → RWs T lv nf H ws' vs' → RWs T lv nf H (ws ++ ws') (vs ++ vs')
 | [], _, _, _, h, t => by simp only [RWs] at h; subst h; simpa using t
 | w :: ws, _, _, _, h, t => by
  simp only [RWs] at h
  obtain ⟨v, r, rfl, h1, h⟩ := h
  exact RWs.cons h1 (RWs.append h t)
theorem RWs.take {ws : List W} {vs : List V} (n : Nat) (h : RWs T lv nf H ws vs) : RWs T lv nf H (ws.take n) (vs.take n) := by
 refine RWs.of_get (by simp [h.len]) fun i w v h1 h2 => ?_
 rw [List.getElem?_take] at h1 h2
 split at h1
 ·rename_i hi
  rw [if_pos hi] at h2
  obtain ⟨u, e, r⟩ := h.get h1
  rw [e] at h2; cases h2; exact r
 ·cases h1
theorem RWs.drop {ws : List W} {vs : List V} (n : Nat) (h : RWs T lv nf H ws vs) : RWs T lv nf H (ws.drop n) (vs.drop n) := by
 refine RWs.of_get (by simp [h.len]) fun i w v h1 h2 => ?_
 rw [List.getElem?_drop] at h1 h2
 obtain ⟨u, e, r⟩ := h.get h1
 rw [e] at h2; cases h2; exact r
theorem RWs.set {ws : List W} {vs : List V} (n : Nat) {w : W} {v : V} (h : RWs T lv nf H ws vs) (r : RW T lv nf H w v) : RWs T lv nf H (ws.set n w) (vs.set n v) := by
 refine RWs.of_get (by simp [h.len]) fun i x y h1 h2 => ?_
 by_cases hi : n = i
 ·subst hi
  have l1 : n < ws.length := by
   have := (List.getElem?_eq_some_iff.mp h1).1
   simpa using this
  have l2 : n < vs.length := by rw [← h.len]; exact l1
  rw [List.getElem?_set_self l1] at h1
  rw [List.getElem?_set_self l2] at h2
  cases h1; cases h2; exact r
 ·rw [List.getElem?_set_ne hi] at h1 h2
  obtain ⟨u, e, r'⟩ := h.get h1
  rw [e] at h2; cases h2; exact r'
theorem RWs.snoc {ws : List W} {vs : List V} {w : W} {v : V} (h : RWs T lv nf H ws vs) (r : RW T lv nf H w v) : RWs T lv nf H (ws ++ [w]) (vs ++ [v]) := h.append (RWs.cons r RWs.nil)
def noTb : HO → Bool
 | .tbl _ => false
 | _ => true
def tn (o : Option HO) : Prop := ∀ u, o = some u → noTb u = false
theorem tn_none {o : Option HO} (h : o = none) : tn o := fun u e => by rw [h] at e; cases e
theorem tn.no {o : Option HO} {u : HO} (z : tn o) (e : o = some u) (n : noTb u = true) : False := by
 rw [z u e] at n; cases n
structure Mn (lv : List Addr) (nf : Addr → Prop) (H : Hp) (lv' : List Addr) (nf' : Addr → Prop) (H' : Hp) : Prop where
 fr : ∀ a o, H a = some o → noTb o = true → ¬ nf a → H' a = some o
 nw : ∀ a, nf' a → nf a ∨ tn (H a)
 lv : ∀ (n : Nat) a, lv[n]? = some a → lv'[n]? = some a
 ex : ∀ a f, ¬ DnA a f → H a = some (.ext f) → H' a = some (.ext f)
theorem Mn.nn (m : Mn lv nf H lv' nf' H') {a : Addr} {o : HO} (e : H a = some o) (n : noTb o = true) (h : ¬ nf a) : ¬ nf' a := fun q => by
 rcases m.nw a q with z | z
 ·exact h z
 ·exact z.no e n
theorem Mn.rd (m : Mn lv nf H lv' nf' H') {a : Addr} {o : HO} (e : Rd H a o) (n : noTb o = true) (h : ¬ nf a) : Rd H' a o ∧ ¬ nf' a := by
 rcases e with e | ⟨u, e⟩
 ·exact ⟨.inl (m.fr _ _ e n h), m.nn e n h⟩
 ·exact ⟨.inr ⟨u, m.fr _ _ e rfl h⟩, m.nn e rfl h⟩
mutual
theorem RW.mono (m : Mn lv nf H lv' nf' H') : ∀ {w : W} {v : V}, RW T lv nf H w v → RW T lv' nf' H' w v
 | .non, _, h => h
 | .bl _, _, h => h
 | .int _, _, h => h
 | .str _, _, h => h
 | .tup ws, _, h => by
  simp only [RW] at h ⊢
  obtain ⟨a, vs, e, c, h⟩ := h
  refine ⟨a, vs, e, ?_, RWs.mono m h⟩
  rcases c with ⟨⟨o, hd, e1⟩, e2⟩ | c
  ·exact .inl ⟨⟨o, hd, m.fr _ _ e1 rfl e2⟩, m.nn e1 rfl e2⟩
  ·exact .inr c
 | .lst ws, _, h => by
  simp only [RW] at h ⊢
  obtain ⟨a, vs, e, e1, e2, h⟩ := h
  exact ⟨a, vs, e, m.fr _ _ e1 rfl e2, m.nn e1 rfl e2, RWs.mono m h⟩
 | .dct ks ws, _, h => by
  simp only [RW] at h ⊢
  obtain ⟨a, vs, e, e1, e2, e3, h⟩ := h
  exact ⟨a, vs, e, m.fr _ _ e1 rfl e2, m.nn e1 rfl e2, e3, RWs.mono m h⟩
 | .obj C ns ws, _, h => by
  simp only [RW] at h ⊢
  obtain ⟨a, dx, vs, e, e1, e2, e3, h⟩ := h
  exact ⟨a, dx, vs, e, m.fr _ _ e1 rfl e2, m.nn e1 rfl e2, e3, RWs.mono m h⟩
 | .loc n, _, h => by
  simp only [RW] at h ⊢
  obtain ⟨a, e, h⟩ := h
  exact ⟨a, e, m.lv _ _ h⟩
 | .sl _, _, h => h
 | .glo _, _, h => by
  simp only [RW] at h ⊢
  obtain ⟨f, e, o, c', ts, h1, n1, n2, h2, h3, h4⟩ := h
  exact ⟨f, e, o, c', ts, h1, n1, n2, m.ex _ _ (pin_st n1) h2, m.ex _ _ (code_st rfl) h3, fun q hq => m.ex _ _ (pin_st (n2 q hq)) (h4 q hq)⟩
 | .scr ns, _, h => by
  simp only [RW] at h ⊢
  obtain ⟨a, e, e1⟩ := h
  refine ⟨a, e, ?_⟩
  rcases e1 with ⟨e1, e2⟩ | e1
  ·exact .inl (m.rd e1 rfl e2)
  ·exact .inr e1
 | .exn C ns ws, _, h => by
  simp only [RW] at h ⊢
  obtain ⟨a, d, fs, vs, e, e1, e2, e3, e4, ⟨n, u, l⟩, h⟩ := h
  exact ⟨a, d, fs, vs, e, m.ex _ _ (exo_st rfl) e1, m.ex _ _ (exd_st l rfl) e2, e3, e4, ⟨n, u, l⟩, RWs.mono m h⟩
theorem RWs.mono (m : Mn lv nf H lv' nf' H') : ∀ {ws : List W} {vs : List V}, RWs T lv nf H ws vs → RWs T lv' nf' H' ws vs
 | [], _, h => h
 | w :: ws, _, h => by
  simp only [RWs] at h ⊢
  obtain ⟨v, r, e, h1, h2⟩ := h
  exact ⟨v, r, e, RW.mono m h1, RWs.mono m h2⟩
end
theorem RO.mono (m : Mn lv nf H lv' nf' H') {o : OO} {a : Addr} (h : RO T lv nf H o a) (e : H' a = H a) : RO T lv' nf' H' o a := by
 cases o with
 | lst ws =>
  obtain ⟨vs, h1, h2⟩ := h
  exact ⟨vs, by rw [e]; exact h1, h2.mono m⟩
 | dct ks ws =>
  obtain ⟨vs, h1, h2, h3⟩ := h
  exact ⟨vs, by rw [e]; exact h1, h2, h3.mono m⟩
 | ins C ns ws =>
  obtain ⟨dx, vs, h1, h2, h3⟩ := h
  exact ⟨dx, vs, by rw [e]; exact h1, h2, h3.mono m⟩
 | tab =>
  obtain ⟨h0, ps, h1, h2, h3⟩ := h
  refine ⟨h0, ps, by rw [e]; exact h1, h2, fun pos cv z => ?_⟩
  obtain ⟨c, e1, e2⟩ := h3 pos cv z
  exact ⟨c, e1, m.ex _ _ (code_st rfl) e2⟩
 | dnk ks ws =>
  obtain ⟨L, h1, h2, h3, h4, h5⟩ := h
  exact ⟨L, by rw [e]; exact h1, h2, h3, h4.mono m, h5.mono m⟩
theorem ROn.ro {o : OO} {a : Addr} (h : ROn T lv nf H o a) : RO T lv nf H o a := by
 cases o <;> first | exact h | exact h.elim
theorem RO.n {o : OO} {a : Addr} (h : RO T lv nf H o a) (n : o ≠ .tab) (n2 : ∀ ks ws, o ≠ .dnk ks ws) : ROn T lv nf H o a := by
 cases o <;> first | exact h | exact (n rfl).elim | exact (n2 _ _ rfl).elim
theorem ROn.nt {o : OO} {a : Addr} (h : ROn T lv nf H o a) : o ≠ .tab := fun z => by
 subst z; exact h
theorem ROn.nd {o : OO} {a : Addr} (h : ROn T lv nf H o a) (ks : List (Tx × List Int)) (ws : List W) : o ≠ .dnk ks ws := fun z => by
 subst z; exact h
theorem ROn.mono (m : Mn lv nf H lv' nf' H') {o : OO} {a : Addr} (h : ROn T lv nf H o a) (e : H' a = H a) : ROn T lv' nf' H' o a := (h.ro.mono m e).n h.nt h.nd
theorem ROn.there {o : OO} {a : Addr} (h : ROn T lv nf H o a) : ∃ u, H a = some u ∧ noTb u = true := by
 cases o with
 | lst ws => obtain ⟨vs, h1, _⟩ := h; exact ⟨_, h1, rfl⟩
 | dct ks ws => obtain ⟨vs, h1, _⟩ := h; exact ⟨_, h1, rfl⟩
 | ins C ns ws => obtain ⟨dx, vs, h1, _⟩ := h; exact ⟨_, h1, rfl⟩
 | tab => exact h.elim
 | dnk ks ws => exact h.elim
theorem RO.there {o : OO} {a : Addr} (h : RO T lv nf H o a) : ∃ u, H a = some u := by
 cases o with
 | lst ws => obtain ⟨vs, h1, _⟩ := h; exact ⟨_, h1⟩
 | dct ks ws => obtain ⟨vs, h1, _⟩ := h; exact ⟨_, h1⟩
 | ins C ns ws => obtain ⟨dx, vs, h1, _⟩ := h; exact ⟨_, h1⟩
 | tab => obtain ⟨_, ps, h1, _⟩ := h; exact ⟨_, h1⟩
 | dnk ks ws => obtain ⟨L, h1, _⟩ := h; exact ⟨_, h1⟩
end
structure Cf where
 lv : List Addr
 ow : Nat → Option Addr
 ou : Addr → Prop
def Cf.mu (c : Cf) (a : Addr) : Prop := a ∈ c.lv ∨ ∃ i, c.ow i = some a
def Cf.nf (c : Cf) (a : Addr) : Prop := c.mu a ∨ c.ou a
structure RSt (T : Tb) (c : Cf) (st : St) (σ : L2.St) (H : Hp) : Prop where
 len : st.r.length = σ.length
 val : ∀ (i : Nat) w, st.r[i]? = some (.val w) → ∃ v, σ[i]? = some (some v) ∧ RW T c.lv c.nf H w v
 own : ∀ (i : Nat) o, st.r[i]? = some (.own o) → ∃ a, c.ow i = some a ∧ σ[i]? = some (some (.ref a)) ∧ ROn T c.lv c.nf H o a
 back : ∀ i a, c.ow i = some a → ∃ o, st.r[i]? = some (.own o)
 inj : ∀ i j a, c.ow i = some a → c.ow j = some a → i = j
 dis : ∀ i a, c.ow i = some a → a ∉ c.lv
 ou : ∀ a, c.ou a → ¬ c.mu a
 ouh : ∀ a, c.ou a → ∃ o, H a = some o ∧ noTb o = true
 sto : RSto T c.lv c.nf H st.s
def RV (T : Tb) (c : Cf) (σ : L2.St) (H : Hp) (w : W) (v : V) : Prop := match w with
 | .sl i => σ[i]? = some (some v)
 | w => RW T c.lv c.nf H w v
theorem RV.rw {T : Tb} {c : Cf} {σ : L2.St} {H : Hp} {w : W} {v : V} (h : RV T c σ H w v) (o : okv w = true) : RW T c.lv c.nf H w v := by
 cases w <;> first | exact h | cases o
theorem RW.rv {T : Tb} {c : Cf} {σ : L2.St} {H : Hp} {w : W} {v : V} (h : RW T c.lv c.nf H w v) : RV T c σ H w v := by
 cases w <;> first | exact h | exact h.elim
open Classical in
noncomputable def isIns (a : Addr) : HO → Option (Option HO)
 | .ins .. => some none
 | .ext f => if DnA a f then none else some (some (.ext f))
 | .tbl _ => some (some (.lst []))
 | _ => none
theorem isIns_ext {a : Addr} {o : HO} {f : Heap → Prop} (h : isIns a o = isIns a (.ext f)) (n : ¬ DnA a f) : o = .ext f := by
 have e : isIns a (.ext f) = some (some (.ext f)) := by unfold isIns; simp only [if_neg n]
 rw [e] at h
 cases o <;> first | (simp [isIns] at h; done) | skip
 unfold isIns at h
 simp only at h
 split at h
 ·cases h
 ·exact Option.some.inj (Option.some.inj h)
theorem isIns_tb {a : Addr} {o u : HO} (h : isIns a o = isIns a u) : noTb o = noTb u := by
 cases o <;> cases u <;> first | rfl | (simp [isIns] at h; done) | (exfalso; unfold isIns at h; simp only at h; split at h <;> simp at h)
theorem isIns_non {a : Addr} {o : HO} (h : isIns a o = none) : noTb o = true := by
 cases o <;> first | rfl | cases h
theorem isIns_dn {a : Addr} {hs : NestedKey → Int} {L : DL} (h : ∃ h, dnP hs a L h) : isIns a (DN hs a L) = none := by
 unfold DN isIns
 simp only
 rw [if_pos ⟨hs, L, rfl, h⟩]
structure Stp (c : Cf) (H : Hp) (c' : Cf) (H' : Hp) : Prop where
 fr : ∀ a o, H a = some o → noTb o = true → ¬ c.mu a → H' a = some o
 mw : ∀ a, c'.mu a → c.mu a ∨ tn (H a)
 lv : ∀ (n : Nat) a, c.lv[n]? = some a → c'.lv[n]? = some a
 ou : c'.ou = c.ou
 kk : ∀ a o, H a = some o → noTb o = true → ∃ o', H' a = some o' ∧ isIns a o' = isIns a o
 ow : ∀ i a, c'.ow i = some a → c.ow i = some a ∨ ∃ o, H' a = some o ∧ isIns a o = none
section
variable {T : Tb} {c c1 c2 : Cf} {H H1 H2 : Hp} {σ : L2.St} {st : St} {w : W} {v : V}
theorem Stp.refl : Stp c H c H := ⟨fun _ _ e _ _ => e, fun _ h => .inl h, fun _ _ e => e, rfl, fun _ o e _ => ⟨o, e, rfl⟩, fun _ _ e => .inl e⟩
theorem Stp.kp (a : Stp c H c1 H1) : ∀ x o, H x = some o → noTb o = true → ∃ o', H1 x = some o' ∧ noTb o' = true := fun x o e n => by
 obtain ⟨o', e', k⟩ := a.kk x o e n
 exact ⟨o', e', by rw [isIns_tb k]; exact n⟩
theorem Stp.tb (a : Stp c H c1 H1) {x : Addr} (z : tn (H1 x)) : tn (H x) := fun u e => by
 cases q : noTb u with
 | false => rfl
 | true =>
  obtain ⟨o', e', n⟩ := a.kp x u e q
  exact (z.no e' n).elim
theorem Stp.trans (a : Stp c H c1 H1) (b : Stp c1 H1 c2 H2) : Stp c H c2 H2 where
 fr := fun x o e t n => b.fr x o (a.fr x o e t n) t fun q => by
  rcases a.mw x q with z | z
  ·exact n z
  ·exact z.no e t
 mw := fun x q => by
  rcases b.mw x q with z | z
  ·exact a.mw x z
  ·exact .inr (a.tb z)
 lv := fun n x e => b.lv n x (a.lv n x e)
 ou := b.ou.trans a.ou
 kk := fun x o e n => by
  obtain ⟨o', e', k'⟩ := a.kk x o e n
  obtain ⟨o2, e2, k2⟩ := b.kk x o' e' (by rw [isIns_tb k']; exact n)
  exact ⟨o2, e2, k2.trans k'⟩
 ow := fun i x e => by
  rcases b.ow i x e with z | z
  ·rcases a.ow i x z with y | ⟨o, y, ko⟩
   ·exact .inl y
   ·obtain ⟨o2, e2, k2⟩ := b.kk x o y (isIns_non ko)
    exact .inr ⟨o2, e2, k2.trans ko⟩
  ·exact .inr z
theorem Stp.mn (a : Stp c H c1 H1) : Mn c.lv c.nf H c1.lv c1.nf H1 where
 fr := fun x o e t n => a.fr x o e t fun q => n (.inl q)
 nw := fun x q => by
  rcases q with q | q
  ·rcases a.mw x q with z | z
   ·exact .inl (.inl z)
   ·exact .inr z
  ·rw [a.ou] at q; exact .inl (.inr q)
 lv := a.lv
 ex := fun x f nd e => by
  obtain ⟨o', e', k⟩ := a.kk x _ e rfl
  rw [e', isIns_ext k nd]
theorem RV.mono (a : Stp c H c1 H1) (h : RV T c σ H w v) : RV T c1 σ H1 w v := by
 cases w <;> first | exact h | exact RW.mono a.mn h
theorem Stp.grow {p : Addr} {o : HO} (hp : H p = none) : Stp c H c (upd H p o) where
 fr := fun a u e _ _ => by rw [upd_ne (ne_of_none e hp)]; exact e
 mw := fun _ h => .inl h
 lv := fun _ _ e => e
 ou := rfl
 kk := fun a u e _ => ⟨u, by rw [upd_ne (ne_of_none e hp)]; exact e, rfl⟩
 ow := fun _ _ e => .inl e
theorem RSt.there (h : RSt T c st σ H) {a : Addr} (m : c.nf a) : ∃ o, H a = some o := by
 rcases m with (m | ⟨i, m⟩) | m
 ·obtain ⟨n, hn⟩ := List.getElem?_of_mem m
  have l : n < st.s.length := by rw [h.sto.len]; exact (List.getElem?_eq_some_iff.mp hn).1
  exact (h.sto.at_ n _ a (List.getElem?_eq_getElem l) hn).there
 ·obtain ⟨o, e⟩ := h.back i a m
  obtain ⟨a', e1, _, r⟩ := h.own i o e
  rw [m] at e1; cases e1
  obtain ⟨u, q, _⟩ := r.there
  exact ⟨u, q⟩
 ·obtain ⟨u, q, _⟩ := h.ouh a m
  exact ⟨u, q⟩
theorem RSt.new (h : RSt T c st σ H) {p : Addr} (hp : H p = none) : ¬ c.nf p := fun q => by
 obtain ⟨o, e⟩ := h.there q
 rw [hp] at e; cases e
theorem RSt.keep (h : RSt T c st σ H) (fr : ∀ a o, H a = some o → H1 a = some o) : RSt T c st σ H1 := by
 have m : Mn c.lv c.nf H c.lv c.nf H1 := ⟨fun a o e _ _ => fr a o e, fun _ q => .inl q, fun _ _ e => e, fun a f _ e => fr a _ e⟩
 have ke : ∀ a, (∃ o, H a = some o) → H1 a = H a := fun a ⟨o, e⟩ => by rw [fr a o e, e]
 refine ⟨h.len, fun i w e => ?_, fun i o e => ?_, h.back, h.inj, h.dis, h.ou, fun a q => ?_, ⟨h.sto.len, h.sto.nd, fun n o a e1 e2 => ?_⟩⟩
 ·obtain ⟨v, e1, r⟩ := h.val i w e
  exact ⟨v, e1, r.mono m⟩
 ·obtain ⟨a, e1, e2, r⟩ := h.own i o e
  obtain ⟨u, q, _⟩ := r.there
  exact ⟨a, e1, e2, r.mono m (ke a ⟨u, q⟩)⟩
 ·obtain ⟨o, e, n⟩ := h.ouh a q
  exact ⟨o, fr a o e, n⟩
 ·have r := h.sto.at_ n o a e1 e2
  exact r.mono m (ke a r.there)
theorem RSt.grow (h : RSt T c st σ H) {p : Addr} {o : HO} (hp : H p = none) : RSt T c st σ (upd H p o) :=
 h.keep fun a u e => by rw [upd_ne (ne_of_none e hp)]; exact e
end
def RX (T : Tb) (c : Cf) (H : Hp) (x : Xn) (cls : Value) (d : Option Addr) : Prop :=
 cls = .ref (T.ca x.C) ∧ ∃ dx fs, d = some dx ∧ H dx = some (.xd fs) ∧ ¬ c.nf dx ∧ ∀ (i n : Nat) w, x.ns[i]? = some n → x.xs[i]? = some w → ∃ v, fs.lookup (T.sy n) = some v ∧ RW T c.lv c.nf H w v
def Post {α β : Type} (T : Tb) (Wx : WX) (rel : Cf → Hp → α → β → Prop) (c : Cf) (σ : L2.St) (H : Hp) (r : R α) (Q : β → Hp → Prop) : Prop := match r with
 | .ok a st' => ∀ b H' c', Stp c H c' H' → RSt T c' st' σ H' → rel c' H' a b → Q b H'
 | .exc x st' => ∀ cls d H' c', Stp c H c' H' → RSt T c' st' σ H' → RX T c' H' x cls d → Wx cls d σ H'
 | .stk => False
section
variable {α β γ δ : Type} {T : Tb} {Wx : WX} {rel : Cf → Hp → α → β → Prop} {rel2 : Cf → Hp → γ → δ → Prop} {c c1 : Cf} {σ : L2.St} {H H1 : Hp}
theorem Post.mono {r : R α} {Q Q' : β → Hp → Prop} (h : Post T Wx rel c σ H r Q) (q : ∀ b H, Q b H → Q' b H) : Post T Wx rel c σ H r Q' := by
 cases r with
 | ok a st => exact fun b H' c' s h1 h2 => q _ _ (h b H' c' s h1 h2)
 | exc x st => exact h
 | stk => exact h
theorem Post.from {r : R α} {Q : β → Hp → Prop} (h : Post T Wx rel c σ H r Q) (s : Stp c H c1 H1) : Post T Wx rel c1 σ H1 r Q := by
 cases r with
 | ok a st => exact fun b H' c' s' h1 h2 => h b H' c' (s.trans s') h1 h2
 | exc x st => exact fun cls d H' c' s' h1 h2 => h cls d H' c' (s.trans s') h1 h2
 | stk => exact h
theorem Post.bind {m : R α} {f : α → St → R γ} {Q : δ → Hp → Prop} (h : Post T Wx rel2 c σ H (m.bind f) Q) :
  Post T Wx rel c σ H m fun b H1 => ∃ c1 st1 a, Stp c H c1 H1 ∧ RSt T c1 st1 σ H1 ∧ rel c1 H1 a b ∧ Post T Wx rel2 c1 σ H1 (f a st1) Q := by
 cases m with
 | ok a st => exact fun b H' c' s h1 h2 => ⟨c', st, a, s, h1, h2, h.from s⟩
 | exc x st => exact h
 | stk => exact h
theorem Post.ret {a : α} {st : St} {b : β} {Q : β → Hp → Prop} (h : Post T Wx rel c σ H (.ok a st) Q) (r : RSt T c st σ H) (q : rel c H a b) : Q b H := h b H c Stp.refl r q
end
def relV (T : Tb) (σ : L2.St) : Cf → Hp → W → V → Prop := fun c H w v => RV T c σ H w v
def relA (T : Tb) (σ : L2.St) : Cf → Hp → List W → List V → Prop := fun c H ws vs => ws.length = vs.length ∧ ∀ (i : Nat) w v, ws[i]? = some w → vs[i]? = some v → RV T c σ H w v
def relB : Cf → Hp → Bool → Bool → Prop := fun _ _ a b => b = a
def relO : Cf → Hp → Option Int → Option Int → Prop := fun _ _ a b => b = a
def rdE (T : Tb) (Wx : WX) (m : St → R W) : TE := fun σ H Q => ∃ c st, RSt T c st σ H ∧ Post T Wx (relV T σ) c σ H (m st) Q
def rdA (T : Tb) (Wx : WX) (m : St → R (List W)) : TA := fun σ H Q => ∃ c st, RSt T c st σ H ∧ Post T Wx (relA T σ) c σ H (m st) Q
def rdT (T : Tb) (Wx : WX) (m : St → R Bool) : TT := fun σ H Q => ∃ c st, RSt T c st σ H ∧ Post T Wx relB c σ H (m st) Q
def SE (T : Tb) (X : Cx) (Wx : WX) (e : Expr) (m : St → R W) : Prop := PE X e (rdE T Wx m)
def ST (T : Tb) (X : Cx) (Wx : WX) (e : Expr) (m : St → R Bool) : Prop := PT X e (rdT T Wx m)
def SA (T : Tb) (X : Cx) (Wx : WX) (es : List Expr) (m : St → R (List W)) : Prop := PA X es (rdA T Wx m)
theorem PE.imp {X : Cx} {e : Expr} {t t' : TE} (h : PE X e t) (q : ∀ σ H Q, t' σ H Q → t σ H Q) : PE X e t' := ⟨fun pins s σ H Q I z => h.run pins s σ H Q I (q _ _ _ z)⟩
theorem PT.imp {X : Cx} {e : Expr} {t t' : TT} (h : PT X e t) (q : ∀ σ H Q, t' σ H Q → t σ H Q) : PT X e t' := ⟨fun pins s σ H Q I z => h.run pins s σ H Q I (q _ _ _ z)⟩
theorem PA.imp {X : Cx} {es : List Expr} {t t' : TA} (h : PA X es t) (q : ∀ σ H Q, t' σ H Q → t σ H Q) : PA X es t' := ⟨fun pos pins s σ H Q I z => h.run pos pins s σ H Q I (q _ _ _ z)⟩
end Ev
namespace Ev
open PySem PySem.Spec PyProof.Rows L2 Calls
section
variable {X : Cx} {H : Hp} {σ : L2.St} {pins : List (Addr × Obj)} {s : Shared} {es : List Expr} {pos : Pos}
abbrev nxT (us : List Value) : Obj := { cls := .type "tuple", data := .seq us.toArray }
theorem lay_tup {xs : List V} {us : List Value} {h' : Heap} {t' : Nat} (I : Inv X pins σ H { s with heap := h', toks := t' }) (r : Vals xs us) (z : xs.length ≤ sizeLine) :
  Inv X pins σ (upd H h'.objs.size (.frz (nxT us) (.tup xs))) { s with heap := h'.push (nxT us), toks := t' } :=
 I.laid (t' := t') (fun _ _ e => Heap.get?_push_of_some _ e) (Nat.le_refl _) ⟨Heap.get?_push_size _ rfl, z, us, r, IsTup.new _ _⟩
def tTupC (t : TA) : TE := fun σ H Q => t σ H fun xs H1 => xs.length ≤ sizeLine ∧ ∀ (p : Addr) (o : Obj), o.dict = none → H1 p = none → Q (.ref p) (upd H1 p (.frz o (.tup xs)))
theorem pe_tupC {k : Nat} {t : TA} (h : PA X es t) : PE X (.Tuple es k pos) (tTupC t) := by
 constructor
 intro pins s σ H Q I hq
 refine wpAny_Tuple_spliced (thn (h.run pos pins s σ H _ I hq) fun us s1 ⟨xs, H1, I1, r, z, q⟩ => ⟨by rw [← r.length]; exact z, ?_⟩)
 exact ⟨.ref s1.heap.objs.size, _, lay_tup (h' := s1.heap) (t' := s1.toks) I1 r z, rfl, q _ _ rfl (I1.hok.fresh (Nat.le_refl _))⟩
theorem call_tupleC : CallR X (.type "tuple") (fun xs H Q => ∃ p ys, xs = [.ref p] ∧ SqL X.K H p ys ∧ ∀ (l : Addr) (o : Obj), o.dict = none → H l = none → Q (.ref l) (upd H l (.frz o (.tup ys)))) := by
 intro pins s σ H xs us Q I r ⟨p, ys, e, hq, q⟩
 subst e
 obtain ⟨u, rfl, rx⟩ := vals1 r
 cases rx
 obtain ⟨its, r', pl, hz⟩ := I.list hq
 refine call_tuple_list pl.isList (fun h' kp => ?_) (by rw [List.size_toArray, ← r'.length]; exact hz)
 have I1 : Inv X pins σ H { s with heap := h' } := I.kept (t' := s.toks) kp
 exact ⟨.ref h'.objs.size, _, lay_tup (h' := h') (t' := s.toks) I1 r' hz, rfl, q _ _ rfl (I1.hok.fresh (Nat.le_refl _))⟩
def rSlC (K : PySem.W.Frag) : V → Option Int → Option Int → Hp → VK → Prop := fun x lo hi H Q => ∃ a xs, x = .ref a ∧ SqT K H a xs ∧
 (HT.sIx xs.length 0 lo = 0 ∧ HT.sIx xs.length xs.length hi = xs.length → Q (.ref a) H) ∧ (¬ (HT.sIx xs.length 0 lo = 0 ∧ HT.sIx xs.length xs.length hi = xs.length) → ∀ (p : Addr) (o : Obj), o.dict = none → H p = none → Q (.ref p) (upd H p (.frz o (.tup (cutV xs lo hi)))))
theorem sl_tupC : SlR X (rSlC X.K) := by
 intro pins s σ H x v vl vu lo hi sl Q I rx hs pl pu ⟨a, xs, e, hx, q1, q2⟩
 subst e
 by_cases hw : HT.sIx xs.length 0 lo = 0 ∧ HT.sIx xs.length xs.length hi = xs.length
 ·exact sl_tupA pins s σ H _ v vl vu lo hi sl Q I rx hs pl pu ⟨a, xs, rfl, hx, q1, fun z => absurd hw z⟩
 cases rx
 obtain ⟨its, r, ht, hz⟩ := I.tuple hx
 have hl : its.toArray.size = xs.length := by rw [List.size_toArray]; exact r.length.symm
 refine ⟨"tuple", _, PyProof.Rows.slot_tuple_getitem.lookup, ht.typeIs, HT.getItem_tuple_cut ht hs pl pu (by rw [hl]; exact hw) ?_ (by rw [hl]; exact hz)⟩
 rw [hl]
 exact ⟨.ref s.heap.objs.size, _, lay_tup (h' := s.heap) (t' := s.toks) I ((r.drop (HT.sIx xs.length 0 lo)).take (HT.sIx xs.length xs.length hi - HT.sIx xs.length 0 lo)) (Nat.le_trans (cutV_length xs lo hi) hz), rfl, q2 hw _ _ rfl (I.hok.fresh (Nat.le_refl _))⟩
def rCatC (K : PySem.W.Frag) : R2 := fun x y H Q => ∃ a b xs ys, x = .ref a ∧ y = .ref b ∧ SqT K H a xs ∧ SqT K H b ys ∧ xs.length + ys.length ≤ sizeLine ∧
 (xs = [] → Q (.ref b) H) ∧ (xs ≠ [] → ys = [] → Q (.ref a) H) ∧ (xs ≠ [] → ys ≠ [] → ∀ (p : Addr) (o : Obj), o.dict = none → H p = none → Q (.ref p) (upd H p (.frz o (.tup (xs ++ ys)))))
theorem op_catC : OpR X (binaryOp .Add) (rCatC X.K) := by
 intro pins s σ H x y v u Q I rx ry ⟨a, b, xs, ys, e1, e2, ha, hb, hz, q0, q1, q2⟩
 subst e1 e2
 by_cases hx : xs = []
 ·exact op_catA pins s σ H _ _ v u Q I rx ry ⟨a, b, xs, ys, rfl, rfl, ha, hb, hz, q0, q1, fun z => absurd hx z⟩
 by_cases hy : ys = []
 ·exact op_catA pins s σ H _ _ v u Q I rx ry ⟨a, b, xs, ys, rfl, rfl, ha, hb, hz, q0, q1, fun _ z => absurd hy z⟩
 cases rx
 cases ry
 obtain ⟨its, r1, p1, _⟩ := I.tuple ha
 obtain ⟨its2, r2, p2, _⟩ := I.tuple hb
 refine HT.cat_tup p1 p2 (fun z => hx (r1.nil_iff.mp z)) (fun z => absurd (r2.nil_iff.mp z) hy) (fun _ => ?_) (by rw [← r1.length, ← r2.length]; exact hz)
 exact ⟨.ref s.heap.objs.size, _, lay_tup (h' := s.heap) (t' := s.toks) I (r1.append r2) (by rw [List.length_append]; exact hz), rfl, q2 hx hy _ _ rfl (I.hok.fresh (Nat.le_refl _))⟩
theorem tuple_mulW1 (l : Addr) (items : Array Value) (n : Nat) (dd : Option Addr) (sl : Array (Option Value)) (u : Tok) :
  Meets (Builtin.«tuple.__mul__» ⟨[.ref l, .int 1 u], []⟩) (fun _ R s => s.heap.get? l = some { cls := .type "tuple", dict := dd, data := .seq items n, slots := sl } ∧ R (.ok (.ret (Value.ref l))) s) :=
 .of_wp fun prog w A R s h => by
  obtain ⟨hp, g, d, tk, os⟩ := s
  obtain ⟨hl, h⟩ := h
  have f1 := AutoSeq1.idx_int
  wp_walk using wpAny_loadPart' hl
  exact ⟨_, rfl, h⟩
theorem tuple_mulW0 (l : Addr) (items : Array Value) (n : Nat) (dd : Option Addr) (sl : Array (Option Value)) (u : Tok) (c1 : items.isEmpty = false) :
  Meets (Builtin.«tuple.__mul__» ⟨[.ref l, .int 0 u], []⟩) (fun _ R s => s.heap.get? l = some { cls := .type "tuple", dict := dd, data := .seq items n, slots := sl } ∧
   R (.ok (.ret (Value.ref s.heap.objs.size))) { s with heap := s.heap.push { cls := Value.type "tuple", data := Data.seq #[] }, toks := s.toks }) :=
 .of_wp fun prog w A R s h => by
  obtain ⟨hp, g, d, tk, os⟩ := s
  obtain ⟨hl, h⟩ := h
  have f1 := AutoSeq1.idx_int
  wp_walk using wpAny_loadPart' hl
  exact ⟨_, rfl, h⟩
def rRepC (K : PySem.W.Frag) : R2 := fun x y H Q => ∃ (a : Addr) (k : Int) (xs : List V), x = .ref a ∧ y = .int k ∧ SqT K H a xs ∧ xs ≠ [] ∧ (0 ≤ k ∧ k ≤ 1000) ∧ xs.length ≤ 1000 ∧ (k = 1 → Q (.ref a) H) ∧ (k ≠ 1 → ∀ (p : Addr) (o : Obj), o.dict = none → H p = none → Q (.ref p) (upd H p (.frz o (.tup (List.replicate k.toNat xs).flatten))))
theorem op_repC : OpR X (binaryOp .Mult) (rRepC X.K) := by
 intro pins s σ H x y v u Q I rx ry ⟨a, k, xs, e1, e2, ha, hx, hk, hz, q0, q⟩
 subst e1 e2
 cases rx
 obtain ⟨tk, rfl⟩ := ry
 obtain ⟨its, r1, p1, _⟩ := I.tuple ha
 obtain ⟨⟨cc, od, dt, ow⟩, ho, hc, n, hd⟩ := p1
 obtain rfl : cc = .type "tuple" := hc
 obtain rfl : dt = .seq its.toArray n := hd
 have hl : its.toArray.size = xs.length := by rw [List.size_toArray]; exact r1.length.symm
 have hpos : 0 < xs.length := List.length_pos_iff.mpr hx
 have b1 : its.toArray.isEmpty = false := by
  cases its with
  | nil => rw [← hl] at hpos; exact absurd hpos (by decide)
  | cons _ _ => rfl
 have b2 : ((xs.length : Nat) : Int) * k ≤ 1000000 := Int.le_trans (Int.mul_le_mul_of_nonneg_right (show ((xs.length : Nat) : Int) ≤ 1000 by omega) (by omega)) (by omega)
 have b3 : k.toNat * xs.length ≤ 1000000 := Nat.le_trans (Nat.mul_le_mul (show k.toNat ≤ 1000 by omega) hz) (by decide)
 have b4 : (List.replicate k.toNat its).flatten.length ≤ sizeLine := by
  rw [PyProof.Rows.lm_len_rep_flat, r1.length.symm, sizeLine_eq]; omega
 have ty := typeIs_int s k tk
 refine wpAny_binaryOp_repeat_ref (U := "int") (T := "tuple") (by decide) ⟨_, ho, rfl⟩ (fun s' => typeIs_int s' k tk) noFill_tuple_mul F.fills_int_mul F.slot_int_rmul repeat_tuple F.slot_int_index.lookup ?_
 refine call_meets F.slot_int_rmul ty F.entry_int_rmul (F.args_int_rmul_2 _ _) (int_rmul_tuple k tk a its.toArray n od ow) ⟨ho, rfl, ⟨_, ho, rfl⟩, ?_⟩
 by_cases k1 : k = 1
 ·subst k1
  refine call_meets F.slot_tuple_mul ⟨_, ho, rfl⟩ F.entry_tuple_mul (F.args_tuple_mul_2 _ _) (tuple_mulW1 a its.toArray n od ow tk) ⟨ho, ?_⟩
  exact ⟨.ref a, H, I, rfl, q0 rfl⟩
 have q := q k1
 by_cases k0 : k = 0
 ·subst k0
  refine call_meets F.slot_tuple_mul ⟨_, ho, rfl⟩ F.entry_tuple_mul (F.args_tuple_mul_2 _ _) (tuple_mulW0 a its.toArray n od ow tk b1) ⟨ho, ?_⟩
  exact ⟨.ref s.heap.objs.size, _, lay_tup (h' := s.heap) (t' := s.toks) I (r1.rep 0) (by simp [sizeLine_eq]), rfl, q _ _ rfl (I.hok.fresh (Nat.le_refl _))⟩
 have g1 : (decide (k < -(2 ^ 63)) || decide (k ≥ 2 ^ 63)) = false := by simp; omega
 have g2 : (its.toArray.isEmpty || k == 1) = false := by rw [b1]; simp; omega
 have g3 : (decide (k ≤ 0) || its.toArray.isEmpty) = false := by rw [b1]; simp; omega
 have g4 : ¬ ((its.toArray.size : Nat) : Int) * k > (2 ^ 63 - 1) / 8 := by rw [hl]; omega
 have g5 : Builtin.Tuple.tupleTooMany (((its.toArray.size : Nat) : Int) * k) = false := by
  unfold Builtin.Tuple.tupleTooMany
  rw [hl, decide_eq_false]
  rw [sizeLine_eq]; omega
 have W := tuple_mulW a its.toArray n od ow k tk g1 g2 g3 g4 g5 (by rw [size_rep, List.size_toArray]; exact b4)
 refine call_meets F.slot_tuple_mul ⟨_, ho, rfl⟩ F.entry_tuple_mul (F.args_tuple_mul_2 _ _) W ⟨ho, ?_⟩
 rw [size_rep]
 exact ⟨.ref s.heap.objs.size, _, lay_tup (h' := s.heap) (t' := s.toks) I (r1.rep k.toNat) (by rw [PyProof.Rows.lm_len_rep_flat, sizeLine_eq]; omega), rfl, q _ _ rfl (I.hok.fresh (Nat.le_refl _))⟩
theorem call_sortedTI : CallR X (.builtin "sorted") (fun vs H Q => ∃ (a : Addr) (ns : List Int), vs = [V.ref a] ∧ SqT X.K H a (ns.map V.int) ∧ ∀ (ns' : List Int) (p : Addr), ns'.Perm ns → ns'.Pairwise (· ≤ ·) → H p = none → Q (.ref p) (upd H p (.lst (ns'.map V.int)))) := by
 intro pins s σ H vs us Q I r ⟨a, ns, e, ha, q⟩
 subst e
 rw [Vals.ref1 r]
 obtain ⟨its, rv, ⟨⟨cc, od, dt, ow⟩, ho, hc, n, hd⟩, hz⟩ := I.tuple ha
 obtain rfl : cc = .type "tuple" := hc
 obtain rfl : dt = .seq its.toArray n := hd
 have hi := rv.ints
 have hz' : its.length ≤ sizeLine := by rw [← rv.length]; exact hz
 refine Calls.call_function_entry kind_sorted plain_sorted entry_sorted (args_sorted1 _) ?_
 unfold Builtin.«sorted»
 refine wpAny_bind (m := checkCount "sorted" 1 1 _) (wpAny_pure ?_)
 refine wpAny_bind (wpAny_collect_seq a (.inr rfl) ho rfl rfl (fun h' kp => ?_) (by rw [List.size_toArray]; exact hz'))
 have el : its.toArray.toList = its := by simp
 rw [el]
 have I1 : Inv X pins σ H { s with heap := h' } := I.kept (t' := s.toks) kp
 refine wpAny_bind (wpAny_newList ?_ hz')
 have hL : (h'.push (seqObj "list" its.toArray 0)).get? h'.objs.size = some (seqObj "list" its.toArray 0) := Heap.get?_push_size _ rfl
 show wpAny _ _ _ _ _ { s with heap := h'.push (seqObj "list" its.toArray 0) }
 refine wpAny_bind (wpAny_holding (wpAny_call_entry slot_list_sort ⟨_, hL, rfl⟩ entry_list_sort ?_ (args_list_sort _)))
 refine SrtO.list_sort_ord SrtO.swo_int hL hz' (fun h2 => SrtO.ints_sortable hi h2) fun out h1 h2 => ⟨_, rfl, ?_⟩
 obtain ⟨k1, k2, k3⟩ := SrtO.ints_out hi h1 h2
 obtain ⟨ep, he⟩ := sortedHeap_at (vs := its) (out := out.toArray) hL
 have hlen : ((out.map SrtO.iv).map V.int).length ≤ sizeLine := by
  rw [List.length_map, k2.length_eq]
  rw [List.length_map] at hz
  exact hz
 refine wpAny_pure ⟨_, rfl, .ref h'.objs.size, upd H h'.objs.size (.lst ((out.map SrtO.iv).map V.int)), I1.laid (t' := s.toks) (fun b u e => ?_) (Nat.le_refl _) ⟨hlen, out, ep, vals_of_ints k1, he⟩, rfl, q _ _ k2 k3 (I1.hok.fresh (Nat.le_refl _))⟩
 have hb : b < h'.objs.size := Heap.lt_size e
 rw [sortedHeap_old (Nat.ne_of_lt hb) (by rw [size_push']; exact Nat.lt_succ_of_lt hb)]
 exact Heap.get?_push_of_some _ e
end
end Ev
namespace Ev
open PySem PySem.Spec PyProof.Rows L2
def RVV (T : Tb) (c : Cf) (H : Hp) (w : W) (v : V) : Prop := match w with
 | .lst ws => ∃ a vs, v = .ref a ∧ H a = some (.lst vs) ∧ RWs T c.lv c.nf H ws vs
 | .dct ks ws => ∃ a vs, v = .ref a ∧ H a = some (.dK ((ks.map kS).zip vs)) ∧ ks.length = vs.length ∧ RWs T c.lv c.nf H ws vs
 | .loc _ => True
 | .sl _ => True
 | w => RW T c.lv c.nf H w v
section
variable {T : Tb} {c c1 : Cf} {st : St} {σ : L2.St} {H H1 : Hp} {w : W} {v : V}
theorem look_ok (h : RSt T c st σ H) (r : RV T c σ H w v) {o : OO} (e : look st w = some o) : ∃ a, v = .ref a ∧ RO T c.lv c.nf H o a := by
 cases w with
 | loc n =>
  obtain ⟨a, e1, e2⟩ : ∃ a, v = .ref a ∧ c.lv[n]? = some a := by simpa [RV, RW] using r
  exact ⟨a, e1, h.sto.at_ n o a e e2⟩
 | sl i =>
  have e1 : σ[i]? = some (some v) := r
  cases q : st.r[i]? with
  | none => simp [look, q] at e
  | some s =>
   cases s with
   | own o' =>
    simp [look, q] at e; subst e
    obtain ⟨a, _, e2, r2⟩ := h.own i o' q
    rw [e1] at e2
    have e3 : v = .ref a := by simpa using e2
    exact ⟨a, e3, r2.ro⟩
   | val _ => simp [look, q] at e
   | un => simp [look, q] at e
 | lst ws =>
  simp [look] at e; subst e
  obtain ⟨a, vs, e1, e2, _, e3⟩ : ∃ a vs, v = .ref a ∧ H a = some (.lst vs) ∧ ¬ c.nf a ∧ RWs T c.lv c.nf H ws vs := by simpa [RV, RW] using r
  exact ⟨a, e1, vs, e2, e3⟩
 | dct ks ws =>
  simp [look] at e; subst e
  obtain ⟨a, vs, e1, e2, _, e3, e4⟩ : ∃ a vs, v = .ref a ∧ H a = some (.dK ((ks.map kS).zip vs)) ∧ ¬ c.nf a ∧ ks.length = vs.length ∧ RWs T c.lv c.nf H ws vs := by simpa [RV, RW] using r
  exact ⟨a, e1, vs, e2, e3, e4⟩
 | obj C ns ws =>
  simp [look] at e; subst e
  obtain ⟨a, dx, vs, e1, e2, _, e3, e4⟩ : ∃ a dx vs, v = .ref a ∧ H a = some (.ins (T.ca C) dx ((ns.map T.sy).zip vs)) ∧ ¬ c.nf a ∧ ns.length = vs.length ∧ RWs T c.lv c.nf H ws vs := by simpa [RV, RW] using r
  exact ⟨a, e1, dx, vs, e2, e3, e4⟩
 | _ => simp [look] at e
theorem rvv (h : RSt T c st σ H) (r : RV T c σ H w v) : RVV T c H (vw st w) v := by
 have far : ∀ {w' : W}, (match look st w' with | some (.lst xs) => W.lst xs | some (.dct ks xs) => W.dct ks xs | _ => w') = vw st w' → RV T c σ H w' v → (∀ n, w' = .loc n ∨ w' = .sl n → True) → True := fun _ _ _ => trivial
 cases w with
 | loc n =>
  unfold vw
  cases q : look st (.loc n) with
  | none => simp [q, RVV]
  | some o =>
   obtain ⟨a, e, ro⟩ := look_ok h r q
   cases o with
   | lst ws =>
    obtain ⟨vs, h1, h2⟩ := ro
    simp only [q, RVV]
    exact ⟨a, vs, e, h1, h2⟩
   | dct ks ws =>
    obtain ⟨vs, h1, h2, h3⟩ := ro
    simp only [q, RVV]
    exact ⟨a, vs, e, h1, h2, h3⟩
   | ins _ _ _ => simp [q, RVV]
   | tab => simp [q, RVV]
   | dnk _ _ => simp [q, RVV]
 | sl n =>
  unfold vw
  cases q : look st (.sl n) with
  | none => simp [q, RVV]
  | some o =>
   obtain ⟨a, e, ro⟩ := look_ok h r q
   cases o with
   | lst ws =>
    obtain ⟨vs, h1, h2⟩ := ro
    simp only [q, RVV]
    exact ⟨a, vs, e, h1, h2⟩
   | dct ks ws =>
    obtain ⟨vs, h1, h2, h3⟩ := ro
    simp only [q, RVV]
    exact ⟨a, vs, e, h1, h2, h3⟩
   | ins _ _ _ => simp [q, RVV]
   | tab => simp [q, RVV]
   | dnk _ _ => simp [q, RVV]
 | lst ws =>
  obtain ⟨a, vs, e1, e2, _, e3⟩ : ∃ a vs, v = .ref a ∧ H a = some (.lst vs) ∧ ¬ c.nf a ∧ RWs T c.lv c.nf H ws vs := by simpa [RV, RW] using r
  exact ⟨a, vs, e1, e2, e3⟩
 | dct ks ws =>
  obtain ⟨a, vs, e1, e2, _, e3⟩ : ∃ a vs, v = .ref a ∧ H a = some (.dK ((ks.map kS).zip vs)) ∧ ¬ c.nf a ∧ ks.length = vs.length ∧ RWs T c.lv c.nf H ws vs := by simpa [RV, RW] using r
  exact ⟨a, vs, e1, e2, e3⟩
 | _ => exact r
end
def Cf.opn (c : Cf) (D : Addr) : Cf := ⟨c.lv, c.ow, fun a => c.ou a ∨ a = D⟩
section
variable {T : Tb} {c c1 : Cf} {st : St} {σ : L2.St} {H H1 : Hp} {D : Addr}
theorem mn_opn (hD : H D = none) {o : HO} : Mn c.lv c.nf H (c.opn D).lv (c.opn D).nf (upd H D o) := ⟨fun a u e _ _ => by rw [upd_ne (ne_of_none e hD)]; exact e, fun a q => by
  rcases q with q | q | q
  ·exact .inl (.inl q)
  ·exact .inl (.inr q)
  ·subst q; exact .inr (tn_none hD), fun _ _ e => e, fun a f _ e => by rw [upd_ne (ne_of_none e hD)]; exact e⟩
theorem RSt.opn (h : RSt T c st σ H) (hD : H D = none) {o : HO} (ho : noTb o = true := by rfl) : RSt T (c.opn D) st σ (upd H D o) := by
 have fr : ∀ a u, H a = some u → upd H D o a = some u := fun a u e => by rw [upd_ne (ne_of_none e hD)]; exact e
 have m : Mn c.lv c.nf H (c.opn D).lv (c.opn D).nf (upd H D o) := ⟨fun a u e _ _ => fr a u e, fun a q => by
  rcases q with q | q | q
  ·exact .inl (.inl q)
  ·exact .inl (.inr q)
  ·subst q; exact .inr (tn_none hD), fun _ _ e => e, fun a f _ e => by rw [upd_ne (ne_of_none e hD)]; exact e⟩
 have ke : ∀ a, (∃ u, H a = some u) → upd H D o a = H a := fun a ⟨u, e⟩ => by rw [fr a u e, e]
 refine ⟨h.len, fun i w e => ?_, fun i u e => ?_, h.back, h.inj, h.dis, fun a q z => ?_, fun a q => ?_, ⟨h.sto.len, h.sto.nd, fun n u a e1 e2 => ?_⟩⟩
 ·obtain ⟨v, e1, r⟩ := h.val i w e
  exact ⟨v, e1, r.mono m⟩
 ·obtain ⟨a, e1, e2, r⟩ := h.own i u e
  obtain ⟨y, q, _⟩ := r.there
  exact ⟨a, e1, e2, r.mono m (ke a ⟨y, q⟩)⟩
 ·rcases q with q | q
  ·exact h.ou a q z
  ·subst q
   obtain ⟨u, e⟩ := h.there (.inl z)
   rw [hD] at e; cases e
 ·rcases q with q | q
  ·obtain ⟨u, e, n⟩ := h.ouh a q
   exact ⟨u, fr a u e, n⟩
  ·subst q; exact ⟨_, upd_same, ho⟩
 ·have r := h.sto.at_ n u a e1 e2
  exact r.mono m (ke a r.there)
end
section
variable {T : Tb} {c : Cf} {st : St} {σ : L2.St} {H : Hp}
abbrev WantsP (T : Tb) (c : Cf) (st : St) (σ : L2.St) (H : Hp) (w : W) (Q : VK) : Prop := ∀ z H' , Stp c H c H' → RSt T c st σ H' → RW T c.lv c.nf H' w z → Q z H'
theorem WantsP.of {w : W} {Q : VK} {Wx : WX} (h : Post T Wx (relV T σ) c σ H (.ok w st) Q) : WantsP T c st σ H w Q := fun z H' s r q => h z H' c s r q.rv
theorem WantsP.same {w : W} {v : V} {Q : VK} (q : WantsP T c st σ H w Q) (h : RSt T c st σ H) (r : RW T c.lv c.nf H w v) : Q v H := q v H Stp.refl h r
def FrW (T : Tb) (c : Cf) (st : St) (σ : L2.St) (H0 H : Hp) (w : W) (z : V) : Prop := isL w = true → ∀ a, z = .ref a → tn (H0 a) ∧ RSt T (c.opn a) st σ H ∧ RO T (c.opn a).lv (c.opn a).nf H (oOf w) a
abbrev Wants (T : Tb) (c : Cf) (st : St) (σ : L2.St) (H : Hp) (w : W) (Q : VK) : Prop := ∀ z H' , Stp c H c H' → RSt T c st σ H' → RW T c.lv c.nf H' w z → FrW T c st σ H H' w z → Q z H'
theorem Wants.of {w : W} {Q : VK} {Wx : WX} (h : Post T Wx (relV T σ) c σ H (.ok w st) Q) : Wants T c st σ H w Q := fun z H' s r q _ => h z H' c s r q.rv
theorem RWs.grow {ws : List W} {vs : List V} {p : Addr} {o : HO} (hp : H p = none) (h : RWs T c.lv c.nf H ws vs) : RWs T c.lv c.nf (upd H p o) ws vs := h.mono (Stp.grow hp).mn
theorem RW.grow {w : W} {v : V} {p : Addr} {o : HO} (hp : H p = none) (h : RW T c.lv c.nf H w v) : RW T c.lv c.nf (upd H p o) w v := h.mono (Stp.grow hp).mn
theorem new_tup (h : RSt T c st σ H) {ws : List W} {vs : List V} {p : Addr} {o : Obj} {Q : VK} (hp : H p = none) (ho : o.dict = none) (r : RWs T c.lv c.nf H ws vs) (q : Wants T c st σ H (.tup ws) Q) : Q (.ref p) (upd H p (.frz o (.tup vs))) :=
 q _ _ (Stp.grow hp) (h.grow hp) (by simp only [RW]; exact ⟨p, vs, rfl, .inl ⟨⟨o, ho, upd_same⟩, h.new hp⟩, r.grow hp⟩) (fun z => by cases z)
theorem new_lst (h : RSt T c st σ H) {ws : List W} {vs : List V} {p : Addr} {Q : VK} (hp : H p = none) (r : RWs T c.lv c.nf H ws vs) (q : Wants T c st σ H (.lst ws) Q) : Q (.ref p) (upd H p (.lst vs)) :=
 q _ _ (Stp.grow hp) (h.grow hp) (by simp only [RW]; exact ⟨p, vs, rfl, upd_same, h.new hp, r.grow hp⟩) (fun _ a e => by cases e; exact ⟨tn_none hp, h.opn hp, vs, upd_same, r.mono (mn_opn hp)⟩)
theorem Wants.same {w : W} {v : V} {Q : VK} (q : Wants T c st σ H w Q) (h : RSt T c st σ H) (r : RW T c.lv c.nf H w v) (f : isL w = false := by rfl) : Q v H := q v H Stp.refl h r (fun z => by rw [f] at z; cases z)
end
theorem line_eq : lineMax = sizeLine := by decide
def opOf : Bop → Operator
 | .add => .Add | .sub => .Sub | .mul => .Mult | .fdv => .FloorDiv | .mod => .Mod | .pow => .Pow
theorem tOk_app {x y : Tx} (hx : tOk x = true) (hy : tOk y = true) : tOk (x ++ y) = true := by
 unfold tOk at *; rw [List.all_append, hx, hy]; rfl
theorem mulOk_c {i j : Int} (h : mulOk i j = true) : CMul i j := by
 unfold mulOk at h
 simp only [Bool.or_eq_true, Bool.and_eq_true, decide_eq_true_eq] at h
 exact h
section
variable {T : Tb} {X : Cx} {c : Cf} {st : St} {σ : L2.St} {H : Hp} {pins : List (Addr × Obj)} {s : Shared}
theorem tup_at {ws : List W} {v : V} (h : RVV T c H (.tup ws) v) : ∃ a vs, v = .ref a ∧ CT T.K c.nf H a vs ∧ RWs T c.lv c.nf H ws vs := by simpa [RVV, RW] using h
theorem bin_ok {op : Bop} {x y w : W} {v u : V} {vv uu : Value} {Q : VK} (hK : T.K = X.K) (e : binW op x y = some w) (I : Inv X pins σ H s) (h : RSt T c st σ H) (rx : RVV T c H x v) (ry : RVV T c H y u) (qv : RelV v vv) (qu : RelV u uu)
  (q : Wants T c st σ H w Q) : wpAny (model X.prog X.w) X.A (binaryOp (opOf op) vv uu) (EP X pins σ Q) X.xe s := by
 unfold binW at e
 split at e
 ·cases e; cases rx; cases ry
  exact op_add pins s σ H _ _ vv uu Q I qv qu ⟨_, _, rfl, rfl, q.same h rfl⟩
 ·cases e; cases rx; cases ry
  exact op_sub pins s σ H _ _ vv uu Q I qv qu ⟨_, _, rfl, rfl, q.same h rfl⟩
 ·split at e
  ·rename_i hm
   cases e; cases rx; cases ry
   exact op_mul pins s σ H _ _ vv uu Q I qv qu ⟨_, _, rfl, rfl, mulOk_c hm, q.same h rfl⟩
  ·cases e
 ·split at e
  ·rename_i hm
   cases e; cases rx; cases ry
   exact op_fdiv pins s σ H _ _ vv uu Q I qv qu ⟨_, _, rfl, rfl, hm, q.same h rfl⟩
  ·cases e
 ·split at e
  ·rename_i hm
   cases e; cases rx; cases ry
   exact op_mod pins s σ H _ _ vv uu Q I qv qu ⟨_, _, rfl, rfl, hm, q.same h rfl⟩
  ·cases e
 ·split at e
  ·rename_i hm
   cases e; cases rx; cases ry
   exact op_pow pins s σ H _ _ vv uu Q I qv qu ⟨_, _, rfl, rfl, hm, q.same h rfl⟩
  ·cases e
 ·split at e
  ·rename_i hm
   cases e
   obtain ⟨rfl, o1⟩ := rx
   obtain ⟨rfl, o2⟩ := ry
   refine op_add_str pins s σ H _ _ vv uu Q I qv qu ⟨_, _, rfl, rfl, ?_, ?_⟩
   ·rw [SX.S_len, SX.S_len, ← line_eq]; exact hm
   ·rw [SX.S_cat]
    exact q.same h ⟨rfl, tOk_app o1 o2⟩
  ·cases e
 ·split at e
  ·rename_i hm
   cases e
   obtain ⟨a, xs, rfl, h1, r1⟩ := tup_at rx
   obtain ⟨b, ys, rfl, h2, r2⟩ := tup_at ry
   refine op_catC pins s σ H _ _ vv uu Q I qv qu ⟨a, b, xs, ys, rfl, rfl, h1.sq hK, h2.sq hK, by rw [← r1.len, ← r2.len, ← line_eq]; exact hm, fun z => ?_, fun _ z => ?_, fun _ _ p o ho hp => ?_⟩
   ·subst z
    have e1 := List.eq_nil_of_length_eq_zero (r1.len.trans rfl)
    subst e1
    exact q.same h (by simp only [RW]; exact ⟨b, ys, rfl, h2, by simpa using r2⟩)
   ·subst z
    have e1 := List.eq_nil_of_length_eq_zero (r2.len.trans rfl)
    subst e1
    exact q.same h (by simp only [RW]; exact ⟨a, xs, rfl, h1, by simpa using r1⟩)
   ·exact new_tup h hp ho (r1.append r2) q
  ·cases e
 ·split at e
  ·rename_i hm
   cases e
   obtain ⟨a, xs, rfl, h1, r1⟩ := rx
   obtain ⟨b, ys, rfl, h2, r2⟩ := ry
   refine op_cat pins s σ H _ _ vv uu Q I qv qu ⟨a, b, xs, ys, rfl, rfl, h1, h2, by rw [← r1.len, ← r2.len, ← line_eq]; exact hm, fun p hp => ?_⟩
   exact new_lst h hp (r1.append r2) q
  ·cases e
 ·split at e
  ·rename_i hm
   cases e
   obtain ⟨a, xs, rfl, h1, r1⟩ := tup_at rx
   cases ry
   refine op_repC pins s σ H _ _ vv uu Q I qv qu ⟨a, _, xs, rfl, rfl, h1.sq hK, fun z => hm.1 ?_, ⟨hm.2.1, hm.2.2.1⟩, by rw [← r1.len]; exact hm.2.2.2, fun z => ?_, fun _ p o ho hp => ?_⟩
   ·subst z
    exact List.eq_nil_of_length_eq_zero r1.len
   ·subst z
    have e1 : ∀ l : List W, (List.replicate (1 : Int).toNat l).flatten = l := fun l => by
     rw [show (1 : Int).toNat = 1 from rfl, List.replicate_one, List.flatten_singleton]
    exact q.same h (by rw [e1]; simp only [RW]; exact ⟨a, xs, rfl, h1, r1⟩)
   ·refine new_tup h hp ho ?_ q
    have rep : ∀ n : Nat, RWs T c.lv c.nf H (List.replicate n _).flatten (List.replicate n xs).flatten := fun n => by
     induction n with
     | zero => exact RWs.nil
     | succ n ih =>
      rw [List.replicate_succ, List.replicate_succ, List.flatten_cons, List.flatten_cons]
      exact r1.append ih
    exact rep _
  ·cases e
 ·split at e
  ·rename_i hm
   cases e
   obtain ⟨a, xs, rfl, h1, r1⟩ := rx
   cases ry
   refine op_rep pins s σ H _ _ vv uu Q I qv qu ⟨a, _, xs, rfl, rfl, h1, hm.1, hm.2.1, by rw [← r1.len, ← line_eq]; exact hm.2.2, fun p hp => ?_⟩
   refine new_lst h hp ?_ q
   have rep : ∀ n : Nat, RWs T c.lv c.nf H (List.replicate n _).flatten (List.replicate n xs).flatten := fun n => by
    induction n with
    | zero => exact RWs.nil
    | succ n ih =>
     rw [List.replicate_succ, List.replicate_succ, List.flatten_cons, List.flatten_cons]
     exact r1.append ih
   exact rep _
  ·cases e
 ·cases e
end
end Ev
namespace Ev
open PySem PySem.Spec PyProof.Rows L2
mutual
def toPD : W → PyData
 | .non => .none
 | .bl b => .bool b
 | .int i => .int i
 | .str x => .str (tS x)
 | .tup xs => .tuple (toPDs xs)
 | .lst xs => .list (toPDs xs)
 | _ => .none
def toPDs : List W → List PyData
 | [] => []
 | x :: xs => toPD x :: toPDs xs
end
mutual
theorem eqv_PD : ∀ (a b : W), isD a = true → isD b = true → PyData.eqv (toPD a) (toPD b) = eqD a b
 | .non, b, _, hb => by cases b <;> first | rfl | simp [isD] at hb | simp [toPD, PyData.eqv, eqD]
 | .bl _, b, _, hb => by cases b <;> first | rfl | simp [isD] at hb | simp [toPD, PyData.eqv, eqD]
 | .int _, b, _, hb => by cases b <;> first | rfl | simp [isD] at hb | simp [toPD, PyData.eqv, eqD]
 | .str x, b, _, hb => by
  cases b with
  | str y => simp only [toPD, PyData.eqv, eqD]; exact SX.S_beq _ _
  | _ => first | rfl | simp [isD] at hb | simp [toPD, PyData.eqv, eqD]
 | .tup xs, b, ha, hb => by
  cases b with
  | tup ys => simp only [toPD, PyData.eqv, eqD]; exact eqv_PDs xs ys (by simpa [isD] using ha) (by simpa [isD] using hb)
  | _ => first | rfl | simp [isD] at hb | simp [toPD, PyData.eqv, eqD]
 | .lst xs, b, ha, hb => by
  cases b with
  | lst ys => simp only [toPD, PyData.eqv, eqD]; exact eqv_PDs xs ys (by simpa [isD] using ha) (by simpa [isD] using hb)
  | _ => first | rfl | simp [isD] at hb | simp [toPD, PyData.eqv, eqD]
 | .dct _ _, _, ha, _ => by simp [isD] at ha
 | .obj _ _ _, _, ha, _ => by simp [isD] at ha
 | .loc _, _, ha, _ => by simp [isD] at ha
 | .sl _, _, ha, _ => by simp [isD] at ha
 | .glo _, _, ha, _ => by simp [isD] at ha
 | .scr _, _, ha, _ => by simp [isD] at ha
theorem eqv_PDs : ∀ (as bs : List W), isDs as = true → isDs bs = true → PyData.eqvAll (toPDs as) (toPDs bs) = eqDs as bs
 | [], [], _, _ => rfl
 | [], _ :: _, _, _ => rfl
 | _ :: _, [], _, _ => rfl
 | a :: as, b :: bs, ha, hb => by
  simp only [isDs, Bool.and_eq_true] at ha hb
  simp only [toPDs, PyData.eqvAll, eqDs]
  rw [eqv_PD a b ha.1 hb.1, eqv_PDs as bs ha.2 hb.2]
end
mutual
theorem dep_PD : ∀ (a : W), isD a = true → (toPD a).depth = dep a
 | .non, _ => rfl
 | .bl _, _ => rfl
 | .int _, _ => rfl
 | .str _, _ => rfl
 | .tup xs, h => by simp only [toPD, PyData.depth, dep]; rw [dep_PDs xs (by simpa [isD] using h)]
 | .lst xs, h => by simp only [toPD, PyData.depth, dep]; rw [dep_PDs xs (by simpa [isD] using h)]
 | .dct _ _, ha => by simp [isD] at ha
 | .obj _ _ _, ha => by simp [isD] at ha
 | .loc _, ha => by simp [isD] at ha
 | .sl _, ha => by simp [isD] at ha
 | .glo _, ha => by simp [isD] at ha
 | .scr _, ha => by simp [isD] at ha
theorem dep_PDs : ∀ (as : List W), isDs as = true → PyData.depthAll (toPDs as) = deps as
 | [], _ => rfl
 | a :: as, h => by
  simp only [isDs, Bool.and_eq_true] at h
  simp only [toPDs, PyData.depthAll, deps]
  rw [dep_PD a h.1, dep_PDs as h.2]
end
section
variable {T : Tb} {lv : List Addr} {nf : Addr → Prop} {H : Hp}
theorem tOk_str {x : Tx} (h : tOk x = true) : PyData.strOk (tS x) = true := by
 unfold PyData.strOk
 show (x.toArray.all fun c => decide (c < 1114112)) = true
 rw [List.all_toArray]
 exact h
mutual
theorem lay_PD : ∀ (w : W) (v : V), RW T lv nf H w v → isD w = true → (toPD w).canLay0 = true ∧ Dp T.K H v (toPD w)
 | .non, v, h, _ => by cases h; exact ⟨rfl, .non⟩
 | .bl _, v, h, _ => by cases h; exact ⟨rfl, .bl _⟩
 | .int _, v, h, _ => by cases h; exact ⟨rfl, .int _⟩
 | .str x, v, h, _ => by
  obtain ⟨rfl, o⟩ := h
  exact ⟨tOk_str o, .str _⟩
 | .tup ws, v, h, hd => by
  obtain ⟨a, vs, rfl, e, r⟩ : ∃ a vs, v = .ref a ∧ CT T.K nf H a vs ∧ RWs T lv nf H ws vs := by simpa [RW] using h
  obtain ⟨h1, h2⟩ := lay_PDs ws vs r (by simpa [isD] using hd)
  exact ⟨h1, .tup (e.sq rfl) h2⟩
 | .lst ws, v, h, hd => by
  obtain ⟨a, vs, rfl, e, _, r⟩ : ∃ a vs, v = .ref a ∧ H a = some (.lst vs) ∧ ¬ nf a ∧ RWs T lv nf H ws vs := by simpa [RW] using h
  obtain ⟨h1, h2⟩ := lay_PDs ws vs r (by simpa [isD] using hd)
  exact ⟨h1, .lst (SqL.of e) h2⟩
 | .dct _ _, _, _, ha => by simp [isD] at ha
 | .obj _ _ _, _, _, ha => by simp [isD] at ha
 | .loc _, _, _, ha => by simp [isD] at ha
 | .sl _, _, _, ha => by simp [isD] at ha
 | .glo _, _, _, ha => by simp [isD] at ha
 | .scr _, _, _, ha => by simp [isD] at ha
theorem lay_PDs : ∀ (ws : List W) (vs : List V), RWs T lv nf H ws vs → isDs ws = true → PyData.canLayAll0 (toPDs ws) = true ∧ DpAll T.K H vs (toPDs ws)
 | [], vs, h, _ => by
  simp only [RWs] at h; subst h
  exact ⟨rfl, .nil⟩
 | w :: ws, vs, h, hd => by
  simp only [RWs] at h
  obtain ⟨v, r, rfl, h1, h2⟩ := h
  simp only [isDs, Bool.and_eq_true] at hd
  obtain ⟨a1, a2⟩ := lay_PD w v h1 hd.1
  obtain ⟨b1, b2⟩ := lay_PDs ws r h2 hd.2
  exact ⟨by simp only [toPDs, PyData.canLayAll0, a1, b1]; rfl, .cons a2 b2⟩
end
end
section
variable {T : Tb} {c : Cf} {H : Hp}
theorem lay_V {w : W} {v : V} (h : RVV T c H w v) (d : isD w = true) : (toPD w).canLay0 = true ∧ Dp T.K H v (toPD w) := by
 cases w with
 | lst ws =>
  obtain ⟨a, vs, rfl, e, r⟩ := h
  obtain ⟨h1, h2⟩ := lay_PDs ws vs r (by simpa [isD] using d)
  exact ⟨h1, .lst (SqL.of e) h2⟩
 | dct _ _ => simp [isD] at d
 | loc _ => simp [isD] at d
 | sl _ => simp [isD] at d
 | _ => exact lay_PD (lv := c.lv) (nf := c.nf) _ v h d
end
theorem dOk_i {w : W} (h : dOk w = true) : isD w = true ∧ dep w ≤ 128 := by simpa [dOk] using h
def Deep (X : Cx) : Prop := X.A.units + 140 < cLine
section
variable {T : Tb} {X : Cx} {c : Cf} {st : St} {σ : L2.St} {H : Hp} {pins : List (Addr × Obj)} {s : Shared}
theorem eq_ok {x y : W} {v u : V} {vv uu : Value} {Q : VK} (hK : T.K = X.K) (hu : Deep X) (dx : dOk x = true) (dy : dOk y = true) (I : Inv X pins σ H s) (rx : RVV T c H x v) (ry : RVV T c H y u) (qv : RelV v vv) (qu : RelV u uu)
  (q : Q (.bl (eqD x y)) H) : wpAny (model X.prog X.w) X.A (compareOp .Eq vv uu) (EP X pins σ Q) X.xe s := by
 obtain ⟨d1, d2⟩ := dOk_i dx
 obtain ⟨e1, e2⟩ := dOk_i dy
 obtain ⟨l1, p1⟩ := lay_V rx d1
 obtain ⟨l2, p2⟩ := lay_V ry e1
 rw [hK] at p1 p2
 obtain ⟨as, r1⟩ := Dp.reads I _ v vv p1 qv
 obtain ⟨bs, r2⟩ := Dp.reads I _ u uu p2 qu
 refine SeqAt.compareEq_reads r1 r2 l1 l2 ?_ ⟨.bl _, H, I, rfl, by rw [eqv_PD x y d1 e1]; exact q⟩
 rw [dep_PD x d1]
 unfold Deep at hu; omega
theorem ne_ok {x y : W} {v u : V} {vv uu : Value} {Q : VK} (hK : T.K = X.K) (hu : Deep X) (dx : dOk x = true) (dy : dOk y = true) (I : Inv X pins σ H s) (rx : RVV T c H x v) (ry : RVV T c H y u) (qv : RelV v vv) (qu : RelV u uu)
  (q : Q (.bl (!eqD x y)) H) : wpAny (model X.prog X.w) X.A (compareOp .NotEq vv uu) (EP X pins σ Q) X.xe s := by
 obtain ⟨d1, d2⟩ := dOk_i dx
 obtain ⟨e1, e2⟩ := dOk_i dy
 obtain ⟨l1, p1⟩ := lay_V rx d1
 obtain ⟨l2, p2⟩ := lay_V ry e1
 rw [hK] at p1 p2
 obtain ⟨as, r1⟩ := Dp.reads I _ v vv p1 qv
 obtain ⟨bs, r2⟩ := Dp.reads I _ u uu p2 qu
 refine SeqAt.compareNe_reads r1 r2 l1 l2 ?_ ⟨.bl _, H, I, rfl, by rw [eqv_PD x y d1 e1]; exact q⟩
 rw [dep_PD x d1]
 unfold Deep at hu; omega
end
section
variable {T : Tb} {X : Cx} {c : Cf} {st : St} {σ : L2.St} {H : Hp} {pins : List (Addr × Obj)} {s : Shared}
theorem any_PD {x : W} (hx : isD x = true) : ∀ {ys : List W}, isDs ys = true → ((toPDs ys).any fun y => PyData.eqv y (toPD x)) = memD x ys
 | [], _ => rfl
 | y :: ys, h => by
  simp only [isDs, Bool.and_eq_true] at h
  simp only [toPDs, List.any_cons, memD]
  rw [eqv_PD y x h.1 hx, any_PD hx h.2]
  rfl
theorem in_ok {neg : Bool} {x y : W} {ys : List W} {v u : V} {vv uu : Value} {Q : VK} (hy : y = .lst ys ∨ y = .tup ys) (hK : T.K = X.K) (hu : Deep X) (dx : dOk x = true) (dy : dOk y = true) (I : Inv X pins σ H s) (rx : RVV T c H x v) (ry : RVV T c H y u) (qv : RelV v vv) (qu : RelV u uu)
  (q : Q (.bl (if neg then !memD x ys else memD x ys)) H) : wpAny (model X.prog X.w) X.A (compareOp (if neg then .NotIn else .In) vv uu) (EP X pins σ Q) X.xe s := by
 obtain ⟨d1, d2⟩ := dOk_i dx
 obtain ⟨e1, e2⟩ := dOk_i dy
 have e3 : isDs ys = true := by rcases hy with rfl | rfl <;> simpa [isD] using e1
 obtain ⟨l1, p1⟩ := lay_V rx d1
 obtain ⟨l2, p2⟩ := lay_V ry e1
 rw [hK] at p1 p2
 obtain ⟨as, r1⟩ := Dp.reads I _ v vv p1 qv
 obtain ⟨bs, r2⟩ := Dp.reads I _ u uu p2 qu
 have hu' : X.A.units + 1 + min (PyData.depthAll (toPDs ys)) (toPD x).depth < cLine := by
  rw [dep_PD x d1]
  unfold Deep at hu; omega
 have l3 : PyData.canLayAll0 (toPDs ys) = true := by rcases hy with rfl | rfl <;> exact l2
 cases neg with
 | false =>
  have z : EP X pins σ Q (.bool ((toPDs ys).any fun y => PyData.eqv y (toPD x))) s := ⟨.bl _, H, I, rfl, by rw [any_PD d1 e3]; exact q⟩
  rcases hy with rfl | rfl
  ·exact SeqAt.in_list_reads r2 r1 l3 l1 hu' z
  ·exact SeqAt.in_tuple_reads r2 r1 l3 l1 hu' z
 | true =>
  have z : EP X pins σ Q (.bool (!(toPDs ys).any fun y => PyData.eqv y (toPD x))) s := ⟨.bl _, H, I, rfl, by rw [any_PD d1 e3]; exact q⟩
  rcases hy with rfl | rfl
  ·exact SeqAt.notIn_list_reads r2 r1 l3 l1 hu' z
  ·exact SeqAt.notIn_tuple_reads r2 r1 l3 l1 hu' z
theorem kS_inj {a b : Ky} (h : kS a = kS b) : a = b := by
 cases a with
 | inl i => cases b with
  | inl j => exact congrArg _ (Sum.inl.inj h)
  | inr y => cases h
 | inr x => cases b with
  | inl j => cases h
  | inr y => exact congrArg _ (SX.S_inj (Sum.inr.inj h))
theorem key_of {k : W} {q : Ky} {v : V} (e : kyOf k = some q) (r : RVV T c H k v) : v = kV (kS q) := by
 unfold kyOf at e
 split at e
 ·cases e; exact r
 ·cases e; exact r.1
 ·cases e
theorem kget_ok {lv : List Addr} {nf : Addr → Prop} {q : Ky} : ∀ {ks : List Ky} {ws : List W} {vs : List V}, ks.length = vs.length → RWs T lv nf H ws vs →
   (match kget q ks ws with
     | some w => ∃ v, valV ((ks.map kS).zip vs) (kS q) = some v ∧ RW T lv nf H w v
     | none => valV ((ks.map kS).zip vs) (kS q) = none)
 | [], ws, vs, e, r => by simp [kget, valV]
 | g :: ks, ws, [], e, r => by simp at e
 | g :: ks, [], v :: vs, e, r => by simp [RWs] at r
 | g :: ks, w :: ws, v :: vs, e, r => by
   simp only [RWs] at r
   obtain ⟨v', vs', e1, r1, r2⟩ := r
   cases e1
   have ih := kget_ok (q := q) (ks := ks) (by simpa using e) r2
   simp only [List.map_cons, List.zip_cons_cons, kget]
   by_cases hg : g = q
   · rw [if_pos hg]
     subst hg
     exact ⟨v, valV_pos rfl, r1⟩
   · rw [if_neg hg]
     rw [valV_neg (fun z => hg (kS_inj z))]
     exact ih
theorem din_ok {neg : Bool} {k : W} {q : Ky} {ks : List Ky} {ws : List W} {v u : V} {vv uu : Value} {Q : VK} (hu : Deep X) (e : kyOf k = some q) (I : Inv X pins σ H s) (rx : RVV T c H k v) (ry : RVV T c H (.dct ks ws) u) (qv : RelV v vv) (qu : RelV u uu)
  (hq : Q (.bl (if neg then !(kget q ks ws).isSome else (kget q ks ws).isSome)) H) : wpAny (model X.prog X.w) X.A (compareOp (if neg then .NotIn else .In) vv uu) (EP X pins σ Q) X.xe s := by
 obtain ⟨a, vs, rfl, h1, h2, h3⟩ := ry
 have ev := key_of e rx
 subst ev
 cases qu
 have hu' : X.A.units + 1 < cLine := by unfold Deep at hu; omega
 have g := DGet.k (k := kS q) h1
 have iss : (valV ((ks.map kS).zip vs) (kS q)).isSome = (kget q ks ws).isSome := by
  have z := kget_ok (T := T) (q := q) h2 h3
  cases y : kget q ks ws with
  | some w =>
   rw [y] at z
   obtain ⟨v, z1, _⟩ := z
   rw [z1]; rfl
  | none =>
   rw [y] at z
   rw [show valV ((ks.map kS).zip vs) (kS q) = none from z]; rfl
 cases neg with
 | false => exact d_in hu' I g qv fun s' I' => ⟨.bl _, H, I', rfl, by rw [iss]; exact hq⟩
 | true => exact d_notIn hu' I g qv fun s' I' => ⟨.bl _, H, I', rfl, by rw [iss]; exact hq⟩
def cpOf : Cop → CmpOp
 | .eq => .Eq | .ne => .NotEq | .lt => .Lt | .le => .LtE | .gt => .Gt | .ge => .GtE | .isn => .Is | .ntn => .IsNot | .inn => .In | .nin => .NotIn
theorem isn_of {x : W} {v : V} {k : Bool} (e : isnW x = some k) (r : RV T c σ H x v) : decide (v = .non) = k := by
 cases x with
 | non => cases e; cases r; rfl
 | bl _ => cases e; cases r; rfl
 | int _ => cases e; cases r; rfl
 | str _ => cases e; obtain ⟨rfl, _⟩ := r; rfl
 | tup _ => cases e; obtain ⟨a, vs, rfl, _⟩ := tup_at r; rfl
 | lst ws => cases e; obtain ⟨a, vs, rfl, _⟩ : ∃ a vs, v = .ref a ∧ H a = some (.lst vs) ∧ ¬ c.nf a ∧ RWs T c.lv c.nf H ws vs := by simpa [RV, RW] using r
             rfl
 | dct ks ws => cases e; obtain ⟨a, vs, rfl, _⟩ : ∃ a vs, v = .ref a ∧ H a = some (.dK ((ks.map kS).zip vs)) ∧ ¬ c.nf a ∧ ks.length = vs.length ∧ RWs T c.lv c.nf H ws vs := by simpa [RV, RW] using r
                rfl
 | obj C ns ws =>
   cases e
   obtain ⟨a, dx, vs, rfl, _⟩ : ∃ a dx vs, v = .ref a ∧ H a = some (.ins (T.ca C) dx ((ns.map T.sy).zip vs)) ∧ ¬ c.nf a ∧ ns.length = vs.length ∧ RWs T c.lv c.nf H ws vs := by simpa [RV, RW] using r
   rfl
 | loc n =>
   cases e
   obtain ⟨a, rfl, _⟩ : ∃ a, v = .ref a ∧ c.lv[n]? = some a := by simpa [RV, RW] using r
   rfl
 | sl n => cases e
 | glo n => cases e
 | exn C ns ws => cases e
 | scr ns =>
   cases e
   obtain ⟨a, rfl, _⟩ : ∃ a, v = .ref a ∧ ((Rd H a (.lst (ns.map V.int)) ∧ ¬ c.nf a) ∨ KL T.K a (ns.map V.int)) := by simpa [RV, RW] using r
   rfl
theorem isn_ok {x : W} {k : Bool} {v : V} {vv uu : Value} {Q : VK} (e : isnW x = some k) (I : Inv X pins σ H s) (rx : RV T c σ H x v) (qv : RelV v vv) (qu : RelV .non uu) (q : Q (.bl k) H) :
  wpAny (model X.prog X.w) X.A (compareOp .Is vv uu) (EP X pins σ Q) X.xe s :=
 op_isN pins s σ H v .non vv uu Q I qv qu ⟨rfl, by rw [isn_of e rx]; exact q⟩
theorem ntn_ok {x : W} {k : Bool} {v : V} {vv uu : Value} {Q : VK} (e : isnW x = some k) (I : Inv X pins σ H s) (rx : RV T c σ H x v) (qv : RelV v vv) (qu : RelV .non uu) (q : Q (.bl !k) H) :
  wpAny (model X.prog X.w) X.A (compareOp .IsNot vv uu) (EP X pins σ Q) X.xe s :=
 op_notN pins s σ H v .non vv uu Q I qv qu ⟨rfl, by rw [isn_of e rx]; exact q⟩
theorem cmp_ok {op : Cop} {x y : W} {k : Bool} {v u : V} {vv uu : Value} {Q : VK} (hK : T.K = X.K) (hu : Deep X) (e : cmpW op x y = some k) (I : Inv X pins σ H s) (rx : RVV T c H x v) (ry : RVV T c H y u) (qv : RelV v vv) (qu : RelV u uu)
  (q : Q (.bl k) H) : wpAny (model X.prog X.w) X.A (compareOp (cpOf op) vv uu) (EP X pins σ Q) X.xe s := by
 unfold cmpW at e
 split at e
 ·cases e; cases rx; cases ry
  exact op_lt pins s σ H _ _ vv uu Q I qv qu ⟨_, _, rfl, rfl, q⟩
 ·cases e; cases rx; cases ry
  exact op_le pins s σ H _ _ vv uu Q I qv qu ⟨_, _, rfl, rfl, q⟩
 ·cases e; cases rx; cases ry
  exact op_gt pins s σ H _ _ vv uu Q I qv qu ⟨_, _, rfl, rfl, q⟩
 ·cases e; cases rx; cases ry
  exact op_ge pins s σ H _ _ vv uu Q I qv qu ⟨_, _, rfl, rfl, q⟩
 ·split at e
  ·rename_i hd
   simp only [Bool.and_eq_true] at hd
   cases e
   exact eq_ok hK hu hd.1 hd.2 I rx ry qv qu q
  ·cases e
 ·split at e
  ·rename_i hd
   simp only [Bool.and_eq_true] at hd
   cases e
   exact ne_ok hK hu hd.1 hd.2 I rx ry qv qu q
  ·cases e
 ·cases e
  obtain ⟨rfl, _⟩ := rx
  obtain ⟨rfl, _⟩ := ry
  exact op_in_sign pins s σ H _ _ vv uu Q I qv qu ⟨_, _, rfl, rfl, q⟩
 ·cases e
  obtain ⟨rfl, _⟩ := rx
  obtain ⟨rfl, _⟩ := ry
  exact op_notIn_sign pins s σ H _ _ vv uu Q I qv qu ⟨_, _, rfl, rfl, q⟩
 ·split at e
  ·rename_i hd
   simp only [Bool.and_eq_true] at hd
   cases e
   exact in_ok (neg := false) (.inl rfl) hK hu hd.1 hd.2 I rx ry qv qu q
  ·cases e
 ·split at e
  ·rename_i hd
   simp only [Bool.and_eq_true] at hd
   cases e
   exact in_ok (neg := true) (.inl rfl) hK hu hd.1 hd.2 I rx ry qv qu q
  ·cases e
 ·split at e
  ·rename_i hd
   simp only [Bool.and_eq_true] at hd
   cases e
   exact in_ok (neg := false) (.inr rfl) hK hu hd.1 hd.2 I rx ry qv qu q
  ·cases e
 ·split at e
  ·rename_i hd
   simp only [Bool.and_eq_true] at hd
   cases e
   exact in_ok (neg := true) (.inr rfl) hK hu hd.1 hd.2 I rx ry qv qu q
  ·cases e
 ·obtain ⟨z, e1, e2⟩ := Option.map_eq_some_iff.mp e
  subst e2
  exact din_ok (neg := false) hu e1 I rx ry qv qu q
 ·obtain ⟨z, e1, e2⟩ := Option.map_eq_some_iff.mp e
  subst e2
  exact din_ok (neg := true) hu e1 I rx ry qv qu q
 ·cases e
theorem tru_ok' {w : W} {k : Bool} {v : V} (e : truW w = some k) (r : RVV T c H w v) (hK : T.K = X.K) : TruV X.K v H k := by
 unfold truW at e
 split at e
 ·cases e; cases r; rfl
 ·cases e; cases r; rfl
 ·cases e; cases r; rfl
 ·split at e
  ·rename_i x hl
   cases e
   obtain ⟨rfl, _⟩ := r
   refine ⟨by rw [SX.S_len, ← line_eq]; exact hl, ?_⟩
   rw [SX.S_len]
   clear hl
   cases x with
   | nil => rfl
   | cons a b => simp; omega
  ·cases e
 ·rename_i xs
  cases e
  obtain ⟨a, vs, rfl, h1, h2⟩ := tup_at r
  refine .inr (.inl ⟨vs, h1.sq hK, ?_⟩)
  have l := h2.len
  cases xs <;> cases vs <;> simp_all
 ·rename_i xs
  cases e
  obtain ⟨a, vs, rfl, h1, h2⟩ := r
  refine .inl ⟨vs, SqL.of h1, ?_⟩
  have l := h2.len
  cases xs <;> cases vs <;> simp_all
 ·rename_i ks _
  cases e
  obtain ⟨a, vs, rfl, h1, h2, h3⟩ := r
  refine .inr (.inr ⟨_, h1, ?_⟩)
  cases ks <;> cases vs <;> simp_all
 ·cases e
theorem sub_ok {x y w : W} {v u : V} {vv uu : Value} {Q : VK} {a b : Expr} (hK : T.K = X.K) (hu : Deep X) (e : subW x y = some w) (I : Inv X pins σ H s) (h : RSt T c st σ H) (rx : RVV T c H x v) (ry : RVV T c H y u) (qv : RelV v vv) (qu : RelV u uu)
  (hs : subscripted b false vv uu = operate [vv, uu] (getItem vv uu)) (q : WantsP T c st σ H w Q) : wpAny (model X.prog X.w) X.A (subscriptTail a b vv uu) (EP X pins σ Q) X.xe s := by
 unfold subW at e
 split at e
 ·obtain ⟨j, e1, e2⟩ := Option.bind_eq_some_iff.mp e
  obtain ⟨p, vs, rfl, h1, h2⟩ := tup_at rx
  cases ry
  obtain ⟨z, g1, g2⟩ := h2.get e2
  exact ix_tup a b pins s σ H _ _ vv uu Q I qv qu ⟨p, vs, _, z, rfl, rfl, h1.sq hK, by rw [L2.atI, ← h2.len]; exact Option.bind_eq_some_iff.mpr ⟨j, e1, g1⟩, q.same h g2⟩ hs
 ·obtain ⟨j, e1, e2⟩ := Option.bind_eq_some_iff.mp e
  obtain ⟨p, vs, rfl, h1, h2⟩ := rx
  cases ry
  obtain ⟨z, g1, g2⟩ := h2.get e2
  exact ix_list a b pins s σ H _ _ vv uu Q I qv qu ⟨p, vs, _, z, rfl, rfl, SqL.of h1, by rw [L2.atI, ← h2.len]; exact Option.bind_eq_some_iff.mpr ⟨j, e1, g1⟩, q.same h g2⟩ hs
 ·split at e
  ·rename_i hl
   obtain ⟨j, e1, e2⟩ := Option.bind_eq_some_iff.mp e
   obtain ⟨c', e3, e4⟩ := Option.map_eq_some_iff.mp e2
   subst e4
   obtain ⟨rfl, ok⟩ := rx
   cases ry
   refine ix_str a b pins s σ H _ _ vv uu Q I qv qu ⟨_, _, c', rfl, rfl, by rw [SX.S_len, ← line_eq]; exact hl, ?_, q.same h ⟨rfl, ?_⟩⟩ hs
   ·exact Option.bind_eq_some_iff.mpr ⟨j, e1, by simpa using e3⟩
   ·have m : c' ∈ _ := List.mem_of_getElem? e3
    have z := List.all_eq_true.mp ok c' m
    simpa [tOk] using z
  ·cases e
 ·obtain ⟨k, e1, e2⟩ := Option.bind_eq_some_iff.mp e
  obtain ⟨p, vs, rfl, h1, h2, h3⟩ := rx
  have ev := key_of e1 ry
  subst ev
  have z := kget_ok (T := T) (q := k) h2 h3
  rw [e2] at z
  obtain ⟨x', z1, z2⟩ := z
  have g := DGet.k (k := kS k) h1
  rw [z1] at g
  cases qv
  have hu' : X.A.units + 1 < cLine := by unfold Deep at hu; omega
  exact tail_any (dict_typeIs I g) PySem.F.slot_dict_getitem.lookup (d_getItem hu' I g qu fun w' s3 I3 rw' => ⟨x', H, I3, rw', q.same h z2⟩) hs
 ·cases e
theorem tOk_cut {x : Tx} {lo hi : Option Int} (h : tOk x = true) : tOk (Ev.cut x lo hi) = true := by
 unfold tOk at *
 refine List.all_eq_true.mpr fun c hc => List.all_eq_true.mp h c ?_
 exact List.mem_of_mem_drop (List.mem_of_mem_take hc)
theorem RWs.cut {lv : List Addr} {nf : Addr → Prop} {ws : List W} {vs : List V} {lo hi : Option Int} (h : RWs T lv nf H ws vs) : RWs T lv nf H (Ev.cut ws lo hi) (cutV vs lo hi) := by
 unfold Ev.cut cutV
 rw [← h.len]
 exact (h.drop _).take _
theorem cutV_map (ns : List Int) (lo hi : Option Int) : cutV (ns.map V.int) lo hi = (Ev.cut ns lo hi).map V.int := by
 unfold cutV Ev.cut
 rw [List.length_map, ← List.map_drop, ← List.map_take]
 rfl
theorem RWs.ints {lv : List Addr} {nf : Addr → Prop} : ∀ ns : List Int, RWs T lv nf H (ns.map .int) (ns.map V.int)
 | [] => RWs.nil
 | n :: ns => RWs.cons rfl (RWs.ints ns)
theorem slc_ok {x w : W} {v : V} {vv vl vu : Value} {lo hi : Option Int} {sl : Addr} {Q : VK} (e : slcW x lo hi = some w) (hK : T.K = X.K) (I : Inv X pins σ H s) (h : RSt T c st σ H) (rx : RVV T c H x v) (qv : RelV v vv)
  (hs : s.heap.IsSliceOf sl vl vu .none) (pl : IsPart vl lo) (pu : IsPart vu hi) (q : Wants T c st σ H w Q) :
  ∃ T id, typeLookup (.type T) "__getitem__" = pure (some (.builtin id)) ∧ s.TypeIs vv T ∧ wpAny (model X.prog X.w) X.A (getItem vv (.ref sl)) (EP X pins σ Q) X.xe s := by
 unfold slcW at e
 split at e
 ·rename_i xs
  cases e
  obtain ⟨a, vs, rfl, h1, h2⟩ := tup_at rx
  refine sl_tupC pins s σ H _ vv vl vu lo hi sl Q I qv hs pl pu ⟨a, vs, rfl, h1.sq hK, fun z => ?_, fun _ p o ho hp => ?_⟩
  ·refine q.same h ?_
   simp only [RW]
   refine ⟨a, vs, rfl, h1, ?_⟩
   have z2 : cutV vs lo hi = vs := by unfold cutV; rw [z.1, z.2]; simp
   have z3 := h2.cut (lo := lo) (hi := hi)
   rw [z2] at z3
   exact z3
  ·exact new_tup h hp ho (h2.cut) q
 ·rename_i xs
  cases e
  obtain ⟨a, vs, rfl, h1, h2⟩ := rx
  exact sl_list pins s σ H _ vv vl vu lo hi sl Q I qv hs pl pu ⟨a, vs, rfl, SqL.of h1, fun p hp => new_lst h hp h2.cut q⟩
 ·split at e
  ·rename_i x hl
   cases e
   obtain ⟨rfl, ok⟩ := rx
   refine sl_str pins s σ H _ vv vl vu lo hi sl Q I qv hs pl pu ⟨_, rfl, by rw [SX.S_len, ← line_eq]; exact hl, ?_⟩
   have z : cutS (tS x) lo hi = tS (Ev.cut x lo hi) := by
    unfold cutS Ev.cut
    rw [SX.S_len]
    rfl
   rw [z]
   exact q.same h ⟨rfl, tOk_cut ok⟩
  ·cases e
 ·rename_i ns
  cases e
  obtain ⟨a, rfl, h1⟩ : ∃ a, v = .ref a ∧ ((Rd H a (.lst (ns.map V.int)) ∧ ¬ c.nf a) ∨ KL T.K a (ns.map V.int)) := by simpa [RVV, RW] using rx
  have h2 : SqL X.K H a (ns.map V.int) := by
   rcases h1 with h1 | h1
   ·exact .inl h1.1
   ·rw [← hK]; exact .inr h1
  refine sl_list pins s σ H _ vv vl vu lo hi sl Q I qv hs pl pu ⟨a, _, rfl, h2, fun p hp => ?_⟩
  rw [cutV_map]
  exact new_lst h hp (RWs.ints _) q
 ·cases e
end
end Ev
namespace Ev
open PySem PySem.Spec PyProof.Rows L2
section
variable {T : Tb} {X : Cx} {c : Cf} {st st' : St} {σ : L2.St} {H : Hp} {pins : List (Addr × Obj)} {s : Shared}
theorem mn_put {a : Addr} {ho : HO} (m : c.nf a) (hkd : ∀ u, H a = some u → isIns a ho = isIns a u) : Mn c.lv c.nf H c.lv c.nf (upd H a ho) where
 fr := fun b o e _ n => by
  rw [upd_ne]
  ·exact e
  ·intro z; subst z; exact n m
 nw := fun _ q => .inl q
 lv := fun _ _ e => e
 ex := fun b f nd e => by
  by_cases hb : b = a
  ·subst hb
   rw [upd_same, isIns_ext (hkd _ e) nd]
  ·rw [upd_ne hb]; exact e
theorem RSt.put {x : W} {v : V} {o o' : OO} {ho : HO} (h : RSt T c st σ H) (r : RV T c σ H x v) (e : look st x = some o) (ep : Ev.put st o' x = some st') {a : Addr} (ev : v = .ref a) (ro : RO T c.lv c.nf (upd H a ho) o' a) (hkd : ∀ u, H a = some u → isIns a ho = isIns a u) (hdn : ∀ ks ws, o' = .dnk ks ws → ∃ ks ws, o = .dnk ks ws := by intro _ _ z; cases z) :
  c.mu a ∧ Stp c H c (upd H a ho) ∧ RSt T c st' σ (upd H a ho) := by
 obtain ⟨a', e', ro0⟩ := look_ok h r e
 have ea : a' = a := by rw [ev] at e'; simpa using e'.symm
 subst ea
 have stp : c.mu a' → Stp c H c (upd H a' ho) := fun m => ⟨fun b u e _ n => by
   rw [upd_ne]
   ·exact e
   ·intro z; subst z; exact n m, fun _ q => .inl q, fun _ _ e => e, rfl, fun b u e _ => by
   by_cases hb : b = a'
   ·subst hb; exact ⟨ho, upd_same, hkd u e⟩
   ·exact ⟨u, by rw [upd_ne hb]; exact e, rfl⟩, fun _ _ e => .inl e⟩
 cases x with
 | loc n =>
  obtain ⟨a2, e2, hn⟩ : ∃ a2, v = .ref a2 ∧ c.lv[n]? = some a2 := by simpa [RV, RW] using r
  have : a2 = a' := by rw [ev] at e2; simpa using e2.symm
  subst this
  have mu : c.mu a2 := .inl (List.mem_of_getElem? hn)
  have m := mn_put (H := H) (ho := ho) (c := c) (.inl mu : c.nf a2) hkd
  have hln : n < st.s.length := by rw [h.sto.len]; exact (List.getElem?_eq_some_iff.mp hn).1
  simp only [Ev.put, if_pos hln, Option.some.injEq] at ep
  subst ep
  refine ⟨mu, stp mu, h.len, fun i w q => ?_, fun i u q => ?_, h.back, h.inj, h.dis, h.ou, fun b q => ?_, ?_, h.sto.nd, fun k u b q1 q2 => ?_⟩
  ·obtain ⟨z, z1, z2⟩ := h.val i w q
   exact ⟨z, z1, z2.mono m⟩
  ·obtain ⟨b, b1, b2, b3⟩ := h.own i u q
   have hb : b ≠ a2 := fun z => by subst z; exact h.dis i b b1 (List.mem_of_getElem? hn)
   exact ⟨b, b1, b2, b3.mono m (upd_ne hb)⟩
  ·by_cases hb : b = a2
   ·subst hb; exact (h.ou b q mu).elim
   ·rw [upd_ne hb]; exact h.ouh b q
  ·simp [h.sto.len]
  ·by_cases hk : n = k
   ·subst hk
    rw [List.getElem?_set_self hln] at q1
    cases q1
    rw [hn] at q2; cases q2
    exact ro
   ·rw [List.getElem?_set_ne hk] at q1
    have hb : b ≠ a2 := fun z => by
     subst z
     exact hk (nodup_ix' h.sto.nd hn q2)
    exact (h.sto.at_ k u b q1 q2).mono m (upd_ne hb)
 | sl i =>
  cases q0 : st.r[i]? with
  | none => simp [Ev.put, q0] at ep
  | some sl =>
   cases sl with
   | own o0 =>
    simp only [Ev.put, q0, Option.some.injEq] at ep
    subst ep
    obtain ⟨a2, b1, b2, b3⟩ := h.own i o0 q0
    have e2 : σ[i]? = some (some v) := r
    have : a2 = a' := by rw [e2, ev] at b2; simpa using b2.symm
    subst this
    have mu : c.mu a2 := .inr ⟨i, b1⟩
    have m := mn_put (H := H) (ho := ho) (c := c) (.inl mu : c.nf a2) hkd
    have hli : i < st.r.length := (List.getElem?_eq_some_iff.mp q0).1
    refine ⟨mu, stp mu, by simpa using h.len, fun j w q => ?_, fun j u q => ?_, fun j b q => ?_, h.inj, h.dis, h.ou, fun b q => ?_, h.sto.len, h.sto.nd, fun k u b q1 q2 => ?_⟩
    ·by_cases hj : i = j
     ·subst hj
      rw [List.getElem?_set_self hli] at q; cases q
     ·rw [List.getElem?_set_ne hj] at q
      obtain ⟨z, z1, z2⟩ := h.val j w q
      exact ⟨z, z1, z2.mono m⟩
    ·by_cases hj : i = j
     ·subst hj
      rw [List.getElem?_set_self hli] at q; cases q
      refine ⟨a2, b1, by rw [e2, ev], ro.n (fun z => ?_) fun ks ws z => ?_⟩
      ·subst z
       obtain ⟨_, pz, h1, _⟩ := ro
       rw [upd_same] at h1
       cases h1
       obtain ⟨u, g1, g2⟩ := b3.there
       have := isIns_tb (hkd u g1)
       rw [g2] at this
       cases this
      ·obtain ⟨ks', ws', z'⟩ := hdn ks ws z
       have e' : look st (.sl i) = some o0 := by simp only [look, q0]
       rw [e] at e'
       cases e'
       exact b3.nd ks' ws' z'
     ·rw [List.getElem?_set_ne hj] at q
      obtain ⟨b, c1, c2, c3⟩ := h.own j u q
      have hb : b ≠ a2 := fun z => by subst z; exact hj (h.inj _ _ _ b1 c1)
      exact ⟨b, c1, c2, c3.mono m (upd_ne hb)⟩
    ·by_cases hj : i = j
     ·subst hj; exact ⟨o', List.getElem?_set_self hli⟩
     ·rw [List.getElem?_set_ne hj]; exact h.back j b q
    ·by_cases hb : b = a2
     ·subst hb; exact (h.ou b q mu).elim
     ·rw [upd_ne hb]; exact h.ouh b q
    ·have hb : b ≠ a2 := fun z => by subst z; exact h.dis i b b1 (List.mem_of_getElem? q2)
     exact (h.sto.at_ k u b q1 q2).mono m (upd_ne hb)
   | val _ => simp [Ev.put, q0] at ep
   | un => simp [Ev.put, q0] at ep
 | _ => simp [Ev.put] at ep
where
 nodup_ix' {l : List Addr} (hN : l.Nodup) {i j : Nat} {x : Addr} (a : l[i]? = some x) (b : l[j]? = some x) : i = j := by
  obtain ⟨h1, e1⟩ := List.getElem?_eq_some_iff.mp a
  obtain ⟨h2, e2⟩ := List.getElem?_eq_some_iff.mp b
  exact (List.getElem_inj hN).mp (e1.trans e2.symm)
end
def cmOf : Cmt → String
 | .append => "list.append" | .extend => "list.extend" | .pop => "list.pop" | .insert => "list.insert" | .clear => "list.clear" | .reverse => "list.reverse" | .setdefault => "dict.setdefault"
section
variable {T : Tb} {X : Cx} {c : Cf} {st st' : St} {σ : L2.St} {H : Hp} {pins : List (Addr × Obj)} {s : Shared}
theorem ixN_seq' {n : Nat} {i : Int} {j : Nat} (h : Ev.ixN n i = some j) : seqIndex? i n = some j := (L2.ixN_seq (n := n) (i := i) (j := j) h).1
theorem RWs.eraseIdx {lv : List Addr} {nf : Addr → Prop} : ∀ {ws : List W} {vs : List V} (n : Nat), RWs T lv nf H ws vs → RWs T lv nf H (ws.eraseIdx n) (vs.eraseIdx n)
 | [], _, _, h => by simp only [RWs] at h; subst h; exact RWs.nil
 | w :: ws, _, 0, h => by
  simp only [RWs] at h
  obtain ⟨v, r, rfl, _, h⟩ := h
  simpa using h
 | w :: ws, _, n + 1, h => by
  simp only [RWs] at h
  obtain ⟨v, r, rfl, h1, h⟩ := h
  simpa using RWs.cons h1 (RWs.eraseIdx n h)
theorem RWs.dropLast {lv : List Addr} {nf : Addr → Prop} {ws : List W} {vs : List V} (h : RWs T lv nf H ws vs) : RWs T lv nf H ws.dropLast vs.dropLast := by
 rw [List.dropLast_eq_take, List.dropLast_eq_take, ← h.len]
 exact h.take _
theorem RWs.reverse {lv : List Addr} {nf : Addr → Prop} : ∀ {ws : List W} {vs : List V}, RWs T lv nf H ws vs → RWs T lv nf H ws.reverse vs.reverse
 | [], _, h => by simp only [RWs] at h; subst h; exact RWs.nil
 | w :: ws, _, h => by
  simp only [RWs] at h
  obtain ⟨v, r, rfl, h1, h⟩ := h
  rw [List.reverse_cons, List.reverse_cons]
  exact (RWs.reverse h).snoc h1
theorem cm_fin {x : W} {v : V} {o : OO} {ys : List W} {zs : List V} {w : W} {a : Addr} {z : V} {Q : VK} (h : RSt T c st σ H) (r : RV T c σ H x v) (e : look st x = some o) (ep : Ev.put st (.lst ys) x = some st') (ev : v = .ref a) (rr : RWs T c.lv c.nf H ys zs)
  (rz : RW T c.lv c.nf H w z) (q : ∀ z H', Stp c H c H' → RSt T c st' σ H' → RW T c.lv c.nf H' w z → Q z H') (hl : ∃ l, o = .lst l := by exact ⟨_, rfl⟩) : Q z (upd H a (.lst zs)) := by
 have mu : c.nf a := by
  cases x with
  | loc n =>
   obtain ⟨a2, e2, hn⟩ : ∃ a2, v = .ref a2 ∧ c.lv[n]? = some a2 := by simpa [RV, RW] using r
   have : a2 = a := by rw [ev] at e2; simpa using e2.symm
   subst this
   exact .inl (.inl (List.mem_of_getElem? hn))
  | sl i =>
   cases q0 : st.r[i]? with
   | none => simp [Ev.put, q0] at ep
   | some sl =>
    cases sl with
    | own o0 =>
     obtain ⟨a2, b1, b2, b3⟩ := h.own i o0 q0
     have e2 : σ[i]? = some (some v) := r
     have : a2 = a := by rw [e2, ev] at b2; simpa using b2.symm
     subst this
     exact .inl (.inr ⟨i, b1⟩)
    | val _ => simp [Ev.put, q0] at ep
    | un => simp [Ev.put, q0] at ep
  | _ => simp [Ev.put] at ep
 have hk : ∀ u, H a = some u → isIns a (.lst zs) = isIns a u := fun u eu => by
  obtain ⟨l, rfl⟩ := hl
  obtain ⟨a2, e2, vs, g1, _⟩ := look_ok h r e
  have : a2 = a := by rw [ev] at e2; simpa using e2.symm
  subst this
  rw [g1] at eu; cases eu; rfl
 have m := mn_put (H := H) (ho := .lst zs) mu hk
 obtain ⟨_, s1, r1⟩ := h.put (ho := .lst zs) r e ep ev ⟨zs, upd_same, rr.mono m⟩ hk
 exact q _ _ s1 r1 (rz.mono m)
theorem rw_non {lv : List Addr} {nf : Addr → Prop} : RW T lv nf H .non .non := by simp [RW]
theorem okv_rw {ws : List W} {vs : List V} (o : okvs ws = true) (h : relA T σ c H ws vs) : RWs T c.lv c.nf H ws vs := by
 refine RWs.of_get h.1 fun i w v e1 e2 => (h.2 i w v e1 e2).rw ?_
 exact List.all_eq_true.mp o w (List.mem_of_getElem? e1)
theorem relA_one {w : W} {vs : List V} (h : relA T σ c H [w] vs) : ∃ v, vs = [v] ∧ RV T c σ H w v := by
 obtain ⟨l, g⟩ := h
 match vs, l with
 | [v], _ => exact ⟨v, rfl, g 0 w v rfl rfl⟩
theorem relA_nil {vs : List V} (h : relA T σ c H [] vs) : vs = [] := List.eq_nil_of_length_eq_zero h.1.symm
theorem relA_two {w w2 : W} {vs : List V} (h : relA T σ c H [w, w2] vs) : ∃ v v2, vs = [v, v2] ∧ RV T c σ H w v ∧ RV T c σ H w2 v2 := by
 obtain ⟨l, g⟩ := h
 match vs, l with
 | [v, v2], _ => exact ⟨v, v2, rfl, g 0 w v rfl rfl, g 1 w2 v2 rfl rfl⟩
theorem cmt_ok {k : Cmt} {x : W} {v : V} {vv : Value} {ws : List W} {vs : List V} {us : List Value} {o o' : OO} {w : W} {Q : VK} (h : RSt T c st σ H) (I : Inv X pins σ H s) (r : RV T c σ H x v) (qv : RelV v vv) (e : look st x = some o)
  (ok : okvs ws = true ∨ k = .extend) (ra : relA T σ c H ws vs) (qa : Vals vs us) (ec : cmtW k o (ws.map fun w => if k = .extend then vw st w else w) = some (w, o')) (ep : Ev.put st o' x = some st')
  (q : ∀ z H', Stp c H c H' → RSt T c st' σ H' → RW T c.lv c.nf H' w z → Q z H') : wpAny (model X.prog X.w) X.A (call (.builtin (cmOf k)) (vv :: us)) (EP X pins σ Q) X.xe s := by
 obtain ⟨a, ev, ro⟩ := look_ok h r e
 subst ev
 by_cases hk : k = .extend
 ·subst hk
  simp only [if_true] at ec
  unfold cmtW at ec
  split at ec <;> try (simp at ec; done)
  ·rename_i h1 h2; cases h1
  ·rename_i xs ys _ h2
   split at ec
   ·rename_i hl
    simp only [Option.some.injEq, Prod.mk.injEq] at ec
    obtain ⟨rfl, rfl⟩ := ec
    cases ws with
    | nil => cases h2
    | cons w0 wr =>
     obtain rfl : wr = [] := by cases wr with
      | nil => rfl
      | cons _ _ => simp at h2
     obtain ⟨v0, rfl, r0⟩ := relA_one ra
     have h3 : vw st w0 = .lst ys := by simpa using h2
     have rv0 := rvv h r0
     rw [h3] at rv0
     obtain ⟨b, zs, rfl, b1, b2⟩ := rv0
     obtain ⟨xs', a1, a2⟩ := ro
     refine mt_extend pins s σ H _ _ vv us Q I qv qa ⟨a, b, xs', zs, rfl, rfl, a1, b1, by rw [← a2.len, ← b2.len, ← line_eq]; exact hl, ?_⟩
     exact cm_fin h r e ep rfl (a2.append b2) rw_non q
   ·cases ec
  all_goals first | (rename_i h1 _; cases h1; done) | (cases ec; done) | skip
 ·have ok' : okvs ws = true := ok.resolve_right hk
  have rw' := okv_rw ok' ra
  have em : (ws.map fun w => if k = .extend then vw st w else w) = ws := by
   rw [show (fun w => if k = .extend then vw st w else w) = id from funext fun w => if_neg hk, List.map_id]
  rw [em] at ec
  unfold cmtW at ec
  split at ec
  ·split at ec
   ·rename_i hl
    simp only [Option.some.injEq, Prod.mk.injEq] at ec
    obtain ⟨rfl, rfl⟩ := ec
    obtain ⟨xs', a1, a2⟩ := ro
    obtain ⟨v0, rfl, r0⟩ := relA_one ra
    have r1 := rw'
    simp only [RWs] at r1
    obtain ⟨v1, t, e1, r1, _⟩ := r1
    cases e1
    exact mt_append pins s σ H _ _ vv us Q I qv qa ⟨a, xs', v0, rfl, rfl, a1, by rw [← a2.len, ← line_eq]; exact hl, cm_fin h r e ep rfl (a2.snoc r1) rw_non q⟩
   ·cases ec
  ·exact (hk rfl).elim
  ·obtain ⟨y, g1, g2⟩ := Option.map_eq_some_iff.mp ec
   cases g2
   obtain ⟨xs', a1, a2⟩ := ro
   have e0 := relA_nil ra
   subst e0
   obtain ⟨z, z1, z2⟩ := a2.get g1
   rw [a2.len] at z1
   exact mt_pop pins s σ H _ _ vv us Q I qv qa ⟨a, xs', z, rfl, rfl, a1, z1, cm_fin h r e ep rfl a2.dropLast z2 q⟩
  ·split at ec
   ·rename_i hb
    obtain ⟨n, g0, g3⟩ := Option.bind_eq_some_iff.mp ec
    obtain ⟨y, g1, g2⟩ := Option.map_eq_some_iff.mp g3
    cases g2
    obtain ⟨xs', a1, a2⟩ := ro
    obtain ⟨v0, rfl, r0⟩ := relA_one ra
    cases r0
    obtain ⟨z, z1, z2⟩ := a2.get g1
    rw [a2.len] at g0
    exact mt_popAt pins s σ H _ _ vv us Q I qv qa ⟨a, xs', _, n, z, rfl, rfl, a1, hb.1, hb.2, ixN_seq' g0, z1, cm_fin h r e ep rfl (a2.eraseIdx n) z2 q⟩
   ·cases ec
  ·split at ec
   ·rename_i hl
    simp only [Option.some.injEq, Prod.mk.injEq] at ec
    obtain ⟨rfl, rfl⟩ := ec
    obtain ⟨xs', a1, a2⟩ := ro
    obtain ⟨v0, v1, rfl, r0, r1⟩ := relA_two ra
    cases r0
    have r2 := rw'
    simp only [RWs] at r2
    obtain ⟨_, _, e1, _, _, _, e2, r2, _⟩ := r2
    cases e1
    cases e2
    exact mt_insert pins s σ H _ _ vv us Q I qv qa ⟨a, xs', _, _, rfl, rfl, a1, by rw [← a2.len, ← line_eq]; exact hl.1, hl.2.1, hl.2.2, cm_fin h r e ep rfl (((a2.take _).snoc r2).append (a2.drop _)) rw_non q⟩
   ·cases ec
  ·simp only [Option.some.injEq, Prod.mk.injEq] at ec
   obtain ⟨rfl, rfl⟩ := ec
   obtain ⟨xs', a1, a2⟩ := ro
   have e0 := relA_nil ra
   subst e0
   exact mt_clear pins s σ H _ _ vv us Q I qv qa ⟨a, xs', rfl, rfl, a1, cm_fin h r e ep rfl RWs.nil rw_non q⟩
  ·simp only [Option.some.injEq, Prod.mk.injEq] at ec
   obtain ⟨rfl, rfl⟩ := ec
   obtain ⟨xs', a1, a2⟩ := ro
   have e0 := relA_nil ra
   subst e0
   exact mt_reverse pins s σ H _ _ vv us Q I qv qa ⟨a, xs', rfl, rfl, a1, cm_fin h r e ep rfl a2.reverse rw_non q⟩
  ·cases ec
theorem ints_ok {lv : List Addr} {nf : Addr → Prop} : ∀ {ws : List W} {vs : List V} {ns : List Int}, intsW ws = some ns → RWs T lv nf H ws vs → vs = ns.map V.int
 | [], _, _, e, h => by simp only [intsW] at e; cases e; simp only [RWs] at h; exact h
 | w :: ws, _, _, e, h => by
  simp only [RWs] at h
  obtain ⟨v, r, rfl, h1, h⟩ := h
  cases w with
  | int i =>
   simp only [intsW] at e
   obtain ⟨ns, e1, rfl⟩ := Option.map_eq_some_iff.mp e
   cases h1
   rw [ints_ok e1 h]; rfl
  | _ => simp [intsW] at e
theorem bls_ok {lv : List Addr} {nf : Addr → Prop} : ∀ {ws : List W} {vs : List V} {ns : List Bool}, Ev.bls ws = some ns → RWs T lv nf H ws vs → vs = ns.map V.bl
 | [], _, _, e, h => by simp only [Ev.bls] at e; cases e; simp only [RWs] at h; exact h
 | w :: ws, _, _, e, h => by
  simp only [RWs] at h
  obtain ⟨v, r, rfl, h1, h⟩ := h
  cases w with
  | bl i =>
   simp only [Ev.bls] at e
   obtain ⟨ns, e1, rfl⟩ := Option.map_eq_some_iff.mp e
   cases h1
   rw [bls_ok e1 h]; rfl
  | _ => simp [Ev.bls] at e
theorem maxI_ok : ∀ (ns : List Int) (x : Int), (ns.foldl max x ∈ x :: ns) ∧ ∀ y ∈ x :: ns, y ≤ ns.foldl max x
 | [], x => by simp
 | n :: ns, x => by
  obtain ⟨h1, h2⟩ := maxI_ok ns (max x n)
  rw [List.foldl_cons]
  refine ⟨?_, fun y hy => ?_⟩
  ·rcases List.mem_cons.mp h1 with h | h
   ·rw [h]
    rcases Int.le_total x n with q | q
    ·rw [Int.max_eq_right q]; simp
    ·rw [Int.max_eq_left q]; simp
   ·simp [h]
  ·rcases List.mem_cons.mp hy with rfl | hy
   ·exact Int.le_trans (Int.le_max_left _ _) (h2 _ (List.mem_cons_self ..))
   ·rcases List.mem_cons.mp hy with rfl | hy
    ·exact Int.le_trans (Int.le_max_right _ _) (h2 _ (List.mem_cons_self ..))
    ·exact h2 y (List.mem_cons_of_mem _ hy)
theorem minI_ok : ∀ (ns : List Int) (x : Int), (ns.foldl min x ∈ x :: ns) ∧ ∀ y ∈ x :: ns, ns.foldl min x ≤ y
 | [], x => by simp
 | n :: ns, x => by
  obtain ⟨h1, h2⟩ := minI_ok ns (min x n)
  rw [List.foldl_cons]
  refine ⟨?_, fun y hy => ?_⟩
  ·rcases List.mem_cons.mp h1 with h | h
   ·rw [h]
    rcases Int.le_total x n with q | q
    ·rw [Int.min_eq_left q]; simp
    ·rw [Int.min_eq_right q]; simp
   ·simp [h]
  ·rcases List.mem_cons.mp hy with rfl | hy
   ·exact Int.le_trans (h2 _ (List.mem_cons_self ..)) (Int.min_le_left _ _)
   ·rcases List.mem_cons.mp hy with rfl | hy
    ·exact Int.le_trans (h2 _ (List.mem_cons_self ..)) (Int.min_le_right _ _)
    ·exact h2 y (List.mem_cons_of_mem _ hy)
theorem insI_perm (x : Int) : ∀ l : List Int, (insI x l).Perm (x :: l)
 | [] => .refl _
 | y :: r => by
  unfold insI
  split
  ·exact .refl _
  ·exact ((insI_perm x r).cons y).trans (.swap ..)
theorem sortI_perm : ∀ l : List Int, (sortI l).Perm l
 | [] => .refl _
 | x :: r => (insI_perm x _).trans ((sortI_perm r).cons x)
theorem insI_sorted (x : Int) : ∀ l : List Int, l.Pairwise (· ≤ ·) → (insI x l).Pairwise (· ≤ ·)
 | [], _ => by simp [insI]
 | y :: r, h => by
  unfold insI
  rw [List.pairwise_cons] at h
  split
  ·rename_i q
   refine List.pairwise_cons.mpr ⟨fun z hz => ?_, List.pairwise_cons.mpr h⟩
   rcases List.mem_cons.mp hz with rfl | hz
   ·exact q
   ·exact Int.le_trans q (h.1 z hz)
  ·rename_i q
   refine List.pairwise_cons.mpr ⟨fun z hz => ?_, insI_sorted x r h.2⟩
   rcases List.mem_cons.mp ((insI_perm x r).mem_iff.mp hz) with rfl | hz
   ·omega
   ·exact h.1 z hz
theorem sortI_sorted : ∀ l : List Int, (sortI l).Pairwise (· ≤ ·)
 | [] => by simp [sortI]
 | x :: r => insI_sorted x _ (sortI_sorted r)
theorem sort_uniq {a b : List Int} (p : a.Perm b) (ha : a.Pairwise (· ≤ ·)) (hb : b.Pairwise (· ≤ ·)) : a = b := p.eq_of_pairwise (fun x y _ _ h1 h2 => Int.le_antisymm h1 h2) ha hb
theorem dig_ok (i : Int) : (Str.ofString (toString i)) = tS (dig i) ∧ tOk (dig i) = true := by
 refine ⟨Str.ofString_eq_toList _, ?_⟩
 unfold tOk dig
 refine List.all_eq_true.mpr fun c hc => ?_
 obtain ⟨d, _, rfl⟩ := List.mem_map.mp hc
 have h := d.valid
 simp only [UInt32.isValidChar, Nat.isValidChar] at h
 have e : d.toNat = d.val.toNat := rfl
 rw [decide_eq_true_iff, e]
 omega
def bfOf : Bif → Value
 | .len => .builtin "len" | .sum => .builtin "sum" | .max => .builtin "max" | .min => .builtin "min" | .max2 => .builtin "max" | .min2 => .builtin "min" | .all => .builtin "all" | .any => .builtin "any"
 | .sorted => .builtin "sorted" | .list => .type "list" | .tuple => .type "tuple" | .int => .type "int" | .str => .type "str" | .repr => .builtin "repr" | .set => .type "set" | .dict => .type "dict"
theorem bif_ok {b : Bif} {ws : List W} {vs : List V} {us : List Value} {w : W} {Q : VK} (hK : T.K = X.K) (hc : X.calm = true) (h : RSt T c st σ H) (I : Inv X pins σ H s) (hl : ws.length = vs.length) (ra : ∀ (i : Nat) w v, ws[i]? = some w → vs[i]? = some v → RVV T c H w v)
  (qa : Vals vs us) (e : bifW b ws = some w) (q : Wants T c st σ H w Q) : wpAny (model X.prog X.w) X.A (call (bfOf b) us) (EP X pins σ Q) X.xe s := by
 have one : ∀ {w : W}, ws = [w] → ∃ v, vs = [v] ∧ RVV T c H w v := fun {w} e => by
  subst e
  match vs, hl with
  | [v], _ => exact ⟨v, rfl, ra 0 w v rfl rfl⟩
 have two : ∀ {w w2 : W}, ws = [w, w2] → ∃ v v2, vs = [v, v2] ∧ RVV T c H w v ∧ RVV T c H w2 v2 := fun {w w2} e => by
  subst e
  match vs, hl with
  | [v, v2], _ => exact ⟨v, v2, rfl, ra 0 w v rfl rfl, ra 1 w2 v2 rfl rfl⟩
 unfold bifW at e
 split at e
 ·
  obtain ⟨v, rfl, r⟩ := one rfl
  obtain ⟨n, e1, e2⟩ := Option.map_eq_some_iff.mp e
  subst e2
  unfold lenW at e1
  split at e1
  ·split at e1
   ·rename_i hll
    cases e1
    obtain ⟨rfl, _⟩ := r
    exact call_len pins s σ H _ us Q I qa ⟨_, _, rfl, ⟨by rw [SX.S_len, ← line_eq]; exact hll, rfl⟩, by rw [SX.S_len]; exact q.same h rfl⟩
   ·cases e1
  ·cases e1
   obtain ⟨a, xs, rfl, h1, h2⟩ := tup_at r
   exact call_len pins s σ H _ us Q I qa ⟨_, _, rfl, .inr ⟨xs, h1.sq hK, rfl⟩, by rw [← h2.len]; exact q.same h rfl⟩
  ·cases e1
   obtain ⟨a, xs, rfl, h1, h2⟩ := r
   exact call_len pins s σ H _ us Q I qa ⟨_, _, rfl, .inl ⟨xs, SqL.of h1, rfl⟩, by rw [← h2.len]; exact q.same h rfl⟩
  ·cases e1
   obtain ⟨a, xs, rfl, h1, h2, h3⟩ := r
   exact call_lenD pins s σ H _ us Q I qa ⟨a, _, rfl, h1, by rw [List.length_zip, List.length_map, ← h2, Nat.min_self]; exact q.same h rfl⟩
  ·cases e1
 ·
  obtain ⟨v, rfl, r⟩ := one rfl
  obtain ⟨ns, e1, e2⟩ := Option.map_eq_some_iff.mp e
  subst e2
  obtain ⟨a, xs, rfl, h1, h2⟩ := r
  have e3 := ints_ok e1 h2
  subst e3
  exact cr_sum hc pins s σ H _ us Q I qa ⟨a, ns, rfl, SqL.of h1, q.same h rfl⟩
 ·obtain ⟨v, rfl, r⟩ := one rfl
  obtain ⟨m, e1, e2⟩ := Option.map_eq_some_iff.mp e
  subst e2
  obtain ⟨ns, e3, e4⟩ := Option.bind_eq_some_iff.mp e1
  obtain ⟨a, xs, rfl, h1, h2⟩ := r
  have e5 := ints_ok e3 h2
  subst e5
  cases ns with
  | nil => cases e4
  | cons n ns =>
   cases e4
   refine cr_max hc pins s σ H _ us Q I qa ⟨a, n :: ns, rfl, SqL.of h1, by simp, fun m hm hall => ?_⟩
   obtain ⟨k1, k2⟩ := maxI_ok ns n
   have : m = ns.foldl max n := Int.le_antisymm (k2 m hm) (hall _ k1)
   subst this
   exact q.same h rfl
 ·obtain ⟨v, rfl, r⟩ := one rfl
  obtain ⟨m, e1, e2⟩ := Option.map_eq_some_iff.mp e
  subst e2
  obtain ⟨ns, e3, e4⟩ := Option.bind_eq_some_iff.mp e1
  obtain ⟨a, xs, rfl, h1, h2⟩ := r
  have e5 := ints_ok e3 h2
  subst e5
  cases ns with
  | nil => cases e4
  | cons n ns =>
   cases e4
   refine cr_min hc pins s σ H _ us Q I qa ⟨a, n :: ns, rfl, SqL.of h1, by simp, fun m hm hall => ?_⟩
   obtain ⟨k1, k2⟩ := minI_ok ns n
   have : m = ns.foldl min n := Int.le_antisymm (hall _ k1) (k2 m hm)
   subst this
   exact q.same h rfl
 ·cases e
  obtain ⟨v, v2, rfl, r, r2⟩ := two rfl
  cases r; cases r2
  exact call_max2 hc pins s σ H _ us Q I qa ⟨_, _, rfl, q.same h rfl⟩
 ·cases e
  obtain ⟨v, v2, rfl, r, r2⟩ := two rfl
  cases r; cases r2
  exact call_min2 hc pins s σ H _ us Q I qa ⟨_, _, rfl, q.same h rfl⟩
 ·obtain ⟨v, rfl, r⟩ := one rfl
  obtain ⟨ns, e1, e2⟩ := Option.map_eq_some_iff.mp e
  subst e2
  obtain ⟨a, xs, rfl, h1, h2⟩ := r
  have e3 := bls_ok e1 h2
  subst e3
  exact cr_all hc pins s σ H _ us Q I qa ⟨a, ns, rfl, SqL.of h1, q.same h rfl⟩
 ·obtain ⟨v, rfl, r⟩ := one rfl
  obtain ⟨ns, e1, e2⟩ := Option.map_eq_some_iff.mp e
  subst e2
  obtain ⟨a, xs, rfl, h1, h2⟩ := r
  have e3 := bls_ok e1 h2
  subst e3
  exact cr_any hc pins s σ H _ us Q I qa ⟨a, ns, rfl, SqL.of h1, q.same h rfl⟩
 ·cases e
  obtain ⟨v, rfl, r⟩ := one rfl
  obtain ⟨a, xs, rfl, h1, h2⟩ := r
  exact call_list_of pins s σ H _ us Q I qa ⟨a, xs, rfl, .inl (SqL.of h1), fun p hp => new_lst h hp h2 q⟩
 ·cases e
  obtain ⟨v, rfl, r⟩ := one rfl
  obtain ⟨a, xs, rfl, h1, h2⟩ := tup_at r
  exact call_list_of pins s σ H _ us Q I qa ⟨a, xs, rfl, .inr (h1.sq hK), fun p hp => new_lst h hp h2 q⟩
 ·cases e
  obtain ⟨v, rfl, r⟩ := one rfl
  obtain ⟨a, xs, rfl, h1, h2⟩ := r
  refine call_tupleC pins s σ H _ us Q I qa ⟨a, xs, rfl, SqL.of h1, fun p o ho hp => new_tup h hp ho h2 q⟩
 ·cases e
  obtain ⟨v, rfl, r⟩ := one rfl
  obtain ⟨a, xs, rfl, h1, h2⟩ := tup_at r
  exact call_tuple_of pins s σ H _ us Q I qa ⟨a, xs, rfl, .inr ⟨h1.sq hK, q.same h (by simp only [RW]; exact ⟨a, xs, rfl, h1, h2⟩)⟩⟩
 ·cases e
  obtain ⟨v, rfl, r⟩ := one rfl
  cases r
  exact call_int1 pins s σ H _ us Q I qa (.inl ⟨_, rfl, q.same h rfl⟩)
 ·cases e
  obtain ⟨v, rfl, r⟩ := one rfl
  cases r
  exact call_int1 pins s σ H _ us Q I qa (.inr ⟨_, rfl, q.same h rfl⟩)
 ·obtain ⟨v, rfl, r⟩ := one rfl
  cases r
  split at e
  ·rename_i hl
   cases e
   obtain ⟨d1, d2⟩ := dig_ok ‹Int›
   exact call_str_int pins s σ H _ us Q I qa ⟨_, rfl, hl, q.same h ⟨congrArg V.str d1, d2⟩⟩
  ·cases e
 ·cases e
  obtain ⟨v, rfl, r⟩ := one rfl
  obtain ⟨rfl, o⟩ := r
  exact SkE.call_str_str pins s σ H _ us Q I qa ⟨_, rfl, q.same h ⟨rfl, o⟩⟩
 ·obtain ⟨v, rfl, r⟩ := one rfl
  obtain ⟨ns, e1, e2⟩ := Option.map_eq_some_iff.mp e
  subst e2
  obtain ⟨a, xs, rfl, h1, h2⟩ := r
  have e3 := ints_ok e1 h2
  subst e3
  refine cr_sortedI pins s σ H _ us Q I qa ⟨a, ns, rfl, SqL.of h1, fun ns' p h3 h4 hp => ?_⟩
  have e4 : ns' = sortI ns := sort_uniq (h3.trans (sortI_perm ns).symm) h4 (sortI_sorted ns)
  subst e4
  exact new_lst h hp (RWs.ints _) q
 ·obtain ⟨v, rfl, r⟩ := one rfl
  obtain ⟨ns, e1, e2⟩ := Option.map_eq_some_iff.mp e
  subst e2
  obtain ⟨a, xs, rfl, h1, h2⟩ := tup_at r
  have e3 := ints_ok e1 h2
  subst e3
  refine call_sortedTI pins s σ H _ us Q I qa ⟨a, ns, rfl, h1.sq hK, fun ns' p h3 h4 hp => ?_⟩
  have e4 : ns' = sortI ns := sort_uniq (h3.trans (sortI_perm ns).symm) h4 (sortI_sorted ns)
  subst e4
  exact new_lst h hp (RWs.ints _) q
 ·cases e
def bmOf : Bmt → W → String
 | .count, .tup _ => "tuple.count"
 | .count, _ => "list.count"
 | .index, .tup _ => "tuple.index"
 | .index, _ => "list.index"
 | .get, _ => "dict.get"
 | .split, _ => "str.split"
 | .join, _ => "str.join"
 | .partition, _ => "str.partition"
 | .items, _ => "dict.items"
 | .values, _ => "dict.values"
theorem PDs_length : ∀ ws : List W, (toPDs ws).length = ws.length
 | [] => rfl
 | w :: ws => by simp [toPDs, PDs_length ws]
theorem PDs_get : ∀ (ws : List W) (i : Nat), (toPDs ws)[i]? = (ws[i]?).map toPD
 | [], _ => by simp [toPDs]
 | w :: ws, 0 => by simp [toPDs]
 | w :: ws, i + 1 => by simpa [toPDs] using PDs_get ws i
theorem isDs_mem : ∀ {ws : List W} {w : W}, isDs ws = true → w ∈ ws → isD w = true
 | [], _, _, h => nomatch h
 | x :: ws, w, h, m => by
  simp only [isDs, Bool.and_eq_true] at h
  rcases List.mem_cons.mp m with rfl | m
  ·exact h.1
  ·exact isDs_mem h.2 m
theorem countP_PD {y : W} (hy : isD y = true) : ∀ {ws : List W}, isDs ws = true → ((toPDs ws).countP fun z => PyData.eqv z (toPD y)) = ws.countP fun x => eqD x y
 | [], _ => rfl
 | x :: ws, h => by
  simp only [isDs, Bool.and_eq_true] at h
  simp only [toPDs, List.countP_cons, eqv_PD x y h.1 hy, countP_PD hy h.2]
theorem idx_PD {y : W} {j : Nat} : ∀ {ws : List W}, (ws.findIdx? fun x => eqD x y) = some j → (∃ x, ws[j]? = some x ∧ eqD x y = true) ∧ ∀ (m : Nat) x, m < j → ws[m]? = some x → eqD x y = false := fun {ws} h => by
 rw [List.findIdx?_eq_some_iff_getElem] at h
 obtain ⟨h1, h2, h3⟩ := h
 refine ⟨⟨ws[j], by simp [h1], h2⟩, fun m x hm hx => ?_⟩
 obtain ⟨h4, h5⟩ := List.getElem?_eq_some_iff.mp hx
 have := h3 m hm
 rw [h5] at this
 simpa using this
theorem bmt_ok {b : Bmt} {x : W} {v : V} {vv : Value} {ws : List W} {vs : List V} {us : List Value} {w : W} {Q : VK} (hK : T.K = X.K) (hu : Deep X) (hc : X.calm = true) (h : RSt T c st σ H) (I : Inv X pins σ H s) (r : RVV T c H x v) (qv : RelV v vv)
  (hl : ws.length = vs.length) (ra : ∀ (i : Nat) w v, ws[i]? = some w → vs[i]? = some v → RVV T c H w v) (qa : Vals vs us) (e : bmtW b x ws = some w) (q : WantsP T c st σ H w Q) :
  wpAny (model X.prog X.w) X.A (call (.builtin (bmOf b x)) (vv :: us)) (EP X pins σ Q) X.xe s := by
 have one : ∀ {w : W}, ws = [w] → ∃ v, vs = [v] ∧ RVV T c H w v := fun {w} e => by
  subst e
  match vs, hl with
  | [v], _ => exact ⟨v, rfl, ra 0 w v rfl rfl⟩
 unfold bmtW at e
 split at e
 ·
  rename_i xs y
  split at e
  ·rename_i hd
   cases e
   simp only [Bool.and_eq_true] at hd
   obtain ⟨d1, d2⟩ := dOk_i hd.1
   obtain ⟨e1, e2⟩ := dOk_i hd.2
   obtain ⟨v0, rfl, r0⟩ := one rfl
   obtain ⟨l1, p1⟩ := lay_V r0 d1
   obtain ⟨l2, p2⟩ := lay_V r e1
   rw [hK] at p1 p2
   obtain ⟨u0, rfl, qu⟩ := Vals.one qa
   obtain ⟨as, r1⟩ := Dp.reads I _ v0 u0 p1 qu
   obtain ⟨a, zs, rfl, a1, a2⟩ := r
   cases qv
   have dxs : isDs xs = true := by simpa [isD] using e1
   obtain ⟨lx, px⟩ := lay_PDs xs zs a2 dxs
   rw [hK] at px
   obtain ⟨its, rv, ⟨⟨cls, dd, data, sls⟩, n, ho, hcl, hdn, hdt⟩, hlen⟩ := I.list (SqL.of a1)
   simp only at hcl hdt
   subst hcl hdt
   obtain ⟨bs, h4⟩ := Dp.readsAll I _ _ its px rv
   have hu' : X.A.units + 1 + min (PyData.depthAll (toPDs xs)) (toPD y).depth < cLine := by
    rw [dep_PD y d1]; unfold Deep at hu; omega
   show wpAny _ _ (call (.builtin "list.count") _) _ _ _
   refine call_meets PySem.F.slot_list_count ⟨_, ho, rfl⟩ PySem.F.entry_list_count (PySem.F.args_list_count_2 _ _)
    (SeqAt.list_countAt a its.toArray n dd sls u0 (fun u => PyData.eqv (SeqAt.readOf s.heap u) (toPD y))) ⟨ho, SeqAt.items_eqAt (vs := its.toArray) (show ReadsAll s.heap its.toArray.toList _ bs from h4) r1 lx l1 hu', ?_⟩
   refine ⟨.int _, H, I.tok _, ⟨_, rfl⟩, ?_⟩
   have ec : its.countP (fun u => PyData.eqv (SeqAt.readOf s.heap u) (toPD y)) = xs.countP fun x => eqD x y := by
    rw [← countP_PD d1 dxs, ← SeqAt.readsAll_map _ its bs lx h4, List.countP_map]
    rfl
   rw [show its.toArray.toList = its from rfl, ec]
   exact q.same h rfl
  ·cases e
 ·
  rename_i xs y
  split at e
  ·rename_i hd
   cases e
   simp only [Bool.and_eq_true] at hd
   obtain ⟨d1, d2⟩ := dOk_i hd.1
   obtain ⟨e1, e2⟩ := dOk_i hd.2
   obtain ⟨v0, rfl, r0⟩ := one rfl
   obtain ⟨l1, p1⟩ := lay_V r0 d1
   obtain ⟨l2, p2⟩ := lay_V r e1
   rw [hK] at p1 p2
   obtain ⟨u0, rfl, qu⟩ := Vals.one qa
   obtain ⟨as, r1⟩ := Dp.reads I _ v0 u0 p1 qu
   obtain ⟨a, zs, rfl, a1, a2⟩ := tup_at r
   cases qv
   have dxs : isDs xs = true := by simpa [isD] using e1
   obtain ⟨lx, px⟩ := lay_PDs xs zs a2 dxs
   rw [hK] at px
   obtain ⟨its, rv, ⟨⟨cls, dd, data, sls⟩, ho, hcl, n, hdt⟩, hlen⟩ := I.tuple (a1.sq hK)
   simp only at hcl hdt
   subst hcl hdt
   obtain ⟨bs, h4⟩ := Dp.readsAll I _ _ its px rv
   have hu' : X.A.units + 1 + min (PyData.depthAll (toPDs xs)) (toPD y).depth < cLine := by
    rw [dep_PD y d1]; unfold Deep at hu; omega
   show wpAny _ _ (call (.builtin "tuple.count") _) _ _ _
   refine call_meets PySem.F.slot_tuple_count ⟨_, ho, rfl⟩ PySem.F.entry_tuple_count (PySem.F.args_tuple_count_2 _ _)
    (SeqAt.tuple_countAt a its.toArray n dd sls u0 (fun u => PyData.eqv (SeqAt.readOf s.heap u) (toPD y))) ⟨ho, SeqAt.items_eqAt (vs := its.toArray) (show ReadsAll s.heap its.toArray.toList _ bs from h4) r1 lx l1 hu', ?_⟩
   refine ⟨.int _, H, I.tok _, ⟨_, rfl⟩, ?_⟩
   have ec : its.countP (fun u => PyData.eqv (SeqAt.readOf s.heap u) (toPD y)) = xs.countP fun x => eqD x y := by
    rw [← countP_PD d1 dxs, ← SeqAt.readsAll_map _ its bs lx h4, List.countP_map]
    rfl
   rw [show its.toArray.toList = its from rfl, ec]
   exact q.same h rfl
  ·cases e
 ·
  rename_i xs y
  split at e
  ·rename_i hd
   simp only [Bool.and_eq_true] at hd
   obtain ⟨d1, d2⟩ := dOk_i hd.1
   obtain ⟨e1, e2⟩ := dOk_i hd.2
   obtain ⟨j, g1, g2⟩ := Option.map_eq_some_iff.mp e
   subst g2
   obtain ⟨⟨z, k1, k2⟩, k3⟩ := idx_PD g1
   obtain ⟨v0, rfl, r0⟩ := one rfl
   obtain ⟨l1, p1⟩ := lay_V r0 d1
   obtain ⟨l2, p2⟩ := lay_V r e1
   rw [hK] at p1 p2
   obtain ⟨u0, rfl, qu⟩ := Vals.one qa
   obtain ⟨as, r1⟩ := Dp.reads I _ v0 u0 p1 qu
   obtain ⟨a, zs, rfl, a1, a2⟩ := r
   cases qv
   have dxs : isDs xs = true := by simpa [isD] using e1
   obtain ⟨lx, px⟩ := lay_PDs xs zs a2 dxs
   rw [hK] at px
   obtain ⟨its, rv, ⟨⟨cls, dd, data, sls⟩, n, ho, hcl, hdn, hdt⟩, hlen⟩ := I.list (SqL.of a1)
   simp only at hcl hdt
   subst hcl hdt
   obtain ⟨bs, h4⟩ := Dp.readsAll I _ _ its px rv
   have hu' : X.A.units + 1 + min (PyData.depthAll (toPDs xs)) (toPD y).depth < cLine := by
    rw [dep_PD y d1]; unfold Deep at hu; omega
   have hmap : its.map (SeqAt.readOf s.heap) = toPDs xs := SeqAt.readsAll_map _ its bs lx h4
   have hn : its.length = xs.length := by
    have := congrArg List.length hmap
    rw [List.length_map, PDs_length] at this
    exact this
   have hsl := sizeLine_eq
   have hvl := rv.length
   obtain ⟨hjx, hjz⟩ := List.getElem?_eq_some_iff.mp k1
   have at_ : ∀ (m : Nat) (hm : m < its.toArray.size) (x' : W), xs[m]? = some x' → SeqAt.readOf s.heap its.toArray[m] = toPD x' := by
    intro m hm x' hx'
    have hml : m < its.length := by simpa using hm
    have z1 := congrArg (fun l => l[m]?) hmap
    simp only [List.getElem?_map, PDs_get, hx', List.getElem?_eq_getElem hml, Option.map_some] at z1
    have z2 := Option.some.inj z1
    simpa using z2
   have hj : j < its.toArray.size := by simp; omega
   have de : ∀ x', x' ∈ xs → isD x' = true := fun x' hx' => isDs_mem dxs hx'
   show wpAny _ _ (call (.builtin "list.index") _) _ _ _
   refine call_meets PySem.F.slot_list_index ⟨_, ho, rfl⟩ PySem.F.entry_list_index (PySem.F.args_list_index_2 _ _)
    (SeqAt.list_indexAt a its.toArray n dd sls u0 (fun u => PyData.eqv (SeqAt.readOf s.heap u) (toPD y)) j hj (by omega) ?_ ?_) ⟨ho, SeqAt.items_eqAt (vs := its.toArray) (show ReadsAll s.heap its.toArray.toList _ bs from h4) r1 lx l1 hu', ?_⟩
   ·show PyData.eqv (SeqAt.readOf s.heap its.toArray[j]) (toPD y) = true
    rw [at_ j hj z k1, eqv_PD z y (de z (List.mem_of_getElem? k1)) d1]
    exact k2
   ·intro m hm hmj
    have hmx : m < xs.length := by omega
    have hz' : xs[m]? = some xs[m] := List.getElem?_eq_getElem hmx
    show PyData.eqv (SeqAt.readOf s.heap its.toArray[m]) (toPD y) = false
    rw [at_ m hm _ hz', eqv_PD _ y (de _ (List.mem_of_getElem? hz')) d1]
    exact k3 m _ hmj hz'
   ·exact ⟨.int (j : Nat), H, I.tok _, ⟨_, rfl⟩, q.same h rfl⟩
  ·cases e
 ·
  rename_i xs y
  split at e
  ·rename_i hd
   simp only [Bool.and_eq_true] at hd
   obtain ⟨d1, d2⟩ := dOk_i hd.1
   obtain ⟨e1, e2⟩ := dOk_i hd.2
   obtain ⟨j, g1, g2⟩ := Option.map_eq_some_iff.mp e
   subst g2
   obtain ⟨⟨z, k1, k2⟩, k3⟩ := idx_PD g1
   obtain ⟨v0, rfl, r0⟩ := one rfl
   obtain ⟨l1, p1⟩ := lay_V r0 d1
   obtain ⟨l2, p2⟩ := lay_V r e1
   rw [hK] at p1 p2
   obtain ⟨u0, rfl, qu⟩ := Vals.one qa
   obtain ⟨as, r1⟩ := Dp.reads I _ v0 u0 p1 qu
   obtain ⟨a, zs, rfl, a1, a2⟩ := tup_at r
   cases qv
   have dxs : isDs xs = true := by simpa [isD] using e1
   obtain ⟨lx, px⟩ := lay_PDs xs zs a2 dxs
   rw [hK] at px
   obtain ⟨its, rv, ⟨⟨cls, dd, data, sls⟩, ho, hcl, n, hdt⟩, hlen⟩ := I.tuple (a1.sq hK)
   simp only at hcl hdt
   subst hcl hdt
   obtain ⟨bs, h4⟩ := Dp.readsAll I _ _ its px rv
   have hu' : X.A.units + 1 + min (PyData.depthAll (toPDs xs)) (toPD y).depth < cLine := by
    rw [dep_PD y d1]; unfold Deep at hu; omega
   have hmap : its.map (SeqAt.readOf s.heap) = toPDs xs := SeqAt.readsAll_map _ its bs lx h4
   have hn : its.length = xs.length := by
    have := congrArg List.length hmap
    rw [List.length_map, PDs_length] at this
    exact this
   have hsl := sizeLine_eq
   have hvl := rv.length
   obtain ⟨hjx, hjz⟩ := List.getElem?_eq_some_iff.mp k1
   have at_ : ∀ (m : Nat) (hm : m < its.toArray.size) (x' : W), xs[m]? = some x' → SeqAt.readOf s.heap its.toArray[m] = toPD x' := by
    intro m hm x' hx'
    have hml : m < its.length := by simpa using hm
    have z1 := congrArg (fun l => l[m]?) hmap
    simp only [List.getElem?_map, PDs_get, hx', List.getElem?_eq_getElem hml, Option.map_some] at z1
    have z2 := Option.some.inj z1
    simpa using z2
   have hj : j < its.toArray.size := by simp; omega
   have de : ∀ x', x' ∈ xs → isD x' = true := fun x' hx' => isDs_mem dxs hx'
   show wpAny _ _ (call (.builtin "tuple.index") _) _ _ _
   refine call_meets PySem.F.slot_tuple_index ⟨_, ho, rfl⟩ PySem.F.entry_tuple_index (PySem.F.args_tuple_index_2 _ _)
    (TI.tuple_indexAt a its.toArray n dd sls u0 (fun u => PyData.eqv (SeqAt.readOf s.heap u) (toPD y)) j hj ?_ ?_) ⟨ho, SeqAt.items_eqAt (vs := its.toArray) (show ReadsAll s.heap its.toArray.toList _ bs from h4) r1 lx l1 hu', ?_⟩
   ·show PyData.eqv (SeqAt.readOf s.heap its.toArray[j]) (toPD y) = true
    rw [at_ j hj z k1, eqv_PD z y (de z (List.mem_of_getElem? k1)) d1]
    exact k2
   ·intro m hm hmj
    have hmx : m < xs.length := by omega
    have hz' : xs[m]? = some xs[m] := List.getElem?_eq_getElem hmx
    show PyData.eqv (SeqAt.readOf s.heap its.toArray[m]) (toPD y) = false
    rw [at_ m hm _ hz', eqv_PD _ y (de _ (List.mem_of_getElem? hz')) d1]
    exact k3 m _ hmj hz'
   ·exact ⟨.int (j : Nat), H, I.tok _, ⟨_, rfl⟩, q.same h rfl⟩
  ·cases e
 ·
  rename_i ks xs k
  obtain ⟨ky, g1, g2⟩ := Option.map_eq_some_iff.mp e
  subst g2
  obtain ⟨v0, rfl, r0⟩ := one rfl
  obtain ⟨a, zs, rfl, a1, a2, a3⟩ := r
  have ev := key_of g1 r0
  subst ev
  cases qv
  obtain ⟨u0, rfl, qu⟩ := Vals.one qa
  have hu' : X.A.units + 1 < cLine := by unfold Deep at hu; omega
  have z := kget_ok (T := T) (q := ky) a2 a3
  refine d_get1 hu' I (DGet.k (k := kS ky) a1) qu fun w' s' I' rw' => ⟨_, H, I', rw', ?_⟩
  cases hk : kget ky ks xs with
  | some w0 =>
   rw [hk] at z
   obtain ⟨v1, z1, z2⟩ := z
   rw [z1]
   exact WantsP.same (by rw [hk] at q; exact q) h z2
  | none =>
   rw [hk] at z
   rw [show valV ((ks.map kS).zip zs) (kS ky) = none from z]
   exact WantsP.same (by rw [hk] at q; exact q) h rw_non
 ·cases e
end
end Ev
namespace Ev
open PySem PySem.Spec PyProof.Rows L2 Calls
section
variable {γ δ : Type} {T : Tb} {Wx : WX} {rel2 : Cf → Hp → γ → δ → Prop} {c : Cf} {st : St} {σ : L2.St} {H : Hp} {Q : δ → Hp → Prop}
def At1 (T : Tb) (Wx : WX) (rel2 : Cf → Hp → γ → δ → Prop) (σ : L2.St) (f : W → St → R γ) (Q : δ → Hp → Prop) : VK := fun v H => ∃ c st a, RSt T c st σ H ∧ RV T c σ H a v ∧ Post T Wx rel2 c σ H (f a st) Q
def At2 (T : Tb) (Wx : WX) (rel2 : Cf → Hp → γ → δ → Prop) (σ : L2.St) (f : W → W → St → R γ) (Q : δ → Hp → Prop) (v u : V) (H : Hp) : Prop := ∃ c st a b, RSt T c st σ H ∧ RV T c σ H a v ∧ RV T c σ H b u ∧ Post T Wx rel2 c σ H (f a b st) Q
def AtA (T : Tb) (Wx : WX) (rel2 : Cf → Hp → γ → δ → Prop) (σ : L2.St) (f : List W → St → R γ) (Q : δ → Hp → Prop) : List V → Hp → Prop := fun vs H => ∃ c st ws, RSt T c st σ H ∧ relA T σ c H ws vs ∧ Post T Wx rel2 c σ H (f ws st) Q
def AtT (T : Tb) (Wx : WX) (rel2 : Cf → Hp → γ → δ → Prop) (σ : L2.St) (f : Bool → St → R γ) (Q : δ → Hp → Prop) : Bool → Hp → Prop := fun b H => ∃ c st, RSt T c st σ H ∧ Post T Wx rel2 c σ H (f b st) Q
theorem one {ma : St → R W} {f : W → St → R γ} (h : RSt T c st σ H) (q : Post T Wx rel2 c σ H ((ma st).bind f) Q) : rdE T Wx ma σ H (At1 T Wx rel2 σ f Q) :=
 ⟨c, st, h, (Post.bind (rel := relV T σ) q).mono fun v H1 ⟨c1, st1, a, s1, h1, r1, q1⟩ => ⟨c1, st1, a, h1, r1, q1⟩⟩
theorem two {ma mb : St → R W} {f : W → W → St → R γ} (h : RSt T c st σ H) (q : Post T Wx rel2 c σ H ((ma st).bind fun x st1 => (mb st1).bind fun y st2 => f x y st2) Q) :
  rdE T Wx ma σ H fun v H1 => rdE T Wx mb σ H1 fun u H2 => At2 T Wx rel2 σ f Q v u H2 :=
 ⟨c, st, h, (Post.bind (rel := relV T σ) q).mono fun v H1 ⟨c1, st1, a, s1, h1, r1, q1⟩ => ⟨c1, st1, h1, (Post.bind (rel := relV T σ) q1).mono fun u H2 ⟨c2, st2, b, s2, h2, r2, q2⟩ => ⟨c2, st2, a, b, h2, RV.mono s2 r1, r2, q2⟩⟩⟩
theorem oneA {ma : St → R (List W)} {f : List W → St → R γ} (h : RSt T c st σ H) (q : Post T Wx rel2 c σ H ((ma st).bind f) Q) : rdA T Wx ma σ H (AtA T Wx rel2 σ f Q) :=
 ⟨c, st, h, (Post.bind (rel := relA T σ) q).mono fun v H1 ⟨c1, st1, a, s1, h1, r1, q1⟩ => ⟨c1, st1, a, h1, r1, q1⟩⟩
theorem oneT {ma : St → R Bool} {f : Bool → St → R γ} (h : RSt T c st σ H) (q : Post T Wx rel2 c σ H ((ma st).bind f) Q) : rdT T Wx ma σ H (AtT T Wx rel2 σ f Q) :=
 ⟨c, st, h, (Post.bind (rel := relB) q).mono fun v H1 ⟨c1, st1, a, s1, h1, r1, q1⟩ => by cases r1; exact ⟨c1, st1, h1, q1⟩⟩
theorem relA.mono {c1 : Cf} {H1 : Hp} {ws : List W} {vs : List V} (s : Stp c H c1 H1) (h : relA T σ c H ws vs) : relA T σ c1 H1 ws vs := ⟨h.1, fun i w v e1 e2 => RV.mono s (h.2 i w v e1 e2)⟩
theorem oneVA {ma : St → R W} {mb : St → R (List W)} {f : W → List W → St → R γ} (h : RSt T c st σ H) (q : Post T Wx rel2 c σ H ((ma st).bind fun x st1 => (mb st1).bind fun ys st2 => f x ys st2) Q) :
  rdE T Wx ma σ H fun v H1 => rdA T Wx mb σ H1 fun us H2 => ∃ c st a ws, RSt T c st σ H2 ∧ RV T c σ H2 a v ∧ relA T σ c H2 ws us ∧ Post T Wx rel2 c σ H2 (f a ws st) Q :=
 ⟨c, st, h, (Post.bind (rel := relV T σ) q).mono fun v H1 ⟨c1, st1, a, s1, h1, r1, q1⟩ => ⟨c1, st1, h1, (Post.bind (rel := relA T σ) q1).mono fun u H2 ⟨c2, st2, b, s2, h2, r2, q2⟩ => ⟨c2, st2, a, b, h2, RV.mono s2 r1, r2, q2⟩⟩⟩
end
section
variable {T : Tb} {X : Cx} {Wx : WX} {p : Pg} {cal : Bool → Nat → List W → List OO → RC} {a b e : Expr} {ea eb : E} {pos : Pos}
theorem se_var {i : Nat} {x : Str} (hN : X.N[i]? = some x) (hv : Vis X.env.scope x) (h1 : (x == ("__debug__" : Str)) = false) (h2 : (x == ("__classdict__" : Str)) = false) : SE T X Wx (.Name x pos) (evE p cal (.var i)) :=
 PE.imp (pe_var hN hv h1 h2) fun σ H Q ⟨c, st, h, q⟩ => by
  simp only [evE] at q
  cases e : st.r[i]? with
  | none => simp [e] at q; exact q.elim
  | some s =>
   cases s with
   | un => simp [e] at q; exact q.elim
   | val w =>
    simp [e] at q
    obtain ⟨v, e1, r⟩ := h.val i w e
    exact ⟨v, e1, Post.ret q h r.rv⟩
   | own o =>
    simp [e] at q
    obtain ⟨a, e1, e2, r⟩ := h.own i o e
    exact ⟨.ref a, e2, Post.ret q h (show σ[i]? = some (some (V.ref a)) from e2)⟩
def vC : W → Option V
 | .non => some .non
 | .bl b => some (.bl b)
 | .int i => some (.int i)
 | .str x => if tOk x then some (.str (tS x)) else none
 | _ => none
theorem vC_ok {w : W} {v : V} {lv : List Addr} {nf : Addr → Prop} {H : Hp} (h : vC w = some v) : RW T lv nf H w v := by
 cases w <;> simp [vC] at h <;> first | (subst h; rfl) | skip
 obtain ⟨h1, h2⟩ := h
 subst h2
 exact ⟨rfl, h1⟩
theorem se_of {e : Expr} {w : W} {v : V} {x : E} (hp : PE X e (tC v)) (hv : vC w = some v) (hx : ∀ st, evE p cal x st = .ok w st) : SE T X Wx e (evE p cal x) :=
 PE.imp hp fun σ H Q ⟨c, st, h, q⟩ => by
  rw [hx] at q
  exact Post.ret q h (vC_ok hv).rv
theorem se_cst {e : Expr} {w : W} {v : V} (hp : PE X e (tC v)) (hv : vC w = some v) : SE T X Wx e (evE p cal (.cst w)) := se_of hp hv fun _ => by simp [evE]
theorem se_glo {g : Nat} {e : Expr} {w : W} {v : V} (hp : PE X e (tC v)) (hv : vC w = some v) : SE T X Wx e (evE p cal (.glo g w)) := se_of hp hv fun _ => by simp [evE]
theorem lift_some {α β : Type} {rel : Cf → Hp → α → β → Prop} {c : Cf} {σ : L2.St} {H : Hp} {Q : β → Hp → Prop} {st : St} {o : Option α} (q : Post T Wx rel c σ H (.lift st o) Q) : ∃ a, o = some a ∧ Post T Wx rel c σ H (.ok a st) Q := by
 cases o with
 | none => exact (show False from q).elim
 | some a => exact ⟨a, rfl, q⟩
theorem se_neg (ha : SE T X Wx a (evE p cal ea)) : SE T X Wx (.UnaryOp .USub a pos) (evE p cal (.neg ea)) :=
 PE.imp (pe_un un_neg ha) fun σ H Q ⟨c, st, h, q⟩ => by
  simp only [evE] at q
  obtain ⟨c0, st0, h0, q0⟩ := one h q
  refine ⟨c0, st0, h0, q0.mono fun v H1 ⟨c, st, w, h, r, q⟩ => ?_⟩
  cases w <;> first | exact (show False from q).elim | skip
  rename_i i
  exact ⟨i, r, Post.ret q h (show RV T c σ H1 (.int (-i)) (.int (-i)) from rfl)⟩
theorem se_notE (ha : SE T X Wx a (evE p cal ea)) (hK : T.K = X.K) : SE T X Wx (.UnaryOp .Not a pos) (evE p cal (.bnt ea)) :=
 ⟨fun pins s σ H Q I ⟨c, st, h, q⟩ => by
  simp only [evE] at q
  refine UnaryOp_ (thn (ha.run pins s σ H _ I (one h q)) fun v s1 ⟨x, H1, I1, r1, c, st, w, h, r, q⟩ => ?_)
  unfold truR at q
  cases e : truW (vw st w) with
  | none => simp [e, R.lift, R.bind] at q; exact q.elim
  | some k =>
   simp only [e, R.lift, R.bind] at q
   exact PySem.not_value (thn (tru_ok pins s1 σ H1 x v (fun k H => Q (.bl !k) H) I1 r1 ⟨k, tru_ok' e (rvv h r) hK, Post.ret q h (show RV T c σ H1 (.bl !k) (.bl !k) from rfl)⟩) fun b s2 ⟨H2, I2, q2⟩ => ⟨.bl !b, H2, I2, rfl, q2⟩)⟩
def tst (p : Pg) (cal : Bool → Nat → List W → List OO → RC) (e : E) (st : St) : R Bool := (evE p cal e st).bind fun w st1 => truR w st1
theorem st_truth (ha : SE T X Wx a (evE p cal ea)) (hK : T.K = X.K) (he : ∀ whole, isTrue a X.env whole = (do let v ← whole; standAt a.pos; holding [v] (truthy v))) : ST T X Wx a (tst p cal ea) :=
 PT.imp (pt_truth ha he) fun σ H Q ⟨c, st, h, q⟩ => by
  unfold tst at q
  obtain ⟨c0, st0, h0, q0⟩ := one h q
  refine ⟨c0, st0, h0, q0.mono fun v H1 ⟨c, st, w, h, r, q⟩ => ?_⟩
  unfold truR at q
  obtain ⟨k, e, q⟩ := lift_some q
  exact ⟨k, tru_ok' e (rvv h r) hK, Post.ret q h rfl⟩
theorem st_not (ha : ST T X Wx a (tst p cal ea)) : ST T X Wx (.UnaryOp .Not a pos) (tst p cal (.bnt ea)) :=
 PT.imp (pt_not ha) fun σ H Q ⟨c, st, h, q⟩ => by
  have e : tst p cal (.bnt ea) st = (tst p cal ea st).bind fun k st1 => .ok (!k) st1 := by
   simp only [tst, evE]
   cases h1 : evE p cal ea st with
   | ok w st1 =>
    simp only [R.bind]
    cases h2 : truR w st1 <;> simp [truR, R.lift, truW, vw]
   | exc x st1 => rfl
   | stk => rfl
  rw [e] at q
  obtain ⟨c0, st0, h0, q0⟩ := oneT h q
  exact ⟨c0, st0, h0, q0.mono fun k H1 ⟨c, st, h, q⟩ => Post.ret q h rfl⟩
theorem tst_bnd (st : St) {α β : Type} {rel : Cf → Hp → α → β → Prop} {c : Cf} {σ : L2.St} {H : Hp} {Q : Bool → Hp → Prop} (q : Post T Wx relB c σ H (tst p cal (.bnd ea eb) st) Q) :
  Post T Wx relB c σ H ((tst p cal ea st).bind fun k st1 => if k then tst p cal eb st1 else .ok false st1) Q := by
 simp only [tst, evE] at q ⊢
 cases h1 : evE p cal ea st with
 | ok w st1 =>
  simp only [h1, R.bind] at q ⊢
  cases w <;> first | exact (show False from q).elim | skip
  rename_i k
  cases k
  ·simpa [truR, R.lift, truW, vw, R.bind] using q
  ·simpa [truR, R.lift, truW, vw, R.bind] using q
 | exc x st1 => simpa [h1, R.bind] using q
 | stk => simp only [h1, R.bind] at q; exact (show False from q).elim
theorem tst_bor (st : St) {α β : Type} {rel : Cf → Hp → α → β → Prop} {c : Cf} {σ : L2.St} {H : Hp} {Q : Bool → Hp → Prop} (q : Post T Wx relB c σ H (tst p cal (.bor ea eb) st) Q) :
  Post T Wx relB c σ H ((tst p cal ea st).bind fun k st1 => if k then .ok true st1 else tst p cal eb st1) Q := by
 simp only [tst, evE] at q ⊢
 cases h1 : evE p cal ea st with
 | ok w st1 =>
  simp only [h1, R.bind] at q ⊢
  cases w <;> first | exact (show False from q).elim | skip
  rename_i k
  cases k
  ·simpa [truR, R.lift, truW, vw, R.bind] using q
  ·simpa [truR, R.lift, truW, vw, R.bind] using q
 | exc x st1 => simpa [h1, R.bind] using q
 | stk => simp only [h1, R.bind] at q; exact (show False from q).elim
def SW (T : Tb) (X : Cx) (Wx : WX) (e : Expr) (m : St → R Bool) : Prop := PW X e (rdT T Wx m)
theorem PW.imp {X : Cx} {e : Expr} {t t' : TT} (h : PW X e t) (q : ∀ σ H Q, t' σ H Q → t σ H Q) : PW X e t' := ⟨fun wh pins s σ H Q I z => h.run wh pins s σ H Q I (q _ _ _ z)⟩
variable {rest : List Expr}
theorem sw_and (ha : ST T X Wx a (tst p cal ea)) (hb : SW T X Wx (.BoolOp .And (b :: rest) pos) (tst p cal eb)) : SW T X Wx (.BoolOp .And (a :: b :: rest) pos) (tst p cal (.bnd ea eb)) :=
 PW.imp (pw_and ha hb) fun σ H Q ⟨c, st, h, q⟩ => by
  obtain ⟨c0, st0, h0, q0⟩ := oneT h (tst_bnd (rel := relB) st q)
  refine ⟨c0, st0, h0, q0.mono fun k H1 ⟨c, st, h, q⟩ => ?_⟩
  cases k
  ·exact Post.ret q h rfl
  ·exact ⟨c, st, h, q⟩
theorem sw_or (ha : ST T X Wx a (tst p cal ea)) (hb : SW T X Wx (.BoolOp .Or (b :: rest) pos) (tst p cal eb)) : SW T X Wx (.BoolOp .Or (a :: b :: rest) pos) (tst p cal (.bor ea eb)) :=
 PW.imp (pw_or ha hb) fun σ H Q ⟨c, st, h, q⟩ => by
  obtain ⟨c0, st0, h0, q0⟩ := oneT h (tst_bor (rel := relB) st q)
  refine ⟨c0, st0, h0, q0.mono fun k H1 ⟨c, st, h, q⟩ => ?_⟩
  cases k
  ·exact ⟨c, st, h, q⟩
  ·exact Post.ret q h rfl
theorem se_and (ha : SE T X Wx a (evE p cal ea)) (hb : SE T X Wx (.BoolOp .And (b :: rest) pos) (evE p cal eb)) : SE T X Wx (.BoolOp .And (a :: b :: rest) pos) (evE p cal (.bnd ea eb)) :=
 PE.imp (pe_and ha hb) fun σ H Q ⟨c, st, h, q⟩ => by
  simp only [evE] at q
  obtain ⟨c0, st0, h0, q0⟩ := one h q
  refine ⟨c0, st0, h0, q0.mono fun v H1 ⟨c, st, w, h, r, q⟩ => ?_⟩
  cases w <;> first | exact (show False from q).elim | skip
  rename_i k
  refine ⟨k, r, ?_⟩
  cases k
  ·exact Post.ret q h (show RV T c σ H1 (.bl false) (.bl false) from rfl)
  ·exact ⟨c, st, h, q⟩
theorem se_or (ha : SE T X Wx a (evE p cal ea)) (hb : SE T X Wx (.BoolOp .Or (b :: rest) pos) (evE p cal eb)) : SE T X Wx (.BoolOp .Or (a :: b :: rest) pos) (evE p cal (.bor ea eb)) :=
 PE.imp (pe_or ha hb) fun σ H Q ⟨c, st, h, q⟩ => by
  simp only [evE] at q
  obtain ⟨c0, st0, h0, q0⟩ := one h q
  refine ⟨c0, st0, h0, q0.mono fun v H1 ⟨c, st, w, h, r, q⟩ => ?_⟩
  cases w <;> first | exact (show False from q).elim | skip
  rename_i k
  refine ⟨k, r, ?_⟩
  cases k
  ·exact ⟨c, st, h, q⟩
  ·exact Post.ret q h (show RV T c σ H1 (.bl true) (.bl true) from rfl)
theorem se_ite {d : Expr} {ed : E} (hd : ST T X Wx d (tst p cal ed)) (ha : SE T X Wx a (evE p cal ea)) (hb : SE T X Wx b (evE p cal eb)) : SE T X Wx (.IfExp d a b pos) (evE p cal (.ite ed ea eb)) :=
 PE.imp (pe_ifExp hd ha hb) fun σ H Q ⟨c, st, h, q⟩ => by
  have e : evE p cal (.ite ed ea eb) st = (tst p cal ed st).bind fun k st2 => if k then evE p cal ea st2 else evE p cal eb st2 := by
   simp only [evE, tst]
   cases evE p cal ed st <;> rfl
  rw [e] at q
  obtain ⟨c0, st0, h0, q0⟩ := oneT h q
  refine ⟨c0, st0, h0, q0.mono fun k H1 ⟨c, st, h, q⟩ => ?_⟩
  cases k
  ·exact ⟨c, st, h, q⟩
  ·exact ⟨c, st, h, q⟩
theorem sa_nil : SA T X Wx [] (evEs p cal []) :=
 PA.imp pa_nil fun σ H Q ⟨c, st, h, q⟩ => by
  simp only [evEs] at q
  exact Post.ret q h ⟨rfl, fun i w v e => by simp at e⟩
theorem sa_cons {es : List Expr} {xs : List E} (ha : SE T X Wx a (evE p cal ea)) (hr : SA T X Wx es (evEs p cal xs)) (hs : starEach (a :: es) X.env = (false, eval a X.env) :: starEach es X.env) : SA T X Wx (a :: es) (evEs p cal (ea :: xs)) :=
 PA.imp (pa_cons ha hr hs) fun σ H Q ⟨c, st, h, q⟩ => by
  simp only [evEs] at q
  obtain ⟨c0, st0, h0, q0⟩ := oneVA h q
  refine ⟨c0, st0, h0, q0.mono fun v H1 ⟨c1, st1, h1, q1⟩ => ⟨c1, st1, h1, q1.mono fun us H2 ⟨c, st, w, ws, h, r, ra, q⟩ => ?_⟩⟩
  refine Post.ret q h ⟨by simp [ra.1], fun i x v e1 e2 => ?_⟩
  cases i with
  | zero => simp at e1 e2; subst e1; subst e2; exact r
  | succ i => exact ra.2 i x v (by simpa using e1) (by simpa using e2)
theorem se_tup {es : List Expr} {xs : List E} {k : Nat} (hs : SA T X Wx es (evEs p cal xs)) : SE T X Wx (.Tuple es k pos) (evE p cal (.tup xs)) :=
 PE.imp (pe_tupC hs) fun σ H Q ⟨c, st, h, q⟩ => by
  simp only [evE] at q
  obtain ⟨c0, st0, h0, q0⟩ := oneA h q
  refine ⟨c0, st0, h0, q0.mono fun vs H1 ⟨c, st, ws, h, ra, q⟩ => ?_⟩
  cases ho : okvs ws && decide (ws.length ≤ lineMax) with
  | false => simp [ho] at q; exact q.elim
  | true =>
   simp only [ho, if_true] at q
   obtain ⟨o1, o2⟩ := Bool.and_eq_true_iff.mp ho
   refine ⟨by rw [← ra.1, ← line_eq]; exact of_decide_eq_true o2, fun pp ob hob hp => ?_⟩
   exact new_tup h hp hob (okv_rw o1 ra) (Wants.of q)
theorem se_sub (hK : T.K = X.K) (hu : Deep X) (ha : SE T X Wx a (evE p cal ea)) (hb : SE T X Wx b (evE p cal eb)) (hs : PlainIx b) : SE T X Wx (.Subscript a b pos) (evE p cal (.sub ea eb)) :=
 ⟨fun pins s σ H Q I ⟨c, st, h, q⟩ => by
  simp only [evE] at q
  refine Subscript_ (binT ha hb I (two h q) fun v u s2 x y H2 I2 rx ry ⟨c, st, wa, wb, h, r1, r2, q⟩ => ?_)
  obtain ⟨w, e, q⟩ := lift_some q
  have nk : RVV T c H2 wb y := by
   cases wb <;> first | exact r2 | trivial | (simp [subW] at e; done) | skip
   all_goals (cases hq : vw st wa <;> simp [subW, hq, kyOf] at e)
  exact sub_ok hK hu e I2 h (rvv h r1) nk rx ry (hs _ _) (WantsP.of q)⟩
end
def PostF (T : Tb) (Wx : WX) (c : Cf) (σ : L2.St) (H : Hp) (r : R W) (Q : VK) : Prop := match r with
 | .ok a st' => ∀ b H' c', Stp c H c' H' → RSt T c' st' σ H' → RV T c' σ H' a b → FrW T c' st' σ H H' a b → Q b H'
 | .exc x st' => ∀ cls d H' c', Stp c H c' H' → RSt T c' st' σ H' → RX T c' H' x cls d → Wx cls d σ H'
 | .stk => False
def rdF (T : Tb) (Wx : WX) (m : St → R W) : TE := fun σ H Q => ∃ c st, RSt T c st σ H ∧ PostF T Wx c σ H (m st) Q
def SF (T : Tb) (X : Cx) (Wx : WX) (e : Expr) (m : St → R W) : Prop := PE X e (rdF T Wx m)
section
variable {α β γ : Type} {T : Tb} {X : Cx} {Wx : WX} {p : Pg} {cal : Bool → Nat → List W → List OO → RC} {c c1 c2 : Cf} {st : St} {σ : L2.St} {H H0 H1 H2 : Hp} {pins : List (Addr × Obj)} {s : Shared} {k : Nat} {D : Addr}
variable {a b d e : Expr} {ea eb ed : E} {pos : Pos}
theorem PostF.of {r : R W} {Q : VK} (h : Post T Wx (relV T σ) c σ H r Q) : PostF T Wx c σ H r Q := by
 cases r with
 | ok a st => exact fun b H' c' s h1 h2 _ => h b H' c' s h1 h2
 | exc x st => exact h
 | stk => exact h
theorem PostF.from {r : R W} {Q : VK} (h : PostF T Wx c σ H r Q) (s : Stp c H c1 H1) : PostF T Wx c1 σ H1 r Q := by
 cases r with
 | ok a st => exact fun b H' c' s' h1 h2 f => h b H' c' (s.trans s') h1 h2 fun z x e => ⟨s.tb (f z x e).1, (f z x e).2⟩
 | exc x st => exact fun cls d H' c' s' h1 h2 => h cls d H' c' (s.trans s') h1 h2
 | stk => exact h
theorem PostF.bind {rel : Cf → Hp → α → β → Prop} {m : R α} {f : α → St → R W} {Q : VK} (h : PostF T Wx c σ H (m.bind f) Q) :
  Post T Wx rel c σ H m fun b H1 => ∃ c1 st1 a, Stp c H c1 H1 ∧ RSt T c1 st1 σ H1 ∧ rel c1 H1 a b ∧ PostF T Wx c1 σ H1 (f a st1) Q := by
 cases m with
 | ok a st => exact fun b H' c' s h1 h2 => ⟨c', st, a, s, h1, h2, h.from s⟩
 | exc x st => exact h
 | stk => exact h
theorem SF.se {m : St → R W} (h : SF T X Wx e m) : SE T X Wx e m := PE.imp h fun σ H Q ⟨c, st, g, q⟩ => ⟨c, st, g, PostF.of q⟩
theorem WantsF.of {w : W} {Q : VK} (h : PostF T Wx c σ H (.ok w st) Q) : Wants T c st σ H w Q := fun z H' s r q f => h z H' c s r q.rv f
theorem liftF_some {Q : VK} {o : Option W} (q : PostF T Wx c σ H (.lift st o) Q) : ∃ a, o = some a ∧ PostF T Wx c σ H (.ok a st) Q := by
 cases o with
 | none => exact (show False from q).elim
 | some a => exact ⟨a, rfl, q⟩
def At2F (T : Tb) (Wx : WX) (σ : L2.St) (f : W → W → St → R W) (Q : VK) (v u : V) (H : Hp) : Prop := ∃ c st a b, RSt T c st σ H ∧ RV T c σ H a v ∧ RV T c σ H b u ∧ PostF T Wx c σ H (f a b st) Q
theorem twoF {Q : VK} {ma mb : St → R W} {f : W → W → St → R W} (h : RSt T c st σ H) (q : PostF T Wx c σ H ((ma st).bind fun x st1 => (mb st1).bind fun y st2 => f x y st2) Q) :
  rdE T Wx ma σ H fun v H1 => rdE T Wx mb σ H1 fun u H2 => At2F T Wx σ f Q v u H2 :=
 ⟨c, st, h, (PostF.bind (rel := relV T σ) q).mono fun v H1 ⟨c1, st1, a, s1, h1, r1, q1⟩ => ⟨c1, st1, h1, (PostF.bind (rel := relV T σ) q1).mono fun u H2 ⟨c2, st2, b, s2, h2, r2, q2⟩ => ⟨c2, st2, a, b, h2, RV.mono s2 r1, r2, q2⟩⟩⟩
theorem noL_ok {r : R W} {Q : VK} (q : PostF T Wx c σ H (noL r) Q) : Post T Wx (relV T σ) c σ H r Q := by
 refine (PostF.bind (rel := relV T σ) q).mono fun v H1 ⟨c1, st1, w, S, h1, r1, q1⟩ => ?_
 cases e : isL w with
 | true => rw [e] at q1; exact (show False from q1).elim
 | false =>
  rw [e] at q1
  exact q1 v H1 c1 Stp.refl h1 r1 fun z => by rw [e] at z; cases z
end
end Ev
namespace Ev
open PySem PySem.Spec PyProof.Rows L2 Calls
def Cf.out (c : Cf) : Cf := ⟨c.lv, fun _ => none, fun a => c.ou a ∨ ∃ i, c.ow i = some a⟩
theorem nf_out (c : Cf) (lv : List Addr) : (⟨lv, fun _ => none, c.out.ou⟩ : Cf).nf = (⟨lv, c.ow, c.ou⟩ : Cf).nf := by
 funext a
 apply propext
 unfold Cf.nf Cf.mu Cf.out
 simp only [reduceCtorEq, exists_false, or_false]
 constructor
 ·rintro (h | h | h)
  ·exact .inl (.inl h)
  ·exact .inr h
  ·exact .inl (.inr h)
 ·rintro ((h | h) | h)
  ·exact .inl h
  ·exact .inr (.inr h)
  ·exact .inr (.inl h)
theorem nf_out' (c : Cf) : c.out.nf = c.nf := nf_out c c.lv
structure CalSt (T : Tb) (c : Cf) (H : Hp) (s : List OO) : Prop where
 ow : c.ow = fun _ => none
 sto : RSto T c.lv c.nf H s
 ou : ∀ a, c.ou a → ¬ c.mu a
 ouh : ∀ a, c.ou a → ∃ o, H a = some o ∧ noTb o = true
structure StpX (x : Addr) (c : Cf) (H : Hp) (c' : Cf) (H' : Hp) : Prop where
 fr : ∀ a o, H a = some o → noTb o = true → ¬ c.mu a → a ≠ x → H' a = some o
 mw : ∀ a, c'.mu a → c.mu a ∨ tn (H a) ∨ a = x
 lv : ∀ (n : Nat) a, c.lv[n]? = some a → c'.lv[n]? = some a
 ou : c'.ou = c.ou
 kk : ∀ a o, H a = some o → noTb o = true → ∃ o', H' a = some o' ∧ isIns a o' = isIns a o
abbrev Cf.at (c : Cf) (lv : List Addr) : Cf := ⟨lv, c.ow, c.ou⟩
def spF (T : Tb) (np : Nat) (r : List W → List OO → RC) : Sp := fun vs H Q E => vs.length = np ∧ ∃ c ws s, CalSt T c H s ∧ RWs T c.lv c.nf H ws vs ∧ (match r ws s with
 | .ok w s' => ∀ v H' lv', Stp c H (c.at lv') H' → RSto T lv' (c.at lv').nf H' s' → RW T lv' (c.at lv').nf H' w v → Q v H'
 | .exc x s' => ∀ cls d H' lv', Stp c H (c.at lv') H' → RSto T lv' (c.at lv').nf H' s' → RX T (c.at lv') H' x cls d → E cls d H'
 | .stk => False)
def spI (T : Tb) (np C : Nat) (r : List W → List OO → RC) : Sp := fun vs H Q E => vs.length = np ∧ ∃ x dx vs' c ws s, vs = .ref x :: vs' ∧ H x = some (.ins (T.ca C) dx []) ∧ CalSt T (c.opn x) H s ∧ ¬ c.nf x ∧ RWs T (c.opn x).lv (c.opn x).nf H ws vs' ∧ (match r ws s with
 | .ok w s' => ∀ H' lv', StpX x c H (c.at lv') H' → RSto T lv' (c.at lv').nf H' s' → RW T lv' (c.at lv').nf H' w (.ref x) → Q .non H'
 | .exc e s' => ∀ cls d H' lv', StpX x c H (c.at lv') H' → RSto T lv' (c.at lv').nf H' s' → RX T (c.at lv') H' e cls d → E cls d H'
 | .stk => False)
section
variable {T : Tb} {c : Cf} {st : St} {σ : L2.St} {H H' : Hp} {lv' : List Addr} {s' : List OO}
theorem calSt_of (h : RSt T c st σ H) : CalSt T c.out H st.s where
 ow := rfl
 sto := by
  have e := nf_out' c
  rw [e]
  exact h.sto
 ou := fun a q m => by
  have m' : a ∈ c.lv := by
   rcases m with m | ⟨i, m⟩
   ·exact m
   ·cases m
  rcases q with q | ⟨i, q⟩
  ·exact h.ou a q (.inl m')
  ·exact h.dis i a q m'
 ouh := fun a q => by
  rcases q with q | q
  ·exact h.ouh a q
  ·obtain ⟨i, q⟩ := q
   obtain ⟨o, e4⟩ := h.back i a q
   obtain ⟨b, g1, _, r⟩ := h.own i o e4
   rw [q] at g1; cases g1
   exact r.there
theorem out_mu {a : Addr} (m : c.out.mu a) : a ∈ c.lv := by
 rcases m with m | ⟨i, m⟩
 ·exact m
 ·cases m
theorem back_ok (h : RSt T c st σ H) (S : Stp c.out H (c.out.at lv') H') (so : RSto T lv' (c.out.at lv').nf H' s') : Stp c H (c.at lv') H' ∧ RSt T (c.at lv') ⟨st.r, s'⟩ σ H' := by
 have S2 : Stp c H (c.at lv') H' := {
  fr := fun a o e t n => S.fr a o e t fun m => n (.inl (out_mu m))
  mw := fun a m => by
   rcases m with m | m
   ·rcases S.mw a (.inl m) with z | z
    ·exact .inl (.inl (out_mu z))
    ·exact .inr z
   ·exact .inl (.inr m)
  lv := S.lv
  ou := rfl
  kk := S.kk
  ow := fun _ _ e => .inl e }
 refine ⟨S2, h.len, fun i w e => ?_, fun i o e => ?_, h.back, h.inj, fun i a e m => ?_, fun a q m => ?_, fun a q => ?_, ?_⟩
 ·obtain ⟨v, e1, r⟩ := h.val i w e
  exact ⟨v, e1, r.mono S2.mn⟩
 ·obtain ⟨a, e1, e2, r⟩ := h.own i o e
  obtain ⟨u, e3, t3⟩ := r.there
  refine ⟨a, e1, e2, r.mono S2.mn ?_⟩
  rw [e3]
  exact S.fr a u e3 t3 fun m => h.dis i a e1 (out_mu m)
 ·rcases S.mw a (.inl m) with z | z
  ·exact h.dis i a e (out_mu z)
  ·obtain ⟨o, e4⟩ := h.back i a e
   obtain ⟨b, g1, _, r⟩ := h.own i o e4
   rw [e] at g1; cases g1
   obtain ⟨u, e3, t3⟩ := r.there
   exact z.no e3 t3
 ·rcases m with m | m
  ·rcases S.mw a (.inl m) with z | z
   ·exact h.ou a q (.inl (out_mu z))
   ·obtain ⟨u, e3, t3⟩ := h.ouh a q
    exact z.no e3 t3
  ·exact h.ou a q (.inr m)
 ·obtain ⟨o, e, t⟩ := h.ouh a q
  exact S.kp a o e t
 ·have e := nf_out c lv'
  rw [← e]
  exact so
end
section
variable {T : Tb} {X : Cx} {Wx : WX} {cal : Bool → Nat → List W → List OO → RC} {c : Cf} {st : St} {σ : L2.St} {H : Hp} {pins : List (Addr × Obj)} {s : Shared} {k fi np : Nat} {f : Addr} {fd : FuncData} {ps : List Str} {args : Args} {ws : List W} {vs : List V} {us : List Value} {Q : VK} {A : Around}
theorem call_run (hA : A.frames = X.A.frames) (hr : Room k A) (tk : Takes X Wx) (F : FnOk X.prog X.w X.K X.mg X.base (L2.CX X.prog X.w) k f fd ps (spF T np (cal false fi))) (hb : BindsTo s fd args (ps.zip us)) (ol : vs.length = np)
  (I : Inv X pins σ H s) (h : RSt T c st σ H) (ra : relA T σ c H ws vs) (qa : Vals vs us) (q : Post T Wx (relV T σ) c σ H (callR cal false fi ws st) Q) :
  codeAny (model X.prog X.w) A (.call (.ref f) args) (fun r s' => match r with | .ok (.ret v) => EP X pins σ Q v s' | .ok _ => False | .error e => X.xe e s') s := by
 have hsp : spF T np (cal false fi) vs H Q (WE Wx σ) := by
  refine ⟨ol, c.out, ws, st.s, calSt_of h, ?_, ?_⟩
  ·unfold callR at q
   cases ho : okvs ws with
   | false => rw [ho] at q; exact (show False from q).elim
   | true => rw [nf_out']; exact okv_rw ho ra
  ·unfold callR at q
   cases ho : okvs ws with
   | false => rw [ho] at q; exact (show False from q).elim
   | true =>
    simp only [ho, if_true] at q
    cases hc : cal false fi ws st.s with
    | ok w s' =>
     simp only [hc, RC.at] at q ⊢
     intro v H' lv' S so rw'
     obtain ⟨S2, h2⟩ := back_ok h S so
     refine q v H' _ S2 h2 (RW.rv ?_)
     have e := nf_out c lv'
     rw [← e]; exact rw'
    | exc x s' =>
     simp only [hc, RC.at] at q ⊢
     intro cls d H' lv' S so rx
     obtain ⟨S2, h2⟩ := back_ok h S so
     refine q cls d H' _ S2 h2 ?_
     obtain ⟨e1, dx, fs, e2, e3, e4, e5⟩ := rx
     have e := nf_out c lv'
     exact ⟨e1, dx, fs, e2, e3, by rw [← e]; exact e4, fun i n w a b => by
      obtain ⟨v, g1, g2⟩ := e5 i n w a b
      exact ⟨v, g1, by rw [← e]; exact g2⟩⟩
    | stk => rw [hc] at q; exact (show False from q).elim
 have e0 : Env0 X.prog X.w X.K X.mg X.base A X.stack s H := by
  have e := I.env0
  exact ⟨by rw [hA]; exact e.frames, e.mod, e.bs, e.bsz, e.funs, e.frf, e.hok, e.bare⟩
 refine codeAny_mono (F.run A X.stack s H args us vs Q (WE Wx σ) hr e0 hb qa hsp) fun r s' hq => ?_
 cases r with
 | error e => exact passAt tk σ pins H s e s' I hq
 | ok fl =>
  cases fl with
  | ret w =>
   obtain ⟨z, H', I', rz, ez⟩ := I.after hq
   exact ⟨z, H', I', rz, ez⟩
  | next => exact False.elim hq
  | brk => exact False.elim hq
  | cont => exact False.elim hq
theorem make_run {C : Nat} (M : Mk X.K (T.ca C) f) (hr : Room (k + 1) X.A) (tk : Takes X Wx) (F : FnOk X.prog X.w X.K X.mg X.base (L2.CX X.prog X.w) k f fd ps (spI T np C (cal true C))) {kw : List (Str × Value)} {ps' : List Value}
  (hb : ∀ x s', X.K.In s'.heap → BindsTo s' fd ⟨.ref x :: ps', kw⟩ (ps.zip (.ref x :: us))) (ol : vs.length + 1 = np)
  (I : Inv X pins σ H s) (h : RSt T c st σ H) (ra : relA T σ c H ws vs) (qa : Vals vs us) (q : Post T Wx (relV T σ) c σ H (callR cal true C ws st) Q) :
  wpAny (model X.prog X.w) X.A (call (.ref (T.ca C)) ps' kw) (EP X pins σ Q) X.xe s := by
 have n1 : H (s.heap.objs.size + 1) = none := I.hok.fresh (Nat.le_succ _)
 have n2 : H s.heap.objs.size = none := I.hok.fresh (Nat.le_refl _)
 generalize hx : s.heap.objs.size + 1 = x at n1
 generalize hdx : s.heap.objs.size = dx at n2
 have ne : dx ≠ x := by omega
 let Hm := upd (upd H dx (.own x)) x (.ins (T.ca C) dx [])
 have grow : ∀ a o, H a = some o → Hm a = some o := fun a o e => by
  have g1 : a ≠ x := ne_of_none e n1
  have g2 : a ≠ dx := ne_of_none e n2
  show upd (upd H dx _) x _ a = _
  rw [upd_ne g1, upd_ne g2]; exact e
 have hm : RSt T c st σ Hm := h.keep grow
 have hxx : Hm x = some (.ins (T.ca C) dx []) := upd_same
 have nd : upd H dx (.own x) x = none := by rw [upd_ne (Ne.symm ne)]; exact n1
 have ho : RSt T (c.opn x) st σ Hm := (h.grow (p := dx) (o := .own x) n2).opn nd
 have eo : (c.opn x).out = c.out.opn x := by
  unfold Cf.out Cf.opn
  simp only [Cf.mk.injEq, true_and]
  funext a
  apply propext
  constructor
  ·rintro ((z | z) | z)
   ·exact .inl (.inl z)
   ·exact .inr z
   ·exact .inl (.inr z)
  ·rintro ((z | z) | z)
   ·exact .inl (.inl z)
   ·exact .inr z
   ·exact .inl (.inr z)
 have hsp : spI T np C (cal true C) (.ref x :: vs) Hm (fun v H2 => v = .non ∧ Q (.ref x) H2) (WE Wx σ) := by
  refine ⟨by simpa using ol, x, dx, vs, c.out, ws, st.s, rfl, hxx, by rw [← eo]; exact calSt_of ho, by rw [nf_out']; exact h.new n1, ?_, ?_⟩
  ·unfold callR at q
   cases ho' : okvs ws with
   | false => rw [ho'] at q; exact (show False from q).elim
   | true =>
    rw [← eo, nf_out']
    refine (okv_rw ho' ra).mono ⟨fun a o e _ _ => grow a o e, fun a z => ?_, fun _ _ z => z, fun a f _ e => grow a _ e⟩
    rcases z with z | z | z
    ·exact .inl (.inl z)
    ·exact .inl (.inr z)
    ·subst z; exact .inr (tn_none n1)
  ·have conv : ∀ {lv' H'}, StpX x c.out Hm (c.out.at lv') H' → Stp c.out H (c.out.at lv') H' := fun {lv' H'} S => {
    fr := fun a o e t n => S.fr a o (grow a o e) t n (ne_of_none e n1)
    mw := fun a m => by
     rcases S.mw a m with z | z | z
     ·exact .inl z
     ·exact .inr fun o e => z o (grow a o e)
     ·subst z; exact .inr (tn_none n1)
    lv := S.lv
    ou := S.ou
    kk := fun a o e => S.kk a o (grow a o e)
    ow := fun _ _ e => .inl e }
   unfold callR at q
   cases ho : okvs ws with
   | false => rw [ho] at q; exact (show False from q).elim
   | true =>
    simp only [ho, if_true] at q
    cases hc : cal true C ws st.s with
    | ok w s' =>
     simp only [hc, RC.at] at q ⊢
     intro H' lv' S so rw'
     obtain ⟨S2, h2⟩ := back_ok h (conv S) so
     refine ⟨trivial, q _ H' _ S2 h2 (RW.rv ?_)⟩
     have e := nf_out c lv'
     rw [← e]; exact rw'
    | exc xx s' =>
     simp only [hc, RC.at] at q ⊢
     intro cls d H' lv' S so rx
     obtain ⟨S2, h2⟩ := back_ok h (conv S) so
     refine q cls d H' _ S2 h2 ?_
     obtain ⟨e1, dx, fs, e2, e3, e4, e5⟩ := rx
     have e := nf_out c lv'
     exact ⟨e1, dx, fs, e2, e3, by rw [← e]; exact e4, fun i n w a b => by
      obtain ⟨v, g1, g2⟩ := e5 i n w a b
      exact ⟨v, g1, by rw [← e]; exact g2⟩⟩
    | stk => rw [hc] at q; exact (show False from q).elim
 have I2 := Inv.made (C := T.ca C) I
 subst hx hdx
 have r2 : Vals (V.ref (s.heap.objs.size + 1) :: vs) (Value.ref (s.heap.objs.size + 1) :: us) := .cons rfl qa
 refine wpAny_call (make_map (f := f) I.kIn M.makes M.init (beq_iff_eq.mp M.fn) (codeAny_mono (F.run _ X.stack _ _ ⟨Value.ref (s.heap.objs.size + 1) :: ps', kw⟩ (Value.ref (s.heap.objs.size + 1) :: us) _ _ (WE Wx σ) (hr.make _ ps' kw)
  (I2.env0.make _ ps' kw) (hb _ _ I2.kIn) r2 hsp) fun r s' hq' => ?_))
 cases r with
 | error e => exact passAt tk σ pins _ _ e s' I2 hq'
 | ok fl =>
  cases fl with
  | ret u =>
   obtain ⟨v, H', I3, rv, ev, q3⟩ := I2.after hq'
   subst ev
   exact ⟨rv, ⟨V.ref (s.heap.objs.size + 1), H', I3, rfl, q3⟩⟩
  | next => exact False.elim hq'
  | brk => exact False.elim hq'
  | cont => exact False.elim hq'
end
end Ev
namespace Ev
open PySem PySem.Spec PyProof.Rows L2 Calls
section
variable {prog : Program} {w : World} {A : Around} {E : Value → Shared → Prop} {s : Shared} {K : PySem.W.Frag} {x C f : Addr} {ox : Obj} {od : Option Obj} {b tb : Value}
theorem ifBound_objNe {M : Model} {args : List Value} {Q : Option Value → Shared → Prop} (X : K.In s.heap) (I : PySem.W.InstAt s.heap x ox C od) (hs : PySem.W.findIn K (.ref C) "__ne__" = some (some (.builtin "object.__ne__")))
  (h : wpAny M A (call (.builtin "object.__ne__") (.ref x :: args)) (fun v => Q (some v)) E s) : wpAny M A (callSpecialIfBound? (.ref x) "__ne__" args) Q E s := by
 simp only [callSpecialIfBound?, bindSpecialIfBound?]
 refine wpAny_holding (wpAny_bind (wpAny_bind (wpAny_bind (I.type.here ((PySem.W.looks_findIn X hs).here ?_)))))
 refine wpAny_bind (wpAny_askSetting (wpAny_ite ?_))
 have fin : wpAny M A (call (.builtin "object.__ne__") ([.ref x] ++ args) >>= fun v => pure (some v)) Q E s := wpAny_bind (wpAny_mono h (fun v s' h' => wpAny_pure h') fun _ _ h' => h')
 split
 ·exact wpAny_bind (wpAny_of_eq (F.cmp_object.ne.bind _) (wpAny_pure (by exact fin)))
 ·exact wpAny_tryCatch (wpAny_bind (wpAny_of_eq (F.cmp_object.ne.bind _) (wpAny_pure (by exact fin))))
theorem chk_ne {M : Model} {rest : List Value} {Q : Unit → Shared → Prop} (hi : PySem.W.Looks M s.heap (isInstance (.ref x) (.type "object")) true) (ha : argsOk "object.__ne__" ⟨.ref x :: rest, []⟩) (q : Q () s) :
  wpAny M A (checkBuiltinCall "object.__ne__" ⟨.ref x :: rest, []⟩) Q E s := PySem.W.check_slot F.cmpKind_ne F.cmpSplit_ne hi ha q
theorem ne_own {Q : Value → Shared → Prop} (hu : A.units + 1 < cLine) (X : K.In s.heap) (I : PySem.W.InstAt s.heap x ox C od) (hm : PySem.W.mroIn K C (.type "object") = some true) (hb : PySem.W.Looks (model prog w) s.heap (typeOf b) tb) (hn : PySem.W.notFirst K C tb = true)
   (hs : PySem.W.findIn K (.ref C) "__ne__" = some (some (.builtin "object.__ne__"))) (he : PySem.W.findIn K (.ref C) "__eq__" = some (some (.ref f))) (hf : PySem.W.isFn K (.ref f) = true)
   (h : wpAny (model prog w) A.in1 (call (.ref f) [.ref x, b]) (fun v s' => ∃ k, v = .bool k ∧ Q (.bool !k) s') E s) : wpAny (model prog w) A (compareOp .NotEq (.ref x) b) Q E s := by
 have ent : wpAny (model prog w) A.in1 (Builtin.«object.__ne__» ⟨[.ref x, b], []⟩) (fun fin s' => ∃ k, fin = .done (.ret (.bool !k)) ∧ Q (.bool !k) s') E s := by
   unfold Builtin.«object.__ne__»
   repeat (first
     | with_reducible refine wpAny_cRoomFor hu ?_
     | (refine wpAny_bind (m := callSpecialIfBound? (.ref x) (Str.ofString "__eq__") [b])
         (PySem.W.ifBound_K X I he hf (wpAny_mono h (fun r s' hr => by
           obtain ⟨k, rfl, hq⟩ := hr
           repeat (first | exact ⟨k, rfl, hq⟩ | exact wpAny_pure ⟨k, rfl, hq⟩ | (refine wpAny_bind (m := truthy (.bool _)) (wpAny_truthy_bool ?_)) | wp_step)) fun _ _ e => e)))
     | wp_step)
 have hi : PySem.W.Looks (model prog w) s.heap (isInstance (.ref x) (.type "object")) true := I.type.andThen (PySem.W.looks_mroIn X hm)
 have ha : argsOk "object.__ne__" ⟨.ref x :: [b], []⟩ := F.cmpArgs_ne _ _
 have cl : wpAny (model prog w) A (call (.builtin "object.__ne__") [.ref x, b]) (fun v s' => ∃ k, v = .bool k ∧ Q (.bool k) s') E s := by
   refine wpAny_call (codeAny_call_builtin F.cmp_object.ne.plain F.cmpEntry_ne (chk_ne hi ha (wpAny_mono ent ?_ ?_)))
   · intro fin s' hf'
     obtain ⟨k, rfl, hq⟩ := hf'
     exact ⟨_, rfl, hq⟩
   · exact fun _ _ e => e
 have one : wpAny (model prog w) A (tryCompare (.ref x) "__ne__" b) (fun r s' => ∃ v, r = some v ∧ Q v s') E s := by
   unfold tryCompare
   refine wpAny_bind (ifBound_objNe X I hs (wpAny_mono cl (fun v s' hv => ?_) fun _ _ e => e))
   obtain ⟨k, rfl, hq⟩ := hv
   exact wpAny_pure ⟨_, rfl, hq⟩
 unfold compareOp richCompare
 simp only [oneThing_ref]
 refine wpAny_holding (wpAny_bind (wpAny_cRoomFor (Nat.lt_of_succ_lt hu) ?_))
 rw [cmpInfo_NotEq]
 dsimp only
 refine wpAny_bind (I.type.here (wpAny_bind (hb.here ?_)))
 split
 · rename_i q
   have e : PySem.W.subIn K tb (.ref C) = some false := by
     rcases Bool.or_eq_true_iff.mp hn with e | e
     · rw [beq_iff_eq.mp e] at q; simp at q
     · exact beq_iff_eq.mp e
   refine wpAny_bind ((PySem.W.looks_subIn X e).here ?_)
   simp only [Bool.false_eq_true, if_false]
   refine wpAny_bind (wpAny_mono one (fun r s' z => ?_) fun _ _ e => e)
   obtain ⟨v, rfl, hq⟩ := z
   exact wpAny_pure hq
 · refine wpAny_bind (wpAny_pure ?_)
   simp only [Bool.false_eq_true, if_false]
   refine wpAny_bind (wpAny_mono one (fun r s' z => ?_) fun _ _ e => e)
   obtain ⟨v, rfl, hq⟩ := z
   exact wpAny_pure hq
end
end Ev
namespace Ev
open PySem PySem.Spec PyProof.Rows L2 Calls
def tyN : Nat → String
 | 0 => "NoneType" | 1 => "bool" | 2 => "int" | 3 => "str" | 4 => "tuple" | 5 => "list" | _ => "dict"
def tyV (T : Tb) : Sum Nat Nat → Value
 | .inl n => .type (tyN n)
 | .inr C => .ref (T.ca C)
structure ClsF (T : Tb) (K : PySem.W.Frag) (p : Pg) (C : Nat) (c : Cl) : Prop where
 cl : Cls K (T.ca C)
 ha : PySem.W.findIn K (.ref (T.ca C)) "__class__" = some (some (.builtin "object.__class__"))
 hn : PySem.W.specialIn K (.builtin "object.__class__") "__get__" = some (some (.builtin "getset_descriptor.__get__"))
 tk : PySem.W.takesIn K (.builtin "object.__class__") = some true
 hm : PySem.W.mroIn K (T.ca C) (.type "object") = some true
 kit1 : ∀ n, 1 ≤ n → n ≤ 5 → PySem.W.kitOne K (.ref (T.ca C)) (.type (tyN n)) = some false
 kit2 : ∀ n, PySem.W.kitOne K (.type (tyN n)) (.ref (T.ca C)) = some false
 kit3 : ∀ D d, clsG p D = some d → PySem.W.kitOne K (.ref (T.ca C)) (.ref (T.ca D)) = some (subC p C D)
 nfT : c.meths.lookup p.sEq ≠ none → ∀ n, PySem.W.notFirst K (T.ca C) (.type (tyN n)) = true
 nfC : c.meths.lookup p.sEq ≠ none → ∀ D d, clsG p D = some d → PySem.W.notFirst K (T.ca C) (.ref (T.ca D)) = true
 ne : c.meths.lookup p.sEq ≠ none → PySem.W.findIn K (.ref (T.ca C)) "__ne__" = some (some (.builtin "object.__ne__"))
 sf : PySem.W.selfFirst K (T.ca C) = true
 na : ∀ f, c.flds.contains f = true → NoAttr K (T.ca C) (T.sy f)
 mt : ∀ m f, c.meths.lookup m = some f → Meth K (T.ca C) (T.sy m) (T.fa f)
 pr : ∀ x f, c.props.lookup x = some f → ∃ q, PropOf K (T.ca C) (T.sy x) q (T.fa f)
 co : ∀ x w, c.consts.lookup x = some w → ∃ v u, vC w = some v ∧ Con K (T.ca C) (T.sy x) v u
structure GF (T : Tb) (p : Pg) (K : PySem.W.Frag) : Prop where
 hK : T.K = K
 inj : ∀ i j, T.sy i = T.sy j → i = j
 cls : ∀ C c, clsG p C = some c → ClsF T K p C c
 sEq : T.sy p.sEq = "__eq__"
 sLen : T.sy p.sLen = "__len__"
 sIn : T.sy p.sIn = "__contains__"
 sRepr : T.sy p.sRepr = "__repr__"
 sAdd : T.sy p.sAdd = "__add__"
 sMul : T.sy p.sMul = "__mul__"
def FullF (T : Tb) (X : Cx) (k : Nat) (cal : Bool → Nat → List W → List OO → RC) (f np : Nat) : Prop :=
 ∃ fd ps, FnOk X.prog X.w X.K X.mg X.base (L2.CX X.prog X.w) k (T.fa f) fd ps (spF T np (cal false f)) ∧ (∀ ws s, ws.length ≠ np → cal false f ws s = .stk) ∧ ∀ (s : Shared) (us : List Value), X.K.In s.heap → us.length = np → BindsTo s fd ⟨us, []⟩ (ps.zip us)
structure CalM (T : Tb) (p : Pg) (X : Cx) (k : Nat) (cal : Bool → Nat → List W → List OO → RC) : Prop where
 room : Room (k + 1) X.A
 mt : ∀ C c m f, clsG p C = some c → c.meths.lookup m = some f → ∃ np, FullF T X k cal f np
 pr : ∀ C c m f, clsG p C = some c → c.props.lookup m = some f → ∃ np, FullF T X k cal f np
section
variable {T : Tb} {X : Cx} {Wx : WX} {p : Pg} {cal : Bool → Nat → List W → List OO → RC} {c : Cf} {st : St} {σ : L2.St} {H : Hp} {pins : List (Addr × Obj)} {s : Shared} {k f np : Nat} {A : Around} {Q : VK}
theorem own_run (F : FullF T X k cal f np) (hA : A.frames = X.A.frames) (hr : Room k A) (tk : Takes X Wx) {ws : List W} {vs : List V} {us : List Value} (I : Inv X pins σ H s) (h : RSt T c st σ H) (ra : relA T σ c H ws vs) (qa : Vals vs us)
  (q : Post T Wx (relV T σ) c σ H (callR cal false f ws st) Q) : wpAny (model X.prog X.w) A (call (.ref (T.fa f)) us) (EP X pins σ Q) X.xe s := by
 obtain ⟨fd, ps, F1, ar, hb⟩ := F
 by_cases ol : vs.length = np
 ·refine wpAny_call (codeAny_mono (call_run (args := ⟨us, []⟩) hA hr tk F1 (hb s us I.kIn (by rw [← qa.length]; exact ol)) ol I h ra qa q) fun r s' z => ?_)
  cases r with
  | error e => exact z
  | ok fl => cases fl <;> first | exact z | exact z.elim
 ·unfold callR at q
  rw [ar _ _ (by rw [ra.1]; exact ol)] at q
  exact (show False from by
   cases ho : okvs ws <;> simp [ho, RC.at] at q <;> exact q).elim
theorem relA_cons {w : W} {v : V} {ws : List W} {vs : List V} (h : RV T c σ H w v) (t : relA T σ c H ws vs) : relA T σ c H (w :: ws) (v :: vs) := ⟨by simp [t.1], fun i x y e1 e2 => by
 cases i with
 | zero => simp at e1 e2; subst e1; subst e2; exact h
 | succ i => exact t.2 i x y (by simpa using e1) (by simpa using e2)⟩
theorem relA_nil' : relA T σ c H [] [] := ⟨rfl, fun i w v e => by simp at e⟩
theorem clsOf_ok (h : RSt T c st σ H) {w : W} {v : V} (r : RV T c σ H w v) {C : Nat} (e : clsOf st w = some C) : ∃ a dx ns xs vs, v = .ref a ∧ look st w = some (.ins C ns xs) ∧ H a = some (.ins (T.ca C) dx ((ns.map T.sy).zip vs)) ∧ ns.length = vs.length ∧ RWs T c.lv c.nf H xs vs := by
 unfold clsOf at e
 cases q : look st w with
 | none => simp [q] at e
 | some o =>
  cases o with
  | ins C' ns xs =>
   simp [q] at e; subst e
   obtain ⟨a, e1, dx, vs, h1, h2, h3⟩ := look_ok h r q
   exact ⟨a, dx, ns, xs, vs, e1, rfl, h1, h2, h3⟩
  | lst _ => simp [q] at e
  | dct _ _ => simp [q] at e
  | tab => simp [q] at e
  | dnk _ _ => simp [q] at e
theorem inst_of (I : Inv X pins σ H s) {a C dx : Addr} {fs : List (Str × V)} (e : H a = some (.ins C dx fs)) : ∃ od, PySem.W.InstAt s.heap a (PySem.W.instObj C dx) C (some od) := by
 obtain ⟨mA, J, _⟩ := ins_get I.hok e
 obtain ⟨od, J, _⟩ := J.look
 exact ⟨od, J⟩
theorem tyx_of (G : GF T p X.K) (h : RSt T c st σ H) {w : W} {v : V} (r : RV T c σ H w v) {t : Sum Nat Nat} (e : tyW st w = some t) (hc : ∀ C, t = .inr C → ∃ cc, clsG p C = some cc) : TyX X.K H v (tyV T t) := by
 have lk : (∀ o, look st w = some o → some t = (match o with | .lst _ => some (.inl 5) | .dct _ _ => some (.inl 6) | .ins C _ _ => some (.inr C) | .tab => none | .dnk _ _ => none) → TyX X.K H v (tyV T t)) := fun o q e2 => by
  obtain ⟨a, e1, ro⟩ := look_ok h r q
  subst e1
  cases o with
  | lst ws =>
   obtain ⟨vs, h1, _⟩ := ro
   cases e2
   exact .base (.lst h1)
  | dct ks ws =>
   obtain ⟨vs, h1, _⟩ := ro
   cases e2
   exact .base (.dK h1)
  | ins C ns ws =>
   obtain ⟨dx, vs, h1, _⟩ := ro
   cases e2
   obtain ⟨cc, e3⟩ := hc C rfl
   have f := G.cls C cc e3
   exact .base (.ins h1 f.cl f.ha f.hn f.tk f.hm)
  | tab => cases e2
  | dnk _ _ => cases e2
 have go : ∀ o, look st w = some o → tyW st w = (match look st w with | some (.lst _) => some (.inl 5) | some (.dct _ _) => some (.inl 6) | some (.ins C _ _) => some (.inr C) | some .tab => none | some (.dnk _ _) => none | none => none) → TyX X.K H v (tyV T t) := fun o q e2 => by
  refine lk o q ?_
  rw [e, q] at e2
  cases o <;> exact e2
 cases w with
 | non => simp [tyW] at e; subst e; cases r; exact .base .non
 | bl b => simp [tyW] at e; subst e; cases r; exact .base (.bl b)
 | int i => simp [tyW] at e; subst e; cases r; exact .base (.int i)
 | str x => simp [tyW] at e; subst e; obtain ⟨rfl, _⟩ := r; exact .base (.str _)
 | tup ws =>
  simp [tyW] at e; subst e
  obtain ⟨a, vs, e1, e2, _⟩ : ∃ a vs, v = .ref a ∧ CT T.K c.nf H a vs ∧ RWs T c.lv c.nf H ws vs := by simpa [RV, RW] using r
  subst e1
  rcases e2 with ⟨⟨_, _, e2⟩, _⟩ | ⟨_, o, n, e2, e3, _⟩
  ·exact .fTuple e2
  ·rw [G.hK] at e2; exact .kTuple e2 e3
 | scr ns =>
  simp [tyW] at e; subst e
  obtain ⟨a, e1, e2⟩ : ∃ a, v = .ref a ∧ ((Rd H a (.lst (ns.map V.int)) ∧ ¬ c.nf a) ∨ KL T.K a (ns.map V.int)) := by simpa [RV, RW] using r
  subst e1
  rcases e2 with ⟨e2 | ⟨u, e2⟩, _⟩ | ⟨o, its, n, e2, e3, _⟩
  ·exact .base (.lst e2)
  ·exact .base (.frz e2)
  ·rw [G.hK] at e2; exact .kList e2 e3
 | glo _ => simp [tyW] at e
 | exn _ _ _ => simp [tyW] at e
 | lst ws => exact go (.lst ws) rfl rfl
 | dct ks ws => exact go (.dct ks ws) rfl rfl
 | obj C ns ws => exact go (.ins C ns ws) rfl rfl
 | loc n =>
  cases q : look st (.loc n) with
  | none => simp [tyW, q] at e
  | some o => exact go o q rfl
 | sl n =>
  cases q : look st (.sl n) with
  | none => simp [tyW, q] at e
  | some o => exact go o q rfl
theorem looks_ty (I : Inv X pins σ H s) {v : V} {u t : Value} (rx : RelV v u) (ty : TyX X.K H v t) : PySem.W.Looks (model X.prog X.w) s.heap (typeOf u) t := by
 obtain ⟨P, kx, hp, _⟩ := kit_of I rx ty
 exact kx.ty _ _ I.kIn hp
theorem relV_cmp {pins : List (Addr × Obj)} {v : Value} {s' : Shared} {Q : VK} (h : EP X pins σ Q v s') : PySem.W.CmpBack (EP X pins σ Q) v s' := by
 obtain ⟨z, H', I', rz, q⟩ := h
 cases v <;> first | exact ⟨z, H', I', rz, q⟩ | skip
 exfalso
 cases z <;> simp [L2.RelV] at rz
theorem metOf_ok (G : GF T p X.K) {C m f : Nat} (e : metOf p C m = some f) : ∃ cc, clsG p C = some cc ∧ cc.meths.lookup m = some f := by
 unfold metOf at e
 cases q : clsG p C with
 | none => simp [q] at e
 | some cc => exact ⟨cc, rfl, by simpa [q] using e⟩
theorem ownR_ok {m : Nat} {a : W} {ws : List W} {els : R W} {C : Nat} {rel : Cf → Hp → W → V → Prop} (e : clsOf st a = some C) (q : Post T Wx rel c σ H (ownR p cal m a ws st els) Q) : ∃ f, metOf p C m = some f ∧ Post T Wx rel c σ H (callR cal false f (a :: ws) st) Q := by
 unfold ownR at q
 simp only [e] at q
 cases q2 : metOf p C m with
 | none => simp [q2] at q; exact q.elim
 | some f => exact ⟨f, rfl, by simpa [q2] using q⟩
def blQ (T : Tb) (σ : L2.St) (Q : VK) (g : Bool → Bool) : VK := fun z H => ∃ k, z = .bl k ∧ Q (.bl (g k)) H
theorem blR_ok {r : R W} (q : Post T Wx (relV T σ) c σ H (blR r) Q) : Post T Wx (relV T σ) c σ H r (blQ T σ Q id) := by
 refine (Post.bind (rel := relV T σ) q).mono fun v H1 ⟨c1, st1, w, _, h1, r1, q1⟩ => ?_
 cases w <;> first | exact (show False from q1).elim | skip
 rename_i b
 exact ⟨b, r1, Post.ret q1 h1 (show RV T c1 σ H1 (.bl b) (.bl b) from rfl)⟩
theorem notR_ok {r : R W} (q : Post T Wx (relV T σ) c σ H (notR r) Q) : Post T Wx (relV T σ) c σ H r (blQ T σ Q not) := by
 refine (Post.bind (rel := relV T σ) q).mono fun v H1 ⟨c1, st1, w, _, h1, r1, q1⟩ => ?_
 cases w <;> first | exact (show False from q1).elim | skip
 rename_i b
 exact ⟨b, r1, Post.ret q1 h1 (show RV T c1 σ H1 (.bl !b) (.bl !b) from rfl)⟩
variable {a b : W} {v u : V} {vv uu : Value}
theorem right_ok (G : GF T p X.K) (h : RSt T c st σ H) (I : Inv X pins σ H s) (r : RV T c σ H b u) (qu : RelV u uu) {t : Sum Nat Nat} (e : tyW st b = some t) {C : Nat} {cc : Cl} (hc : clsG p C = some cc) (hm : cc.meths.lookup p.sEq ≠ none) (hg : ∀ D, t = .inr D → ∃ d, clsG p D = some d) :
  PySem.W.Looks (model X.prog X.w) s.heap (typeOf uu) (tyV T t) ∧ PySem.W.notFirst X.K (T.ca C) (tyV T t) = true := by
 refine ⟨looks_ty I qu (tyx_of G h r e hg), ?_⟩
 have f := G.cls C cc hc
 cases t with
 | inl n => exact f.nfT hm n
 | inr D =>
  obtain ⟨d, hd⟩ := hg D rfl
  exact f.nfC hm D d hd
theorem eq_own (G : GF T p X.K) (CM : CalM T p X k cal) (tk : Takes X Wx) (I : Inv X pins σ H s) (h : RSt T c st σ H) (r1 : RV T c σ H a v) (r2 : RV T c σ H b u) (qv : RelV v vv) (qu : RelV u uu) {C : Nat} (e : clsOf st a = some C) {t : Sum Nat Nat} (et : tyW st b = some t) (hg : ∀ D, t = .inr D → ∃ d, clsG p D = some d)
  (q : Post T Wx (relV T σ) c σ H (ownR p cal p.sEq a [b] st .stk) Q) : wpAny (model X.prog X.w) X.A (compareOp .Eq vv uu) (EP X pins σ Q) X.xe s := by
 obtain ⟨f, ef, q⟩ := ownR_ok e q
 obtain ⟨cc, hc, hm⟩ := metOf_ok G ef
 obtain ⟨x, dx, ns, xs, vs, rfl, _, hx, _, _⟩ := clsOf_ok h r1 e
 cases qv
 obtain ⟨np, Ff⟩ := CM.mt C cc _ f hc hm
 obtain ⟨m, hF⟩ := I.fr
 obtain ⟨od, J⟩ := inst_of I hx
 have me := (G.cls C cc hc).mt _ _ hm
 rw [G.sEq] at me
 obtain ⟨l1, l2⟩ := right_ok G h I r2 qu et hc (by rw [hm]; simp) hg
 show wpAny (model X.prog X.w) X.A (richCompare .Eq (.ref x) uu) (EP X pins σ Q) X.xe s
 refine PySem.W.cmp_K (op := .Eq) CM.room.units0 hF I.ok.mod.kin J l1 l2 me.at_ me.fn ?_
 exact wpAny_mono (own_run Ff rfl (CM.room.mono (Nat.le_succ _)) tk I h (relA_cons r1 (relA_cons r2 relA_nil')) (.cons rfl (.cons qu .nil)) q) (fun v s' z => relV_cmp z) fun _ _ z => z
theorem room_in1 {A : Around} (r : Room (k + 1) A) : A.units + 1 < cLine := by have := r.un; omega
theorem nee_own (G : GF T p X.K) (CM : CalM T p X k cal) (tk : Takes X Wx) (I : Inv X pins σ H s) (h : RSt T c st σ H) (r1 : RV T c σ H a v) (r2 : RV T c σ H b u) (qv : RelV v vv) (qu : RelV u uu) {C : Nat} (e : clsOf st a = some C) {t : Sum Nat Nat} (et : tyW st b = some t) (hg : ∀ D, t = .inr D → ∃ d, clsG p D = some d)
  (q : Post T Wx (relV T σ) c σ H (ownR p cal p.sEq a [b] st .stk) (blQ T σ Q not)) : wpAny (model X.prog X.w) X.A (compareOp .NotEq vv uu) (EP X pins σ Q) X.xe s := by
 obtain ⟨f, ef, q⟩ := ownR_ok e q
 obtain ⟨cc, hc, hm⟩ := metOf_ok G ef
 obtain ⟨x, dx, ns, xs, vs, rfl, _, hx, _, _⟩ := clsOf_ok h r1 e
 cases qv
 obtain ⟨np, Ff⟩ := CM.mt C cc _ f hc hm
 obtain ⟨od, J⟩ := inst_of I hx
 have cf := G.cls C cc hc
 have me := cf.mt _ _ hm
 rw [G.sEq] at me
 obtain ⟨l1, l2⟩ := right_ok G h I r2 qu et hc (by rw [hm]; simp) hg
 refine ne_own (room_in1 CM.room) I.kIn J cf.hm l1 l2 (cf.ne (by rw [hm]; simp)) me.at_ me.fn ?_
 refine wpAny_mono (own_run (A := X.A.in1) Ff rfl CM.room.in1 tk I h (relA_cons r1 (relA_cons r2 relA_nil')) (.cons rfl (.cons qu .nil)) q) (fun v s' z => ?_) fun _ _ z => z
 obtain ⟨y, H', I', ry, kk, rfl, q'⟩ := z
 cases ry
 exact ⟨kk, rfl, .bl !kk, H', I', rfl, q'⟩
theorem in_own (G : GF T p X.K) (CM : CalM T p X k cal) (tk : Takes X Wx) (I : Inv X pins σ H s) (h : RSt T c st σ H) (r1 : RV T c σ H a v) (r2 : RV T c σ H b u) (qv : RelV v vv) (qu : RelV u uu) {C : Nat} (e : clsOf st b = some C) {neg : Bool}
  (q : Post T Wx (relV T σ) c σ H (ownR p cal p.sIn b [a] st .stk) (blQ T σ Q fun k => if neg then !k else k)) : wpAny (model X.prog X.w) X.A (compareOp (if neg then .NotIn else .In) vv uu) (EP X pins σ Q) X.xe s := by
 obtain ⟨f, ef, q⟩ := ownR_ok e q
 obtain ⟨cc, hc, hm⟩ := metOf_ok G ef
 obtain ⟨x, dx, ns, xs, vs, rfl, _, hx, _, _⟩ := clsOf_ok h r2 e
 cases qu
 obtain ⟨np, Ff⟩ := CM.mt C cc _ f hc hm
 obtain ⟨m, hF⟩ := I.fr
 obtain ⟨od, J⟩ := inst_of I hx
 have cf := G.cls C cc hc
 have me := cf.mt _ _ hm
 rw [G.sIn] at me
 have run := own_run Ff rfl (CM.room.mono (Nat.le_succ _)) tk I h (relA_cons r2 (relA_cons r1 relA_nil')) (.cons rfl (.cons qv .nil)) q
 cases neg with
 | false =>
  refine PySem.W.in_K hF I.ok.mod.kin J me.at_ me.fn (wpAny_mono run (fun v s' z => ?_) fun _ _ z => z)
  obtain ⟨y, H', I', ry, kk, rfl, q'⟩ := z
  cases ry
  exact wpAny_truthy_bool ⟨.bl kk, H', I', rfl, by simpa using q'⟩
 | true =>
  refine PySem.W.notIn_K hF I.ok.mod.kin J me.at_ me.fn (wpAny_mono run (fun v s' z => ?_) fun _ _ z => z)
  obtain ⟨y, H', I', ry, kk, rfl, q'⟩ := z
  cases ry
  exact wpAny_truthy_bool ⟨.bl !kk, H', I', rfl, by simpa using q'⟩
theorem bin_own (G : GF T p X.K) (CM : CalM T p X k cal) (tk : Takes X Wx) (I : Inv X pins σ H s) (h : RSt T c st σ H) (r1 : RV T c σ H a v) (r2 : RV T c σ H b u) (qv : RelV v vv) (qu : RelV u uu) {C : Nat} (e : clsOf st a = some C) (e2 : clsOf st b = some C) {m : Nat} {op : Operator} (hop : T.sy m = PySem.dunder op.info.2)
  (q : Post T Wx (relV T σ) c σ H (ownR p cal m a [b] st .stk) Q) : wpAny (model X.prog X.w) X.A (binaryOp op vv uu) (EP X pins σ Q) X.xe s := by
 obtain ⟨f, ef, q⟩ := ownR_ok e q
 obtain ⟨cc, hc, hm⟩ := metOf_ok G ef
 obtain ⟨x, dx, ns, xs, vs, rfl, _, hx, _, _⟩ := clsOf_ok h r1 e
 obtain ⟨y, dy, ns', xs', vs', rfl, _, hy, _, _⟩ := clsOf_ok h r2 e2
 cases qv
 cases qu
 obtain ⟨np, Ff⟩ := CM.mt C cc _ f hc hm
 obtain ⟨m', hF⟩ := I.fr
 obtain ⟨od, J⟩ := inst_of I hx
 obtain ⟨od', J'⟩ := inst_of I hy
 have cf := G.cls C cc hc
 have me := cf.mt _ _ hm
 rw [hop] at me
 refine PySem.W.binop_K hF I.ok.mod.kin J J'.type cf.sf me.at_ me.fn ?_
 exact wpAny_mono (own_run Ff rfl (CM.room.mono (Nat.le_succ _)) tk I h (relA_cons r1 (relA_cons r2 relA_nil')) (.cons rfl (.cons rfl .nil)) q) (fun v s' z => relV_cmp z) fun _ _ z => z
theorem len_own (G : GF T p X.K) (CM : CalM T p X k cal) (tk : Takes X Wx) (I : Inv X pins σ H s) (h : RSt T c st σ H) (r1 : RV T c σ H a v) (qv : RelV v vv) {C : Nat} (e : clsOf st a = some C)
  (q : Post T Wx (relV T σ) c σ H (ownR p cal p.sLen a [] st .stk) fun z H => ∃ i : Int, z = .int i ∧ 0 ≤ i ∧ i < 2 ^ 63 ∧ Q (.int i) H) : wpAny (model X.prog X.w) X.A (call (.builtin "len") [vv]) (EP X pins σ Q) X.xe s := by
 obtain ⟨f, ef, q⟩ := ownR_ok e q
 obtain ⟨cc, hc, hm⟩ := metOf_ok G ef
 obtain ⟨x, dx, ns, xs, vs, rfl, _, hx, _, _⟩ := clsOf_ok h r1 e
 cases qv
 obtain ⟨np, Ff⟩ := CM.mt C cc _ f hc hm
 obtain ⟨m, hF⟩ := I.fr
 obtain ⟨od, J⟩ := inst_of I hx
 have cf := G.cls C cc hc
 have me := cf.mt _ _ hm
 rw [G.sLen] at me
 refine PySem.W.len_K hF I.ok.mod.kin J me.at_ me.fn (wpAny_mono (own_run (A := X.A.in1) Ff rfl CM.room.in1 tk I h (relA_cons r1 relA_nil') (.cons rfl .nil) q) (fun v s' z => ?_) fun _ _ z => z)
 obtain ⟨y, H', I', ry, i, rfl, h0, h1, q'⟩ := z
 obtain ⟨t, rfl⟩ := ry
 exact ⟨⟨h0, h1⟩, .int i, H', I'.tok _, ⟨_, rfl⟩, q'⟩
theorem repr_own (G : GF T p X.K) (CM : CalM T p X k cal) (tk : Takes X Wx) (I : Inv X pins σ H s) (h : RSt T c st σ H) (r1 : RV T c σ H a v) (qv : RelV v vv) {C : Nat} (e : clsOf st a = some C)
  (q : Post T Wx (relV T σ) c σ H (ownR p cal p.sRepr a [] st .stk) fun z H => ∃ x, z = .str x ∧ Q (.str x) H) : wpAny (model X.prog X.w) X.A (call (.builtin "repr") [vv]) (EP X pins σ Q) X.xe s := by
 obtain ⟨f, ef, q⟩ := ownR_ok e q
 obtain ⟨cc, hc, hm⟩ := metOf_ok G ef
 obtain ⟨x, dx, ns, xs, vs, rfl, _, hx, _, _⟩ := clsOf_ok h r1 e
 cases qv
 obtain ⟨np, Ff⟩ := CM.mt C cc _ f hc hm
 obtain ⟨m, hF⟩ := I.fr
 obtain ⟨od, J⟩ := inst_of I hx
 have cf := G.cls C cc hc
 have me := cf.mt _ _ hm
 rw [G.sRepr] at me
 refine PySem.W.repr_K (room_in1 CM.room) hF I.ok.mod.kin J me.at_ me.fn (wpAny_mono (own_run (A := X.A.in1) Ff rfl CM.room.in1 tk I h (relA_cons r1 relA_nil') (.cons rfl .nil) q) (fun v s' z => ?_) fun _ _ z => z)
 obtain ⟨y, H', I', ry, x, rfl, q'⟩ := z
 obtain ⟨t, rfl⟩ := ry
 exact ⟨.str x, H', I', ⟨_, rfl⟩, q'⟩
end
end Ev
namespace Ev
open PySem PySem.Spec PyProof.Rows L2 Calls
def notStar : Expr → Bool
 | .Starred .. => false
 | _ => true
theorem star_ok {e : Expr} {es : List Expr} {env : Env} (h : notStar e = true) : starEach (e :: es) env = (false, eval e env) :: starEach es env := by
 cases e <;> first | rfl | cases h
theorem star_any {pos : Pos} {env : Env} : ∀ {es : List Expr}, es.all notStar = true → (backTo pos (starEach es env)).any (·.1) = false
 | [], _ => rfl
 | e :: es, h => by
  rw [List.all_cons, Bool.and_eq_true] at h
  rw [star_ok h.1]
  have ih := star_any (pos := pos) (env := env) h.2
  unfold backTo at ih ⊢
  rw [List.map_cons, List.any_cons, ih]
  rfl
theorem star_all {pos : Pos} {env : Env} : ∀ {es : List Expr}, es.all notStar = true → (backTo pos (starEach es env)).all (fun x => !x.1) = true
 | [], _ => rfl
 | e :: es, h => by
  rw [List.all_cons, Bool.and_eq_true] at h
  rw [star_ok h.1]
  have ih := star_all (pos := pos) (env := env) h.2
  unfold backTo at ih ⊢
  rw [List.map_cons, List.all_cons, ih]
  rfl
def plainT : Expr → Bool
 | .UnaryOp .Not .. => false
 | .BoolOp .. => false
 | .IfExp .. => false
 | .Compare .. => false
 | _ => true
theorem plainT_ok {e : Expr} {env : Env} (h : plainT e = true) : ∀ whole, isTrue e env whole = (do let v ← whole; standAt e.pos; holding [v] (truthy v)) := by
 intro whole
 cases e <;> first | rfl | cases h | skip
 rename_i op x pos
 cases op <;> first | rfl | cases h
def noSup : Expr → Bool
 | .Call (.Name _ _) [] [] _ => false
 | _ => true
theorem noSup_ok {e : Expr} {f : Str} {env : Env} (h : noSup e = true) : attributeBase e f env (eval e env) = eval e env := by
 unfold attributeBase
 split
 ·cases h
 ·rfl
def notSlice : Expr → Bool
 | .Slice .. => false
 | _ => true
theorem plainIx_ok {b : Expr} (h : notSlice b = true) : PlainIx b := by
 intro o i
 cases b <;> first | rfl | cases h
def notSet : Expr → Bool
 | .Set .. => false
 | _ => true
theorem behind_ok {op : CmpOp} {b : Expr} (h : notSet b = true) : behindInMarks op b = false := by
 cases b <;> first | rfl | cases h
section
variable {T : Tb} {X : Cx} {Wx : WX} {p : Pg} {cal : Bool → Nat → List W → List OO → RC} {c : Cf} {st : St} {σ : L2.St} {H : Hp} {pins : List (Addr × Obj)} {s : Shared} {k : Nat}
structure XO (T : Tb) (p : Pg) (X : Cx) (Wx : WX) (k : Nat) (cal : Bool → Nat → List W → List OO → RC) : Prop where
 G : GF T p X.K
 M : CalM T p X k cal
 tk : Takes X Wx
 deep : Deep X
 calm : X.calm = true
 nd : X.N.Nodup
theorem tyG_ok {w : W} {t : Sum Nat Nat} (e : tyG p st w = some t) : tyW st w = some t ∧ ∀ D, t = .inr D → ∃ d, clsG p D = some d := by
 unfold tyG at e
 cases q : tyW st w with
 | none => simp [q] at e
 | some t' =>
  cases t' with
  | inl n => simp [q] at e; subst e; exact ⟨rfl, fun D z => nomatch z⟩
  | inr D =>
   cases q2 : clsG p D with
   | none => simp [q, q2] at e
   | some d => simp [q, q2] at e; subst e; exact ⟨rfl, fun D' z => by cases z; exact ⟨d, q2⟩⟩
theorem cmp_all (O : XO T p X Wx k cal) {op : Cop} {a b : W} {v u : V} {vv uu : Value} {Q : VK} (I : Inv X pins σ H s) (h : RSt T c st σ H) (r1 : RV T c σ H a v) (r2 : RV T c σ H b u) (qv : RelV v vv) (qu : RelV u uu)
  (q : Post T Wx (relV T σ) c σ H (cmpR p cal op a b st) Q) : wpAny (model X.prog X.w) X.A (compareOp (cpOf op) vv uu) (EP X pins σ Q) X.xe s := by
 have plain : Post T Wx (relV T σ) c σ H (.lift st ((cmpW op (vw st a) (vw st b)).map .bl)) Q → wpAny (model X.prog X.w) X.A (compareOp (cpOf op) vv uu) (EP X pins σ Q) X.xe s := fun q => by
  obtain ⟨w, e, q⟩ := lift_some q
  cases e2 : cmpW op (vw st a) (vw st b) with
  | none => simp [e2] at e
  | some kk =>
   simp [e2] at e
   subst e
   exact cmp_ok O.G.hK O.deep e2 I (rvv h r1) (rvv h r2) qv qu (Post.ret q h (show RV T c σ H (.bl kk) (.bl kk) from rfl))
 cases op with
 | eq =>
  simp only [cmpR] at q
  cases e : clsOf st a with
  | none => simp only [e] at q; exact plain q
  | some C =>
   simp only [e] at q
   cases et : tyG p st b with
   | none => simp only [et] at q; exact (show False from q).elim
   | some t =>
    simp only [et] at q
    obtain ⟨g1, g2⟩ := tyG_ok et
    exact eq_own O.G O.M O.tk I h r1 r2 qv qu e g1 g2 ((blR_ok q).mono fun z H ⟨kk, e, q⟩ => by subst e; exact q)
 | ne =>
  simp only [cmpR] at q
  cases e : clsOf st a with
  | none => simp only [e] at q; exact plain q
  | some C =>
   simp only [e] at q
   cases et : tyG p st b with
   | none => simp only [et] at q; exact (show False from q).elim
   | some t =>
    simp only [et] at q
    obtain ⟨g1, g2⟩ := tyG_ok et
    exact nee_own O.G O.M O.tk I h r1 r2 qv qu e g1 g2 (notR_ok q)
 | inn =>
  simp only [cmpR] at q
  cases e : clsOf st b with
  | none => simp only [e] at q; exact plain q
  | some C =>
   simp only [e] at q
   exact in_own (neg := false) O.G O.M O.tk I h r1 r2 qv qu e ((blR_ok q).mono fun z H ⟨kk, e, q⟩ => ⟨kk, e, by simpa using q⟩)
 | nin =>
  simp only [cmpR] at q
  cases e : clsOf st b with
  | none => simp only [e] at q; exact plain q
  | some C =>
   simp only [e] at q
   exact in_own (neg := true) O.G O.M O.tk I h r1 r2 qv qu e ((notR_ok q).mono fun z H ⟨kk, e, q⟩ => ⟨kk, e, by simpa using q⟩)
 | isn =>
  simp only [cmpR] at q
  obtain ⟨w, e, q⟩ := lift_some q
  cases b <;> first | cases e; done | skip
  cases e1 : isnW a with
  | none => simp [e1] at e
  | some kk =>
  obtain rfl : W.bl kk = w := by simpa [e1] using e
  cases r2
  exact isn_ok e1 I r1 qv qu (Post.ret q h (show RV T c σ H (.bl kk) (.bl kk) from rfl))
 | ntn =>
  simp only [cmpR] at q
  obtain ⟨w, e, q⟩ := lift_some q
  cases b <;> first | cases e; done | skip
  cases e1 : isnW a with
  | none => simp [e1] at e
  | some kk =>
  obtain rfl : W.bl (!kk) = w := by simpa [e1] using e
  cases r2
  exact ntn_ok e1 I r1 qv qu (Post.ret q h (show RV T c σ H (.bl !kk) (.bl !kk) from rfl))
 | lt => exact plain (by simpa only [cmpR] using q)
 | le => exact plain (by simpa only [cmpR] using q)
 | gt => exact plain (by simpa only [cmpR] using q)
 | ge => exact plain (by simpa only [cmpR] using q)
variable {a b d e : Expr} {ea eb ed : E} {pos : Pos}
theorem se_cmp (O : XO T p X Wx k cal) {op : Cop} (ha : SE T X Wx a (evE p cal ea)) (hb : SE T X Wx b (evE p cal eb)) (hm : notSet b = true) : SE T X Wx (.Compare a [cpOf op] [b] pos) (evE p cal (.cmp op ea eb)) :=
 ⟨fun pins s σ H Q I ⟨c, st, h, q⟩ => by
  simp only [evE] at q
  exact wpAny_Compare1 (binT ha hb I (two h q) fun v u s2 x y H2 I2 rx ry ⟨c, st, wa, wb, h, r1, r2, q⟩ => cmp_all O I2 h r1 r2 rx ry q) (behind_ok hm)⟩
theorem cmpR_bl {op : Cop} {x y w : W} {st st1 : St} (e : cmpR p cal op x y st = .ok w st1) : ∃ b, w = .bl b := by
 have pl : ∀ {o : Option Bool}, R.lift st (o.map W.bl) = .ok w st1 → ∃ b, w = .bl b := fun {o} e => by
  cases o <;> simp [R.lift] at e
  exact ⟨_, e.1.symm⟩
 have bl : ∀ {r : R W}, blR r = .ok w st1 → ∃ b, w = .bl b := fun {r} e => by
  cases r <;> simp [blR, R.bind] at e
  split at e <;> simp at e
  exact ⟨_, e.1.symm⟩
 have nt : ∀ {r : R W}, notR r = .ok w st1 → ∃ b, w = .bl b := fun {r} e => by
  cases r <;> simp [notR, R.bind] at e
  split at e <;> simp at e
  exact ⟨_, e.1.symm⟩
 cases op <;> simp only [cmpR] at e
 ·split at e
  ·split at e
   ·exact bl e
   ·cases e
  ·exact pl e
 ·split at e
  ·split at e
   ·exact nt e
   ·cases e
  ·exact pl e
 ·exact pl e
 ·exact pl e
 ·exact pl e
 ·exact pl e
 ·split at e
  ·exact pl e
  ·simp [R.lift] at e
 ·split at e
  ·cases q : isnW x <;> simp [R.lift, q] at e
   exact ⟨_, e.1.symm⟩
  ·simp [R.lift] at e
 ·split at e
  ·exact bl e
  ·exact pl e
 ·split at e
  ·exact nt e
  ·exact pl e
theorem st_cmp (O : XO T p X Wx k cal) {op : Cop} (ha : SE T X Wx a (evE p cal ea)) (hb : SE T X Wx b (evE p cal eb)) (hm : notSet b = true) : ST T X Wx (.Compare a [cpOf op] [b] pos) (tst p cal (.cmp op ea eb)) :=
 ⟨fun pins s σ H Q I ⟨c, st, h, q⟩ => by
  have q' : Post T Wx relB c σ H ((evE p cal ea st).bind fun x st1 => (evE p cal eb st1).bind fun y st2 => (cmpR p cal op x y st2).bind fun w st3 => truR w st3) Q := by
   simp only [tst, evE] at q
   revert q
   cases evE p cal ea st with
   | ok x st1 =>
    simp only [R.bind]
    cases evE p cal eb st1 <;> exact fun q => q
   | exc x st1 => exact fun q => q
   | stk => exact fun q => q
  refine wpAny_isTrue_Compare1 (thn (ha.run pins s σ H _ I (two h q')) ?_) (behind_ok hm)
  rintro v s1 ⟨x, H1, I1, rx, z1⟩
  refine thn (hb.run pins s1 σ H1 _ I1 z1) ?_
  rintro u s2 ⟨y, H2, I2, ry, c, st, wa, wb, h, r1, r2, q⟩
  have q2 : Post T Wx (relV T σ) c σ H2 (cmpR p cal op wa wb st) fun z H => ∃ kk, z = .bl kk ∧ Q kk H := by
   cases ec : cmpR p cal op wa wb st with
   | ok w st1 =>
    obtain ⟨kk, rfl⟩ := cmpR_bl ec
    simp only [ec, R.bind, truR, truW, vw, R.lift] at q
    exact fun z H' c' s' h' r' => ⟨kk, r', q kk H' c' s' h' rfl⟩
   | exc x st1 => simp only [ec, R.bind] at q; exact q
   | stk => simp only [ec, R.bind] at q; exact (show False from q).elim
  refine thn (cmp_all O I2 h r1 r2 rx ry q2) ?_
  rintro w s3 ⟨z, H3, I3, rz, kk, rfl, q3⟩
  cases rz
  exact wpAny_truthy_bool ⟨H3, I3, q3⟩⟩
theorem se_chn (O : XO T p X Wx k cal) {o1 o2 : Cop} (ha : SE T X Wx a (evE p cal ea)) (hb : SE T X Wx b (evE p cal eb)) (hd : SE T X Wx d (evE p cal ed)) (hm : notSet d = true) : SE T X Wx (.Compare a [cpOf o1, cpOf o2] [b, d] pos) (evE p cal (.chn o1 o2 ea eb ed)) :=
 ⟨fun pins s σ H Q I ⟨c, st, h, q⟩ => by
  simp only [evE] at q
  refine Compare_chain (thn (ha.run pins s σ H _ I (two h q)) ?_) (by
   show behindInMarks _ d = false
   exact behind_ok hm)
  rintro v s1 ⟨x, H1, I1, rx, z1⟩
  refine chain_link (thn (hb.run pins s1 σ H1 _ I1 z1) ?_)
  rintro u s2 ⟨y, H2, I2, ry, c, st, wa, wb, h, r1, r2, q⟩
  refine thn (cmp_all O I2 h r1 r2 rx ry (Post.bind (rel := relV T σ) q)) ?_
  rintro w s3 ⟨z, H3, I3, rz, c3, st3, w3, S3, h3, r3, q3⟩
  cases w3 <;> first | exact (show False from q3).elim | skip
  rename_i kk
  cases r3
  cases rz
  refine wpAny_truthy_bool ?_
  cases kk with
  | false => exact ite_ff ⟨.bl false, H3, I3, rfl, Post.ret q3 h3 (show RV T c3 σ H3 (.bl false) (.bl false) from rfl)⟩
  | true =>
   refine ite_tt (chain_last (thn (hd.run pins s3 σ H3 _ I3 ⟨c3, st3, h3, Post.bind (rel := relV T σ) q3⟩) ?_))
   rintro w' s4 ⟨z', H4, I4, r4, c4, st4, w4, S4, h4, rw4, q4⟩
   exact cmp_all O I4 h4 (RV.mono S4 (RV.mono S3 r2)) rw4 ry r4 q4⟩
theorem tst_chn (O : XO T p X Wx k cal) {o1 o2 : Cop} (hm : notSet d = true) (ha : SE T X Wx a (evE p cal ea)) (hb : SE T X Wx b (evE p cal eb)) (hd : SE T X Wx d (evE p cal ed)) : ST T X Wx (.Compare a [cpOf o1, cpOf o2] [b, d] pos) (tst p cal (.chn o1 o2 ea eb ed)) :=
 ⟨fun pins s σ H Q I ⟨c, st, h, q⟩ => by
  have q' : Post T Wx relB c σ H ((evE p cal ea st).bind fun x st1 => (evE p cal eb st1).bind fun y st2 => (cmpR p cal o1 x y st2).bind fun k st3 => match k with
   | .bl true => (evE p cal ed st3).bind fun z st4 => (cmpR p cal o2 y z st4).bind fun w st5 => truR w st5
   | .bl false => .ok false st3
   | _ => .stk) Q := by
   simp only [tst, evE] at q
   revert q
   cases evE p cal ea st with
   | ok x st1 =>
    simp only [R.bind]
    cases evE p cal eb st1 with
    | ok y st2 =>
     try simp only []
     cases cmpR p cal o1 x y st2 with
     | ok kk st3 =>
      try simp only []
      cases kk <;> (try simp only []) <;> intro q <;> first | exact q | skip
      rename_i kk
      cases kk
      ·exact q
      ·revert q
       cases evE p cal ed st3 <;> exact fun q => q
     | exc x st1 => exact fun q => q
     | stk => exact fun q => q
    | exc x st1 => exact fun q => q
    | stk => exact fun q => q
   | exc x st1 => exact fun q => q
   | stk => exact fun q => q
  refine isTrue_chain (thn (ha.run pins s σ H _ I (two h q')) ?_) (by
   show behindInMarks _ d = false
   exact behind_ok hm)
  rintro v s1 ⟨x, H1, I1, rx, z1⟩
  refine test_link (thn (hb.run pins s1 σ H1 _ I1 z1) ?_)
  rintro u s2 ⟨y, H2, I2, ry, c, st, wa, wb, h, r1, r2, q⟩
  refine thn (cmp_all O I2 h r1 r2 rx ry (Post.bind (rel := relV T σ) q)) ?_
  rintro w s3 ⟨z, H3, I3, rz, c3, st3, w3, S3, h3, r3, q3⟩
  cases w3 <;> first | exact (show False from q3).elim | skip
  rename_i kk
  cases r3
  cases rz
  refine wpAny_truthy_bool ?_
  cases kk with
  | false => exact ite_ff ⟨H3, I3, Post.ret q3 h3 rfl⟩
  | true =>
   refine ite_tt (test_last (thn (hd.run pins s3 σ H3 _ I3 ⟨c3, st3, h3, Post.bind (rel := relV T σ) q3⟩) ?_))
   rintro w' s4 ⟨z', H4, I4, r4, c4, st4, w4, S4, h4, rw4, q4⟩
   have q5 : Post T Wx (relV T σ) c4 σ H4 (cmpR p cal o2 wb w4 st4) fun z H => ∃ kk, z = .bl kk ∧ Q kk H := by
    cases ec : cmpR p cal o2 wb w4 st4 with
    | ok w st1 =>
     obtain ⟨kk, rfl⟩ := cmpR_bl ec
     simp only [ec, R.bind, truR, truW, vw, R.lift] at q4
     exact fun z H' c' s' h' r' => ⟨kk, r', q4 kk H' c' s' h' rfl⟩
    | exc x st1 => simp only [ec, R.bind] at q4; exact q4
    | stk => simp only [ec, R.bind] at q4; exact (show False from q4).elim
   refine thn (cmp_all O I4 h4 (RV.mono S4 (RV.mono S3 r2)) rw4 ry r4 q5) ?_
   rintro w s5 ⟨z, H5, I5, rz, kk, rfl, q6⟩
   cases rz
   exact wpAny_truthy_bool ⟨H5, I5, q6⟩⟩
end
end Ev
namespace Ev
open PySem PySem.Spec PyProof.Rows L2 Calls ClX
section
variable {T : Tb} {X : Cx} {Wx : WX} {p : Pg} {cal : Bool → Nat → List W → List OO → RC} {c : Cf} {st : St} {σ : L2.St} {H : Hp} {pins : List (Addr × Obj)} {s : Shared} {k : Nat}
variable {a b d e : Expr} {ea eb ed : E} {pos : Pos}
def rdO (T : Tb) (Wx : WX) (m : St → R (Option Int)) : TO := fun σ H Q => ∃ c st, RSt T c st σ H ∧ Post T Wx relO c σ H (m st) Q
def SO (T : Tb) (X : Cx) (Wx : WX) (e : Option Expr) (m : St → R (Option Int)) : Prop := PO X e (rdO T Wx m)
theorem PO.imp {X : Cx} {e : Option Expr} {t t' : TO} (h : PO X e t) (q : ∀ σ H Q, t' σ H Q → t σ H Q) : PO X e t' := ⟨fun pins s σ H Q I z => h.run pins s σ H Q I (q _ _ _ z)⟩
theorem so_none : SO T X Wx none (evO p cal none) := PO.imp po_none fun σ H Q ⟨c, st, h, q⟩ => by
 simp only [evO] at q
 exact Post.ret q h rfl
theorem so_some (ha : SE T X Wx a (evE p cal ea)) : SO T X Wx (some a) (evO p cal (some ea)) := PO.imp (po_some ha) fun σ H Q ⟨c, st, h, q⟩ => by
 simp only [evO] at q
 obtain ⟨c0, st0, h0, q0⟩ := one h q
 refine ⟨c0, st0, h0, q0.mono fun v H1 ⟨c, st, w, h, r, q⟩ => ?_⟩
 cases w <;> first | exact (show False from q).elim | skip
 rename_i i
 exact ⟨i, r, Post.ret q h rfl⟩
theorem fget_ok {T : Tb} (inj : ∀ i j, T.sy i = T.sy j → i = j) {lv : List Addr} {nf : Addr → Prop} {H : Hp} {f : Nat} : ∀ {ns : List Nat} {ws : List W} {vs : List V}, ns.length = vs.length → RWs T lv nf H ws vs →
   (match fget f ns ws with
     | some w => ∃ v, ((ns.map T.sy).zip vs).lookup (T.sy f) = some v ∧ RW T lv nf H w v
     | none => ((ns.map T.sy).zip vs).lookup (T.sy f) = none)
 | [], ws, vs, e, h => by
   cases ws <;> simp [fget]
 | g :: ns, [], vs, e, h => by
   simp only [RWs] at h
   subst h
   simp at e
 | g :: ns, w :: ws, vs, e, h => by
   simp only [RWs] at h
   obtain ⟨v, r, rfl, h1, h2⟩ := h
   simp only [fget]
   by_cases hg : g = f
   · subst hg
     simp only [if_true]
     refine ⟨v, ?_, h1⟩
     simp [List.lookup_cons]
   · simp only [hg, if_false]
     have ne : (T.sy f == T.sy g) = false := by
       rw [beq_eq_false_iff_ne]
       exact fun z => hg (inj _ _ z).symm
     have ih := fget_ok inj (f := f) (by simpa using e) h2
     simp only [List.map_cons, List.zip_cons_cons, List.lookup_cons, ne]
     exact ih
theorem fget_none {f : Nat} : ∀ {ns : List Nat} {ws : List W}, ns.contains f = false → fget f ns ws = none
 | [], ws, _ => by cases ws <;> simp [fget]
 | g :: ns, [], _ => by simp [fget]
 | g :: ns, w :: ws, h => by
  simp only [List.contains_cons, Bool.or_eq_false_iff, beq_eq_false_iff_ne] at h
  simp only [fget, if_neg (Ne.symm h.1)]
  exact fget_none h.2
theorem calm_ok {α β : Type} {rel : Cf → Hp → α → β → Prop} {Q : β → Hp → Prop} {r : R α} (q : Post T Wx rel c σ H r.calm Q) : Post T (fun _ _ _ _ => False) rel c σ H r Q := by
 cases r with
 | ok a st => exact q
 | exc x st => exact (show False from q).elim
 | stk => exact q
theorem takes_no {X : Cx} : Takes X (fun _ _ _ _ => False) := fun u s' ⟨a, B, sI, pins, σ, H, cls, d, e, I, nb, up, sky, na, os, ag, w⟩ => w.elim
theorem se_att (O : XO T p X Wx k cal) {f : Nat} {x : Str} (hx : x = T.sy f) (ha : SE T X Wx a (evE p cal ea)) (hs : noSup a = true) : SE T X Wx (.Attribute a x pos) (evE p cal (.att ea f)) :=
 ⟨fun pins s σ H Q I ⟨c, st, h, q⟩ => by
  subst hx
  simp only [evE] at q
  refine attr_of (noSup_ok hs) (thn (ha.run pins s σ H _ I (one h q)) ?_)
  rintro u s1 ⟨v, H1, I1, rx, c, st, w, h, r, q⟩
  unfold attR at q
  cases e : look st w with
  | none => simp only [e] at q; exact (show False from q).elim
  | some o =>
  cases o with
  | lst _ => simp only [e] at q; exact (show False from q).elim
  | dct _ _ => simp only [e] at q; exact (show False from q).elim
  | tab => simp only [e] at q; exact (show False from q).elim
  | dnk _ _ => simp only [e] at q; exact (show False from q).elim
  | ins C ns xs =>
  simp only [e] at q
  obtain ⟨aa, e1, dx, vs, h1, h2, h3⟩ := look_ok h r e
  subst e1
  cases rx
  cases ec : clsG p C with
  | none => simp only [ec] at q; exact (show False from q).elim
  | some cc =>
  simp only [ec] at q
  have cf := O.G.cls C cc ec
  cases ep : cc.props.lookup f with
  | some g =>
   simp only [ep] at q
   obtain ⟨qa, hp⟩ := cf.pr f g ep
   obtain ⟨np, Ff⟩ := O.M.pr C cc f g ec ep
   obtain ⟨od, J⟩ := inst_of I1 h1
   obtain ⟨rest, hrec⟩ := hp.rec_
   have I2 := I1.tok (s1.toks + 1)
   have hc : (PySem.W.clsIn X.K (T.ca C)).isSome = true := by
    obtain ⟨cd, hc, _⟩ := PySem.W.any_some cf.cl.hd
    rw [hc]; rfl
   obtain ⟨fd, ps, F1, ar, hb⟩ := Ff
   have q := calm_ok q
   by_cases ol : 1 = np
   ·refine PySem.W.get_bind I1.kIn J (PySem.W.plainGet_of (cf.cl.get (T.sy f))).1 (PySem.W.findObj_data hc hp.at_ hp.get hp.tak) (PySem.W.plainGet_of (cf.cl.get (T.sy f))).2 (wpAny_call (PySem.W.prop_get (s := { s1 with toks := s1.toks + 1 }) I1.kIn hrec ?_))
    refine codeAny_mono (call_run (X := X.nox) (A := X.A.in1) (s := { s1 with toks := s1.toks + 1 }) (args := ⟨[.ref aa], []⟩) (us := [.ref aa]) (vs := [.ref aa]) rfl O.M.room.in1 takes_no F1 (hb _ [.ref aa] I2.kIn (by simpa using ol)) (by simpa using ol) (I2.wish _) h (relA_cons r relA_nil') (.cons rfl .nil) q) fun rr s' z => ?_
    cases rr with
    | error e => exact (show False from z).elim
    | ok fl =>
     cases fl <;> first | exact (show False from z).elim | skip
     obtain ⟨v', H', I3, rv, q3⟩ := z
     have I3 := I3.unwish
     show wpAny _ _ (handedOut _) _ _ _
     rw [PySem.W.handedOut_of (handed_of rv)]
     exact wpAny_pure ⟨v', H', I3, rv, q3⟩
   ·unfold callR at q
    rw [ar _ _ (by simpa using ol)] at q
    exact (show False from by cases ho : okvs [w] <;> simp [ho, RC.at] at q <;> exact q).elim
  | none =>
   simp only [ep] at q
   have fo := fget_ok (f := f) O.G.inj h2 h3
   cases ef : fget f ns xs with
   | some w' =>
    simp only [ef] at q fo
    obtain ⟨v', l1, l2⟩ := fo
    cases hf : cc.flds.contains f with
    | false => simp only [hf] at q; exact (show False from q).elim
    | true =>
     simp only [hf, if_true] at q
     exact getattr_ok I1 h1 cf.cl (cf.na f hf) l1 fun u' s2 I2 ru => ⟨v', H1, I2, ru, Post.ret q h l2.rv⟩
   | none =>
    simp only [ef] at q fo
    obtain ⟨w', ew, q⟩ := lift_some q
    obtain ⟨v', u', hv, hc⟩ := cf.co f w' ew
    exact getcon_ok I1 h1 cf.cl hc fo fun s2 I2 => ⟨v', H1, I2, hc.rel, Post.ret q h (vC_ok hv).rv⟩⟩
theorem se_kon {C f : Nat} {x nm : Str} {np : Pos} (hx : x = T.sy f) (hg : Gl X nm) (hm : X.mg nm = some (.ref (T.ca C))) (hd : (nm == ("__debug__" : Str)) = false)
  (hv : ∀ w, ((p.cls[C]?).bind fun c => c.consts.lookup f) = some w → ∃ mc v u, vC w = some v ∧ CRead X.K (T.ca C) mc ∧ CVal X.K (T.ca C) mc (T.sy f) v u) :
  SE T X Wx (.Attribute (.Name nm np) x pos) (evE p cal (.kon C f)) := by
 subst hx
 refine PE.imp (pe_cval (pe_glob (v := .ref (T.ca C)) hg hm rfl hd) (noSup_ok rfl)) fun σ H Q ⟨c, st, h, q⟩ => ?_
 simp only [evE] at q
 obtain ⟨w, ew, q⟩ := lift_some q
 obtain ⟨mc, v, u, e1, e2, e3⟩ := hv w ew
 exact ⟨T.ca C, mc, v, u, rfl, e2, e3, Post.ret q h (vC_ok e1).rv⟩
def SK (T : Tb) (X : Cx) (Wx : WX) (kws : List Keyword) (m : St → R (List W)) : Prop := PK X kws (rdA T Wx m)
theorem PK.imp {X : Cx} {kws : List Keyword} {t t' : TA} (h : PK X kws t) (q : ∀ σ H Q, t' σ H Q → t σ H Q) : PK X kws t' := ⟨fun pos pins s σ H Q I z => h.run pos pins s σ H Q I (q _ _ _ z)⟩
theorem sk_nil : SK T X Wx [] (evEs p cal []) := PK.imp pk_nil fun σ H Q ⟨c, st, h, q⟩ => by
 simp only [evEs] at q
 exact Post.ret q h relA_nil'
theorem sk_cons {kws : List Keyword} {xs : List E} {nm : Option Str} {kp : Pos} (ha : SE T X Wx a (evE p cal ea)) (hr : SK T X Wx kws (evEs p cal xs)) : SK T X Wx (⟨nm, a, kp⟩ :: kws) (evEs p cal (ea :: xs)) :=
 PK.imp (pk_cons ha hr) fun σ H Q ⟨c, st, h, q⟩ => by
  simp only [evEs] at q
  obtain ⟨c0, st0, h0, q0⟩ := oneVA h q
  exact ⟨c0, st0, h0, q0.mono fun v H1 ⟨c1, st1, h1, q1⟩ => ⟨c1, st1, h1, q1.mono fun us H2 ⟨c, st, w, ws, h, r, ra, q⟩ => Post.ret q h (relA_cons r ra)⟩⟩
theorem evEs_app : ∀ (xs ys : List E) (st : St), evEs p cal (xs ++ ys) st = (evEs p cal xs st).bind fun as st1 => (evEs p cal ys st1).bind fun bs st2 => .ok (as ++ bs) st2
 | [], ys, st => by
  simp only [List.nil_append, evEs, R.bind]
  cases evEs p cal ys st <;> rfl
 | x :: xs, ys, st => by
  simp only [List.cons_append, evEs]
  cases evE p cal x st with
  | ok w st1 =>
   simp only [R.bind]
   rw [evEs_app xs ys st1]
   cases evEs p cal xs st1 with
   | ok ws st2 =>
    simp only [R.bind]
    cases evEs p cal ys st2 <;> rfl
   | exc x st2 => rfl
   | stk => rfl
  | exc x st1 => rfl
  | stk => rfl
theorem relA.app {ws ws' : List W} {vs vs' : List V} (h : relA T σ c H ws vs) (t : relA T σ c H ws' vs') : relA T σ c H (ws ++ ws') (vs ++ vs') := by
 induction ws generalizing vs with
 | nil =>
  obtain rfl := relA_nil h
  exact t
 | cons w ws ih =>
  obtain ⟨hl, hr⟩ := h
  cases vs with
  | nil => simp at hl
  | cons v vs => exact relA_cons (hr 0 w v rfl rfl) (ih ⟨by simpa using hl, fun i x y e1 e2 => hr (i + 1) x y (by simpa using e1) (by simpa using e2)⟩)
theorem evEs_cst : ∀ (ds : List W) (st : St), evEs p cal (ds.map .cst) st = .ok ds st
 | [], st => rfl
 | d :: ds, st => by simp only [List.map_cons, evEs, evE, R.bind, evEs_cst ds st]
def vD (K : PySem.W.Frag) (w : W) (v : V) : Prop := vC w = some v ∨ (w = .tup [] ∧ ∃ a, v = .ref a ∧ KT K a [])
def Dfs (K : PySem.W.Frag) : List W → List V → Prop
 | [], vs => vs = []
 | d :: ds, vs => ∃ v r, vs = v :: r ∧ vD K d v ∧ Dfs K ds r
theorem vD_ok {K : PySem.W.Frag} (hK : T.K = K) {w : W} {v : V} {lv : List Addr} {nf : Addr → Prop} (h : vD K w v) : RW T lv nf H w v := by
 subst hK
 rcases h with h | ⟨rfl, a, rfl, h⟩
 ·exact vC_ok h
 ·simp only [RW]
  exact ⟨a, [], rfl, .inr h, RWs.nil⟩
theorem relA_cst {K : PySem.W.Frag} (hK : T.K = K) : ∀ {ds : List W} {vs : List V}, Dfs K ds vs → relA T σ c H ds vs
 | [], vs, h => by
  simp only [Dfs] at h; subst h; exact relA_nil'
 | d :: ds, vs, h => by
  simp only [Dfs] at h
  obtain ⟨v, r, rfl, h1, h2⟩ := h
  exact relA_cons (vD_ok hK h1).rv (relA_cst hK h2)
theorem argsKW {f : Value} {first : List Value} {args : List Expr} {kws : List Keyword} {xs ys : List E} {ds : List W} {dvs : List V} {ks : List Str} {Q : VK} {F : List W → St → R W} (hk : PySem.W.keepIn X.K f = true) (hz : args = [] → xs = []) (hs : args.all notStar = true) (hn : (kws.all fun q => q.arg.isSome) = true) (hks : kws.filterMap (·.arg) = ks)
  (ha : SA T X Wx args (evEs p cal xs)) (hkw : SK T X Wx kws (evEs p cal ys)) (hKK : T.K = X.K) (hd : Dfs X.K ds dvs) (I : Inv X pins σ H s) (h : RSt T c st σ H) (q : Post T Wx (relV T σ) c σ H ((evEs p cal (xs ++ ys ++ ds.map .cst) st).bind F) Q)
  (run : ∀ us1 us2 vs1 vs2 ws s H' c' st, Stp c H c' H' → Inv X pins σ H' s → RSt T c' st σ H' → Vals vs1 us1 → Vals vs2 us2 → vs2.length = ys.length → vs1.length = xs.length → relA T σ c' H' ws (vs1 ++ vs2 ++ dvs) → Post T Wx (relV T σ) c' σ H' (F ws st) Q → wpAny (model X.prog X.w) X.A (call f (first ++ us1) (ks.zip us2)) (EP X pins σ Q) X.xe s) :
  wpAny (model X.prog X.w) X.A (callWith pos f first (backTo pos (starEach args X.env)) (backToKw pos (keywordEach kws X.env))) (EP X pins σ Q) X.xe s := by
 have hlen : ∀ {zs : List E} {st st1 : St} {ws : List W}, evEs p cal zs st = .ok ws st1 → ws.length = zs.length := by
  intro zs
  induction zs with
  | nil => intro st st1 ws e; simp only [evEs] at e; cases e; rfl
  | cons z zs ih =>
   intro st st1 ws e
   simp only [evEs] at e
   cases e1 : evE p cal z st with
   | ok w st2 =>
    simp only [e1, R.bind] at e
    cases e2 : evEs p cal zs st2 with
    | ok ws' st3 => simp only [e2] at e; cases e; simp [ih e2]
    | exc x st3 => simp only [e2] at e; cases e
    | stk => simp only [e2] at e; cases e
   | exc x st2 => simp only [e1, R.bind] at e; cases e
   | stk => simp only [e1, R.bind] at e; cases e
 have kall : ∀ {l : List Keyword}, (l.all fun q => q.arg.isSome) = true → (backToKw pos (keywordEach l X.env)).all (·.1.isSome) = true ∧ (backToKw pos (keywordEach l X.env)).any (·.1.isNone) = false ∧ (backToKw pos (keywordEach l X.env)).filterMap (·.1) = l.filterMap (·.arg) := by
  intro l
  induction l with
  | nil => intro _; exact ⟨rfl, rfl, rfl⟩
  | cons q l ih =>
   intro hl
   rw [List.all_cons, Bool.and_eq_true] at hl
   obtain ⟨i1, i2, i3⟩ := ih hl.2
   obtain ⟨nm, v, pp⟩ := q
   cases nm with
   | none => simp at hl
   | some nm =>
    have e : backToKw pos (keywordEach (⟨some nm, v, pp⟩ :: l) X.env) = (some nm, do let v ← eval v X.env; standAt pos; pure v) :: backToKw pos (keywordEach l X.env) := rfl
    rw [e, List.all_cons, List.any_cons, List.filterMap_cons, i1, i2, i3]
    exact ⟨rfl, rfl, rfl⟩
 obtain ⟨k1, k2, k3⟩ := kall hn
 have q1 : Post T Wx (relV T σ) c σ H ((evEs p cal xs st).bind fun as st1 => (evEs p cal ys st1).bind fun bs st2 => F (as ++ bs ++ ds) st2) Q := by
  rw [evEs_app, evEs_app] at q
  revert q
  cases evEs p cal xs st with
  | ok as st1 =>
   simp only [R.bind]
   cases evEs p cal ys st1 with
   | ok bs st2 => simp only [R.bind, evEs_cst]; exact fun q => q
   | exc x st2 => exact fun q => q
   | stk => exact fun q => q
  | exc x st1 => exact fun q => q
  | stk => exact fun q => q
 have q2 : rdA T Wx (evEs p cal xs) σ H fun us H1 => ∃ c1 st1 as, Stp c H c1 H1 ∧ RSt T c1 st1 σ H1 ∧ relA T σ c1 H1 as us ∧ as.length = xs.length ∧ Post T Wx (relV T σ) c1 σ H1 ((evEs p cal ys st1).bind fun bs st2 => F (as ++ bs ++ ds) st2) Q := by
  refine ⟨c, st, h, ?_⟩
  cases e1 : evEs p cal xs st with
  | ok as st1 =>
   simp only [e1, R.bind] at q1
   exact fun b H' c' s' h' r' => ⟨c', st1, as, s', h', r', hlen e1, q1.from s'⟩
  | exc x st1 => simp only [e1, R.bind] at q1; exact q1
  | stk => simp only [e1, R.bind] at q1; exact q1
 have fin : ∀ us1 vs1 (s1 : Shared) (H1 : Hp), Vals vs1 us1 → Inv X pins σ H1 s1 → (∃ c1 st1 as, Stp c H c1 H1 ∧ RSt T c1 st1 σ H1 ∧ relA T σ c1 H1 as vs1 ∧ as.length = xs.length ∧ Post T Wx (relV T σ) c1 σ H1 ((evEs p cal ys st1).bind fun bs st2 => F (as ++ bs ++ ds) st2) Q) →
   wpAny (model X.prog X.w) X.A (evalAll ((backToKw pos (keywordEach kws X.env)).map (·.2))) (fun ks' s₂ => X.K.In s₂.heap ∧ wpAny (model X.prog X.w) X.A (call f (first ++ us1) (((backToKw pos (keywordEach kws X.env)).filterMap (·.1)).zip ks')) (EP X pins σ Q) X.xe s₂) X.xe s1 := by
  rintro us1 vs1 s1 H1 rv1 I1 ⟨c1, st1, as, S1, h1, ra1, l1, q3⟩
  have q4 : rdA T Wx (evEs p cal ys) σ H1 fun us H2 => ∃ c2 st2 bs, Stp c1 H1 c2 H2 ∧ RSt T c2 st2 σ H2 ∧ relA T σ c2 H2 bs us ∧ bs.length = ys.length ∧ Post T Wx (relV T σ) c2 σ H2 (F (as ++ bs ++ ds) st2) Q := by
   refine ⟨c1, st1, h1, ?_⟩
   cases e1 : evEs p cal ys st1 with
   | ok bs st2 =>
    simp only [e1, R.bind] at q3
    exact fun b H' c' s' h' r' => ⟨c', st2, bs, s', h', r', hlen e1, q3.from s'⟩
   | exc x st2 => simp only [e1, R.bind] at q3; exact q3
   | stk => simp only [e1, R.bind] at q3; exact q3
  refine thn (hkw.run pos pins s1 σ H1 _ I1 q4) ?_
  rintro us2 s2 ⟨vs2, H2, I2, rv2, c2, st2, bs, S2, h2, ra2, l2, q5⟩
  refine ⟨I2.kIn, ?_⟩
  rw [k3, hks]
  exact run us1 us2 vs1 vs2 _ s2 H2 c2 st2 (S1.trans S2) I2 h2 rv1 rv2 (by rw [← ra2.1]; exact l2) (by rw [← ra1.1]; exact l1) (((ra1.mono S2).app ra2).app (relA_cst hKK hd)) q5
 cases args with
 | nil =>
  refine PySem.W.callWith_KW0 (h₀ := X.base) I.ok.mod.kin hk k1 ?_ (by rw [k2]; rfl)
  have hx := hz rfl
  subst hx
  simp only [evEs, R.bind] at q1
  exact fin [] [] s H .nil I ⟨c, st, [], Stp.refl, h, relA_nil', rfl, q1⟩
 | cons e0 es =>
  rw [List.all_cons, Bool.and_eq_true] at hs
  refine PySem.W.callWith_KW (h₀ := X.base) I.ok.mod.kin hk k1 (thn (ha.run pos pins s σ H _ I q2) ?_) ?_ (star_ok hs.1)
  ·rintro us1 s1 ⟨vs1, H1, I1, rv1, z⟩
   exact fin us1 vs1 s1 H1 rv1 I1 z
  ·rw [k2, star_any (by rw [List.all_cons, hs.1, hs.2]; rfl)]; rfl
end
end Ev
namespace Ev
open PySem PySem.Spec PyProof.Rows L2 Calls ClX
section
variable {T : Tb} {X : Cx} {Wx : WX} {p : Pg} {cal : Bool → Nat → List W → List OO → RC} {c : Cf} {st : St} {σ : L2.St} {H : Hp} {pins : List (Addr × Obj)} {s : Shared} {k : Nat}
variable {a b d e : Expr} {ea eb ed : E} {pos : Pos}
def SiteF (T : Tb) (X : Cx) (k : Nat) (cal : Bool → Nat → List W → List OO → RC) (f n : Nat) (ks : List Str) (ds : List W) : Prop :=
 ∃ fd ps np dvs dus, FnOk X.prog X.w X.K X.mg X.base (L2.CX X.prog X.w) k (T.fa f) fd ps (spF T np (cal false f)) ∧ np = n + ks.length + ds.length ∧ Dfs X.K ds dvs ∧ Vals dvs dus ∧
  ∀ (s : Shared) (us ws : List Value), X.K.In s.heap → us.length = n → ws.length = ks.length → BindsTo s fd ⟨us, ks.zip ws⟩ (ps.zip (us ++ ws ++ dus))
def MakeF (T : Tb) (X : Cx) (k : Nat) (cal : Bool → Nat → List W → List OO → RC) (C n : Nat) (ks : List Str) (ds : List W) : Prop :=
 ∃ f fd ps np dvs dus, Mk X.K (T.ca C) f ∧ FnOk X.prog X.w X.K X.mg X.base (L2.CX X.prog X.w) k f fd ps (spI T np C (cal true C)) ∧ np = n + ks.length + ds.length + 1 ∧ Dfs X.K ds dvs ∧ Vals dvs dus ∧
  ∀ (s : Shared) (x : Addr) (us ws : List Value), X.K.In s.heap → us.length = n → ws.length = ks.length → BindsTo s fd ⟨.ref x :: us, ks.zip ws⟩ (ps.zip (.ref x :: (us ++ ws ++ dus)))
theorem se_cal (O : XO T p X Wx k cal) {f n : Nat} {x : Str} {np : Pos} {args : List Expr} {kws : List Keyword} {xs ys : List E} {ds : List W} {ks : List Str} (hg : Gl X x) (hm : X.mg x = some (.ref (T.fa f))) (hk : PySem.W.keepIn X.K (.ref (T.fa f)) = true) (hd : (x == ("__debug__" : Str)) = false)
  (S : SiteF T X k cal f n ks ds) (hn : xs.length = n) (hy : ys.length = ks.length) (hz : args = [] → xs = []) (hs : args.all notStar = true) (hkn : (kws.all fun q => q.arg.isSome) = true) (hks : kws.filterMap (·.arg) = ks)
  (ha : SA T X Wx args (evEs p cal xs)) (hkw : SK T X Wx kws (evEs p cal ys)) : SE T X Wx (.Call (.Name x np) args kws pos) (evE p cal (.cal f (xs ++ ys ++ ds.map .cst))) :=
 ⟨fun pins s σ H Q I ⟨c, st, h, q⟩ => by
  simp only [evE] at q
  obtain ⟨fd, ps, np', dvs, dus, F, hnp, hdv, rd, hb⟩ := S
  refine wpAny_Call_Name_kw (ld_glob I hg hm ?_ hd)
  refine argsKW (first := []) hk hz hs hkn hks ha hkw O.G.hK hdv I h q ?_
  rintro us1 us2 vs1 vs2 ws s H c st S' I h r1 r2 l2 l1 ra q
  have e1 : us1.length = n := by rw [← r1.length, l1, hn]
  have e2 : us2.length = ks.length := by rw [← r2.length, l2, hy]
  refine wpAny_call (codeAny_mono (call_run (args := ⟨us1, ks.zip us2⟩) (us := us1 ++ us2 ++ dus) rfl (O.M.room.mono (Nat.le_succ _)) O.tk F (hb s us1 us2 I.kIn e1 e2) ?_ I h ra ((r1.append r2).append rd) q) fun r s' z => ?_)
  ·have l3 : dvs.length = ds.length := by
    have := (relA_cst (T := T) (σ := σ) (c := c) (H := H) O.G.hK hdv).1
    exact this.symm
   simp only [List.length_append]
   rw [l1, l2, hn, hy, l3, hnp]
  ·cases r with
   | error e => exact z
   | ok fl => cases fl <;> first | exact z | exact z.elim⟩
theorem se_new (O : XO T p X Wx k cal) {C n : Nat} {x : Str} {np : Pos} {args : List Expr} {kws : List Keyword} {xs ys : List E} {ds : List W} {ks : List Str} (hg : Gl X x) (hm : X.mg x = some (.ref (T.ca C))) (hd : (x == ("__debug__" : Str)) = false)
  (S : MakeF T X k cal C n ks ds) (hn : xs.length = n) (hy : ys.length = ks.length) (hz : args = [] → xs = []) (hs : args.all notStar = true) (hkn : (kws.all fun q => q.arg.isSome) = true) (hks : kws.filterMap (·.arg) = ks)
  (ha : SA T X Wx args (evEs p cal xs)) (hkw : SK T X Wx kws (evEs p cal ys)) : SE T X Wx (.Call (.Name x np) args kws pos) (evE p cal (.new C (xs ++ ys ++ ds.map .cst))) :=
 ⟨fun pins s σ H Q I ⟨c, st, h, q⟩ => by
  simp only [evE] at q
  obtain ⟨f, fd, ps, np', dvs, dus, Mk, F, hnp, hdv, rd, hb⟩ := S
  refine wpAny_Call_Name_kw (ld_glob I hg hm ?_ hd)
  refine argsKW (first := []) Mk.kp hz hs hkn hks ha hkw O.G.hK hdv I h q ?_
  rintro us1 us2 vs1 vs2 ws s H c st S' I h r1 r2 l2 l1 ra q
  have e1 : us1.length = n := by rw [← r1.length, l1, hn]
  have e2 : us2.length = ks.length := by rw [← r2.length, l2, hy]
  refine make_run (us := us1 ++ us2 ++ dus) Mk O.M.room O.tk F (fun x s' kin => hb s' x us1 us2 kin e1 e2) ?_ I h ra ((r1.append r2).append rd) q
  have l3 : dvs.length = ds.length := (relA_cst (T := T) (σ := σ) (c := c) (H := H) O.G.hK hdv).1.symm
  simp only [List.length_append]
  rw [l1, l2, hn, hy, l3, hnp]⟩
theorem meth_of {prog : Program} {w : World} {A : Around} {env : Env} {E' : Value → Shared → Prop} {o : Expr} {m : Str} {apos pos : Pos} {args : List Expr} {Q : Value → Shared → Prop} {s : Shared} (hsp : noSup o = true) (hs : args.all notStar = true) (hfew : args.length < 29) (hline : (apos.endLine == pos.line) = true)
  (h : wpAny (model prog w) A (eval o env) (fun ov s₁ => ∀ pl, wpAny (model prog w) A (getMethod ov m pl) (fun fx s₂ => wpAny (model prog w) A (callWith pos fx.1 fx.2 (backTo pos (starEach args env)) (backToKw pos (keywordEach [] env))) Q E' s₂) E' s₁) E' s) :
  wpAny (model prog w) A (eval (.Call (.Attribute o m apos) args [] pos) env) Q E' s := by
 rw [arm_eval_Call, noSup_ok hsp]
 refine wpAny_bind (wpAny_mono h (fun ov s₁ h₁ => wpAny_bind (wpAny_standAt ?_)) fun _ _ e => e)
 have hform : methodCallForm (args.length + ([] : List Keyword).length) (backTo pos (starEach args env)) (backToKw pos (keywordEach [] env)) = true := by
  unfold methodCallForm
  rw [star_all hs]
  have : (backToKw pos (keywordEach [] env)) = [] := rfl
  rw [this]
  simp
  omega
 have hpos : methodCallPos true o env apos pos = pure pos := by unfold methodCallPos; simp [hline]
 unfold methodCall
 rw [hform, hpos]
 unfold calleeOf
 refine wpAny_bind (wpAny_holding (wpAny_mono (h₁ _) (fun fx s₂ z => ?_) fun _ _ e => e))
 exact wpAny_bind (wpAny_pure z)
theorem se_mth (O : XO T p X Wx k cal) {m : Nat} {x : Str} {apos : Pos} {args : List Expr} {xs : List E} (hx : x = T.sy m) (hsp : noSup a = true) (hs : args.all notStar = true) (hz : args = [] → xs = []) (hfew : args.length < 29) (hline : (apos.endLine == pos.line) = true)
  (hm : ∀ C c f, clsG p C = some c → c.meths.lookup m = some f → PySem.W.keepIn X.K (.ref (T.fa f)) = true)
  (ho : SE T X Wx a (evE p cal ea)) (ha : SA T X Wx args (evEs p cal xs)) : SE T X Wx (.Call (.Attribute a x apos) args [] pos) (evE p cal (.mth ea m xs)) :=
 ⟨fun pins s σ H Q I ⟨c, st, h, q⟩ => by
  subst hx
  simp only [evE] at q
  refine meth_of hsp hs hfew hline (thn (ho.run pins s σ H _ I ⟨c, st, h, Post.bind (rel := relV T σ) q⟩) ?_)
  rintro u s1 ⟨v, H1, I1, rx, c1, st1, w, S1, h1, r1, q1⟩ pl
  cases em : mthF p m w st1 with
  | none => simp only [em] at q1; exact (show False from q1).elim
  | some f =>
  simp only [em] at q1
  have em' := em
  unfold mthF at em
  cases e : look st1 w with
  | none => simp only [e] at em; cases em
  | some o =>
  cases o with
  | lst _ => simp only [e] at em; cases em
  | dct _ _ => simp only [e] at em; cases em
  | tab => simp only [e] at em; cases em
  | dnk _ _ => simp only [e] at em; cases em
  | ins C ns fs =>
  simp only [e] at em
  cases hc : ns.contains m with
  | true => rw [if_pos hc] at em; cases em
  | false =>
  rw [if_neg (by rw [hc]; simp)] at em
  obtain ⟨aa, e1, dx, vs, g1, g2, g3⟩ := look_ok h1 r1 e
  subst e1
  cases rx
  obtain ⟨cc, hcc, hmm⟩ := metOf_ok O.G em
  have cf := O.G.cls C cc hcc
  have me := cf.mt m f hmm
  have nl := fget_ok (f := m) O.G.inj g2 g3
  rw [fget_none hc] at nl
  obtain ⟨np, Ff⟩ := O.M.mt C cc m f hcc hmm
  refine getmeth_ok I1 g1 cf.cl me nl ?_
  refine argsKW (first := [.ref aa]) (ks := []) (ys := []) (ds := []) (dvs := []) (F := fun ws st2 => callR cal false f (w :: ws) st2) (hm C cc f hcc hmm) hz hs rfl rfl ha sk_nil O.G.hK rfl I1 h1 (by simpa using q1) ?_
  rintro us1 us2 vs1 vs2 ws s H c st S' I h rv1 rv2 l2 l1 ra q
  have hS : RV T c σ H w (.ref aa) := RV.mono S' r1
  have l3 : vs2 = [] := List.eq_nil_of_length_eq_zero l2
  subst l3
  exact own_run Ff rfl (O.M.room.mono (Nat.le_succ _)) O.tk I h (relA_cons hS (by simpa using ra)) (.cons rfl rv1) q⟩
end
end Ev
namespace Ev
open PySem PySem.Spec PyProof.Rows L2 Calls ClX
section
variable {T : Tb} {X : Cx} {Wx : WX} {p : Pg} {cal : Bool → Nat → List W → List OO → RC} {c : Cf} {st : St} {σ : L2.St} {H : Hp} {pins : List (Addr × Obj)} {s : Shared} {k : Nat}
variable {a b d e : Expr} {ea eb ed : E} {pos : Pos}
def bfNm : Bif → Str
 | .len => "len" | .sum => "sum" | .max => "max" | .min => "min" | .max2 => "max" | .min2 => "min" | .all => "all" | .any => "any"
 | .sorted => "sorted" | .list => "list" | .tuple => "tuple" | .int => "int" | .str => "str" | .repr => "repr" | .set => "set" | .dict => "dict"
theorem bf_boot (f : Bif) : bootBuiltins (bfNm f) = some (bfOf f) := by cases f <;> kernel_rfl
theorem bf_nn (f : Bif) : bfNm f ≠ "__name__" ∧ ((bfNm f) == ("__debug__" : Str)) = false := by cases f <;> decide
theorem relA_vv (h : RSt T c st σ H) {ws : List W} {vs : List V} (ra : relA T σ c H ws vs) : (ws.map (vw st)).length = vs.length ∧ ∀ (i : Nat) w v, (ws.map (vw st))[i]? = some w → vs[i]? = some v → RVV T c H w v := by
 refine ⟨by simp [ra.1], fun i w v e1 e2 => ?_⟩
 rw [List.getElem?_map] at e1
 cases e3 : ws[i]? with
 | none => simp [e3] at e1
 | some w' =>
  simp [e3] at e1
  subst e1
  exact rvv h (ra.2 i w' v e3 e2)
theorem bif_all (O : XO T p X Wx k cal) {f : Bif} {ws : List W} {vs : List V} {us : List Value} {Q : VK} (I : Inv X pins σ H s) (h : RSt T c st σ H) (ra : relA T σ c H ws vs) (qa : Vals vs us) (q : Post T Wx (relV T σ) c σ H (bifR p cal f ws st) Q) :
  wpAny (model X.prog X.w) X.A (call (bfOf f) us) (EP X pins σ Q) X.xe s := by
 have plain : ∀ {g : Bif}, Post T Wx (relV T σ) c σ H (.lift st (bifW g (ws.map (vw st)))) Q → wpAny (model X.prog X.w) X.A (call (bfOf g) us) (EP X pins σ Q) X.xe s := fun {g} q => by
  obtain ⟨w, e, q⟩ := lift_some q
  obtain ⟨l1, l2⟩ := relA_vv h ra
  exact bif_ok O.G.hK O.calm h I l1 l2 qa e (Wants.of q)
 unfold bifR at q
 split at q
 ·
  rename_i w
  obtain ⟨v, rfl, r⟩ := relA_one ra
  obtain ⟨u, rfl, ru⟩ := Vals.one qa
  cases e : clsOf st w with
  | none => simp only [e] at q; exact plain (g := .len) (by simpa using q)
  | some C =>
   simp only [e] at q
   refine len_own O.G O.M O.tk I h r ru e ((Post.bind (rel := relV T σ) q).mono fun z H1 ⟨c1, st1, w1, S1, h1, r1, q1⟩ => ?_)
   cases w1 <;> first | exact (show False from q1).elim | skip
   rename_i i
   by_cases hi : 0 ≤ i ∧ i < 2 ^ 63
   ·simp only [hi, and_self, if_true] at q1
    exact ⟨i, r1, hi.1, hi.2, Post.ret q1 h1 (show RV T c1 σ H1 (.int i) (.int i) from rfl)⟩
   ·simp only [hi, if_false] at q1
    exact (show False from q1).elim
 ·
  rename_i w
  obtain ⟨v, rfl, r⟩ := relA_one ra
  obtain ⟨u, rfl, ru⟩ := Vals.one qa
  have e : ∃ C, clsOf st w = some C := by
   cases e : clsOf st w with
   | none => unfold ownR at q; simp only [e, R.bind] at q; exact (show False from q).elim
   | some C => exact ⟨C, rfl⟩
  obtain ⟨C, e⟩ := e
  refine repr_own O.G O.M O.tk I h r ru e ((Post.bind (rel := relV T σ) q).mono fun z H1 ⟨c1, st1, w1, S1, h1, r1, q1⟩ => ?_)
  cases w1 <;> first | exact (show False from q1).elim | skip
  rename_i x
  obtain ⟨rfl, hx⟩ := (show z = .str (tS x) ∧ tOk x = true from r1)
  exact ⟨tS x, rfl, Post.ret q1 h1 (show RV T c1 σ H1 (.str x) (.str (tS x)) from ⟨rfl, hx⟩)⟩
 ·exact plain q
theorem bf_form (f : Bif) : (∃ id, bfOf f = .builtin id) ∨ ∃ t, bfOf f = .type t := by
 cases f <;> first | exact .inl ⟨_, rfl⟩ | exact .inr ⟨_, rfl⟩
theorem se_bif (O : XO T p X Wx k cal) {f : Bif} {np : Pos} {a : Expr} {args : List Expr} {xs : List E} (hg : Gl X (bfNm f)) (hm : X.mg (bfNm f) = none) (hs : (a :: args).all notStar = true) (ha : SA T X Wx (a :: args) (evEs p cal xs)) :
  SE T X Wx (.Call (.Name (bfNm f) np) (a :: args) [] pos) (evE p cal (.bif f xs)) :=
 ⟨fun pins s σ H Q I ⟨c, st, h, q⟩ => by
  simp only [evE] at q
  refine wpAny_Call_Name_kw (ld_blt I hg hm (bf_boot f) ?_ (bf_nn f).1 (bf_nn f).2)
  have run : wpAny (model X.prog X.w) X.A (spliced (backTo pos (starEach (a :: args) X.env))) (fun us s1 => wpAny (model X.prog X.w) X.A (call (bfOf f) us) (EP X pins σ Q) X.xe s1) X.xe s := by
   refine thn (ha.run pos pins s σ H _ I (oneA h q)) ?_
   rintro us s1 ⟨vs, H1, I1, rv, c, st, ws, h, ra, q⟩
   exact bif_all O I1 h ra rv q
  have hs' := hs
  rw [List.all_cons, Bool.and_eq_true] at hs'
  rcases bf_form f with ⟨id, e⟩ | ⟨t, e⟩
  ·rw [e] at run ⊢
   exact PyProof.Rows.callWith_builtin1 run (star_ok hs'.1) (star_any hs'.2)
  ·rw [e] at run ⊢
   exact PyProof.Rows.callWith_type1 run (star_ok hs'.1) (star_any hs'.2)⟩
def kdV (T : Tb) : Kd → V
 | .cls C => .ref (T.ca C)
 | q => .ty (tyN (kdN q))
def kdU (T : Tb) : Kd → Value
 | .cls C => .ref (T.ca C)
 | q => .type (tyN (kdN q))
theorem kd_cls (q : Kd) : ClsV (kdV T q) (kdU T q) := by cases q <;> first | exact .own _ | exact .ty _
theorem kit_N {K : PySem.W.Frag} : ∀ n m, n ≤ 6 → 1 ≤ m → m ≤ 5 → PySem.W.kitOne K (Value.type (tyN n)) (Value.type (tyN m)) = some (n == m || (n == 1 && m == 2)) := by
 intro n m h1 h2 h3
 refine kit_ty ?_
 match n, h1, m, h2, h3 with
 | 0, _, 1, _, _ => decide +kernel
 | 0, _, 2, _, _ => decide +kernel
 | 0, _, 3, _, _ => decide +kernel
 | 0, _, 4, _, _ => decide +kernel
 | 0, _, 5, _, _ => decide +kernel
 | 1, _, 1, _, _ => decide +kernel
 | 1, _, 2, _, _ => decide +kernel
 | 1, _, 3, _, _ => decide +kernel
 | 1, _, 4, _, _ => decide +kernel
 | 1, _, 5, _, _ => decide +kernel
 | 2, _, 1, _, _ => decide +kernel
 | 2, _, 2, _, _ => decide +kernel
 | 2, _, 3, _, _ => decide +kernel
 | 2, _, 4, _, _ => decide +kernel
 | 2, _, 5, _, _ => decide +kernel
 | 3, _, 1, _, _ => decide +kernel
 | 3, _, 2, _, _ => decide +kernel
 | 3, _, 3, _, _ => decide +kernel
 | 3, _, 4, _, _ => decide +kernel
 | 3, _, 5, _, _ => decide +kernel
 | 4, _, 1, _, _ => decide +kernel
 | 4, _, 2, _, _ => decide +kernel
 | 4, _, 3, _, _ => decide +kernel
 | 4, _, 4, _, _ => decide +kernel
 | 4, _, 5, _, _ => decide +kernel
 | 5, _, 1, _, _ => decide +kernel
 | 5, _, 2, _, _ => decide +kernel
 | 5, _, 3, _, _ => decide +kernel
 | 5, _, 4, _, _ => decide +kernel
 | 5, _, 5, _, _ => decide +kernel
 | 6, _, 1, _, _ => decide +kernel
 | 6, _, 2, _, _ => decide +kernel
 | 6, _, 3, _, _ => decide +kernel
 | 6, _, 4, _, _ => decide +kernel
 | 6, _, 5, _, _ => decide +kernel
theorem tyW_le {w : W} {n : Nat} (e : tyW st w = some (.inl n)) : n ≤ 6 := by
 unfold tyW at e
 split at e <;> first | (cases e; omega) | (cases e; done) | skip
 all_goals (split at e <;> first | (cases e; omega) | cases e)
theorem isK_ok (G : GF T p X.K) {t : Sum Nat Nat} {q : Kd} {b : Bool} (e : isK p t q = some b) (hn : ∀ n, t = .inl n → n ≤ 6) : PySem.W.kitOne X.K (tyV T t) (kdU T q) = some b ∧ ∀ C, t = .inr C → ∃ cc, clsG p C = some cc := by
 cases q with
 | none => cases t <;> simp [isK] at e
 | cls D =>
  cases t with
  | inl n =>
   simp only [isK] at e
   cases hd : clsG p D with
   | none => simp [hd] at e
   | some d =>
    obtain rfl : false = b := by simpa [hd] using e
    exact ⟨(G.cls D d hd).kit2 n, fun C z => nomatch z⟩
  | inr C =>
   simp only [isK] at e
   cases hc : clsG p C with
   | none => simp [hc] at e
   | some cc =>
    cases hd : clsG p D with
    | none => simp [hc, hd] at e
    | some d =>
     obtain rfl : subC p C D = b := by simpa [hc, hd] using e
     exact ⟨(G.cls C cc hc).kit3 D d hd, fun C' z => by cases z; exact ⟨cc, hc⟩⟩
 | bool =>
  cases t with
  | inl n =>
   obtain rfl := Option.some.inj e
   exact ⟨kit_N n 1 (hn n rfl) (by decide) (by decide), fun C z => nomatch z⟩
  | inr C =>
   simp only [isK] at e
   cases hc : clsG p C with
   | none => simp [hc] at e
   | some cc =>
    obtain rfl : false = b := by simpa [hc] using e
    exact ⟨(G.cls C cc hc).kit1 1 (by decide) (by decide), fun C' z => by cases z; exact ⟨cc, hc⟩⟩
 | int =>
  cases t with
  | inl n =>
   obtain rfl := Option.some.inj e
   exact ⟨kit_N n 2 (hn n rfl) (by decide) (by decide), fun C z => nomatch z⟩
  | inr C =>
   simp only [isK] at e
   cases hc : clsG p C with
   | none => simp [hc] at e
   | some cc =>
    obtain rfl : false = b := by simpa [hc] using e
    exact ⟨(G.cls C cc hc).kit1 2 (by decide) (by decide), fun C' z => by cases z; exact ⟨cc, hc⟩⟩
 | str =>
  cases t with
  | inl n =>
   obtain rfl := Option.some.inj e
   exact ⟨kit_N n 3 (hn n rfl) (by decide) (by decide), fun C z => nomatch z⟩
  | inr C =>
   simp only [isK] at e
   cases hc : clsG p C with
   | none => simp [hc] at e
   | some cc =>
    obtain rfl : false = b := by simpa [hc] using e
    exact ⟨(G.cls C cc hc).kit1 3 (by decide) (by decide), fun C' z => by cases z; exact ⟨cc, hc⟩⟩
 | tuple =>
  cases t with
  | inl n =>
   obtain rfl := Option.some.inj e
   exact ⟨kit_N n 4 (hn n rfl) (by decide) (by decide), fun C z => nomatch z⟩
  | inr C =>
   simp only [isK] at e
   cases hc : clsG p C with
   | none => simp [hc] at e
   | some cc =>
    obtain rfl : false = b := by simpa [hc] using e
    exact ⟨(G.cls C cc hc).kit1 4 (by decide) (by decide), fun C' z => by cases z; exact ⟨cc, hc⟩⟩
 | list =>
  cases t with
  | inl n =>
   obtain rfl := Option.some.inj e
   exact ⟨kit_N n 5 (hn n rfl) (by decide) (by decide), fun C z => nomatch z⟩
  | inr C =>
   simp only [isK] at e
   cases hc : clsG p C with
   | none => simp [hc] at e
   | some cc =>
    obtain rfl : false = b := by simpa [hc] using e
    exact ⟨(G.cls C cc hc).kit1 5 (by decide) (by decide), fun C' z => by cases z; exact ⟨cc, hc⟩⟩
theorem se_isi (O : XO T p X Wx k cal) {q0 : Kd} {np : Pos} {ce : Expr} (hg : Gl X "isinstance") (hm : X.mg "isinstance" = none) (hs : notStar a = true) (hs2 : notStar ce = true) (ha : SE T X Wx a (evE p cal ea)) (hc : PE X ce (tC (kdV T q0))) :
   SE T X Wx (.Call (.Name "isinstance" np) [a, ce] [] pos) (evE p cal (.isi ea [q0])) :=
 PE.imp (pe_callB call_isi hg hm (by kernel_rfl) (pa_cons ha (pa_cons hc pa_nil (star_ok hs2)) (star_ok hs)) (by decide) (by decide) (star_ok hs) (star_any (by simp [hs2]))) fun σ H Q ⟨c, st, h, q⟩ => by
   simp only [evE] at q
   obtain ⟨c0, st0, h0, q0'⟩ := one h q
   refine ⟨c0, st0, h0, q0'.mono fun v H1 ⟨c, st, w, h, r, q⟩ => ?_⟩
   obtain ⟨w', e, q⟩ := lift_some q
   cases et : tyW st w with
   | none => simp [isKs, et] at e
   | some t =>
     cases ek : isK p t q0 with
     | none => simp [isKs, et, ek] at e
     | some b =>
       have e2 : W.bl b = w' := by
         cases b <;> simpa [isKs, et, ek] using e
       subst e2
       obtain ⟨k1, k2⟩ := isK_ok O.G ek fun n z => tyW_le (z ▸ et)
       exact ⟨v, kdV T q0, tyV T t, kdU T q0, b, rfl, kd_cls q0, tyx_of O.G h r et k2, k1, Post.ret q h (show RV T c σ H1 (.bl b) (.bl b) from rfl)⟩
theorem fmt_rel {w : W} {y : Tx} {v : V} (e : fmtW w = some y) (r : RV T c σ H w v) : ((∃ z : Str, v = .str z ∧ z.length ≤ sizeLine ∧ z = tS y) ∨ ∃ i : Int, v = .int i ∧ i.natAbs.log2 < 1920 ∧ Str.ofString (toString i) = tS y) ∧ tOk y = true := by
 cases w with
 | str x =>
  simp only [fmtW] at e
  split at e
  ·rename_i hl
   cases e
   obtain ⟨rfl, ho⟩ := r
   exact ⟨.inl ⟨_, rfl, by rw [SX.S_len, ← line_eq]; exact hl, rfl⟩, ho⟩
  ·cases e
 | int i =>
  simp only [fmtW] at e
  split at e
  ·rename_i hl
   cases e
   cases r
   exact ⟨.inr ⟨i, rfl, hl, (dig_ok i).1⟩, (dig_ok i).2⟩
  ·cases e
 | _ => simp [fmtW] at e
def SJ (T : Tb) (X : Cx) (Wx : WX) (p : Pg) (cal : Bool → Nat → List W → List OO → RC) (es : List Expr) (xs : List E) : Prop :=
 ∃ ts, PJ X es ts ∧ ∀ (acc : Tx) (st : St) (c : Cf) (σ : L2.St) (H : Hp) (Q : VK), tOk acc = true → RSt T c st σ H → Post T Wx (relV T σ) c σ H (evJ p cal xs acc st) Q → tJs ts (tS acc) σ H fun out H1 => Q (.str out) H1
theorem sj_nil : SJ T X Wx p cal [] [] := ⟨[], .nil, fun acc st c σ H Q ho h q => by
 simp only [evJ] at q
 exact Post.ret q h (show RV T c σ H (.str acc) (.str (tS acc)) from ⟨rfl, ho⟩)⟩
theorem sj_cst {x : Tx} {z : Str} {j : Nat} {es : List Expr} {xs : List E} (hz : z = tS x) (hx : tOk x = true) (r : SJ T X Wx p cal es xs) : SJ T X Wx p cal (.Constant (.str z) j pos :: es) (.cst (.str x) :: xs) := by
 obtain ⟨ts, h1, h2⟩ := r
 refine ⟨tC (.str z) :: ts, .cons pe_str h1, fun acc st c σ H Q ho h q => ?_⟩
 subst hz
 simp only [evJ, evE, R.bind, fmtW] at q
 by_cases hl : x.length ≤ lineMax
 ·simp only [hl, if_true] at q
  by_cases hl2 : acc.length + x.length ≤ lineMax
  ·simp only [hl2, if_true] at q
   refine ⟨tS x, rfl, ?_, ?_⟩
   ·rw [SX.S_cat, SX.S_len, List.length_append, ← line_eq]; exact hl2
   ·rw [SX.S_cat]
    exact h2 _ _ _ _ _ _ (tOk_app ho hx) h q
  ·simp only [hl2, if_false] at q; exact (show False from q).elim
 ·simp only [hl, if_false] at q; exact (show False from q).elim
theorem sj_fmt {es : List Expr} {xs : List E} (ha : SE T X Wx a (evE p cal ea)) (r : SJ T X Wx p cal es xs) : SJ T X Wx p cal (.FormattedValue a (-1) none pos :: es) (ea :: xs) := by
 obtain ⟨ts, h1, h2⟩ := r
 refine ⟨_ :: ts, .cons (pe_fmt ha) h1, fun acc st c σ H Q ho h q => ?_⟩
 simp only [evJ] at q
 obtain ⟨c0, st0, h0, q0⟩ := one h q
 refine ⟨c0, st0, h0, q0.mono fun v H1 ⟨c, st, w, h, r, q⟩ => ?_⟩
 cases ef : fmtW w with
 | none => simp only [ef] at q; exact (show False from q).elim
 | some y =>
  simp only [ef] at q
  obtain ⟨hv, ho2⟩ := fmt_rel ef r
  by_cases hl2 : acc.length + y.length ≤ lineMax
  ·simp only [hl2, if_true] at q
   have fin : ∃ z : Str, V.str (tS y) = V.str z ∧ (tS acc ++ z).length ≤ sizeLine ∧ tJs ts (tS acc ++ z) σ H1 fun out H1 => Q (.str out) H1 := by
    refine ⟨tS y, rfl, ?_, ?_⟩
    ·rw [SX.S_cat, SX.S_len, List.length_append, ← line_eq]; exact hl2
    ·rw [SX.S_cat]
     exact h2 _ _ _ _ _ _ (tOk_app ho ho2) h q
   rcases hv with ⟨z, rfl, hz, rfl⟩ | ⟨i, rfl, hi, e⟩
   ·exact .inl ⟨_, rfl, hz, fin⟩
   ·refine .inr ⟨i, rfl, hi, ?_⟩
    rw [show ((toString i : String) : Str) = tS y from e]
    exact fin
  ·simp only [hl2, if_false] at q; exact (show False from q).elim
theorem se_fst {v1 v2 : Expr} {rest : List Expr} {xs : List E} (h : SJ T X Wx p cal (v1 :: v2 :: rest) xs) : SE T X Wx (.JoinedStr (v1 :: v2 :: rest) pos) (evE p cal (.fst xs)) := by
 obtain ⟨ts, h1, h2⟩ := h
 refine PE.imp (pe_joined h1) fun σ H Q ⟨c, st, h, q⟩ => ?_
 simp only [evE] at q
 exact h2 [] st c σ H Q rfl h q
def cmNm : Cmt → Str
 | .append => "append" | .extend => "extend" | .pop => "pop" | .insert => "insert" | .clear => "clear" | .reverse => "reverse" | .setdefault => "setdefault"
theorem cm_road {kk : Cmt} (hk : kk ≠ .setdefault) : Slot "list" (cmNm kk) (cmOf kk) ∧ typeOf (.builtin (cmOf kk)) = pure (.type "method_descriptor") := by
 cases kk with
 | append => exact ⟨PySem.F.slot_list_append, PySem.F.type_list_append⟩
 | extend => exact ⟨PySem.F.slot_list_extend, PySem.F.type_list_extend⟩
 | pop => exact ⟨PySem.F.slot_list_pop, PySem.F.type_list_pop⟩
 | insert => exact ⟨PySem.F.slot_list_insert, PySem.F.type_list_insert⟩
 | clear => exact ⟨PySem.F.slot_list_clear, PySem.F.type_list_clear⟩
 | reverse => exact ⟨PySem.F.slot_list_reverse, PySem.F.type_list_reverse⟩
 | setdefault => exact absurd rfl hk
theorem bm_run {T' : String} {id : String} {m : Str} {apos : Pos} {o : Expr} {args : List Expr} {Q : Value → Shared → Prop} {ta : TA} {to : TE} (pa : PlainAttrs T') (slot : Slot T' m id) (hty : typeOf (.builtin id) = pure (.type "method_descriptor")) (hsp : noSup o = true) (hs : args.all notStar = true) (hfew : args.length < 29)
  (hline : (apos.endLine == pos.line) = true) (ho : PE X o to) (ha : PA X args ta) (hz : args = [] → ∀ σ H R, ta σ H R → R [] H) (I : Inv X pins σ H s) {R : V → List V → Hp → Prop}
  (h : to σ H fun x H1 => L2.tyV X.K T' x H1 ∧ ta σ H1 fun xs H2 => R x xs H2) (hr : ∀ x xs v us s H, Inv X pins σ H s → L2.RelV x v → Vals xs us → R x xs H → wpAny (model X.prog X.w) X.A (call (.builtin id) (v :: us)) Q X.xe s) :
  wpAny (model X.prog X.w) X.A (eval (.Call (.Attribute o m apos) args [] pos) X.env) Q X.xe s := by
 refine meth_of hsp hs hfew hline (thn (ho.run pins s σ H _ I h) ?_)
 rintro v s1 ⟨x, H1, I1, r1, ty, q1⟩ pl
 obtain ⟨h1, h2⟩ := tyV_is I1 r1 ty
 refine getMethod_builtin h1 pa slot hty h2 ?_
 show wpAny _ _ (callWith pos (.builtin id) [v] (backTo pos (starEach args X.env)) []) _ _ _
 have hA := ha.run pos pins s1 σ H1 _ I1 q1
 cases args with
 | nil =>
  refine Calls.callWith_builtin rfl (PySem.evalArgs_none ?_)
  exact hr x [] v [] s1 H1 I1 r1 .nil (hz rfl _ _ _ q1)
 | cons a es =>
  rw [List.all_cons, Bool.and_eq_true] at hs
  rw [star_ok hs.1] at hA ⊢
  refine Calls.callWith_builtin (by show (false || (backTo pos (starEach es X.env)).any (·.1)) = false; rw [star_any hs.2] <;> rfl) (Calls.evalArgs_plain ?_)
  exact thn hA fun us s2 ⟨vs, H2, I2, r2, q2⟩ => hr x vs v us s2 H2 I2 r1 r2 q2
theorem nil_rd {args : List Expr} {xs : List E} (hz : args = [] → xs = []) : args = [] → ∀ σ H (R : List V → Hp → Prop), rdA T Wx (evEs p cal xs) σ H R → R [] H := fun e σ H R ⟨c, st, h, q⟩ => by
 rw [hz e] at q
 simp only [evEs] at q
 exact Post.ret q h relA_nil'
theorem se_cmt {kk : Cmt} {apos : Pos} {args : List Expr} {xs : List E} (hsp : noSup a = true) (hs : args.all notStar = true) (hfew : args.length < 29) (hline : (apos.endLine == pos.line) = true) (hz : args = [] → xs = []) (hk : kk ≠ .setdefault) (ho : SE T X Wx a (evE p cal ea)) (ha : SA T X Wx args (evEs p cal xs)) :
  SE T X Wx (.Call (.Attribute a (cmNm kk) apos) args [] pos) (evE p cal (.cmt kk ea xs)) :=
 ⟨fun pins s σ H Q I ⟨c, st, h, q⟩ => by
  simp only [evE] at q
  obtain ⟨slot, hty⟩ := cm_road hk
  refine bm_run (R := fun v us H => ∃ c st x ws, RSt T c st σ H ∧ RV T c σ H x v ∧ relA T σ c H ws us ∧ Post T Wx (relV T σ) c σ H (match look st x with
   | some o => if okvs ws || kk = .extend then (match cmtW kk o (ws.map fun w => if kk = .extend then vw st w else w) with
    | some (w, o') => (match put st o' x with
     | some st3 => .ok w st3
     | none => .stk)
    | none => .stk) else .stk
   | none => .stk) Q) PySem.F.plainAttrs_list slot hty hsp hs hfew hline ho ha (nil_rd hz) I ⟨c, st, h, (Post.bind (rel := relV T σ) q).mono ?_⟩ ?_
  ·rintro v H1 ⟨c1, st1, x, S1, h1, r1, q1⟩
   cases hc : cmT kk (look st1 x) with
   | false => simp only [hc] at q1; exact (show False from q1).elim
   | true =>
   simp only [hc, if_true] at q1
   have hl : ∃ l, look st1 x = some (.lst l) := by
    cases e : look st1 x with
    | none => rw [e] at hc; cases kk <;> simp [cmT] at hc
    | some o => rw [e] at hc; cases o <;> cases kk <;> simp [cmT] at hc <;> exact ⟨_, rfl⟩
   obtain ⟨l, el⟩ := hl
   obtain ⟨aa, e1, vs, g1, g2⟩ := look_ok h1 r1 el
   subst e1
   refine ⟨.inl ⟨rfl, vs, SqL.of g1⟩, c1, st1, h1, (Post.bind (rel := relA T σ) q1).mono ?_⟩
   rintro us H2 ⟨c2, st2, ws, S2, h2, ra, q2⟩
   exact ⟨c2, st2, x, ws, h2, RV.mono S2 r1, ra, q2⟩
  ·rintro v us vv uu s H I rv ru ⟨c, st, x, ws, h, r, ra, q⟩
   cases e : look st x with
   | none => simp only [e] at q; exact (show False from q).elim
   | some o =>
   simp only [e] at q
   cases hok : (okvs ws || decide (kk = .extend)) with
   | false => simp only [hok] at q; exact (show False from q).elim
   | true =>
   simp only [hok, if_true] at q
   cases ec : cmtW kk o (ws.map fun w => if kk = .extend then vw st w else w) with
   | none => simp only [ec] at q; exact (show False from q).elim
   | some wo =>
   obtain ⟨w, o'⟩ := wo
   simp only [ec] at q
   cases ep : put st o' x with
   | none => simp only [ep] at q; exact (show False from q).elim
   | some st' =>
   simp only [ep] at q
   have ok2 : okvs ws = true ∨ kk = .extend := by
    simpa using hok
   exact cmt_ok h I r rv e ok2 ra ru ec ep fun z H' S' h' rw' => q z H' c S' h' rw'.rv⟩
def _root_.Ev.W.isTp : W → Bool
 | .tup _ => true
 | _ => false
theorem vw_tp (st : St) (x : W) : (vw st x).isTp = x.isTp := by
 cases x <;> first | rfl | skip
 ·unfold vw
  simp only
  cases look st _ with
  | none => rfl
  | some o => cases o <;> rfl
 ·unfold vw
  simp only
  cases look st _ with
  | none => rfl
  | some o => cases o <;> rfl
theorem bmOf_tp {bb : Bmt} {w w' : W} (h : bmT bb w = true) (h' : bmT bb w' = true) (e : w.isTp = w'.isTp) : bmOf bb w = bmOf bb w' := by
 cases bb <;> cases w <;> simp [bmT] at h <;> cases w' <;> simp [bmT] at h' <;> first | rfl | (simp [W.isTp] at e)
def bmNm : Bmt → Str
 | .count => "count" | .index => "index" | .split => "split" | .join => "join" | .partition => "partition" | .get => "get" | .items => "items" | .values => "values"
def bmTy : Bmt → String
 | .get | .items | .values => "dict"
 | .split | .join | .partition => "str"
 | _ => "list"
def bmId : Bmt → String
 | .count => "list.count" | .index => "list.index" | .get => "dict.get" | .split => "str.split" | .join => "str.join" | .partition => "str.partition" | .items => "dict.items" | .values => "dict.values"
theorem bmT_ok {bb : Bmt} {w : W} (h : bmT bb w = true) : (bmOf bb w = bmId bb ∧ ((bmTy bb = "list" ∧ ∃ l, w = .lst l) ∨ (bmTy bb = "dict" ∧ ∃ ks l, w = .dct ks l))) ∨ ((bb = .count ∨ bb = .index) ∧ ∃ l, w = .tup l) := by
 cases bb <;> cases w <;> simp [bmT] at h
 ·exact .inr ⟨.inl rfl, _, rfl⟩
 ·exact .inl ⟨rfl, .inl ⟨rfl, _, rfl⟩⟩
 ·exact .inr ⟨.inr rfl, _, rfl⟩
 ·exact .inl ⟨rfl, .inl ⟨rfl, _, rfl⟩⟩
 ·exact .inl ⟨rfl, .inr ⟨rfl, _, _, rfl⟩⟩
structure BmR (K : PySem.W.Frag) (m : Str) (H : Hp) (x : V) (ty id : String) : Prop where
 pa : PlainAttrs ty
 slot : Slot ty m id
 ty_ : typeOf (.builtin id) = pure (.type "method_descriptor")
 is_ : L2.tyV K ty x H ∨ (ty = "tuple" ∧ ∃ p vs, x = .ref p ∧ (Cln H p vs ∨ KT K p vs))
theorem bmR_is {K : PySem.W.Frag} {m : Str} {H : Hp} {x : V} {ty id : String} {v : Value} (hK : K = X.K) (b : BmR K m H x ty id) (I : Inv X pins σ H s) (r : RelV x v) : s.TypeIs v ty ∧ ∀ a, v = .ref a → ∃ ob, s.heap.get? a = some ob ∧ ob.dict = none := by
 subst hK
 rcases b.is_ with h | ⟨e, p, vs, e2, ⟨o, hd, e3⟩ | ⟨_, o, n, e3, e4, e5, e6⟩⟩
 ·exact tyV_is I r h
 ·subst e e2
  cases r
  obtain ⟨g1, g2, its, g3, g4⟩ := I.hok p _ e3
  exact ⟨g4.typeIs, fun a z => by cases z; exact ⟨o, g1, hd⟩⟩
 ·subst e e2
  cases r
  exact ⟨(show s.heap.IsTuple p #[] from ⟨o, I.kIn p o e3, e4, n, e6⟩).typeIs, fun a z => by cases z; exact ⟨o, I.kIn p o e3, e5⟩⟩
theorem bm_runD {m : Str} {apos : Pos} {o : Expr} {args : List Expr} {Q : Value → Shared → Prop} {ta : TA} {to : TE} (hsp : noSup o = true) (hs : args.all notStar = true) (hfew : args.length < 29)
  (hline : (apos.endLine == pos.line) = true) (ho : PE X o to) (ha : PA X args ta) (hz : args = [] → ∀ σ H R, ta σ H R → R [] H) (I : Inv X pins σ H s) {R : String → V → List V → Hp → Prop}
  (h : to σ H fun x H1 => ∃ ty id, BmR X.K m H1 x ty id ∧ ta σ H1 fun xs H2 => R id x xs H2) (hr : ∀ id x xs v us s H, Inv X pins σ H s → L2.RelV x v → Vals xs us → R id x xs H → wpAny (model X.prog X.w) X.A (call (.builtin id) (v :: us)) Q X.xe s) :
  wpAny (model X.prog X.w) X.A (eval (.Call (.Attribute o m apos) args [] pos) X.env) Q X.xe s := by
 refine meth_of hsp hs hfew hline (thn (ho.run pins s σ H _ I h) ?_)
 rintro v s1 ⟨x, H1, I1, r1, ty, id, B, q1⟩ pl
 obtain ⟨h1, h2⟩ := bmR_is rfl B I1 r1
 refine getMethod_builtin h1 B.pa B.slot B.ty_ h2 ?_
 show wpAny _ _ (callWith pos (.builtin id) [v] (backTo pos (starEach args X.env)) []) _ _ _
 have hA := ha.run pos pins s1 σ H1 _ I1 q1
 cases args with
 | nil =>
  refine Calls.callWith_builtin rfl (PySem.evalArgs_none ?_)
  exact hr id x [] v [] s1 H1 I1 r1 .nil (hz rfl _ _ _ q1)
 | cons a es =>
  rw [List.all_cons, Bool.and_eq_true] at hs
  rw [star_ok hs.1] at hA ⊢
  refine Calls.callWith_builtin (by show (false || (backTo pos (starEach es X.env)).any (·.1)) = false; rw [star_any hs.2] <;> rfl) (Calls.evalArgs_plain ?_)
  exact thn hA fun us s2 ⟨vs, H2, I2, r2, q2⟩ => hr id x vs v us s2 H2 I2 r1 r2 q2
theorem bm_road {bb : Bmt} (h : bb = .count ∨ bb = .index ∨ bb = .get) : Slot (bmTy bb) (bmNm bb) (bmId bb) ∧ typeOf (.builtin (bmId bb)) = pure (.type "method_descriptor") ∧ PlainAttrs (bmTy bb) := by
 rcases h with rfl | rfl | rfl
 ·exact ⟨PySem.F.slot_list_count, PySem.F.type_list_count, PySem.F.plainAttrs_list⟩
 ·exact ⟨PySem.F.slot_list_index, PySem.F.type_list_index, PySem.F.plainAttrs_list⟩
 ·exact ⟨PySem.F.slot_dict_get, PySem.F.type_dict_get, PySem.F.plainAttrs_dict⟩
theorem bm_roadT {bb : Bmt} {l : List W} (h : bb = .count ∨ bb = .index) : Slot "tuple" (bmNm bb) (bmOf bb (.tup l)) ∧ typeOf (.builtin (bmOf bb (.tup l))) = pure (.type "method_descriptor") := by
 rcases h with rfl | rfl
 ·exact ⟨PySem.F.slot_tuple_count, PySem.F.type_tuple_count⟩
 ·exact ⟨PySem.F.slot_tuple_index, PySem.F.type_tuple_index⟩
theorem se_bmt (O : XO T p X Wx k cal) {bb : Bmt} {apos : Pos} {args : List Expr} {xs : List E} (hb : bb = .count ∨ bb = .index ∨ bb = .get) (hsp : noSup a = true) (hs : args.all notStar = true) (hfew : args.length < 29) (hline : (apos.endLine == pos.line) = true) (hz : args = [] → xs = []) (ho : SE T X Wx a (evE p cal ea)) (ha : SA T X Wx args (evEs p cal xs)) :
  SE T X Wx (.Call (.Attribute a (bmNm bb) apos) args [] pos) (evE p cal (.bmt bb ea xs)) :=
 ⟨fun pins s σ H Q I ⟨c, st, h, q⟩ => by
  simp only [evE] at q
  obtain ⟨slot, hty, pa⟩ := bm_road hb
  refine bm_runD (R := fun id v us H => ∃ c st x ws, RSt T c st σ H ∧ RV T c σ H x v ∧ relA T σ c H ws us ∧ bmOf bb (vw st x) = id ∧ Post T Wx (relV T σ) c σ H (.lift st (bmtW bb (vw st x) (ws.map (vw st)))) Q) hsp hs hfew hline ho ha (nil_rd hz) I ⟨c, st, h, (Post.bind (rel := relV T σ) q).mono ?_⟩ ?_
  ·rintro v H1 ⟨c1, st1, x, S1, h1, r1, q1⟩
   cases hc : bmT bb (vw st1 x) with
   | false => simp only [hc] at q1; exact (show False from q1).elim
   | true =>
   simp only [hc, if_true] at q1
   have rv := rvv h1 r1
   have fin : ∀ id, BmR X.K (bmNm bb) H1 v (if bmOf bb (vw st1 x) = id then (if (vw st1 x).isTp then "tuple" else bmTy bb) else "") id → (∀ st2 : St, bmT bb (vw st2 x) = true → (vw st2 x).isTp = (vw st1 x).isTp) → bmOf bb (vw st1 x) = id → ∃ ty id, BmR X.K (bmNm bb) H1 v ty id ∧ rdA T Wx (evEs p cal xs) σ H1 fun us H2 => ∃ c st x ws, RSt T c st σ H2 ∧ RV T c σ H2 x v ∧ relA T σ c H2 ws us ∧ bmOf bb (vw st x) = id ∧ Post T Wx (relV T σ) c σ H2 (.lift st (bmtW bb (vw st x) (ws.map (vw st)))) Q := fun id B hst hid => by
    refine ⟨_, id, B, c1, st1, h1, (Post.bind (rel := relA T σ) q1).mono ?_⟩
    rintro us H2 ⟨c2, st2, ws, S2, h2, ra, q2⟩
    cases hc2 : bmT bb (vw st2 x) with
    | false => simp only [hc2] at q2; exact (show False from q2).elim
    | true =>
    simp only [hc2, if_true] at q2
    refine ⟨c2, st2, x, ws, h2, RV.mono S2 r1, ra, ?_, q2⟩
    rw [← hid]
    exact bmOf_tp hc2 hc (hst st2 hc2)
   have tp : ∀ st2 : St, bmT bb (vw st2 x) = true → (vw st2 x).isTp = (vw st1 x).isTp := fun st2 _ => by rw [vw_tp, vw_tp]
   refine fin _ ?_ tp rfl
   rw [if_pos rfl]
   rcases bmT_ok hc with ⟨e0, e | e⟩ | ⟨e, l, el⟩
   ·obtain ⟨e, l, el⟩ := e
    rw [e0]
    rw [el] at rv ⊢
    obtain ⟨aa, vs, e1, g1, g2⟩ := rv
    subst e1
    exact ⟨pa, slot, hty, .inl (.inl ⟨e, vs, SqL.of g1⟩)⟩
   ·obtain ⟨e, ks, l, el⟩ := e
    rw [e0]
    rw [el] at rv ⊢
    obtain ⟨aa, vs, e1, g1, g2⟩ := rv
    subst e1
    exact ⟨pa, slot, hty, .inl (.inr (.inr (.inl ⟨e, .inl ⟨_, g1⟩⟩)))⟩
   ·rw [el] at rv ⊢
    obtain ⟨aa, vs, e1, g1, g2⟩ := tup_at rv
    obtain ⟨b1, b2⟩ := bm_roadT (l := l) e
    exact ⟨PySem.F.plainAttrs_tuple, b1, b2, .inr ⟨rfl, aa, vs, e1, g1.imp (fun z => z.1) (fun z => by rw [← O.G.hK]; exact z)⟩⟩
  ·rintro id v us vv uu s H I rv ru ⟨c, st, x, ws, h, r, ra, e0, q⟩
   obtain ⟨w, e, q⟩ := lift_some q
   obtain ⟨l1, l2⟩ := relA_vv h ra
   have z := bmt_ok O.G.hK O.deep O.calm h I (rvv h r) rv l1 l2 ru e (WantsP.of q)
   rw [e0] at z
   exact z⟩
end
end Ev
namespace Ev
open PySem PySem.Spec PyProof.Rows L2 RZ
def ItzM (K : PySem.W.Frag) (a b : Addr) : It :=
 ⟨fun i H => ∃ (xs ys : List V) (x y : V), SqL K H a xs ∧ SqT K H b ys ∧ xs[i]? = some x ∧ ys[i]? = some y,
  fun i H v H' => ∃ T x y, v = .ref T ∧ H T = none ∧ H' = upd H T (.tup [x, y]) ∧ (∀ xs, SqL K H a xs → xs[i]? = some x) ∧ ∀ ys, SqT K H b ys → ys[i]? = some y,
  fun i H => ∃ xs ys : List V, SqL K H a xs ∧ SqT K H b ys ∧ (xs.length ≤ i ∨ ys.length ≤ i)⟩
section
variable {prog : Program} {w : World} {A : Around}
theorem endL (hh : A.handled = none) (it l : Addr) (items : Array Value) (i : Nat) (he : items[i]? = none) :
  Draws prog w A it [it, l] i (fun _ _ => False) (fun j h => j = i ∧ h.IsListIter it l i ∧ h.IsList l items) where
 live := fun _ _ st => let ⟨o, ho, _⟩ := st.2.1; ⟨o, ho⟩
 frame := fun _ _ _ st hk => ⟨st.1, st.2.1.at fun o e => hk it (by simp) o e, st.2.2.at fun o e => hk l (by simp) o e⟩
 item := fun j s Q E hi st hQ => absurd st.1 (Nat.ne_of_lt hi)
 done := fun s Q E st hE => wpAny_nextOf_list_end hh st.2.1 st.2.2 he hE
theorem endT (hh : A.handled = none) (it l : Addr) (items : Array Value) (i : Nat) (he : items[i]? = none) :
  Draws prog w A it [it, l] i (fun _ _ => False) (fun j h => j = i ∧ h.IsTupleIter it l i ∧ h.IsTuple l items) where
 live := fun _ _ st => let ⟨o, ho, _⟩ := st.2.1; ⟨o, ho⟩
 frame := fun _ _ _ st hk => ⟨st.1, st.2.1.at fun o e => hk it (by simp) o e, st.2.2.at fun o e => hk l (by simp) o e⟩
 item := fun j s Q E hi st hQ => absurd st.1 (Nat.ne_of_lt hi)
 done := fun s Q E st hE => wpAny_nextOf_tuple_end hh st.2.1 st.2.2 he hE
end
theorem sepM {z TI TO i1 i2 a b : Addr} (D : ZipApart z TI TO i1 i2 a b) : ZipSep2 z TI TO i1 i2 [i1, a] [i2, b] where
 TIz := D.TIz
 TOz := D.TOz
 TITO := D.TITO
 TIi1 := D.TIi1
 mem1 := by simp
 zf1 := by simp only [List.mem_cons, List.not_mem_nil, or_false]; rintro (e | e); exact D.i1z e.symm; exact D.l1z e.symm
 Tf1 := by simp only [List.mem_cons, List.not_mem_nil, or_false]; rintro (e | e); exact D.TOi1 e; exact D.l1TO e.symm
 TIi2 := D.TIi2
 mem2 := by simp
 zf2 := by simp only [List.mem_cons, List.not_mem_nil, or_false]; rintro (e | e); exact D.i2z e.symm; exact D.l2z e.symm
 Tf2 := by simp only [List.mem_cons, List.not_mem_nil, or_false]; rintro (e | e); exact D.TOi2 e; exact D.l2TO e.symm
 sep1_2 := by simp only [List.mem_cons, List.not_mem_nil, or_false]; rintro (e | e); exact D.i12 e; exact D.l2i1 e.symm
 sep2_1 := by simp only [List.mem_cons, List.not_mem_nil, or_false]; rintro (e | e); exact D.i12 e.symm; exact D.l1i2 e.symm
theorem turn_zipM {P : Program} {w : World} {K : PySem.W.Frag} {elts : List Expr} {kk : Nat} {tpos : Pos} {a b z TI TO i1 i2 : Addr} (D : ZipApart z TI TO i1 i2 a b) :
  Turn P w K (.Tuple elts kk tpos) (ItzM K a b) [z, TI, TO, i1, i2] z (fun i h => IsZip h z TI TO .none ∧ IsPair h TI (.ref i1) (.ref i2) ∧ (∃ x y, IsPair h TO x y) ∧ h.IsListIter i1 a i ∧ h.IsTupleIter i2 b i) where
 mem := by simp
 obj := fun i h st c hc => by
  obtain ⟨hz, hTI, ⟨x, y, hTO⟩, ⟨o1, e1, _, d1⟩, ⟨o2, e2, _, d2⟩⟩ := st
  have e' : c = z ∨ c = TI ∨ c = TO ∨ c = i1 ∨ c = i2 := by simpa using hc
  rcases e' with q | q | q | q | q <;> subst q
  ·exact ⟨_, hz, fun v q => nomatch q⟩
  ·exact ⟨_, hTI, fun v q => nomatch q⟩
  ·exact ⟨_, hTO, fun v q => nomatch q⟩
  ·exact ⟨o1, e1, fun v q => by rw [d1] at q; cases q⟩
  ·exact ⟨o2, e2, fun v q => by rw [d2] at q; cases q⟩
 keep := fun i h h' st k => by
  obtain ⟨hz, hTI, ⟨x, y, hTO⟩, h1, h2⟩ := st
  exact ⟨k z (by simp) _ hz, k TI (by simp) _ hTI, ⟨x, y, k TO (by simp) _ hTO⟩, h1.at fun o q => k i1 (by simp) o q, h2.at fun o q => k i2 (by simp) o q⟩
 item := by
  intro X hP hw hK hc i pins s σ H E I hf st hg
  subst hP hw hK
  obtain ⟨hz, hTI, ⟨x0, y0, hTO⟩, h1, h2⟩ := st
  obtain ⟨xs, ys, x, y, hqx, hqy, hx, hy⟩ := hg
  obtain ⟨its, rv, p, _⟩ := I.list hqx
  obtain ⟨its2, rv2, p2, _⟩ := I.tuple hqy
  obtain ⟨u, hu, ru⟩ := rv.get hx
  obtain ⟨u2, hu2, ru2⟩ := rv2.get hy
  have hd := I.ok.hd hc
  have hzl : z < s.heap.objs.size := Heap.lt_size hz
  have b1 : i < its.toArray.size := by rw [List.size_toArray]; exact (List.getElem?_eq_some_iff.mp hu).1
  have b2 : i < its2.toArray.size := by rw [List.size_toArray]; exact (List.getElem?_eq_some_iff.mp hu2).1
  refine wpAny_pyNext_zipD2_item (sepM D) (Draws.list (A := X.A.in1) hd i1 a D.l1i1 its.toArray) (Draws.tuple (A := X.A.in1) hd i2 b D.l2i2 its2.toArray) hz hTI hTO ⟨h1, p.isList⟩ ⟨h2, p2⟩ b1 b2 fun x1 x2 h' tk q1 q2 z' TO' s1' s2' hT hsz hk => ?_
  obtain rfl : u = x1 := by have q1 : its.toArray[i]? = some x1 := q1; rw [List.getElem?_toArray, hu] at q1; exact Option.some.inj q1
  obtain rfl : u2 = x2 := by have q2 : its2.toArray[i]? = some x2 := q2; rw [List.getElem?_toArray, hu2] at q2; exact Option.some.inj q2
  obtain ⟨h1', _⟩ := s1'
  obtain ⟨h2', _⟩ := s2'
  refine ⟨_, rfl, wpAny_letOwnedTupleGo_zip (s := { s with heap := h', toks := tk }) z' fun h'' z'' sb => ?_⟩
  have hT2 : h''.get? s.heap.objs.size = some { cls := .type "tuple", data := .seq #[u, u2] } := (sb.2 _ (Nat.ne_of_gt hzl)).trans hT
  have new : ObjOk X.prog X.w (upd H s.heap.objs.size (.tup [x, y])) h'' s.heap.objs.size (.tup [x, y]) :=
   ⟨by show 2 ≤ sizeLine; decide, [u, u2], .cons ru (.cons ru2 .nil), ⟨_, hT2, rfl, _, rfl⟩⟩
  have I1 : Inv X pins σ (upd H s.heap.objs.size (.tup [x, y])) { s with heap := h'', toks := tk } :=
   I.turnedNew (t' := tk) (ch := [z, TI, TO, i1, i2]) (fun c o hb q => (sb.2 c (fun q' => hb (by simp [q']))).trans (hk c o (fun q' => hb (by simp [q'])) (fun q' => hb (by simp [q'])) (fun q' => hb (by simp [q'])) (fun q' => hb (by simp [q'])) q)) hf (Nat.le_refl _) new
  refine ⟨.ref s.heap.objs.size, _, I1, rfl, ⟨_, x, y, rfl, I.hok.fresh (Nat.le_refl _), rfl, fun l hl => by rw [I.list_inj hl hqx]; exact hx, fun l hl => by rw [I.tuple_inj hl hqy]; exact hy⟩, ⟨z'', ?_, ⟨u, u2, ?_⟩, ?_, ?_⟩, fun c hcm => ?_⟩
  ·exact (sb.2 _ D.TIz).trans (hk _ _ D.TIz D.TITO D.TIi1 D.TIi2 hTI)
  ·exact (sb.2 _ D.TOz).trans TO'
  ·exact h1'.at fun o q => (sb.2 _ D.i1z).trans q
  ·exact h2'.at fun o q => (sb.2 _ D.i2z).trans q
  ·have hlt : c < s.heap.objs.size := by
    have e' : c = z ∨ c = TI ∨ c = TO ∨ c = i1 ∨ c = i2 := by simpa using hcm
    rcases e' with q | q | q | q | q <;> subst q
    ·exact hzl
    ·exact Heap.lt_size hTI
    ·exact Heap.lt_size hTO
    ·obtain ⟨_, e1, _⟩ := h1; exact Heap.lt_size e1
    ·obtain ⟨_, e2, _⟩ := h2; exact Heap.lt_size e2
   rw [upd_ne (Nat.ne_of_lt hlt)]
   exact (hf c hcm).1
 done := by
  intro X hP hw hK hc i pins s σ H E I hf st hg
  subst hP hw hK
  obtain ⟨hz, hTI, ⟨x0, y0, hTO⟩, h1, h2⟩ := st
  obtain ⟨xs, ys, hqx, hqy, hend⟩ := hg
  obtain ⟨its, rv, p, _⟩ := I.list hqx
  obtain ⟨its2, rv2, p2, _⟩ := I.tuple hqy
  have l1 := rv.length
  have l2 := rv2.length
  have hd := I.ok.hd hc
  have fin : ∀ h' tk, (∀ c o, c ≠ z → c ≠ TO → c ≠ i1 → c ≠ i2 → s.heap.get? c = some o → h'.get? c = some o) → (none : Option Value) = none ∧ Inv X pins σ H { s with heap := h', toks := tk } := fun h' tk hk => ⟨rfl, I.turnedL (t' := tk) (ch := [z, TI, TO, i1, i2]) (fun c o hb q =>
   hk c o (fun q' => hb (by simp [q'])) (fun q' => hb (by simp [q'])) (fun q' => hb (by simp [q'])) (fun q' => hb (by simp [q'])) q) hf⟩
  by_cases e1 : its.length ≤ i
  ·have n1 : its.toArray[i]? = none := by simp; omega
   by_cases e2 : its2.length ≤ i
   ·have n2 : its2.toArray[i]? = none := by simp; omega
    exact wpAny_pyNext_zipD2_end (sepM D) (endL (A := X.A.in1) hd i1 a its.toArray i n1) (endT (A := X.A.in1) hd i2 b its2.toArray i n2) hz hTI hTO ⟨rfl, h1, p.isList⟩ ⟨rfl, h2, p2⟩ (Nat.le_refl _) (Nat.le_refl _) (.inl rfl) fin
   ·exact wpAny_pyNext_zipD2_end (sepM D) (endL (A := X.A.in1) hd i1 a its.toArray i n1) (Draws.tuple (A := X.A.in1) hd i2 b D.l2i2 its2.toArray) hz hTI hTO ⟨rfl, h1, p.isList⟩ ⟨h2, p2⟩ (Nat.le_refl _) (by rw [List.size_toArray]; omega) (.inl rfl) fin
  ·have e2 : its2.length ≤ i := by omega
   have n2 : its2.toArray[i]? = none := by simp; omega
   exact wpAny_pyNext_zipD2_end (sepM D) (Draws.list (A := X.A.in1) hd i1 a D.l1i1 its.toArray) (endT (A := X.A.in1) hd i2 b its2.toArray i n2) hz hTI hTO ⟨h1, p.isList⟩ ⟨rfl, h2, p2⟩ (by rw [List.size_toArray]; omega) (Nat.le_refl _) (.inr rfl) fin
 self := fun A i s Q E st h => wpAny_pyIter_zip st.1 h
def iZipM (K : PySem.W.Frag) (ta : TA) : TI := fun σ H R => ta σ H fun vs H1 => ∃ a b xs ys, vs = [.ref a, .ref b] ∧ ((SqL K H1 a xs ∧ SqL K H1 b ys ∧ R (Itz K a b) H1) ∨ (SqT K H1 a xs ∧ SqT K H1 b ys ∧ R (ItzT K a b) H1) ∨ (SqL K H1 a xs ∧ SqT K H1 b ys ∧ R (ItzM K a b) H1))
set_option maxHeartbeats 1000000 in
theorem pi_zipM {X : Cx} {e e2 : Expr} {ta : TA} {p pos tpos : Pos} {elts : List Expr} {kk : Nat} (hg : Gl X "zip") (hm : X.mg "zip" = none) (ha : PA X [e, e2] ta)
  (hs : starEach [e, e2] X.env = (false, eval e X.env) :: starEach [e2] X.env := by rfl) (hpl : (backTo pos (starEach [e2] X.env)).any (·.1) = false := by rfl) :
  PI X (.Tuple elts kk tpos) (.Call (.Name "zip" p) [e, e2] [] pos) (iZipM X.K ta) := by
 refine ⟨fun pins s σ H R I h => ?_⟩
 refine Call_ (ld_blt I hg hm PyProof.Rows.boot_zip (PyProof.Rows.callWith_type1 (thn (ha.run pos pins s σ H _ I h) fun us s1 ⟨vs, H1, I1, r1, q1⟩ => ?_) hs hpl))
 obtain ⟨a, b, xs, ys, ex, q1⟩ := q1
 subst ex
 cases r1 with
 | cons r r1 =>
 cases r1 with
 | cons r' r1 =>
  cases r1
  cases r
  cases r'
  have fresh : ∀ c, s1.heap.objs.size ≤ c → FpOk X pins H1 c := fun c hle => I1.fpOk hle (I1.hok.fresh hle)
  have fresh5 : ∀ c, c ∈ [s1.heap.objs.size + 4, s1.heap.objs.size + 2, s1.heap.objs.size + 3, s1.heap.objs.size, s1.heap.objs.size + 1] → FpOk X pins H1 c := fun c hcm => by
   simp only [List.mem_cons, List.not_mem_nil, or_false] at hcm
   refine fresh c ?_
   rcases hcm with z | z | z | z | z <;> subst z
   ·exact Nat.le_add_right _ _
   ·exact Nat.le_add_right _ _
   ·exact Nat.le_add_right _ _
   ·exact Nat.le_refl _
   ·exact Nat.le_add_right _ _
  rcases q1 with ⟨hqx, hqy, q⟩ | ⟨hqx, hqy, q⟩ | ⟨hqx, hqy, q⟩
  ·obtain ⟨its, rv, p1, _⟩ := I1.list hqx
   obtain ⟨its2, rv2, p2, _⟩ := I1.list hqy
   refine call_zip_2 p1.isList p2.isList fun h' hz hTI hTO h1 h2 hsz hk => wpAny_pyIter_zip hz ?_
   exact ⟨_, _, _, _, H1, rfl, I1.kept (t' := s1.toks) hk, turn_zip (PySem.W.ktu_apart s1.heap.objs.size a b p1.lt p2.lt), ⟨hz, hTI, ⟨_, _, hTO⟩, h1, h2⟩, fresh5, q⟩
  ·obtain ⟨its, rv, p1, _⟩ := I1.tuple hqx
   obtain ⟨its2, rv2, p2, _⟩ := I1.tuple hqy
   obtain ⟨o1, ho1, _⟩ := id p1
   obtain ⟨o2, ho2, _⟩ := id p2
   refine call_zipT (show s1.heap.IsTuple a its.toArray from p1) (show s1.heap.IsTuple b its2.toArray from p2) fun h' hz hTI hTO h1 h2 hsz hk => wpAny_pyIter_zip hz ?_
   exact ⟨_, _, _, _, H1, rfl, I1.kept (t' := s1.toks) hk, turn_zipT (PySem.W.ktu_apart s1.heap.objs.size a b (Heap.lt_size ho1) (Heap.lt_size ho2)), ⟨hz, hTI, ⟨_, _, hTO⟩, h1, h2⟩, fresh5, q⟩
  ·obtain ⟨its, rv, p1, _⟩ := I1.list hqx
   obtain ⟨its2, rv2, p2, _⟩ := I1.tuple hqy
   obtain ⟨o2, ho2, _⟩ := id p2
   refine zip_begins2 (begins_list a its.toArray) (begins_tuple b its2.toArray) p1.isList p2 fun h' hz hTI hTO h1 h2 hsz hk => wpAny_pyIter_zip hz ?_
   exact ⟨_, _, _, _, H1, rfl, I1.kept (t' := s1.toks) hk, turn_zipM (PySem.W.ktu_apart s1.heap.objs.size a b p1.lt (Heap.lt_size ho2)), ⟨hz, hTI, ⟨_, _, hTO⟩, ⟨_, h1, rfl, rfl⟩, ⟨_, h2, rfl, rfl⟩⟩, fresh5, q⟩
end Ev
namespace Ev
open PySem PySem.Spec PyProof.Rows L2 Calls ClX RZ
def RWi (T : Tb) (lv : List Addr) (nf : Addr → Prop) (H : Hp) : W → V → Prop
 | .tup ws, v => ∃ a vs, v = .ref a ∧ ((Rd H a (.tup vs) ∧ ¬ nf a) ∨ KT T.K a vs) ∧ RWs T lv nf H ws vs
 | w, v => RW T lv nf H w v
theorem RW.i {T : Tb} {lv : List Addr} {nf : Addr → Prop} {H : Hp} {w : W} {v : V} (r : RW T lv nf H w v) : RWi T lv nf H w v := by
 cases w <;> try exact r
 simp only [RW] at r
 obtain ⟨a, vs, e, c, rs⟩ := r
 exact ⟨a, vs, e, c.imp (fun z => ⟨z.1.rd, z.2⟩) id, rs⟩
def Src.pr : Src → Bool
 | .enu _ => true
 | .enk _ _ => true
 | .zip _ _ => true
 | _ => false
def RWq (T : Tb) (b : Bool) (lv : List Addr) (nf : Addr → Prop) (H : Hp) (w : W) (v : V) : Prop := if b then RWi T lv nf H w v else RW T lv nf H w v
def Wk (T : Tb) (c0 : Cf) (H0 : Hp) (q : Src) (J : It) : Prop := ∀ (c : Cf) (st : St) (σ : L2.St) (H : Hp) (i : Nat), Mn c0.lv c0.nf H0 c.lv c.nf H → RSt T c st σ H →
 (q.at st i = some none → J.stop i H) ∧ ∀ w, q.at st i = some (some w) → J.go i H ∧ ∀ v H', J.yld i H v H' → Stp c H c H' ∧ RSt T c st σ H' ∧ RWq T q.pr c.lv c.nf H' w v
def isTpE : Expr → Bool
 | .Tuple .. => true
 | _ => false
def relI (T : Tb) (tg : Expr) : Cf → Hp → Src → It → Prop := fun c H q J => Wk T c H q J ∧ (q.pr = true → isTpE tg = true)
def rdI (T : Tb) (tg : Expr) (Wx : WX) (m : St → R Src) : TI := fun σ H R => ∃ c st, RSt T c st σ H ∧ Post T Wx (relI T tg) c σ H (m st) R
def SI (T : Tb) (X : Cx) (Wx : WX) (tg it : Expr) (m : St → R Src) : Prop := PI X tg it (rdI T tg Wx m)
theorem PI.imp {X : Cx} {tg it : Expr} {t t' : TI} (h : PI X tg it t) (q : ∀ σ H Q, t' σ H Q → t σ H Q) : PI X tg it t' := ⟨fun pins s σ H R I z => h.run pins s σ H R I (q _ _ _ z)⟩
section
variable {T : Tb} {X : Cx} {Wx : WX} {p : Pg} {cal : Bool → Nat → List W → List OO → RC} {c : Cf} {st : St} {σ : L2.St} {H : Hp} {pins : List (Addr × Obj)} {s : Shared} {k : Nat}
variable {a b d e tg : Expr} {ea eb ed : E} {pos : Pos}
theorem wk_ok (h : RSt T c st σ H) {w : W} {v : V} (r : RW T c.lv c.nf H w v) {xs : List W} (e : wkOf st w = some xs) : ∃ a vs, v = .ref a ∧ ((H a = some (.lst vs) ∧ lstOf st w = some xs) ∨ (CT T.K c.nf H a vs ∧ w = .tup xs)) ∧ RWs T c.lv c.nf H xs vs := by
 unfold wkOf at e
 split at e
 ·rename_i ho
  have lk : ∀ {o}, seqOf st w = (match look st w with | some (.lst xs) => some xs | _ => none) → look st w = some o → ∃ a vs, v = .ref a ∧ ((H a = some (.lst vs) ∧ lstOf st w = some xs) ∨ (CT T.K c.nf H a vs ∧ w = .tup xs)) ∧ RWs T c.lv c.nf H xs vs := fun {o} e2 q => by
   rw [e2, q] at e
   cases o with
   | lst ys =>
    cases e
    obtain ⟨a, e1, vs, g1, g2⟩ := look_ok h r.rv q
    exact ⟨a, vs, e1, .inl ⟨g1, by unfold lstOf; rw [q]⟩, g2⟩
   | dct _ _ => cases e
   | ins _ _ _ => cases e
   | tab => cases e
   | dnk _ _ => cases e
  cases w with
  | tup ys =>
   obtain rfl : ys = xs := by simpa [seqOf] using e
   obtain ⟨a, vs, e1, e2, e3⟩ : ∃ a vs, v = .ref a ∧ CT T.K c.nf H a vs ∧ RWs T c.lv c.nf H ys vs := by simpa [RW] using r
   exact ⟨a, vs, e1, .inr ⟨e2, rfl⟩, e3⟩
  | lst ys => exact lk rfl rfl
  | dct _ _ => exact lk rfl rfl
  | obj _ _ _ => exact lk rfl rfl
  | loc n =>
   cases q : look st (.loc n) with
   | none => simp [seqOf, q] at e
   | some o => exact lk rfl q
  | sl n => cases ho
  | non => simp [seqOf, look] at e
  | bl _ => simp [seqOf, look] at e
  | int _ => simp [seqOf, look] at e
  | str _ => simp [seqOf, look] at e
  | glo _ => simp [seqOf, look] at e
  | exn _ _ _ => simp [seqOf, look] at e
  | scr _ => simp [seqOf, look] at e
 ·cases e
theorem wk_seq {w : W} {aa : Addr} (r : RW T c.lv c.nf H w (.ref aa)) (ht : ∀ xs, w ≠ .tup xs) : Wk T c H (.seq w) (Itl X.K aa) := fun c1 st1 σ1 H1 i S h1 => by
 have r1 := r.mono S
 have get : ∀ xs, wkOf st1 w = some xs → ∃ vs, H1 aa = some (.lst vs) ∧ RWs T c1.lv c1.nf H1 xs vs := fun xs e => by
  obtain ⟨a', vs, e1, e2, e3⟩ := wk_ok h1 r1 e
  cases e1
  rcases e2 with ⟨e2, _⟩ | ⟨_, e2⟩
  ·exact ⟨vs, e2, e3⟩
  ·exact (ht xs e2).elim
 refine ⟨fun e => ?_, fun w' e => ?_⟩
 ·simp only [Src.at, Option.map_eq_some_iff] at e
  obtain ⟨xs, e1, e2⟩ := e
  obtain ⟨vs, g1, g2⟩ := get xs e1
  exact ⟨vs, SqL.of g1, by rw [← g2.len]; exact List.getElem?_eq_none_iff.mp e2⟩
 ·simp only [Src.at, Option.map_eq_some_iff] at e
  obtain ⟨xs, e1, e2⟩ := e
  obtain ⟨vs, g1, g2⟩ := get xs e1
  obtain ⟨v, g3, g4⟩ := g2.get e2
  refine ⟨⟨vs, v, SqL.of g1, g3⟩, ?_⟩
  rintro v' H' ⟨rfl, hy⟩
  have := hy vs (SqL.of g1)
  rw [g3] at this; cases this
  exact ⟨Stp.refl, h1, g4⟩
theorem wk_tup (hK : T.K = X.K) {xs : List W} {aa : Addr} (r : RW T c.lv c.nf H (.tup xs) (.ref aa)) : Wk T c H (.seq (.tup xs)) (Itt X.K aa) := fun c1 st1 σ1 H1 i S h1 => by
 have r1 := r.mono S
 obtain ⟨a', vs, e1, g1, g2⟩ : ∃ a vs, V.ref aa = .ref a ∧ CT T.K c1.nf H1 a vs ∧ RWs T c1.lv c1.nf H1 xs vs := by simpa [RW] using r1
 cases e1
 refine ⟨fun e => ?_, fun w' e => ?_⟩
 ·have e2 : xs[i]? = none := by simpa [Src.at, wkOf, seqOf, okv] using e
  exact ⟨vs, CT.sq g1 hK, by rw [← g2.len]; exact List.getElem?_eq_none_iff.mp e2⟩
 ·have e2 : xs[i]? = some w' := by simpa [Src.at, wkOf, seqOf, okv] using e
  obtain ⟨v, g3, g4⟩ := g2.get e2
  refine ⟨⟨vs, v, CT.sq g1 hK, g3⟩, ?_⟩
  rintro v' H' ⟨rfl, hy⟩
  have := hy vs (CT.sq g1 hK)
  rw [g3] at this; cases this
  exact ⟨Stp.refl, h1, g4⟩
theorem wk_str {x : Tx} (ho : tOk x = true) : Wk T c H (.fix (x.map fun c => .str [c])) (Its (tS x)) := fun c1 st1 σ1 H1 i S h1 => by
 have sz : (tS x).cps.size = x.length := by
  show (SX.S x).cps.size = x.length
  rw [← SX.S_len]; rfl
 have gt : ∀ j : Nat, (tS x).cps[j]? = x[j]? := fun j => by
  show (SX.S x).cps[j]? = _
  simp [SX.S]
 refine ⟨fun e => ?_, fun w' e => ?_⟩
 ·have e2 : x[i]? = none := by
   simp only [Src.at, Option.some.injEq, List.getElem?_map, Option.map_eq_none_iff] at e
   exact e
  show (tS x).cps.size ≤ i
  rw [sz]; exact List.getElem?_eq_none_iff.mp e2
 ·simp only [Src.at, Option.some.injEq, List.getElem?_map, Option.map_eq_some_iff] at e
  obtain ⟨cc, e1, e2⟩ := e
  subst e2
  refine ⟨by show i < (tS x).cps.size; rw [sz]; exact (List.getElem?_eq_some_iff.mp e1).1, ?_⟩
  rintro v' H' ⟨rfl, c', hc, rfl⟩
  rw [gt, e1] at hc
  cases hc
  refine ⟨Stp.refl, h1, ?_⟩
  refine (show V.str _ = V.str (tS [cc]) ∧ tOk [cc] = true from ⟨rfl, ?_⟩)
  unfold tOk at ho ⊢
  rw [List.all_eq_true] at ho
  simp only [List.all_cons, List.all_nil, Bool.and_true]
  exact ho cc (List.mem_of_getElem? e1)
theorem wk_rng {lo : Int} {n : Nat} : Wk T c H (.fix ((List.range n).map fun (k : Nat) => W.int (lo + (k : Int)))) (Itr lo n) := fun c1 st1 σ1 H1 i S h1 => by
 refine ⟨fun e => ?_, fun w' e => ?_⟩
 ·simp only [Src.at, Option.some.injEq, List.getElem?_map, Option.map_eq_none_iff, List.getElem?_eq_none_iff, List.length_range] at e
  exact e
 ·simp only [Src.at, Option.some.injEq, List.getElem?_map, Option.map_eq_some_iff] at e
  obtain ⟨j, e1, e2⟩ := e
  have hi : i < n := by simpa using (List.getElem?_eq_some_iff.mp e1).1
  have hj : j = i := by
   rw [List.getElem?_range hi] at e1
   exact (Option.some.inj e1).symm
  subst hj e2
  refine ⟨hi, ?_⟩
  rintro v' H' ⟨rfl, rfl⟩
  exact ⟨Stp.refl, h1, rfl⟩
theorem new_pair {x y : W} {v u : V} {q : Addr} (h : RSt T c st σ H) (hq : H q = none) (r1 : RW T c.lv c.nf H x v) (r2 : RW T c.lv c.nf H y u) : Stp c H c (upd H q (.tup [v, u])) ∧ RSt T c st σ (upd H q (.tup [v, u])) ∧ RWq T true c.lv c.nf (upd H q (.tup [v, u])) (.tup [x, y]) (.ref q) := by
 refine ⟨Stp.grow hq, h.grow hq, ?_⟩
 exact ⟨q, [v, u], rfl, .inl ⟨.inl upd_same, h.new hq⟩, (RWs.cons r1 (RWs.cons r2 RWs.nil)).grow hq⟩
theorem wk_enu {w : W} {aa : Addr} (r : RW T c.lv c.nf H w (.ref aa)) (ht : ∀ xs, w ≠ .tup xs) : Wk T c H (.enu w) (Ite X.K aa) := fun c1 st1 σ1 H1 i S h1 => by
 have r1 := r.mono S
 have get : ∀ xs, wkOf st1 w = some xs → ∃ vs, H1 aa = some (.lst vs) ∧ RWs T c1.lv c1.nf H1 xs vs := fun xs e => by
  obtain ⟨a', vs, e1, e2, e3⟩ := wk_ok h1 r1 e
  cases e1
  rcases e2 with ⟨e2, _⟩ | ⟨_, e2⟩
  ·exact ⟨vs, e2, e3⟩
  ·exact (ht xs e2).elim
 refine ⟨fun e => ?_, fun w' e => ?_⟩
 ·simp only [Src.at, Option.map_eq_some_iff, Option.map_eq_none_iff] at e
  obtain ⟨xs, e1, e2⟩ := e
  obtain ⟨vs, g1, g2⟩ := get xs e1
  exact ⟨vs, SqL.of g1, by rw [← g2.len]; exact List.getElem?_eq_none_iff.mp e2⟩
 ·simp only [Src.at, Option.map_eq_some_iff] at e
  obtain ⟨xs, e1, x, e2, e3⟩ := e
  subst e3
  obtain ⟨vs, g1, g2⟩ := get xs e1
  obtain ⟨v, g3, g4⟩ := g2.get e2
  refine ⟨⟨vs, v, SqL.of g1, g3⟩, ?_⟩
  rintro v' H' ⟨q, x', rfl, hq, rfl, hy⟩
  have := hy vs (SqL.of g1)
  rw [g3] at this; cases this
  exact new_pair (x := .int i) h1 hq rfl g4
theorem wl_ok (h : RSt T c st σ H) {w : W} {v : V} (r : RW T c.lv c.nf H w v) {xs : List W} (e : wlOf st w = some xs) : ∃ a vs, v = .ref a ∧ H a = some (.lst vs) ∧ RWs T c.lv c.nf H xs vs := by
 unfold wlOf at e
 split at e
 ·unfold lstOf at e
  split at e
  ·rename_i ys hl
   cases e
   obtain ⟨a, e1, vs, g1, g2⟩ := look_ok h r.rv hl
   exact ⟨a, vs, e1, g1, g2⟩
  ·cases e
 ·cases e
theorem wk_zip {w w2 : W} {aa bb : Addr} (r : RW T c.lv c.nf H w (.ref aa)) (r2 : RW T c.lv c.nf H w2 (.ref bb)) (ht : ∀ ys, w2 ≠ .tup ys) : Wk T c H (.zip w w2) (Itz X.K aa bb) := fun c1 st1 σ1 H1 i S h1 => by
 have q1 := r.mono S
 have q2 := r2.mono S
 have ea : Src.at st1 i (.zip w w2) = (wlOf st1 w).bind fun xs => (wlOf st1 w2).map fun ys => match xs[i]?, ys[i]? with | some x, some y => some (.tup [x, y]) | _, _ => none := by
  cases w2 <;> first | exact (ht _ rfl).elim | (cases w <;> rfl)
 rw [ea]
 cases e1 : wlOf st1 w with
 | none => exact ⟨fun e => by simp at e, fun w' e => by simp at e⟩
 | some xs =>
 cases e2 : wlOf st1 w2 with
 | none => exact ⟨fun e => by simp at e, fun w' e => by simp at e⟩
 | some ys =>
 obtain ⟨_, vs, z1, g1, g2⟩ := wl_ok h1 q1 e1
 obtain ⟨_, us, z2, g3, g4⟩ := wl_ok h1 q2 e2
 cases z1; cases z2
 cases f1 : xs[i]? with
 | none =>
  refine ⟨fun _ => ⟨vs, us, SqL.of g1, SqL.of g3, .inl (by rw [← g2.len]; exact List.getElem?_eq_none_iff.mp f1)⟩, fun w' e => by simp [f1] at e⟩
 | some x =>
 cases f2 : ys[i]? with
 | none =>
  refine ⟨fun _ => ⟨vs, us, SqL.of g1, SqL.of g3, .inr (by rw [← g4.len]; exact List.getElem?_eq_none_iff.mp f2)⟩, fun w' e => by simp [f1, f2] at e⟩
 | some y =>
 refine ⟨fun e => by simp [f1, f2] at e, fun w' e => ?_⟩
 obtain rfl : W.tup [x, y] = w' := by simpa [f1, f2] using e
 obtain ⟨v, k1, k2⟩ := g2.get f1
 obtain ⟨u, k3, k4⟩ := g4.get f2
 refine ⟨⟨vs, us, v, u, SqL.of g1, SqL.of g3, k1, k3⟩, ?_⟩
 rintro v' H' ⟨q, x', y', rfl, hq, rfl, hy, hy2⟩
 have a1 := hy vs (SqL.of g1)
 have a2 := hy2 us (SqL.of g3)
 rw [k1] at a1; cases a1
 rw [k3] at a2; cases a2
 exact new_pair h1 hq k2 k4
theorem wk_zipT (hK : T.K = X.K) {xs ys : List W} {aa bb : Addr} (r : RW T c.lv c.nf H (.tup xs) (.ref aa)) (r2 : RW T c.lv c.nf H (.tup ys) (.ref bb)) : Wk T c H (.zip (.tup xs) (.tup ys)) (ItzT X.K aa bb) := fun c1 st1 σ1 H1 i S h1 => by
 have q1 := r.mono S
 have q2 := r2.mono S
 obtain ⟨_, vs, z1, g1, g2⟩ : ∃ a vs, V.ref aa = .ref a ∧ CT T.K c1.nf H1 a vs ∧ RWs T c1.lv c1.nf H1 xs vs := by simpa [RW] using q1
 obtain ⟨_, us, z2, g3, g4⟩ : ∃ a vs, V.ref bb = .ref a ∧ CT T.K c1.nf H1 a vs ∧ RWs T c1.lv c1.nf H1 ys vs := by simpa [RW] using q2
 cases z1; cases z2
 simp only [Src.at]
 cases f1 : xs[i]? with
 | none =>
  refine ⟨fun _ => ⟨vs, us, CT.sq g1 hK, CT.sq g3 hK, .inl (by rw [← g2.len]; exact List.getElem?_eq_none_iff.mp f1)⟩, fun w' e => by simp at e⟩
 | some x =>
 cases f2 : ys[i]? with
 | none =>
  refine ⟨fun _ => ⟨vs, us, CT.sq g1 hK, CT.sq g3 hK, .inr (by rw [← g4.len]; exact List.getElem?_eq_none_iff.mp f2)⟩, fun w' e => by simp at e⟩
 | some y =>
 refine ⟨fun e => by simp at e, fun w' e => ?_⟩
 obtain rfl : W.tup [x, y] = w' := by simpa using e
 obtain ⟨v, k1, k2⟩ := g2.get f1
 obtain ⟨u, k3, k4⟩ := g4.get f2
 refine ⟨⟨vs, us, v, u, CT.sq g1 hK, CT.sq g3 hK, k1, k3⟩, ?_⟩
 rintro v' H' ⟨q, x', y', rfl, hq, rfl, hy, hy2⟩
 have a1 := hy vs (CT.sq g1 hK)
 have a2 := hy2 us (CT.sq g3 hK)
 rw [k1] at a1; cases a1
 rw [k3] at a2; cases a2
 exact new_pair h1 hq k2 k4
theorem wk_zipM (hK : T.K = X.K) {w : W} {ys : List W} {aa bb : Addr} (r : RW T c.lv c.nf H w (.ref aa)) (r2 : RW T c.lv c.nf H (.tup ys) (.ref bb)) (ht : ∀ xs, w ≠ .tup xs) : Wk T c H (.zip w (.tup ys)) (ItzM X.K aa bb) := fun c1 st1 σ1 H1 i S h1 => by
 have q1 := r.mono S
 have q2 := r2.mono S
 have ea : Src.at st1 i (.zip w (.tup ys)) = (wlOf st1 w).map fun xs => match xs[i]?, ys[i]? with | some x, some y => some (.tup [x, y]) | _, _ => none := by
  cases w <;> first | rfl | exact (ht _ rfl).elim
 rw [ea]
 cases e1 : wlOf st1 w with
 | none => exact ⟨fun e => by simp at e, fun w' e => by simp at e⟩
 | some xs =>
 obtain ⟨_, vs, z1, g1, g2⟩ := wl_ok h1 q1 e1
 obtain ⟨_, us, z2, g3, g4⟩ : ∃ a vs, V.ref bb = .ref a ∧ CT T.K c1.nf H1 a vs ∧ RWs T c1.lv c1.nf H1 ys vs := by simpa [RW] using q2
 cases z1; cases z2
 cases f1 : xs[i]? with
 | none =>
  refine ⟨fun _ => ⟨vs, us, SqL.of g1, CT.sq g3 hK, .inl (by rw [← g2.len]; exact List.getElem?_eq_none_iff.mp f1)⟩, fun w' e => by simp [f1] at e⟩
 | some x =>
 cases f2 : ys[i]? with
 | none =>
  refine ⟨fun _ => ⟨vs, us, SqL.of g1, CT.sq g3 hK, .inr (by rw [← g4.len]; exact List.getElem?_eq_none_iff.mp f2)⟩, fun w' e => by simp [f1] at e⟩
 | some y =>
 refine ⟨fun e => by simp [f1] at e, fun w' e => ?_⟩
 obtain rfl : W.tup [x, y] = w' := by simpa [f1] using e
 obtain ⟨v, k1, k2⟩ := g2.get f1
 obtain ⟨u, k3, k4⟩ := g4.get f2
 refine ⟨⟨vs, us, v, u, SqL.of g1, CT.sq g3 hK, k1, k3⟩, ?_⟩
 rintro v' H' ⟨q, x', y', rfl, hq, rfl, hy, hy2⟩
 have a1 := hy vs (SqL.of g1)
 have a2 := hy2 us (CT.sq g3 hK)
 rw [k1] at a1; cases a1
 rw [k3] at a2; cases a2
 exact new_pair h1 hq k2 k4
theorem it_list {R : It → Hp → Prop} {E : Value → Shared → Prop} {a : Addr} {xs : List V} (I : Inv X pins σ H s) (hq : SqL X.K H a xs) (q : R (Itl X.K a) H) : wpAny (model X.prog X.w) X.A (pyIter (.ref a)) (PIE X pins σ tg R) E s := by
 obtain ⟨its, rv, p, hz⟩ := I.list hq
 refine wpAny_pyIter_list p.isList ?_
 refine ⟨s.heap.objs.size, [s.heap.objs.size], _, _, H, rfl, I.kept (t' := s.toks) fun b o e => Heap.get?_push_of_some _ e, turn_list a _, ⟨_, Heap.get?_push_size _ rfl, rfl, rfl⟩, fun b hb => ?_, q⟩
 have e : b = s.heap.objs.size := by simpa using hb
 subst e
 exact I.fpOk (Nat.le_refl _) (I.hok.fresh (Nat.le_refl _))
theorem it_tup {R : It → Hp → Prop} {E : Value → Shared → Prop} {a : Addr} {xs : List V} (I : Inv X pins σ H s) (hq : SqT X.K H a xs) (q : R (Itt X.K a) H) : wpAny (model X.prog X.w) X.A (pyIter (.ref a)) (PIE X pins σ tg R) E s := by
 obtain ⟨its, rv, p, hz⟩ := I.tuple hq
 refine wpAny_pyIter_tuple (show s.heap.IsTuple a its.toArray from p) ?_
 refine ⟨s.heap.objs.size, [s.heap.objs.size], _, _, H, rfl, I.kept (t' := s.toks) fun b o e => Heap.get?_push_of_some _ e, turn_tuple a _, ⟨_, Heap.get?_push_size _ rfl, rfl, rfl⟩, fun b hb => ?_, q⟩
 have e : b = s.heap.objs.size := by simpa using hb
 subst e
 exact I.fpOk (Nat.le_refl _) (I.hok.fresh (Nat.le_refl _))
theorem it_str {R : It → Hp → Prop} {E : Value → Shared → Prop} {x : Str} {v : Value} (I : Inv X pins σ H s) (r : L2.RelV (.str x) v) (q : R (Its x) H) : wpAny (model X.prog X.w) X.A (pyIter v) (PIE X pins σ tg R) E s := by
 obtain ⟨t, rfl⟩ := r
 cases ha : x.cps.all (· < 128)
 ·exact wpAny_pyIter_wide ha (pi_one (tk := s.toks) I _ (turn_str _ x t "str_iterator" (.inr rfl)) ⟨_, Heap.get?_push_size _ rfl, rfl, rfl⟩ q)
 ·exact wpAny_pyIter_ascii ha (pi_one (tk := s.toks) I _ (turn_str _ x t "str_ascii_iterator" (.inl rfl)) ⟨_, Heap.get?_push_size _ rfl, rfl, rfl⟩ q)
theorem si_val (hK : T.K = X.K) (ha : SE T X Wx a (evE p cal ea)) : SI T X Wx tg a (evI p cal (.val ea)) :=
 ⟨fun pins s σ H R I ⟨c, st, h, q⟩ => by
  simp only [evI] at q
  refine thn (ha.run pins s σ H _ I (one h q)) ?_
  rintro v s1 ⟨x, H1, I1, rx, c, st, w, h, r, q⟩
  have sq : (match w with | .str _ => False | _ => True) → Post T Wx (relI T tg) c σ H1 (if (wkOf st w).isSome then .ok (.seq w) st else .stk) R → wpAny (model X.prog X.w) X.A (pyIter v) (PIE X pins σ tg R) X.xe s1 := fun _ q => by
   cases e : wkOf st w with
   | none => simp only [e] at q; exact (show False from q).elim
   | some xs =>
    simp only [e, Option.isSome_some, if_true] at q
    have ho : okv w = true := by
     cases hk : okv w with
     | true => rfl
     | false => simp [wkOf, hk] at e
    have r' := r.rw ho
    obtain ⟨aa, vs, e1, e2, e3⟩ := wk_ok h r' e
    subst e1
    cases rx
    rcases e2 with ⟨e2, e4⟩ | ⟨e2, e4⟩
    ·refine it_list I1 (SqL.of e2) (Post.ret q h ⟨wk_seq r' fun ys hy => ?_, fun z => nomatch z⟩)
     subst hy
     simp [lstOf, look] at e4
    ·subst e4
     exact it_tup I1 (CT.sq e2 hK) (Post.ret q h ⟨wk_tup hK r', fun z => nomatch z⟩)
  cases w with
  | str y =>
   obtain ⟨rfl, ho⟩ := (show x = .str (tS y) ∧ tOk y = true from r)
   exact it_str I1 rx (Post.ret q h ⟨wk_str ho, fun z => nomatch z⟩)
  | _ => exact sq trivial q⟩
end
end Ev
namespace Ev
open PySem PySem.Spec PyProof.Rows L2 Calls ClX RZ
open AutoSeq1 (wpAny_loadPart')
set_option maxHeartbeats 1000000 in
theorem meets_enumerate_newT (l : Addr) (items : Array Value) (n : Nat) (dct : Option Addr) (sl : Array (Option Value)) :
  Meets (Builtin.«enumerate.__new__» ⟨[.type "enumerate", .ref l], []⟩) (fun _ R s => s.heap.get? l = some { cls := .type "tuple", dict := dct, data := .seq items n, slots := sl } ∧
   R (.ok (.ret (.ref (s.heap.push { cls := .type "tuple_iterator", data := .fields #[.ref l, .int 0 0] }).objs.size)))
    { s with heap := (s.heap.push { cls := .type "tuple_iterator", data := .fields #[.ref l, .int 0 0] }).push { cls := .type "enumerate", data := .fields #[.none, .bool false, .ref s.heap.objs.size, rawInt 0, .none, .none] } }) :=
 .of_wp fun prog w A R s h => by
  obtain ⟨hp, g, d, tk, os⟩ := s; obtain ⟨hl, h⟩ := h
  have hsub := sub_enumerate
  have hL : Heap.IsTuple (Shared.heap ⟨hp, g, d, tk, os⟩) l items := ⟨_, hl, rfl, n, rfl⟩
  wp_walk using wpAny_loadPart' hl
  refine wpAny_stack_any fun st => wpAny_pure ?_
  split
  ·rename_i c _ _ _ _ _
   cases (c == Value.type "enumerate")
   ·wp_walk using wpAny_loadPart' hl, wpAny_pyIter_tuple hL
    exact ⟨_, rfl, h⟩
   ·wp_walk using wpAny_loadPart' hl, wpAny_pyIter_tuple hL
    exact ⟨_, rfl, h⟩
  ·wp_walk using wpAny_loadPart' hl, wpAny_pyIter_tuple hL
   exact ⟨_, rfl, h⟩
section
variable {prog : Program} {w : World} {A : Around} {E : Value → Shared → Prop} {s : Shared}
theorem call_enumerate_tuple {l : Addr} {items : Array Value} {Q : Value → Shared → Prop} (hL : s.heap.IsTuple l items)
   (h : ∀ h', IsEnum h' (s.heap.objs.size + 1) s.heap.objs.size 0 .none → h'.IsTupleIter s.heap.objs.size l 0 → h'.objs.size = s.heap.objs.size + 2 →
     (∀ b o, s.heap.get? b = some o → h'.get? b = some o) → Q (.ref (s.heap.objs.size + 1)) { s with heap := h' }) :
   wpAny (model prog w) A (call (.type "enumerate") [.ref l]) Q E s := by
 obtain ⟨⟨c, dct, dt, sl⟩, hl, hc, n, hd⟩ := hL
 replace hc : c = .type "tuple" := hc
 replace hd : dt = .seq items n := hd
 subst hc hd
 refine callType_new F.called_enumerate (by decide) (F.typeCall_enumerate_1 _) (F.newCall_enumerate_1 _) (fun obj => F.args_object_init_2 obj _) F.entry_enumerate_new
   (meets_enumerate_newT l items n dct sl) ⟨hl, ?_⟩
 have hz : (s.heap.push { cls := .type "tuple_iterator", data := .fields #[.ref l, .int 0 0] }).objs.size = s.heap.objs.size + 1 := Heap.size_push ..
 show _ ∧ _
 rw [hz]
 have he : IsEnum ((s.heap.push { cls := .type "tuple_iterator", data := .fields #[.ref l, .int 0 0] }).push
     { cls := .type "enumerate", data := .fields #[.none, .bool false, .ref s.heap.objs.size, rawInt 0, .none, .none] }) (s.heap.objs.size + 1) s.heap.objs.size 0 .none := by
   have := Heap.get?_push_size (s.heap.push { cls := .type "tuple_iterator", data := .fields #[.ref l, .int 0 0] })
     (o := { cls := .type "enumerate", data := .fields #[.none, .bool false, .ref s.heap.objs.size, rawInt 0, .none, .none] }) rfl
   rw [hz] at this; exact this
 exact ⟨⟨_, he, rfl⟩, h _ he ⟨_, Heap.get?_push_of_some _ (Heap.get?_push_size _ rfl), rfl, rfl⟩ (by rw [Heap.size_push, hz]) fun b o y => Heap.get?_push_of_some _ (Heap.get?_push_of_some _ y)⟩
theorem draws_tuple (hh : A.handled = none) (it l : Addr) (hne : l ≠ it) (items : Array Value) :
  Draws prog w A it [it, l] items.size (fun i x => items[i]? = some x) (fun i h => h.IsTupleIter it l i ∧ h.IsTuple l items) where
 live := fun i h st => let ⟨⟨o, ho, _⟩, _⟩ := st; ⟨o, ho⟩
 frame := fun i h h' st k => ⟨st.1.at fun o q => k it (by simp) o q, by
  obtain ⟨o, ho, hc, hd⟩ := st.2
  exact ⟨o, k l (by simp) o ho, hc, hd⟩⟩
 item := fun i s Q E hi st hQ => by
  have hx : items[i]? = some items[i] := by simp [hi]
  refine nextOf_tuple_item st.1 st.2 hx fun h' hit' sb => hQ _ h' s.toks hx ⟨hit', ?_⟩ sb
  obtain ⟨o, ho, hc, hd⟩ := st.2
  exact ⟨o, (sb.2 l hne).trans ho, hc, hd⟩
 done := fun s Q E st hE => nextOf_tuple_end hh st.1 st.2 (by simp) hE
theorem pyNext_enum_endT {e it l : Addr} {items : Array Value} {k : Nat} {i : Int} {old : Value} {Q : Option Value → Shared → Prop} (hh : A.handled = none)
  (he : IsEnum s.heap e it i old) (hit : s.heap.IsTupleIter it l k) (hl : s.heap.IsTuple l items) (hx : items[k]? = none)
  (hQ : ∀ h', Heap.ExtBut it s.heap h' → Q none { s with heap := h' }) : wpAny (model prog w) A (pyNext (.ref e)) Q E s := by
 have hT : s.TypeIs (.ref e) "enumerate" := ⟨_, he, rfl⟩
 unfold pyNext
 refine wpAny_bind (wpAny_attempt (wpAny_callSpecial?_slot (name := Str.ofString "__next__") hT F.slot_enumerate_next
  (wpAny_call_entry F.slot_enumerate_next hT F.entry_enumerate_next ?_ (F.args_enumerate_next_1 _))))
 show wpAny _ _ (field (.ref e) 2 >>= _) _ _ _
 refine wpAny_bind (wpAny_field he rfl (x := .ref it) rfl ?_)
 refine wpAny_bind (nextOf_tuple_end (A := A.in1) hh hit hl hx fun h' x he' hx' => ?_)
 obtain ⟨o, ho, hc⟩ := hx'
 refine wpAny_bind (wpAny_isInstance (T := "StopIteration") (b := true) ⟨o, ho, hc⟩ isSubtype_stop ?_)
 exact wpAny_pure (hQ _ he')
end
def IteT (K : PySem.W.Frag) (a : Addr) : It :=
 ⟨fun i H => ∃ (xs : List V) (x : V), SqT K H a xs ∧ xs[i]? = some x, fun i H v H' => ∃ T x, v = .ref T ∧ H T = none ∧ H' = upd H T (.tup [.int (i : Nat), x]) ∧ ∀ xs, SqT K H a xs → xs[i]? = some x, fun i H => ∃ xs : List V, SqT K H a xs ∧ xs.length ≤ i⟩
theorem turn_enumT {P : Program} {w : World} {K : PySem.W.Frag} {elts : List Expr} {kk : Nat} {tpos : Pos} (a e it : Addr) (hai : a ≠ it) (hae : a ≠ e) :
  Turn P w K (.Tuple elts kk tpos) (IteT K a) [e, it] e (fun i h => (∃ old, IsEnum h e it ((i : Nat) : Int) old) ∧ h.IsTupleIter it a i ∧ e ≠ it) where
 mem := by simp
 obj := fun i h st b hb => by
  obtain ⟨⟨old, he⟩, ⟨o, ho, hc, hd⟩, _⟩ := st
  have e' : b = e ∨ b = it := by simpa using hb
  rcases e' with z | z
  ·rw [z]; exact ⟨_, he, fun v q => nomatch q⟩
  ·rw [z]; exact ⟨o, ho, fun v q => by rw [hd] at q; cases q⟩
 keep := fun i h h' st k => let ⟨⟨old, he⟩, hi, hne⟩ := st; ⟨⟨old, k e (by simp) _ he⟩, hi.at fun o q => k it (by simp) o q, hne⟩
 item := by
  intro X hP hw hK hc i pins s σ H E I hf st hg
  subst hP hw hK
  obtain ⟨⟨old, he⟩, hit, hne⟩ := st
  obtain ⟨xs, x, hq, hx⟩ := hg
  obtain ⟨its, rv, p, hz⟩ := I.tuple hq
  obtain ⟨u, hu, ru⟩ := rv.get hx
  have hel : e < s.heap.objs.size := Heap.lt_size he
  have hil : it < s.heap.objs.size := by obtain ⟨_, q, _⟩ := hit; exact Heap.lt_size q
  have hlt : i < its.toArray.size := by
   have := (List.getElem?_eq_some_iff.mp hu).1
   simpa using this
  refine wpAny_pyNext_enum_itemD (draws_tuple (A := X.A.in1) (I.ok.hd hc) it a hai its.toArray) he ⟨hit, (show s.heap.IsTuple a its.toArray from p)⟩ hlt hne (by simp; exact ⟨hne, Ne.symm hae⟩) fun u' h' tk hu' ho hit' hT hsz hk => ?_
  obtain rfl : u = u' := by
   have : its[i]? = some u' := by simpa using hu'
   rw [hu] at this; exact Option.some.inj this
  refine ⟨_, rfl, wpAny_letOwnedTupleGo_enum (s := { s with heap := h', toks := tk + 1 }) ho fun h'' he' sb => ?_⟩
  have hT2 : h''.get? s.heap.objs.size = some { cls := .type "tuple", data := .seq #[.int i tk, u] } := (sb.2 _ (Nat.ne_of_gt hel)).trans hT
  have new : ObjOk X.prog X.w (upd H s.heap.objs.size (.tup [.int (i : Nat), x])) h'' s.heap.objs.size (.tup [.int (i : Nat), x]) :=
   ⟨by show 2 ≤ sizeLine; decide, [.int i tk, u], .cons ⟨_, rfl⟩ (.cons ru .nil), ⟨_, hT2, rfl, _, rfl⟩⟩
  have I1 : Inv X pins σ (upd H s.heap.objs.size (.tup [.int (i : Nat), x])) { s with heap := h'', toks := tk + 1 } :=
   I.turnedNew (ch := [e, it]) (fun b ob hb q => (sb.2 b (fun z => hb (by simp [z]))).trans (hk b ob (fun z => hb (by simp [z])) (fun z => hb (by simp [z])) q)) hf (Nat.le_refl _) new
  refine ⟨.ref s.heap.objs.size, _, I1, rfl, ⟨_, x, rfl, I.hok.fresh (Nat.le_refl _), rfl, fun ys hy => by rw [I.tuple_inj hy hq]; exact hx⟩, ⟨⟨u, ?_⟩, hit'.1.at fun o q => (sb.2 it (Ne.symm hne)).trans q, hne⟩, fun b hb => ?_⟩
  ·have e1 : ((i + 1 : Nat) : Int) = (i : Int) + 1 := by omega
   rw [e1]; exact he'
  ·have hb' : b < s.heap.objs.size := by
    have e' : b = e ∨ b = it := by simpa using hb
    rcases e' with z | z
    ·rw [z]; exact hel
    ·rw [z]; exact hil
   rw [upd_ne (Nat.ne_of_lt hb')]
   exact (hf b hb).1
 done := by
  intro X hP hw hK hc i pins s σ H E I hf st hg
  subst hP hw hK
  obtain ⟨⟨old, he⟩, hit, hne⟩ := st
  obtain ⟨xs, hq, hx⟩ := hg
  obtain ⟨its, rv, p, hz⟩ := I.tuple hq
  obtain ⟨f0, f1, f2, f3, f4, f5⟩ := hf it (by simp)
  have hl := rv.length
  exact pyNext_enum_endT (I.ok.hd hc) he hit (show s.heap.IsTuple a its.toArray from p) (by simp; omega) fun h' eb => ⟨rfl, I.turned (t' := s.toks) (fun b o hb q => eb b o hb q) f0 f1 f3 f4 f5⟩
 self := fun A i s Q E st h => let ⟨⟨_, he⟩, _⟩ := st; wpAny_pyIter_enum he h
section
variable {T : Tb} {X : Cx} {Wx : WX} {p : Pg} {cal : Bool → Nat → List W → List OO → RC} {c : Cf} {st : St} {σ : L2.St} {H : Hp} {pins : List (Addr × Obj)} {s : Shared} {k : Nat}
variable {a b d e tg : Expr} {ea eb ed : E} {pos : Pos}
theorem wk_enuT (hK : T.K = X.K) {xs : List W} {aa : Addr} (r : RW T c.lv c.nf H (.tup xs) (.ref aa)) : Wk T c H (.enu (.tup xs)) (IteT X.K aa) := fun c1 st1 σ1 H1 i S h1 => by
 have r1 := r.mono S
 obtain ⟨_, vs, e1, g1, g2⟩ : ∃ a vs, V.ref aa = .ref a ∧ CT T.K c1.nf H1 a vs ∧ RWs T c1.lv c1.nf H1 xs vs := by simpa [RW] using r1
 cases e1
 refine ⟨fun e => ?_, fun w' e => ?_⟩
 ·have e2 : xs[i]? = none := by simpa [Src.at, wkOf, seqOf, okv] using e
  exact ⟨vs, CT.sq g1 hK, by rw [← g2.len]; exact List.getElem?_eq_none_iff.mp e2⟩
 ·have e2 : ∃ x, xs[i]? = some x ∧ W.tup [.int i, x] = w' := by
   simp only [Src.at, wkOf, okv, if_true, seqOf, Option.map_some, Option.some.injEq, Option.map_eq_some_iff] at e
   exact e
  obtain ⟨x, e2, rfl⟩ := e2
  obtain ⟨v, g3, g4⟩ := g2.get e2
  refine ⟨⟨vs, v, CT.sq g1 hK, g3⟩, ?_⟩
  rintro v' H' ⟨q, x', rfl, hq, rfl, hy⟩
  have := hy vs (CT.sq g1 hK)
  rw [g3] at this; cases this
  exact new_pair (x := .int i) h1 hq rfl g4
theorem si_enu (hK : T.K = X.K) {elts : List Expr} {kk : Nat} {tpos np : Pos} (hg : Gl X "enumerate") (hm : X.mg "enumerate" = none) (hs : notStar a = true) (ha : SE T X Wx a (evE p cal ea)) :
  SI T X Wx (.Tuple elts kk tpos) (.Call (.Name "enumerate" np) [a] [] pos) (evI p cal (.enu ea none)) :=
 ⟨fun pins s σ H R I ⟨c, st, h, q⟩ => by
  simp only [evI] at q
  have hA : SA T X Wx [a] (evEs p cal [ea]) := sa_cons ha sa_nil (star_ok hs)
  have q' : Post T Wx (relI T (.Tuple elts kk tpos)) c σ H ((evEs p cal [ea] st).bind fun ws st1 => match ws with
   | [w] => if (wkOf st1 w).isSome then .ok (.enu w) st1 else .stk
   | _ => .stk) R := by
   simp only [evEs]
   revert q
   cases evE p cal ea st <;> exact fun q => q
  refine Call_ (ld_blt I hg hm boot_enumerate (PyProof.Rows.callWith_type1 (thn (hA.run pos pins s σ H _ I (oneA h q')) ?_) (star_ok hs) rfl))
  rintro us s1 ⟨vs, H1, I1, rv, c, st, ws, h, ra, q⟩
  match ws, ra, q with
  | [w], ra, q =>
   obtain ⟨v, rfl, r⟩ := relA_one ra
   obtain ⟨u, rfl, ru⟩ := Vals.one rv
   cases e : wkOf st w with
   | none => simp only [e] at q; exact (show False from q).elim
   | some xs =>
   simp only [e, Option.isSome_some, if_true] at q
   have ho : okv w = true := by
    cases hk : okv w with
    | true => rfl
    | false => simp [wkOf, hk] at e
   have r' := r.rw ho
   obtain ⟨aa, ys, e1, e2, e3⟩ := wk_ok h r' e
   subst e1
   cases ru
   have fp : ∀ b, b ∈ [s1.heap.objs.size + 1, s1.heap.objs.size] → FpOk X pins H1 b := fun b hb => by
    have e' : b = s1.heap.objs.size + 1 ∨ b = s1.heap.objs.size := by simpa using hb
    have hle : s1.heap.objs.size ≤ b := by rcases e' with z | z <;> omega
    exact I1.fpOk hle (I1.hok.fresh hle)
   rcases e2 with ⟨e2, e4⟩ | ⟨e2, e4⟩
   ·obtain ⟨its, rv', p', hz⟩ := I1.list (SqL.of e2)
    refine call_enumerate_list p'.isList fun h' he hit hsz hk => wpAny_pyIter_enum he ?_
    have I2 : Inv X pins σ H1 { s1 with heap := h' } := I1.kept (t' := s1.toks) hk
    refine ⟨s1.heap.objs.size + 1, [s1.heap.objs.size + 1, s1.heap.objs.size], _, _, H1, rfl, I2, turn_enum aa (s1.heap.objs.size + 1) s1.heap.objs.size, ⟨⟨.none, he⟩, hit, Nat.succ_ne_self _⟩, fp, Post.ret q h ⟨wk_enu r' fun ys hy => ?_, fun _ => rfl⟩⟩
    subst hy
    simp [lstOf, look] at e4
   ·subst e4
    obtain ⟨its, rv', p', hz⟩ := I1.tuple (CT.sq e2 hK)
    have la : aa < s1.heap.objs.size := by
     obtain ⟨o, ho, _⟩ := (show s1.heap.IsTuple aa its.toArray from p')
     exact Heap.lt_size ho
    refine call_enumerate_tuple (show s1.heap.IsTuple aa its.toArray from p') fun h' he hit hsz hk => wpAny_pyIter_enum he ?_
    have I2 : Inv X pins σ H1 { s1 with heap := h' } := I1.kept (t' := s1.toks) hk
    exact ⟨s1.heap.objs.size + 1, [s1.heap.objs.size + 1, s1.heap.objs.size], _, _, H1, rfl, I2, turn_enumT aa (s1.heap.objs.size + 1) s1.heap.objs.size (Nat.ne_of_lt la) (Nat.ne_of_lt (Nat.lt_succ_of_lt la)), ⟨⟨.none, he⟩, hit, Nat.succ_ne_self _⟩, fp, Post.ret q h ⟨wk_enuT hK r', fun _ => rfl⟩⟩
  | [], ra, q => exact (show False from q).elim
  | _ :: _ :: _, ra, q => exact (show False from q).elim⟩
theorem si_zip (hK : T.K = X.K) {b : Expr} {elts : List Expr} {kk : Nat} {tpos np : Pos} (hg : Gl X "zip") (hm : X.mg "zip" = none) (hs : notStar a = true) (hs2 : notStar b = true) (ha : SE T X Wx a (evE p cal ea)) (hb : SE T X Wx b (evE p cal eb)) :
   SI T X Wx (.Tuple elts kk tpos) (.Call (.Name "zip" np) [a, b] [] pos) (evI p cal (.zip ea eb)) :=
 PI.imp (pi_zipM hg hm (sa_cons ha (sa_cons hb sa_nil (star_ok hs2)) (star_ok hs)) (star_ok hs) (star_any (by simp [hs2]))) fun σ H R ⟨c, st, h, q⟩ => by
   simp only [evI] at q
   have q' : Post T Wx (relI T (.Tuple elts kk tpos)) c σ H ((evEs p cal [ea, eb] st).bind fun ws st2 => match ws with
     | [x, y] => if (Src.at st2 0 (.zip x y)).isSome then .ok (.zip x y) st2 else .stk
     | _ => .stk) R := by
     simp only [evEs]
     revert q
     cases evE p cal ea st with
     | ok x st1 =>
       simp only [Ev.R.bind]
       cases evE p cal eb st1 <;> exact fun q => q
     | exc x st1 => exact fun q => q
     | stk => exact fun q => q
   obtain ⟨c0, st0, h0, q0⟩ := oneA h q'
   refine ⟨c0, st0, h0, q0.mono fun vs H1 ⟨c, st, ws, h, ra, q⟩ => ?_⟩
   match ws, ra, q with
   | [x, y], ra, q =>
     obtain ⟨v, u, rfl, r1, r2⟩ := relA_two ra
     cases e : (Src.at st 0 (.zip x y)).isSome with
     | false => simp only [e] at q; exact (show False from q).elim
     | true =>
     simp only [e, if_true] at q
     by_cases ht : ∃ xs ys, x = .tup xs ∧ y = .tup ys
     · obtain ⟨xs, ys, rfl, rfl⟩ := ht
       have r1' := r1.rw rfl
       have r2' := r2.rw rfl
       obtain ⟨aa, us, e1, g1, g2⟩ : ∃ a vs, v = .ref a ∧ CT T.K c.nf H1 a vs ∧ RWs T c.lv c.nf H1 xs vs := by simpa [RW] using r1'
       obtain ⟨bb, zs, e2, g3, g4⟩ : ∃ a vs, u = .ref a ∧ CT T.K c.nf H1 a vs ∧ RWs T c.lv c.nf H1 ys vs := by simpa [RW] using r2'
       subst e1 e2
       exact ⟨aa, bb, us, zs, rfl, .inr (.inl ⟨CT.sq g1 hK, CT.sq g3 hK, Post.ret q h ⟨wk_zipT hK r1' r2', fun _ => rfl⟩⟩)⟩
     · by_cases hy : ∃ ys, y = .tup ys
       · obtain ⟨ys, rfl⟩ := hy
         have hx : ∀ xs, x ≠ .tup xs := fun xs z => ht ⟨xs, ys, z, rfl⟩
         have ea' : Src.at st 0 (.zip x (.tup ys)) = (wlOf st x).map fun xs => match xs[0]?, ys[0]? with | some x, some y => some (.tup [x, y]) | _, _ => none := by
           cases x <;> first | rfl | exact (hx _ rfl).elim
         rw [ea'] at e
         cases f1 : wlOf st x with
         | none => simp [f1] at e
         | some xs =>
         have o1 : okv x = true := by cases hk : okv x <;> simp_all [wlOf]
         have r1' := r1.rw o1
         have r2' := r2.rw rfl
         obtain ⟨aa, us, e1, g1, g2⟩ := wl_ok h r1' f1
         obtain ⟨bb, zs, e2, g3, g4⟩ : ∃ a vs, u = .ref a ∧ CT T.K c.nf H1 a vs ∧ RWs T c.lv c.nf H1 ys vs := by simpa [RW] using r2'
         subst e1 e2
         exact ⟨aa, bb, us, zs, rfl, .inr (.inr ⟨SqL.of g1, CT.sq g3 hK, Post.ret q h ⟨wk_zipM hK r1' r2' hx, fun _ => rfl⟩⟩)⟩
       have ht' : ∀ ys, y ≠ .tup ys := fun ys z => hy ⟨ys, z⟩
       have ea' : Src.at st 0 (.zip x y) = (wlOf st x).bind fun xs => (wlOf st y).map fun ys => match xs[0]?, ys[0]? with | some x, some y => some (.tup [x, y]) | _, _ => none := by
         cases y <;> first | exact (ht' _ rfl).elim | (cases x <;> rfl)
       rw [ea'] at e
       cases f1 : wlOf st x with
       | none => simp [f1] at e
       | some xs =>
       cases f2 : wlOf st y with
       | none => simp [f1, f2] at e
       | some ys =>
       have o1 : okv x = true := by cases hk : okv x <;> simp_all [wlOf]
       have o2 : okv y = true := by cases hk : okv y <;> simp_all [wlOf]
       have r1' := r1.rw o1
       have r2' := r2.rw o2
       obtain ⟨aa, us, e1, g1, g2⟩ := wl_ok h r1' f1
       obtain ⟨bb, zs, e2, g3, g4⟩ := wl_ok h r2' f2
       subst e1 e2
       exact ⟨aa, bb, us, zs, rfl, .inl ⟨SqL.of g1, SqL.of g3, Post.ret q h ⟨wk_zip r1' r2' ht', fun _ => rfl⟩⟩⟩
   | [], ra, q => exact (show False from q).elim
   | [_], ra, q => exact (show False from q).elim
   | _ :: _ :: _ :: _, ra, q => exact (show False from q).elim
theorem evEs1 {st st1 : St} {ws : List W} (e : evEs p cal [ea] st = .ok ws st1) : ∃ w, ws = [w] := by
 simp only [evEs] at e
 cases e1 : evE p cal ea st with
 | ok w st2 => simp only [e1, Ev.R.bind] at e; cases e; exact ⟨w, rfl⟩
 | exc x st2 => simp only [e1, Ev.R.bind] at e; cases e
 | stk => simp only [e1, Ev.R.bind] at e; cases e
theorem evEs2 {st st1 : St} {ws : List W} (e : evEs p cal [ea, eb] st = .ok ws st1) : ∃ w w2, ws = [w, w2] := by
 simp only [evEs] at e
 cases e1 : evE p cal ea st with
 | ok w st2 =>
  simp only [e1, Ev.R.bind] at e
  cases e2 : evE p cal eb st2 with
  | ok w2 st3 => simp only [e2] at e; cases e; exact ⟨w, w2, rfl⟩
  | exc x st3 => simp only [e2] at e; cases e
  | stk => simp only [e2] at e; cases e
 | exc x st2 => simp only [e1, Ev.R.bind] at e; cases e
 | stk => simp only [e1, Ev.R.bind] at e; cases e
theorem oneA' {γ δ : Type} {rel2 : Cf → Hp → γ → δ → Prop} {Q : δ → Hp → Prop} {ma : St → Ev.R (List W)} {f : List W → St → Ev.R γ} (h : RSt T c st σ H) (q : Post T Wx rel2 c σ H ((ma st).bind f) Q) :
  rdA T Wx ma σ H fun vs H => ∃ c' st' ws, ma st = .ok ws st' ∧ RSt T c' st' σ H ∧ relA T σ c' H ws vs ∧ Post T Wx rel2 c' σ H (f ws st') Q := by
 refine ⟨c, st, h, ?_⟩
 cases e : ma st with
 | ok ws st1 =>
  simp only [e, Ev.R.bind] at q
  exact fun b H' c' s' h' r' => ⟨c', st1, ws, rfl, h', r', q.from s'⟩
 | exc x st1 => simp only [e, Ev.R.bind] at q; exact q
 | stk => simp only [e, Ev.R.bind] at q; exact q
theorem si_rng1 {np : Pos} (hg : Gl X "range") (hm : X.mg "range" = none) (hs : notStar a = true) (ha : SE T X Wx a (evE p cal ea)) :
  SI T X Wx tg (.Call (.Name "range" np) [a] [] pos) (evI p cal (.rng [ea])) :=
 PI.imp (pi_range1 hg hm (sa_cons ha sa_nil (star_ok hs)) (star_ok hs)) fun σ H R ⟨c, st, h, q⟩ => by
  simp only [evI] at q
  obtain ⟨c0, st0, h0, q0⟩ := oneA' h q
  refine ⟨c0, st0, h0, q0.mono fun vs H1 ⟨c, st, ws, e0, h, ra, q⟩ => ?_⟩
  obtain ⟨w, rfl⟩ := evEs1 e0
  obtain ⟨v, rfl, r⟩ := relA_one ra
  obtain ⟨q1, e, q⟩ := lift_some q
  cases w <;> first | (simp [rngW] at e; done) | skip
  rename_i j
  cases r
  simp only [rngW] at e
  by_cases hj : -(2 ^ 62) ≤ j ∧ j < 2 ^ 62
  ·rw [if_pos hj] at e
   cases e
   refine ⟨j, rfl, hj.1, hj.2, Post.ret q h ?_⟩
   have := wk_rng (T := T) (c := c) (H := H1) (lo := 0) (n := j.toNat)
   simp only [Int.zero_add] at this
   exact ⟨this, fun z => nomatch z⟩
  ·rw [if_neg hj] at e; cases e
theorem si_rng2 {b : Expr} {np : Pos} (hg : Gl X "range") (hm : X.mg "range" = none) (hs : notStar a = true) (hs2 : notStar b = true) (ha : SE T X Wx a (evE p cal ea)) (hb : SE T X Wx b (evE p cal eb)) :
  SI T X Wx tg (.Call (.Name "range" np) [a, b] [] pos) (evI p cal (.rng [ea, eb])) :=
 PI.imp (pi_range2 hg hm (sa_cons ha (sa_cons hb sa_nil (star_ok hs2)) (star_ok hs)) (by rw [star_ok hs, star_ok hs2]; rfl) (by rw [star_ok hs2]; rfl)) fun σ H R ⟨c, st, h, q⟩ => by
  simp only [evI] at q
  obtain ⟨c0, st0, h0, q0⟩ := oneA' h q
  refine ⟨c0, st0, h0, q0.mono fun vs H1 ⟨c, st, ws, e0, h, ra, q⟩ => ?_⟩
  obtain ⟨w, w2, rfl⟩ := evEs2 e0
  obtain ⟨v, v2, rfl, r, r2⟩ := relA_two ra
  obtain ⟨q1, e, q⟩ := lift_some q
  cases w <;> cases w2 <;> first | (simp [rngW] at e; done) | skip
  rename_i i j
  cases r
  cases r2
  simp only [rngW] at e
  by_cases hj : -(2 ^ 62) ≤ i ∧ i < 2 ^ 62 ∧ -(2 ^ 62) ≤ j ∧ j < 2 ^ 62
  ·rw [if_pos hj] at e
   cases e
   exact ⟨i, j, rfl, hj, Post.ret q h ⟨wk_rng (T := T) (c := c) (H := H1) (lo := i) (n := (j - i).toNat), fun z => nomatch z⟩⟩
  ·rw [if_neg hj] at e; cases e
end
end Ev
namespace Ev
open PySem PySem.Spec PyProof.Rows L2 Calls ClX RZ
def Cf.drop (c : Cf) (i : Nat) : Cf := ⟨c.lv, fun j => if j = i then none else c.ow j, c.ou⟩
section
variable {T : Tb} {X : Cx} {Wx : WX} {p : Pg} {cal : Bool → Nat → List W → List OO → RC} {c : Cf} {st : St} {σ : L2.St} {H : Hp} {pins : List (Addr × Obj)} {s : Shared} {k : Nat}
theorem drop_mu {i : Nat} {a : Addr} (m : (c.drop i).mu a) : c.mu a := by
 rcases m with m | ⟨j, m⟩
 ·exact .inl m
 ·refine .inr ⟨j, ?_⟩
  unfold Cf.drop at m
  simp only at m
  split at m
  ·cases m
  ·exact m
theorem Stp.drop {i : Nat} : Stp c H (c.drop i) H := ⟨fun _ _ e _ _ => e, fun _ m => .inl (drop_mu m), fun _ _ e => e, rfl, fun _ o e _ => ⟨o, e, rfl⟩, fun j a e => .inl (by
 unfold Cf.drop at e
 simp only at e
 split at e
 ·cases e
 ·exact e)⟩
theorem RSt.setV (h : RSt T c st σ H) {i : Nat} {w : W} {v : V} (hi : i < st.r.length) (r : RW T c.lv c.nf H w v) : RSt T (c.drop i) ⟨st.r.set i (.val w), st.s⟩ (σ.set i (some v)) H := by
 have m := (Stp.drop (c := c) (H := H) (i := i)).mn
 have hi' : i < σ.length := by rw [← h.len]; exact hi
 refine ⟨by simp [h.len], fun j w' e => ?_, fun j o e => ?_, fun j a e => ?_, fun j j' a e e' => ?_, fun j a e => ?_, fun a q z => h.ou a q (drop_mu z), h.ouh, ⟨h.sto.len, h.sto.nd, fun n o a e1 e2 => (h.sto.at_ n o a e1 e2).mono m rfl⟩⟩
 ·by_cases hj : i = j
  ·subst hj
   rw [List.getElem?_set_self hi] at e
   cases e
   exact ⟨v, List.getElem?_set_self hi', r.mono m⟩
  ·rw [List.getElem?_set_ne hj] at e
   obtain ⟨v', e1, r'⟩ := h.val j w' e
   exact ⟨v', by rw [List.getElem?_set_ne hj]; exact e1, r'.mono m⟩
 ·by_cases hj : i = j
  ·subst hj
   rw [List.getElem?_set_self hi] at e
   cases e
  ·rw [List.getElem?_set_ne hj] at e
   obtain ⟨a, e1, e2, r'⟩ := h.own j o e
   exact ⟨a, by unfold Cf.drop; simp only; rw [if_neg (Ne.symm hj)]; exact e1, by rw [List.getElem?_set_ne hj]; exact e2, r'.mono m rfl⟩
 ·unfold Cf.drop at e
  simp only at e
  split at e
  ·cases e
  ·rename_i hj
   obtain ⟨o, e1⟩ := h.back j a e
   exact ⟨o, by rw [List.getElem?_set_ne (Ne.symm hj)]; exact e1⟩
 ·unfold Cf.drop at e e'
  simp only at e e'
  split at e
  ·cases e
  ·split at e'
   ·cases e'
   ·exact h.inj j j' a e e'
 ·unfold Cf.drop at e
  simp only at e
  split at e
  ·cases e
  ·exact h.dis j a e
def RWg (T : Tb) (t : Tg) (lv : List Addr) (nf : Addr → Prop) (H : Hp) (w : W) (v : V) : Prop := match t with
 | .nam _ => RW T lv nf H w v
 | .tup _ => RWi T lv nf H w v
theorem RW.g {T : Tb} {t : Tg} {lv : List Addr} {nf : Addr → Prop} {H : Hp} {w : W} {v : V} (r : RW T lv nf H w v) : RWg T t lv nf H w v := by
 cases t
 ·exact r
 ·exact r.i
def Tg.isT : Tg → Bool
 | .tup _ => true
 | _ => false
theorem RWq.g {T : Tb} {b : Bool} {t : Tg} {lv : List Addr} {nf : Addr → Prop} {H : Hp} {w : W} {v : V} (hb : b = true → t.isT = true) (r : RWq T b lv nf H w v) : RWg T t lv nf H w v := by
 cases b with
 | false => exact RW.g r
 | true =>
  cases t with
  | nam i => cases hb rfl
  | tup ts => exact r
def rdG (T : Tb) (t : Tg) : TG := fun v σ H Q => ∃ c st w, RSt T c st σ H ∧ RWg T t c.lv c.nf H w v ∧ ∃ r', tgW t w st.r = some r' ∧
 ∀ σ' c', Stp c H c' H → RSt T c' ⟨r', st.s⟩ σ' H → σ'.length = σ.length → (∀ i, i ∉ tgIx t → σ'[i]? = σ[i]?) → Q σ' H
def SG (T : Tb) (X : Cx) (tg : Expr) (t : Tg) : Prop := PG X tg (rdG T t)
theorem PG.imp {X : Cx} {tg : Expr} {t t' : TG} (h : PG X tg t) (q : ∀ v σ H Q, t' v σ H Q → t v σ H Q) : PG X tg t' := ⟨fun pins s σ H v u Q I r z => h.run pins s σ H v u Q I r (q _ _ _ _ z)⟩
theorem sg_nam {i : Nat} {x : Str} {pos : Pos} (hN : X.N.Nodup) (hi : X.N[i]? = some x) (hx : Loc X.env.scope x) (hf : X.fn x = true ∨ X.env.scope.names.lookup x = some .local) : SG T X (.Name x pos) (.nam i) :=
 PG.imp (pg_name hN hi hx hf) fun v σ H Q ⟨c, st, w, h, r, r', e, q⟩ => by
  simp only [tgW] at e
  by_cases hc : i < st.r.length ∧ okv w = true
  ·rw [if_pos (by simpa using hc)] at e
   cases e
   exact q _ _ Stp.drop (h.setV hc.1 r) (by simp) fun j hj => by
    have : i ≠ j := fun z => hj (by simp [tgIx, z])
    rw [List.getElem?_set_ne this]
  ·rw [if_neg (by simpa using hc)] at e
   cases e
def rdGs (T : Tb) (ts : List Tg) : TGs := fun vs σ H Q => ∃ c st ws, RSt T c st σ H ∧ RWs T c.lv c.nf H ws vs ∧ ∃ r', tgW.tgWs ts ws st.r = some r' ∧
 ∀ σ' c', Stp c H c' H → RSt T c' ⟨r', st.s⟩ σ' H → σ'.length = σ.length → (∀ i, i ∉ tgIx.tgIxs ts → σ'[i]? = σ[i]?) → Q σ' H
def SGs (T : Tb) (X : Cx) (es : List Expr) (ts : List Tg) : Prop := PGs X es (rdGs T ts)
theorem sgs_nil : SGs T X [] [] := ⟨fun pins s σ H vs us Q I r ⟨c, st, ws, h, rr, r', e, q⟩ => by
 refine pgs_nil.run pins s σ H vs us Q I r ?_
 cases ws with
 | nil =>
  simp only [tgW.tgWs] at e
  cases e
  simp only [RWs] at rr
  exact ⟨rr, q σ c Stp.refl h rfl fun _ _ => rfl⟩
 | cons w ws => simp [tgW.tgWs] at e⟩
theorem sgs_cons {e : Expr} {es : List Expr} {t : Tg} {ts : List Tg} (h1 : SG T X e t) (h2 : SGs T X es ts) (hs : (assignEach (e :: es) X.env).map (·.2) = assign e X.env :: (assignEach es X.env).map (·.2)) : SGs T X (e :: es) (t :: ts) :=
 ⟨fun pins s σ H vs us Q I r ⟨c, st, ws, h, rr, r', e', q⟩ => by
  refine (pgs_cons h1 h2 hs).run pins s σ H vs us Q I r ?_
  cases ws with
  | nil => simp [tgW.tgWs] at e'
  | cons w ws =>
   simp only [RWs] at rr
   obtain ⟨v, vr, rfl, g1, g2⟩ := rr
   simp only [tgW.tgWs] at e'
   cases e1 : tgW t w st.r with
   | none => simp [e1] at e'
   | some r1 =>
    simp only [e1, Option.bind_some] at e'
    refine ⟨v, vr, rfl, c, st, w, h, RW.g g1, r1, e1, fun σ1 c1 S1 h1 l1 n1 => ?_⟩
    refine ⟨c1, ⟨r1, st.s⟩, ws, h1, g2.mono S1.mn, r', e', fun σ2 c2 S2 h2 l2 n2 => ?_⟩
    refine q σ2 c2 (S1.trans S2) h2 (l2.trans l1) fun i hi => ?_
    simp only [tgIx.tgIxs, List.mem_append, not_or] at hi
    rw [n2 i hi.2, n1 i hi.1]⟩
theorem tgWs_len : ∀ {ts : List Tg} {ws : List W} {r r' : List Sl}, tgW.tgWs ts ws r = some r' → ws.length = ts.length
 | [], [], _, _, _ => rfl
 | [], _ :: _, _, _, e => by simp [tgW.tgWs] at e
 | _ :: _, [], _, _, e => by simp [tgW.tgWs] at e
 | t :: ts, w :: ws, r, r', e => by
  simp only [tgW.tgWs] at e
  cases e1 : tgW t w r with
  | none => simp [e1] at e
  | some r1 =>
   simp only [e1, Option.bind_some] at e
   simp [tgWs_len e]
theorem sg_tup (hK : T.K = X.K) {es : List Expr} {kk : Nat} {pos : Pos} {ts : List Tg} (hc : X.calm = true) (h : SGs T X es ts) (hn : (assignEach es X.env).length = ts.length) (hst : (assignEach es X.env).findIdx? (·.1) = none) : SG T X (.Tuple es kk pos) (.tup ts) :=
 PG.imp (pg_tup hc h hn hst) fun v σ H Q ⟨c, st, w, hh, r, r', e, q⟩ => by
  cases w <;> first | (simp [tgW] at e; done) | skip
  rename_i xs
  simp only [tgW] at e
  obtain ⟨a, vs, rfl, g1, g2⟩ : ∃ a vs, v = .ref a ∧ ((Rd H a (.tup vs) ∧ ¬ c.nf a) ∨ KT T.K a vs) ∧ RWs T c.lv c.nf H xs vs := r
  exact ⟨a, vs, rfl, (by rcases g1 with ⟨g1, _⟩ | g1; exact .inl g1; rw [← hK]; exact g1.sq), by rw [← g2.len]; exact tgWs_len e, c, st, xs, hh, g2, r', e, q⟩
end
end Ev
namespace Ev
open PySem PySem.Spec PyProof.Rows L2 Calls ClX RZ
section
variable {T : Tb} {c c1 : Cf} {st : St} {σ : L2.St} {H H1 : Hp}
theorem RSt.unset (h : RSt T c st σ H) {i : Nat} (hi : ∀ o, st.r[i]? ≠ some (.own o)) : RSt T c ⟨st.r.set i .un, st.s⟩ (σ.set i none) H := by
 refine ⟨by simp [h.len], fun j w e => ?_, fun j o e => ?_, fun j a e => ?_, h.inj, h.dis, h.ou, h.ouh, h.sto⟩
 ·by_cases hj : i = j
  ·subst hj
   have l : i < st.r.length := by
    have := (List.getElem?_eq_some_iff.mp e).1
    simpa using this
   rw [List.getElem?_set_self l] at e
   cases e
  ·rw [List.getElem?_set_ne hj] at e
   obtain ⟨v, e1, r⟩ := h.val j w e
   exact ⟨v, by rw [List.getElem?_set_ne hj]; exact e1, r⟩
 ·by_cases hj : i = j
  ·subst hj
   have l : i < st.r.length := by
    have := (List.getElem?_eq_some_iff.mp e).1
    simpa using this
   rw [List.getElem?_set_self l] at e
   cases e
  ·rw [List.getElem?_set_ne hj] at e
   obtain ⟨a, e1, e2, r⟩ := h.own j o e
   exact ⟨a, e1, by rw [List.getElem?_set_ne hj]; exact e2, r⟩
 ·obtain ⟨o, e1⟩ := h.back j a e
  have hj : i ≠ j := fun z => by subst z; exact hi o e1
  exact ⟨o, by rw [List.getElem?_set_ne hj]; exact e1⟩
theorem wipeS_len (r : List Sl) : ∀ is, (Ev.wipe r is).length = r.length
 | [] => rfl
 | i :: is => by simp [Ev.wipe, wipeS_len r is]
theorem wipeS_get (r : List Sl) (j : Nat) : ∀ is, (j ∉ is → (Ev.wipe r is)[j]? = r[j]?) ∧ (j ∈ is → ∀ x, (Ev.wipe r is)[j]? = some x → x = .un)
 | [] => ⟨fun _ => rfl, fun h => by simp at h⟩
 | i :: is => by
  obtain ⟨h1, h2⟩ := wipeS_get r j is
  refine ⟨fun hn => ?_, fun hm x e => ?_⟩
  ·simp only [List.mem_cons, not_or] at hn
   simp only [Ev.wipe]
   rw [List.getElem?_set_ne (Ne.symm hn.1)]
   exact h1 hn.2
  ·simp only [Ev.wipe] at e
   by_cases hj : i = j
   ·subst hj
    have l : i < (Ev.wipe r is).length := by
     have := (List.getElem?_eq_some_iff.mp e).1
     simpa using this
    rw [List.getElem?_set_self l] at e
    cases e; rfl
   ·rw [List.getElem?_set_ne hj] at e
    rcases List.mem_cons.mp hm with z | z
    ·exact (hj z.symm).elim
    ·exact h2 z x e
theorem noOwn_at {r : List Sl} : ∀ {is : List Nat}, noOwn r is = true → ∀ i ∈ is, ∀ o, r[i]? ≠ some (.own o)
 | [], _, _, h, _, _ => by simp at h
 | j :: is, h, i, hm, o, e => by
  simp only [noOwn, Bool.and_eq_true] at h
  rcases List.mem_cons.mp hm with z | z
  ·subst z
   rw [e] at h
   simp at h
  ·exact noOwn_at h.2 i z o e
theorem noOwn_lt {r : List Sl} : ∀ {is : List Nat}, noOwn r is = true → ∀ i ∈ is, i < r.length
 | [], _, _, h => by simp at h
 | j :: is, h, i, hm => by
  simp only [noOwn, Bool.and_eq_true] at h
  rcases List.mem_cons.mp hm with z | z
  ·subst z
   cases e : r[i]? with
   | none => rw [e] at h; simp at h
   | some x => exact (List.getElem?_eq_some_iff.mp e).1
  ·exact noOwn_lt h.2 i z
theorem RSt.wipe (h : RSt T c st σ H) : ∀ {is : List Nat}, noOwn st.r is = true → RSt T c ⟨Ev.wipe st.r is, st.s⟩ (L2.wipe σ is) H
 | [], _ => h
 | i :: is, hn => by
  have hn' := hn
  simp only [noOwn, Bool.and_eq_true] at hn'
  have ih := RSt.wipe h hn'.2
  refine RSt.unset (i := i) ih fun o e => ?_
  by_cases hm : i ∈ is
  ·cases (wipeS_get st.r i is).2 hm _ e
  ·rw [(wipeS_get st.r i is).1 hm] at e
   exact noOwn_at hn i (by simp) o e
theorem backS_len (r0 r1 : List Sl) : ∀ is, (backS is r0 r1).length = r1.length
 | [] => rfl
 | i :: is => by simp [backS, backS_len r0 r1 is]
theorem backS_get {r0 r1 : List Sl} (hl : r1.length = r0.length) (j : Nat) : ∀ {is : List Nat}, (∀ i ∈ is, i < r0.length) → (backS is r0 r1)[j]? = if j ∈ is then r0[j]? else r1[j]?
 | [], _ => by simp [backS]
 | i :: is, h => by
  have ih := backS_get hl j (is := is) fun x hx => h x (List.mem_cons_of_mem _ hx)
  simp only [backS]
  by_cases hj : i = j
  ·subst hj
   have l : i < (backS is r0 r1).length := by rw [backS_len, hl]; exact h i (by simp)
   rw [List.getElem?_set_self l, if_pos (by simp)]
   have l0 := h i (by simp)
   rw [List.getD_eq_getElem?_getD, List.getElem?_eq_getElem l0]
   rfl
  ·rw [List.getElem?_set_ne hj, ih]
   by_cases hm : j ∈ is
   ·rw [if_pos hm, if_pos (List.mem_cons_of_mem _ hm)]
   ·rw [if_neg hm, if_neg]
    intro z
    rcases List.mem_cons.mp z with z | z
    ·exact hj z.symm
    ·exact hm z
theorem RSt.backw (h : RSt T c st σ H) {is : List Nat} {r5 : List Sl} {s5 : List OO} (S : Mn c.lv c.nf H c1.lv c1.nf H1) (hn : noOwn st.r is = true) (h1 : RSt T c1 ⟨Ev.wipe r5 is, s5⟩ (L2.wipe σ is) H1) : RSt T c1 ⟨backS is st.r r5, s5⟩ σ H1 := by
 have hl : r5.length = st.r.length := by
  have e := h1.len
  simp only at e
  rw [wipeS_len, L2.wipe_length] at e
  rw [e, h.len]
 have g : ∀ j, (backS is st.r r5)[j]? = if j ∈ is then st.r[j]? else r5[j]? := fun j => backS_get hl j fun i hi => noOwn_lt hn i hi
 refine ⟨by simp only; rw [backS_len, hl, h.len], fun j w e => ?_, fun j o e => ?_, fun j a e => ?_, h1.inj, h1.dis, h1.ou, h1.ouh, h1.sto⟩
 ·simp only at e
  rw [g] at e
  by_cases hm : j ∈ is
  ·rw [if_pos hm] at e
   obtain ⟨v, e1, r⟩ := h.val j w e
   exact ⟨v, e1, r.mono S⟩
  ·rw [if_neg hm] at e
   obtain ⟨v, e1, r⟩ := h1.val j w (by simp only; rw [(wipeS_get r5 j is).1 hm]; exact e)
   exact ⟨v, (L2.wipe_some e1).1, r⟩
 ·simp only at e
  rw [g] at e
  by_cases hm : j ∈ is
  ·rw [if_pos hm] at e
   exact (noOwn_at hn j hm o e).elim
  ·rw [if_neg hm] at e
   obtain ⟨a, e1, e2, r⟩ := h1.own j o (by simp only; rw [(wipeS_get r5 j is).1 hm]; exact e)
   exact ⟨a, e1, (L2.wipe_some e2).1, r⟩
 ·obtain ⟨o, e1⟩ := h1.back j a e
  simp only at e1
  have hm : j ∉ is := fun z => by cases (wipeS_get r5 j is).2 z _ e1
  rw [(wipeS_get r5 j is).1 hm] at e1
  exact ⟨o, by simp only; rw [g, if_neg hm]; exact e1⟩
end
end Ev
namespace Ev
open PySem PySem.Spec PyProof.Rows L2 Calls ClX RZ
def Cf.shut (c : Cf) (ou : Addr → Prop) : Cf := ⟨c.lv, c.ow, ou⟩
section
variable {T : Tb} {X : Cx} {Wx : WX} {p : Pg} {cal : Bool → Nat → List W → List OO → RC} {c c1 : Cf} {st : St} {σ : L2.St} {H H1 : Hp} {pins : List (Addr × Obj)} {s : Shared} {k : Nat} {D : Addr}
theorem RSt.wrt (h : RSt T c st σ H) (hD : c.ou D) {o : HO} (hkd : ∀ u, H D = some u → isIns D o = isIns D u) : RSt T c st σ (upd H D o) := by
 have nD : ¬ c.mu D := h.ou D hD
 have m : Mn c.lv c.nf H c.lv c.nf (upd H D o) := ⟨fun a u e _ n => by
  have z : a ≠ D := fun z => by subst z; exact n (.inr hD)
  rw [upd_ne z]; exact e, fun _ q => .inl q, fun _ _ e => e, fun b f nd e => by
  by_cases hb : b = D
  ·subst hb
   rw [upd_same, isIns_ext (hkd _ e) nd]
  ·rw [upd_ne hb]; exact e⟩
 have ke : ∀ a, a ≠ D → upd H D o a = H a := fun a n => upd_ne n
 refine ⟨h.len, fun i w e => ?_, fun i u e => ?_, h.back, h.inj, h.dis, h.ou, fun a q => ?_, ⟨h.sto.len, h.sto.nd, fun n u a e1 e2 => ?_⟩⟩
 ·obtain ⟨v, e1, r⟩ := h.val i w e
  exact ⟨v, e1, r.mono m⟩
 ·obtain ⟨a, e1, e2, r⟩ := h.own i u e
  exact ⟨a, e1, e2, r.mono m (ke a fun z => nD (z ▸ .inr ⟨i, e1⟩))⟩
 ·by_cases z : a = D
  ·subst z
   obtain ⟨u, e, t⟩ := h.ouh a q
   exact ⟨_, upd_same, by rw [isIns_tb (hkd u e)]; exact t⟩
  ·obtain ⟨u, e, t⟩ := h.ouh a q
   exact ⟨u, by rw [upd_ne z]; exact e, t⟩
 ·have r := h.sto.at_ n u a e1 e2
  exact r.mono m (ke a fun z => nD (z ▸ .inl (List.mem_of_getElem? e2)))
theorem RWs.wrt (h : RSt T c st σ H) (hD : c.ou D) {o : HO} (hkd : ∀ u, H D = some u → isIns D o = isIns D u) {ws : List W} {vs : List V} (r : RWs T c.lv c.nf H ws vs) : RWs T c.lv c.nf (upd H D o) ws vs :=
 r.mono ⟨fun a u e _ n => by
  have z : a ≠ D := fun z => by subst z; exact n (.inr hD)
  rw [upd_ne z]; exact e, fun _ q => .inl q, fun _ _ e => e, fun b f nd e => by
  by_cases hb : b = D
  ·subst hb
   rw [upd_same, isIns_ext (hkd _ e) nd]
  ·rw [upd_ne hb]; exact e⟩
theorem RSt.shut (h : RSt T c1 st σ H1) {ou : Addr → Prop} (ho : ∀ a, ou a → c1.ou a) : RSt T (c1.shut ou) st σ H1 := by
 have m : Mn c1.lv c1.nf H1 (c1.shut ou).lv (c1.shut ou).nf H1 := ⟨fun _ _ e _ _ => e, fun a q => by
  rcases q with q | q
  ·exact .inl (.inl q)
  ·exact .inl (.inr (ho a q)), fun _ _ e => e, fun _ _ _ e => e⟩
 refine ⟨h.len, fun i w e => ?_, fun i u e => ?_, h.back, h.inj, h.dis, fun a q => h.ou a (ho a q), fun a q => h.ouh a (ho a q), ⟨h.sto.len, h.sto.nd, fun n u a e1 e2 => (h.sto.at_ n u a e1 e2).mono m rfl⟩⟩
 ·obtain ⟨v, e1, r⟩ := h.val i w e
  exact ⟨v, e1, r.mono m⟩
 ·obtain ⟨a, e1, e2, r⟩ := h.own i u e
  exact ⟨a, e1, e2, r.mono m rfl⟩
end
end Ev
namespace Ev
open PySem PySem.Spec PyProof.Rows L2 Calls ClX RZ
theorem look_s {st st' : St} (e : st.s = st'.s) {w : W} (ho : okv w = true) : look st w = look st' w := by
 cases w <;> first | rfl | cases ho | skip
 simp [look, e]
theorem wkOf_s {st st' : St} (e : st.s = st'.s) (w : W) : wkOf st w = wkOf st' w := by
 unfold wkOf
 cases ho : okv w with
 | false => rfl
 | true =>
  simp only [if_true]
  unfold seqOf
  split
  ·rfl
  ·rw [look_s e ho]
theorem wlOf_s {st st' : St} (e : st.s = st'.s) (w : W) : wlOf st w = wlOf st' w := by
 unfold wlOf
 cases ho : okv w with
 | false => rfl
 | true =>
  simp only [if_true]
  unfold lstOf
  rw [look_s e ho]
theorem at_s {st st' : St} (e : st.s = st'.s) (i : Nat) (q : Src) : q.at st i = q.at st' i := by
 cases q with
 | fix xs => rfl
 | seq w => simp only [Src.at]; rw [wkOf_s e]
 | enu w => simp only [Src.at]; rw [wkOf_s e]
 | enk k w => simp only [Src.at]; rw [wkOf_s e]
 | zip a b =>
  simp only [Src.at]
  split
  ·rfl
  ·rw [wlOf_s e]
  ·rw [wlOf_s e, wlOf_s e]
abbrev F0 : WX := fun _ _ _ _ => False
theorem calm_exc {α : Type} {r : R α} {x : Xn} {st : St} : r.calm ≠ .exc x st := by cases r <;> simp [R.calm]
theorem mapR_exc {f : W → St → R (Option W)} {q : Src} (hf : ∀ w st x st', f w st ≠ .exc x st') : ∀ (m i : Nat) (st : St) (x : Xn) (st' : St), mapR f q m i st ≠ .exc x st'
 | m, i, st, x, st' => by
  unfold mapR
  cases e : q.at st i with
  | none => simp
  | some o =>
   cases o with
   | none => simp
   | some w =>
    cases m with
    | zero => simp
    | succ m =>
     simp only
     cases e1 : f w st with
     | exc x1 s1 => exact (hf _ _ _ _ e1).elim
     | stk => simp [R.bind]
     | ok o1 s1 =>
      simp only [R.bind]
      cases e2 : mapR f q m (i + 1) s1 with
      | exc x2 s2 => exact (mapR_exc hf _ _ _ _ _ e2).elim
      | stk => simp
      | ok ys s2 => simp
def cTurn (t : Tg) (body : St → R (Option W)) (x : W) (st2 : St) : R (Option W) := match (if noOwn st2.r (tgIx t) then tgW t x (wipe st2.r (tgIx t)) else none) with
 | none => .stk
 | some r => R.calm (body ⟨r, st2.s⟩)
theorem cTurn_exc {t : Tg} {body : St → R (Option W)} (w : W) (st : St) (x : Xn) (st' : St) : cTurn t body w st ≠ .exc x st' := by
 unfold cTurn
 split
 ·simp
 ·exact calm_exc
section
variable {T : Tb} {X : Cx} {Wx : WX} {p : Pg} {cal : Bool → Nat → List W → List OO → RC} {c c1 c2 : Cf} {st : St} {σ : L2.St} {H H0 H1 H2 : Hp} {pins : List (Addr × Obj)} {s : Shared} {k : Nat} {D : Addr}
theorem stp_next (S : Stp c1 H1 (c.shut c1.ou) H) (S2 : Stp c H c2 H2) (hD : H1 D = none) {o : HO} (ho : isIns D o = none) : Stp c1 H1 (c2.shut c1.ou) (upd H2 D o) where
 fr := fun a u e t n => by
  have z : a ≠ D := ne_of_none e hD
  rw [upd_ne z]
  exact S2.fr a u (S.fr a u e t n) t fun m => by
   rcases S.mw a m with y | y
   ·exact n y
   ·exact y.no e t
 mw := fun a m => by
  rcases S2.mw a m with y | y
  ·exact S.mw a y
  ·exact .inr (S.tb y)
 lv := fun n a e => S2.lv n a (S.lv n a e)
 ou := rfl
 kk := fun a u e n => by
  obtain ⟨u', e', k'⟩ := S.kk a u e n
  obtain ⟨u2, e2, k2⟩ := S2.kk a u' e' (by rw [isIns_tb k']; exact n)
  have z : a ≠ D := ne_of_none e hD
  exact ⟨u2, by rw [upd_ne z]; exact e2, k2.trans k'⟩
 ow := fun i a e => by
  by_cases z : a = D
  ·subst z; exact .inr ⟨_, upd_same, ho⟩
  rcases S2.ow i a e with y | ⟨u, e2, k2⟩
  ·rcases S.ow i a y with x | ⟨u, e1, k1⟩
   ·exact .inl x
   ·obtain ⟨u2, e2, k2⟩ := S2.kk a u e1 (isIns_non k1)
    exact .inr ⟨u2, by rw [upd_ne z]; exact e2, k2.trans k1⟩
  ·exact .inr ⟨u, by rw [upd_ne z]; exact e2, k2⟩
theorem stp_next0 (S : Stp c1 H1 (c.shut c1.ou) H) (S2 : Stp c H c2 H2) : Stp c1 H1 (c2.shut c1.ou) H2 where
 fr := fun a u e t n => S2.fr a u (S.fr a u e t n) t fun m => by
   rcases S.mw a m with y | y
   ·exact n y
   ·exact y.no e t
 mw := fun a m => by
  rcases S2.mw a m with y | y
  ·exact S.mw a y
  ·exact .inr (S.tb y)
 lv := fun n a e => S2.lv n a (S.lv n a e)
 ou := rfl
 kk := fun a u e n => by
  obtain ⟨u', e', k'⟩ := S.kk a u e n
  obtain ⟨u2, e2, k2⟩ := S2.kk a u' e' (by rw [isIns_tb k']; exact n)
  exact ⟨u2, e2, k2.trans k'⟩
 ow := fun i a e => by
  rcases S2.ow i a e with y | y
  ·rcases S.ow i a y with x | ⟨u, e1, k1⟩
   ·exact .inl x
   ·obtain ⟨u2, e2, k2⟩ := S2.kk a u e1 (isIns_non k1)
    exact .inr ⟨u2, e2, k2.trans k1⟩
  ·exact .inr y
theorem mn_open (S : Stp c1 H1 (c.shut c1.ou) H) (hou : c.ou = fun a => c1.ou a ∨ a = D) (hD : H1 D = none) : Mn c1.lv c1.nf H1 c.lv c.nf H where
 fr := fun a o e t n => S.fr a o e t fun m => n (.inl m)
 nw := fun a q => by
  rcases q with q | q
  ·rcases S.mw a q with y | y
   ·exact .inl (.inl y)
   ·exact .inr y
  ·rw [hou] at q
   rcases q with q | q
   ·exact .inl (.inr q)
   ·subst q; exact .inr (tn_none hD)
 lv := S.lv
 ex := fun x f nd e => by
  obtain ⟨o', e', k⟩ := S.kk x _ e rfl
  rw [e', isIns_ext k nd]
theorem mn_shut {ou : Addr → Prop} (ho : ∀ a, ou a → c.ou a) : Mn c.lv c.nf H (c.shut ou).lv (c.shut ou).nf H := ⟨fun _ _ e _ _ => e, fun a q => by
  rcases q with q | q
  ·exact .inl (.inl q)
  ·exact .inl (.inr (ho a q)), fun _ _ e => e, fun _ _ _ e => e⟩
theorem stp_open (hD : H D = none) {o : HO} : Stp c H ((c.opn D).shut c.ou) (upd H D o) where
 fr := fun a u e _ _ => by rw [upd_ne (ne_of_none e hD)]; exact e
 mw := fun _ m => .inl m
 lv := fun _ _ e => e
 ou := rfl
 kk := fun a u e _ => ⟨u, by rw [upd_ne (ne_of_none e hD)]; exact e, rfl⟩
 ow := fun _ _ e => .inl e
theorem wipe_get {σ : L2.St} (j : Nat) : ∀ is : List Nat, (L2.wipe σ is)[j]? = if j ∈ is then (σ[j]?).map fun _ => none else σ[j]?
 | [] => by simp [L2.wipe]
 | i :: is => by
  unfold L2.wipe
  by_cases hj : i = j
  ·subst hj
   rw [if_pos (by simp)]
   by_cases hl : i < σ.length
   ·rw [List.getElem?_set_self (by rw [L2.wipe_length]; exact hl), List.getElem?_eq_getElem hl]
    rfl
   ·rw [List.getElem?_eq_none (by rw [List.length_set, L2.wipe_length]; omega), List.getElem?_eq_none (by omega)]
    rfl
  ·rw [List.getElem?_set_ne hj, wipe_get j is]
   by_cases hm : j ∈ is
   ·rw [if_pos hm, if_pos (List.mem_cons_of_mem _ hm)]
   ·rw [if_neg hm, if_neg]
    intro z
    rcases List.mem_cons.mp z with z | z
    ·exact hj z.symm
    ·exact hm z
theorem wipe_eq {σ σ2 : L2.St} {is : List Nat} (hl : σ2.length = (L2.wipe σ is).length) (h : ∀ i, i ∉ is → σ2[i]? = (L2.wipe σ is)[i]?) : L2.wipe σ2 is = L2.wipe σ is := by
 apply List.ext_getElem?
 intro j
 rw [wipe_get, wipe_get]
 rw [L2.wipe_length] at hl
 by_cases hm : j ∈ is
 ·rw [if_pos hm, if_pos hm]
  by_cases hj : j < σ.length
  ·rw [List.getElem?_eq_getElem hj, List.getElem?_eq_getElem (by omega)]
   rfl
  ·rw [List.getElem?_eq_none (by omega), List.getElem?_eq_none (by omega)]
 ·rw [if_neg hm, if_neg hm, h j hm, wipe_get, if_neg hm]
theorem opn_shut (hou : c.ou = fun a => c1.ou a ∨ a = D) : c = (c.shut c1.ou).opn D := by
 obtain ⟨lv, ow, ou⟩ := c
 simp only at hou
 subst hou
 rfl
theorem tail_noOwn {t : Tg} {body : St → R (Option W)} {q : Src} {m i : Nat} {fin : List W → St → R W} (hfin : ∀ ys st, noOwn st.r (tgIx t) = false → fin ys st = .stk) {Q : VK} (h : PostF T Wx c σ H ((mapR (cTurn t body) q m i st).bind fin) Q) : noOwn st.r (tgIx t) = true := by
 cases e : noOwn st.r (tgIx t) with
 | true => rfl
 | false =>
  exfalso
  unfold mapR at h
  cases e1 : q.at st i with
  | none => simp [e1, R.bind] at h; exact h
  | some o =>
   cases o with
   | none => simp [e1, R.bind, hfin _ _ e] at h; exact h
   | some w =>
    cases m with
    | zero => simp [e1, R.bind] at h; exact h
    | succ m => simp [e1, cTurn, e, R.bind] at h; exact h
end
section
variable {T : Tb} {X : Cx} {Wx : WX} {p : Pg} {cal : Bool → Nat → List W → List OO → RC} {c c1 c2 : Cf} {st : St} {σ : L2.St} {H H0 H1 H2 : Hp} {pins : List (Addr × Obj)} {s : Shared} {k : Nat} {D : Addr}
def lFin (is : List Nat) (r0 : List Sl) (ys : List W) (st5 : St) : R W := if decide (ys.length ≤ lineMax) && noOwn st5.r is then .ok (.lst ys) ⟨backS is r0 st5.r, st5.s⟩ else .stk
theorem lFin_no {is : List Nat} {r0 : List Sl} (ys : List W) (st : St) (h : noOwn st.r is = false) : lFin is r0 ys st = .stk := by simp [lFin, h]
def lBody (p : Pg) (cal : Bool → Nat → List W → List OO → RC) (e : E) (co : Option E) (st : St) : R (Option W) := (evT p cal co st).bind fun k st3 => if k then (evE p cal e st3).bind fun y st4 => if okv y then .ok (some y) st4 else .stk else .ok none st3
theorem evE_cpr {e : E} {t : Tg} {it : I} {co : Option E} : evE p cal (.cpr e t it co) st = (evI p cal it st).bind fun q st1 => if noOwn st1.r (tgIx t) then (mapR (cTurn t (lBody p cal e co)) q (q.len st1) 0 st1).bind (lFin (tgIx t) st1.r) else .stk := by
 rw [evE]
 rfl
def LW (T : Tb) (p : Pg) (cal : Bool → Nat → List W → List OO → RC) (e : E) (co : Option E) (t : Tg) (q : Src) (r0 : List Sl) (σ : L2.St) (c1 : Cf) (H1 : Hp) (Wx : WX) (Q : VK) (D : Addr) (i m : Nat) (H : Hp) : Prop :=
 ∃ (c : Cf) (st : St) (ws : List W) (acc : List V), Stp c1 H1 (c.shut c1.ou) H ∧ (c.ou = fun a => c1.ou a ∨ a = D) ∧ RSt T c ⟨Ev.wipe st.r (tgIx t), st.s⟩ (L2.wipe σ (tgIx t)) H ∧ H D = some (.lst acc) ∧ RWs T c.lv c.nf H ws acc ∧
  PostF T Wx c1 σ H1 ((mapR (cTurn t (lBody p cal e co)) q m i st).bind fun ys st5 => lFin (tgIx t) r0 (ws ++ ys) st5) Q
theorem bind_ok {α β : Type} {a : α} {st : St} {f : α → St → R β} : (R.ok a st).bind f = f a st := rfl
theorem calmOk {α : Type} {a : α} {st : St} : (R.ok a st).calm = .ok a st := rfl
theorem cTurn_at {t : Tg} {body : St → R (Option W)} {x : W} {r' : List Sl} (no : noOwn st.r (tgIx t) = true) (et : tgW t x (Ev.wipe st.r (tgIx t)) = some r') : cTurn t body x st = R.calm (body ⟨r', st.s⟩) := by
 unfold cTurn
 rw [if_pos no, et]
theorem cTurn_stk {t : Tg} {body : St → R (Option W)} {x : W} (no : noOwn st.r (tgIx t) = true) (et : tgW t x (Ev.wipe st.r (tgIx t)) = none) : cTurn t body x st = .stk := by
 unfold cTurn
 rw [if_pos no, et]
theorem mapR_step {f : W → St → R (Option W)} {q : Src} {m i : Nat} {w : W} (e : q.at st i = some (some w)) : mapR f q (m + 1) i st = (f w st).bind fun o st1 => (mapR f q m (i + 1) st1).bind fun ys st2 => .ok (match o with | some y => y :: ys | none => ys) st2 := by
 rw [mapR.eq_def]; simp only [e]
 all_goals rfl
theorem mapR_none {f : W → St → R (Option W)} {q : Src} {m i : Nat} (e : q.at st i = some none) : mapR f q m i st = .ok [] st := by
 rw [mapR.eq_def]; simp only [e]
theorem mapR_stk {f : W → St → R (Option W)} {q : Src} {m i : Nat} (e : q.at st i = none) : mapR f q m i st = .stk := by
 rw [mapR.eq_def]; simp only [e]
theorem mapR_zero {f : W → St → R (Option W)} {q : Src} {i : Nat} {w : W} (e : q.at st i = some (some w)) : mapR f q 0 i st = .stk := by
 rw [mapR.eq_def]; simp only [e]
theorem bind_assoc' {α β γ : Type} (r : R α) (f : α → St → R β) (g : β → St → R γ) : (r.bind f).bind g = r.bind fun a st => (f a st).bind g := by
 cases r <;> rfl
theorem lc_turn {e : E} {co : Option E} {t : Tg} {q : Src} {J : It} {st1 : St} {Q : VK}
   (hk : Wk T c1 H1 q J) (hpr : q.pr = true → t.isT = true) (hR : RSt T c1 st1 σ H1) (hD : H1 D = none) (hn : noOwn st1.r (tgIx t) = true) (i m : Nat) (H : Hp) (w : LW T p cal e co t q st1.r σ c1 H1 Wx Q D i m H) :
   (J.stop i H ∧ Q (.ref D) H) ∨ (J.go i H ∧ ∃ Nx : Hp → Prop, (∀ H', Nx H' → ∃ m', m' < m ∧ LW T p cal e co t q st1.r σ c1 H1 Wx Q D (i + 1) m' H') ∧ ∀ x H', J.yld i H x H' → rdG T t x (L2.wipe σ (tgIx t)) H' fun σ2 H2 => L2.wipe σ2 (tgIx t) = L2.wipe σ (tgIx t) ∧ rdT T F0 (evT p cal co) σ2 H2 fun b H3 =>
     if b = true then rdE T F0 (evE p cal e) σ2 H3 fun y H4 => ∃ acc, H4 D = some (.lst acc) ∧ acc.length < sizeLine ∧ Nx (upd H4 D (.lst (acc ++ [y]))) else Nx H3) := by
 obtain ⟨c, st, ws, acc, S, hou, h, hd, ra, P⟩ := w
 have hcD : c.ou D := by rw [hou]; exact .inr rfl
 have mn := mn_open S hou hD
 have sh := RSt.shut h (ou := c1.ou) fun a z => by rw [hou]; exact .inl z
 have no : noOwn st.r (tgIx t) = true := tail_noOwn (T := T) (Wx := Wx) (c := c1) (σ := σ) (H := H1) (Q := Q) (fin := fun ys st5 => lFin (tgIx t) st1.r (ws ++ ys) st5) (fun ys st h => lFin_no _ _ h) P
 have sat : ∀ j, q.at ⟨Ev.wipe st.r (tgIx t), st.s⟩ j = q.at st j := fun j => at_s (st := ⟨Ev.wipe st.r (tgIx t), st.s⟩) (st' := st) rfl j q
 obtain ⟨k1, k2⟩ := hk c ⟨Ev.wipe st.r (tgIx t), st.s⟩ (L2.wipe σ (tgIx t)) H i mn h
 rw [sat] at k1 k2
 cases ea : q.at st i with
 | none => rw [mapR_stk ea] at P; exact (show False from P).elim
 | some o =>
 cases o with
 | none =>
   refine .inl ⟨k1 ea, ?_⟩
   rw [mapR_none ea] at P
   simp only [R.bind, List.append_nil] at P
   unfold lFin at P
   split at P
   · rename_i hc
     simp only [Bool.and_eq_true, decide_eq_true_eq] at hc
     have hb : RSt T (c.shut c1.ou) ⟨backS (tgIx t) st1.r st.r, st.s⟩ σ H := RSt.backw (st := st1) hR S.mn hn sh
     have hb2 : RSt T c ⟨backS (tgIx t) st1.r st.r, st.s⟩ σ H := RSt.backw (st := st1) hR mn hn h
     refine P (.ref D) H _ S hb ?_ (fun _ a e => by cases e; exact ⟨tn_none hD, opn_shut hou ▸ hb2, opn_shut hou ▸ ⟨acc, hd, ra⟩⟩)
     show RW T _ _ H (.lst ws) (.ref D)
     simp only [RW]
     refine ⟨D, acc, rfl, hd, fun z => ?_, ra.mono (mn_shut fun a z => by rw [hou]; exact .inl z)⟩
     rcases z with z | z
     · exact h.ou D hcD z
     · obtain ⟨u, eu, _⟩ := hR.ouh D z
       rw [hD] at eu; cases eu
   · exact (show False from P).elim
 | some x =>
   cases m with
   | zero => rw [mapR_zero ea] at P; exact (show False from P).elim
   | succ m =>
   obtain ⟨go, yl⟩ := k2 x ea
   refine .inr ⟨go, fun H' => LW T p cal e co t q st1.r σ c1 H1 Wx Q D (i + 1) m H', fun H' z => ⟨m, Nat.lt_succ_self _, z⟩, fun v H' y => ?_⟩
   obtain ⟨S1, h1, rx⟩ := yl v H' y
   rw [mapR_step ea, bind_assoc'] at P
   cases et : tgW t x (Ev.wipe st.r (tgIx t)) with
   | none => rw [cTurn_stk no et] at P; exact (show False from P).elim
   | some r' =>
   rw [cTurn_at no et] at P
   refine ⟨c, ⟨Ev.wipe st.r (tgIx t), st.s⟩, x, h1, RWq.g hpr rx, r', et, fun σ2 c2 S2 h2 hl hag => ?_⟩
   refine ⟨wipe_eq hl hag, c2, ⟨r', st.s⟩, h2, ?_⟩
   have lb : lBody p cal e co ⟨r', st.s⟩ = (evT p cal co ⟨r', st.s⟩).bind fun k st3 => if k then (evE p cal e st3).bind fun y st4 => if okv y then .ok (some y) st4 else .stk else .ok none st3 := rfl
   rw [lb] at P
   cases e1 : evT p cal co ⟨r', st.s⟩ with
   | exc x1 s1 => rw [e1] at P; exact (show False from P).elim
   | stk => rw [e1] at P; exact (show False from P).elim
   | ok kb st3 =>
   rw [e1, bind_ok] at P
   intro b H3 c3 S3 h3 hb
   cases hb
   have wq : L2.wipe σ2 (tgIx t) = L2.wipe σ (tgIx t) := wipe_eq hl hag
   cases kb with
   | false =>
     simp only [Bool.false_eq_true, if_false, calmOk, bind_ok, bind_assoc'] at P ⊢
     have S' : Stp c H c3 H3 := S1.trans (S2.trans S3)
     have ou3 : c3.ou = c.ou := S'.ou
     have n3 : noOwn st3.r (tgIx t) = true := tail_noOwn (T := T) (Wx := Wx) (c := c1) (σ := σ) (H := H1) (Q := Q) (fin := fun ys st5 => lFin (tgIx t) st1.r (ws ++ ys) st5) (fun ys st h => lFin_no _ _ h) P
     refine ⟨c3, st3, ws, acc, stp_next0 S S', by rw [ou3, hou], ?_, S'.fr D _ hd rfl (h.ou D hcD), ra.mono S'.mn, P⟩
     rw [← wq]
     exact h3.wipe n3
   | true =>
     simp only [if_true] at P ⊢
     refine ⟨c3, st3, h3, ?_⟩
     cases e2 : evE p cal e st3 with
     | exc x1 s1 => rw [e2] at P; exact (show False from P).elim
     | stk => rw [e2] at P; exact (show False from P).elim
     | ok y st4 =>
     rw [e2, bind_ok] at P
     intro u H4 c4 S4 h4 ru
     have S' : Stp c H c4 H4 := S1.trans (S2.trans (S3.trans S4))
     have ou4 : c4.ou = c.ou := S'.ou
     have hd4 : H4 D = some (.lst acc) := S'.fr D _ hd rfl (h.ou D hcD)
     cases oy : okv y with
     | false => rw [oy] at P; exact (show False from P).elim
     | true =>
     simp only [oy, if_true, calmOk, bind_ok, bind_assoc'] at P
     have P' : PostF T Wx c1 σ H1 ((mapR (cTurn t (lBody p cal e co)) q m (i + 1) st4).bind fun ys st5 => lFin (tgIx t) st1.r ((ws ++ [y]) ++ ys) st5) Q := by
       simpa only [List.append_assoc, List.singleton_append] using P
     have n4 : noOwn st4.r (tgIx t) = true := tail_noOwn (T := T) (Wx := Wx) (c := c1) (σ := σ) (H := H1) (Q := Q) (fin := fun ys st5 => lFin (tgIx t) st1.r ((ws ++ [y]) ++ ys) st5) (fun ys st h => lFin_no _ _ h) P'
     have hlen : ws.length < lineMax := by
       cases e3 : mapR (cTurn t (lBody p cal e co)) q m (i + 1) st4 with
       | exc x1 s1 => exact (mapR_exc cTurn_exc _ _ _ _ _ e3).elim
       | stk => rw [e3] at P'; exact (show False from P').elim
       | ok ys st5 =>
         rw [e3] at P'
         simp only [R.bind] at P'
         unfold lFin at P'
         split at P'
         · rename_i hc
           simp only [Bool.and_eq_true, decide_eq_true_eq, List.length_append, List.length_cons, List.length_nil] at hc
           omega
         · exact (show False from P').elim
     refine ⟨acc, hd4, by rw [← ra.len, ← line_eq]; exact hlen, ?_⟩
     have D4 : c4.ou D := by rw [ou4]; exact hcD
     have K4 : ∀ ys u, H4 D = some u → isIns D (.lst ys) = isIns D u := fun ys u e => by rw [hd4] at e; cases e; rfl
     refine ⟨c4, st4, ws ++ [y], acc ++ [u], stp_next S S' hD rfl, by rw [ou4, hou], ?_, upd_same, RWs.snoc (RWs.wrt h4 D4 (K4 _) (ra.mono S'.mn)) ?_, P'⟩
     · rw [← wq]
       exact (h4.wrt D4 (K4 _)).wipe n4
     · have r1 : RWs T c4.lv c4.nf H4 [y] [u] := RWs.cons (RV.rw ru oy) RWs.nil
       have r2 := RWs.wrt (o := .lst (acc ++ [u])) h4 D4 (K4 _) r1
       simp only [RWs] at r2
       obtain ⟨_, _, e5, r5, _⟩ := r2
       cases e5
       exact r5
theorem lc_read {tg : Expr} {e : E} {co : Option E} {t : Tg} {it : I} {Q : VK} {vs : List Nat} (hpt : isTpE tg = true → t.isT = true) (ho : vs = tgIx t) (h : RSt T c st σ H) (q : PostF T Wx c σ H (evE p cal (.cpr e t it co) st) Q) :
  tLc (rdI T tg Wx (evI p cal it)) (rdG T t) (rdT T F0 (evT p cal co)) (rdE T F0 (evE p cal e)) vs σ H Q := by
 subst ho
 rw [evE_cpr] at q
 refine ⟨c, st, h, (PostF.bind (rel := relI T tg) q).mono fun J H1 ⟨c1, st1, src, S1, h1, ⟨hk, hpr⟩, q1⟩ D hD => ?_⟩
 cases hn : noOwn st1.r (tgIx t) with
 | false => rw [hn] at q1; exact (show False from q1).elim
 | true =>
 rw [hn] at q1
 simp only [if_true] at q1
 refine ⟨LW T p cal e co t src st1.r σ c1 H1 Wx Q D, ⟨src.len st1, c1.opn D, st1, [], [], stp_open hD, rfl, ?_, upd_same, RWs.nil, by simpa using q1⟩, fun i m H w => lc_turn hk (fun z => hpt (hpr z)) h1 hD hn i m H w⟩
 exact (h1.opn hD).wipe hn
theorem sf_cpr {tg iter elt : Expr} {ifs : List Expr} {scope : Scope} {own : List (Str × Nat)} {pos : Pos} {t : Tg} {it : I} {e : E} {co : Option E} (hc : X.calm = true) (hN : X.N.Nodup) (hi : SI T X Wx tg iter (evI p cal it)) (hpt : isTpE tg = true → t.isT = true) (ok : BlkOk X.N X.env.scope scope own) (ho : own.map (·.2) = tgIx t)
  (hg : ∀ (s : Shared) (H : Hp) (C : Addr) (cl : List (Str × Addr)) (fp : List Addr), SG T (X.blk s H scope (compEnvC scope cl C X.env) fp) tg t) (ht : ∀ (s : Shared) (H : Hp) (C : Addr) (cl : List (Str × Addr)) (fp : List Addr), PTs (X.blk s H scope (compEnvC scope cl C X.env) fp) ifs (rdT T F0 (evT p cal co)))
  (he : ∀ (s : Shared) (H : Hp) (C : Addr) (cl : List (Str × Addr)) (fp : List Addr), SE T (X.blk s H scope (compEnvC scope cl C X.env) fp) F0 elt (evE p cal e)) (hs : ∀ x, foldedSetIterable iter X.env x = pure x) :
  SF T X Wx (.ListComp elt [⟨tg, iter, ifs, 0⟩] scope pos) (evE p cal (.cpr e t it co)) := by
 refine PE.imp (pe_lc hc hN hi ok hg ht he hs) ?_
 rintro σ H Q ⟨c, st, h, q⟩
 exact lc_read hpt ho h q
end
end Ev
namespace Ev
open PySem PySem.Spec PyProof.Rows L2 Calls ClX RZ
section
variable {T : Tb} {lv : List Addr} {nf : Addr → Prop} {H : Hp} {q : Ky} {w : W} {v : V}
theorem krep_ok (r : RW T lv nf H w v) : ∀ {ks : List Ky} {ws : List W} {vs : List V}, ks.length = vs.length → RWs T lv nf H ws vs →
  ∃ vs', ((ks.map kS).zip vs).map (fun kv => if kv.1 = kS q then (kv.1, v) else kv) = (ks.map kS).zip vs' ∧ ks.length = vs'.length ∧ RWs T lv nf H (krep q w ks ws) vs'
 | [], ws, vs, e, rr => by
  have : vs = [] := List.eq_nil_of_length_eq_zero e.symm
  subst this
  have e2 := rr.len
  have : ws = [] := List.eq_nil_of_length_eq_zero e2
  subst this
  exact ⟨[], rfl, rfl, RWs.nil⟩
 | g :: ks, ws, [], e, rr => by simp at e
 | g :: ks, [], u :: vs, e, rr => by simp [RWs] at rr
 | g :: ks, x :: ws, u :: vs, e, rr => by
  simp only [RWs] at rr
  obtain ⟨u', vs', e1, r1, r2⟩ := rr
  cases e1
  obtain ⟨zs, h1, h2, h3⟩ := krep_ok r (ks := ks) (by simpa using e) r2
  simp only [List.map_cons, List.zip_cons_cons, krep]
  rw [h1]
  by_cases hg : g = q
  ·subst hg
   refine ⟨v :: zs, ?_, by simp [h2], ?_⟩
   ·simp
   ·rw [if_pos rfl]; exact RWs.cons r h3
  ·refine ⟨u :: zs, ?_, by simp [h2], ?_⟩
   ·have : ¬ kS g = kS q := fun z => hg (kS_inj z)
    simp [this]
   ·rw [if_neg hg]; exact RWs.cons r1 h3
theorem any_kS : ∀ {ks : List Ky} {vs : List V}, ks.length = vs.length → (((ks.map kS).zip vs).any fun kv => decide (kv.1 = kS q)) = ks.any fun g => decide (g = q)
 | [], _, _ => by simp
 | g :: ks, [], e => by simp at e
 | g :: ks, u :: vs, e => by
  simp only [List.map_cons, List.zip_cons_cons, List.any_cons]
  rw [any_kS (by simpa using e)]
  congr 1
  by_cases hg : g = q
  ·subst hg; simp
  ·have : ¬ kS g = kS q := fun z => hg (kS_inj z)
   simp [hg, this]
theorem kput_ok {ks : List Ky} {ws : List W} {vs : List V} (e : ks.length = vs.length) (rr : RWs T lv nf H ws vs) (r : RW T lv nf H w v) :
  ∃ vs', putK ((ks.map kS).zip vs) (kS q) v = ((kput q w ks ws).1.map kS).zip vs' ∧ (kput q w ks ws).1.length = vs'.length ∧ RWs T lv nf H (kput q w ks ws).2 vs' := by
 unfold putK kput
 rw [any_kS e]
 by_cases h : (ks.any fun g => decide (g = q)) = true
 ·rw [if_pos h, if_pos h]
  exact krep_ok r e rr
 ·rw [if_neg h, if_neg h]
  refine ⟨vs ++ [v], ?_, by simp [e], RWs.snoc rr r⟩
  rw [List.map_append, List.zip_append (by simpa using e)]
  rfl
theorem kput_len {ks : List Ky} {ws : List W} : (kput q w ks ws).1.length ≤ ks.length + 1 := by
 unfold kput
 split
 ·simp
 ·simp
theorem prsW_snoc {ys : List W} {y z : W} : prsW (ys ++ [.tup [y, z]]) = (prsW ys).bind fun a => (kyOf y).map fun q => kput q z a.1 a.2 := by
 unfold prsW
 rw [List.foldl_append]
 simp only [List.foldl_cons, List.foldl_nil]
 cases (List.foldl _ _ ys) <;> rfl
end
section
variable {T : Tb} {X : Cx} {Wx : WX} {p : Pg} {cal : Bool → Nat → List W → List OO → RC} {c c1 c2 : Cf} {st : St} {σ : L2.St} {H H0 H1 H2 : Hp} {pins : List (Addr × Obj)} {s : Shared} {k : Nat} {D : Addr}
def dFin (is : List Nat) (r0 : List Sl) (ys : List W) (st5 : St) : R W := match prsW ys with
 | some q => if decide (ys.length ≤ lineMax) && noOwn st5.r is then .ok (.dct q.1 q.2) ⟨backS is r0 st5.r, st5.s⟩ else .stk
 | none => .stk
theorem dFin_no {is : List Nat} {r0 : List Sl} (ys : List W) (st : St) (h : noOwn st.r is = false) : dFin is r0 ys st = .stk := by
 unfold dFin
 split <;> simp [h]
def dBody (p : Pg) (cal : Bool → Nat → List W → List OO → RC) (k v : E) (st : St) : R (Option W) := (evE p cal k st).bind fun y st3 => (evE p cal v st3).bind fun z st4 => if okv z && (kyOf y).isSome then .ok (some (.tup [y, z])) st4 else .stk
theorem evE_dcp {k v : E} {t : Tg} {it : I} : evE p cal (.dcp k v t it) st = (evI p cal it st).bind fun q st1 => if noOwn st1.r (tgIx t) then (mapR (cTurn t (dBody p cal k v)) q (q.len st1) 0 st1).bind (dFin (tgIx t) st1.r) else .stk := by
 rw [evE]
 rfl
def DW (T : Tb) (p : Pg) (cal : Bool → Nat → List W → List OO → RC) (ek ev : E) (t : Tg) (q : Src) (r0 : List Sl) (σ : L2.St) (c1 : Cf) (H1 : Hp) (Wx : WX) (Q : VK) (D : Addr) (i m : Nat) (H : Hp) : Prop :=
 ∃ (c : Cf) (st : St) (ws : List W) (ks : List Ky) (xs : List W) (vs : List V), Stp c1 H1 (c.shut c1.ou) H ∧ (c.ou = fun a => c1.ou a ∨ a = D) ∧ RSt T c ⟨Ev.wipe st.r (tgIx t), st.s⟩ (L2.wipe σ (tgIx t)) H ∧ prsW ws = some (ks, xs) ∧ ks.length ≤ ws.length ∧ H D = some (.dK ((ks.map kS).zip vs)) ∧ ks.length = vs.length ∧ RWs T c.lv c.nf H xs vs ∧
  PostF T Wx c1 σ H1 ((mapR (cTurn t (dBody p cal ek ev)) q m i st).bind fun ys st5 => dFin (tgIx t) r0 (ws ++ ys) st5) Q
theorem dc_turn {ek ev : E} {t : Tg} {q : Src} {J : It} {st1 : St} {Q : VK}
   (hk : Wk T c1 H1 q J) (hpr : q.pr = true → t.isT = true) (hR : RSt T c1 st1 σ H1) (hD : H1 D = none) (hn : noOwn st1.r (tgIx t) = true) (i m : Nat) (H : Hp) (w : DW T p cal ek ev t q st1.r σ c1 H1 Wx Q D i m H) :
   (J.stop i H ∧ Q (.ref D) H) ∨ (J.go i H ∧ ∃ Nx : Hp → Prop, (∀ H', Nx H' → ∃ m', m' < m ∧ DW T p cal ek ev t q st1.r σ c1 H1 Wx Q D (i + 1) m' H') ∧ ∀ x H', J.yld i H x H' → rdG T t x (L2.wipe σ (tgIx t)) H' fun σ2 H2 => L2.wipe σ2 (tgIx t) = L2.wipe σ (tgIx t) ∧ rdT T F0 (evT p cal none) σ2 H2 fun b H3 =>
     if b = true then rdE T F0 (evE p cal ek) σ2 H3 fun y H4 => rdE T F0 (evE p cal ev) σ2 H4 fun z H5 => ∃ kvs k, y = kV k ∧ H5 D = some (.dK kvs) ∧ kvs.length < sizeLine ∧ Nx (upd H5 D (.dK (putK kvs k z))) else Nx H3) := by
 obtain ⟨c, st, ws, ks, xs, vs, S, hou, h, hp, hle, hd, hl, ra, P⟩ := w
 have hcD : c.ou D := by rw [hou]; exact .inr rfl
 have mn := mn_open S hou hD
 have sh := RSt.shut h (ou := c1.ou) fun a z => by rw [hou]; exact .inl z
 have no : noOwn st.r (tgIx t) = true := tail_noOwn (T := T) (Wx := Wx) (c := c1) (σ := σ) (H := H1) (Q := Q) (fin := fun ys st5 => dFin (tgIx t) st1.r (ws ++ ys) st5) (fun ys st h => dFin_no _ _ h) P
 have sat : ∀ j, q.at ⟨Ev.wipe st.r (tgIx t), st.s⟩ j = q.at st j := fun j => at_s (st := ⟨Ev.wipe st.r (tgIx t), st.s⟩) (st' := st) rfl j q
 obtain ⟨k1, k2⟩ := hk c ⟨Ev.wipe st.r (tgIx t), st.s⟩ (L2.wipe σ (tgIx t)) H i mn h
 rw [sat] at k1 k2
 cases ea : q.at st i with
 | none => rw [mapR_stk ea] at P; exact (show False from P).elim
 | some o =>
 cases o with
 | none =>
   refine .inl ⟨k1 ea, ?_⟩
   rw [mapR_none ea] at P
   simp only [bind_ok, List.append_nil] at P
   unfold dFin at P
   rw [hp] at P
   simp only at P
   split at P
   · rename_i hc
     simp only [Bool.and_eq_true, decide_eq_true_eq] at hc
     have hb : RSt T (c.shut c1.ou) ⟨backS (tgIx t) st1.r st.r, st.s⟩ σ H := RSt.backw (st := st1) hR S.mn hn sh
     have hb2 : RSt T c ⟨backS (tgIx t) st1.r st.r, st.s⟩ σ H := RSt.backw (st := st1) hR mn hn h
     refine P (.ref D) H _ S hb ?_ (fun _ a e => by cases e; exact ⟨tn_none hD, opn_shut hou ▸ hb2, opn_shut hou ▸ ⟨vs, hd, hl, ra⟩⟩)
     show RW T _ _ H (.dct ks xs) (.ref D)
     simp only [RW]
     refine ⟨D, vs, rfl, hd, fun z => ?_, hl, ra.mono (mn_shut fun a z => by rw [hou]; exact .inl z)⟩
     rcases z with z | z
     · exact h.ou D hcD z
     · obtain ⟨u, eu, _⟩ := hR.ouh D z
       rw [hD] at eu; cases eu
   · exact (show False from P).elim
 | some x =>
   cases m with
   | zero => rw [mapR_zero ea] at P; exact (show False from P).elim
   | succ m =>
   obtain ⟨go, yl⟩ := k2 x ea
   refine .inr ⟨go, fun H' => DW T p cal ek ev t q st1.r σ c1 H1 Wx Q D (i + 1) m H', fun H' z => ⟨m, Nat.lt_succ_self _, z⟩, fun v H' y => ?_⟩
   obtain ⟨S1, h1, rx⟩ := yl v H' y
   rw [mapR_step ea, bind_assoc'] at P
   cases et : tgW t x (Ev.wipe st.r (tgIx t)) with
   | none => rw [cTurn_stk no et] at P; exact (show False from P).elim
   | some r' =>
   rw [cTurn_at no et] at P
   refine ⟨c, ⟨Ev.wipe st.r (tgIx t), st.s⟩, x, h1, RWq.g hpr rx, r', et, fun σ2 c2 S2 h2 hl' hag => ?_⟩
   refine ⟨wipe_eq hl' hag, c2, ⟨r', st.s⟩, h2, ?_⟩
   have lb : dBody p cal ek ev ⟨r', st.s⟩ = (evE p cal ek ⟨r', st.s⟩).bind fun y st3 => (evE p cal ev st3).bind fun z st4 => if okv z && (kyOf y).isSome then .ok (some (.tup [y, z])) st4 else .stk := rfl
   rw [lb] at P
   have wq : L2.wipe σ2 (tgIx t) = L2.wipe σ (tgIx t) := wipe_eq hl' hag
   rw [evT]
   intro b H3 c3 S3 h3 hb
   cases hb
   simp only [if_true]
   cases e1 : evE p cal ek ⟨r', st.s⟩ with
   | exc x1 s1 => rw [e1] at P; exact (show False from P).elim
   | stk => rw [e1] at P; exact (show False from P).elim
   | ok y st3 =>
   rw [e1, bind_ok] at P
   refine ⟨c3, ⟨r', st.s⟩, h3, ?_⟩
   rw [e1]
   intro u H4 c4 S4 h4 ru
   refine ⟨c4, st3, h4, ?_⟩
   cases e2 : evE p cal ev st3 with
   | exc x1 s1 => rw [e2] at P; exact (show False from P).elim
   | stk => rw [e2] at P; exact (show False from P).elim
   | ok z st4 =>
   rw [e2, bind_ok] at P
   intro zz H5 c5 S5 h5 rz
   have S' : Stp c H c5 H5 := S1.trans (S2.trans (S3.trans (S4.trans S5)))
   have ou5 : c5.ou = c.ou := S'.ou
   have hd5 : H5 D = some (.dK ((ks.map kS).zip vs)) := S'.fr D _ hd rfl (h.ou D hcD)
   cases oy : (okv z && (kyOf y).isSome) with
   | false => rw [oy] at P; exact (show False from P).elim
   | true =>
   simp only [oy, if_true, calmOk, bind_ok, bind_assoc'] at P
   simp only [Bool.and_eq_true] at oy
   cases eq : kyOf y with
   | none => rw [eq] at oy; simp at oy
   | some kq =>
   have P' : PostF T Wx c1 σ H1 ((mapR (cTurn t (dBody p cal ek ev)) q m (i + 1) st4).bind fun ys st5 => dFin (tgIx t) st1.r ((ws ++ [.tup [y, z]]) ++ ys) st5) Q := by
     simpa only [List.append_assoc, List.singleton_append] using P
   have n4 : noOwn st4.r (tgIx t) = true := tail_noOwn (T := T) (Wx := Wx) (c := c1) (σ := σ) (H := H1) (Q := Q) (fin := fun ys st5 => dFin (tgIx t) st1.r ((ws ++ [.tup [y, z]]) ++ ys) st5) (fun ys st h => dFin_no _ _ h) P'
   have hlen : ws.length < lineMax := by
     cases e3 : mapR (cTurn t (dBody p cal ek ev)) q m (i + 1) st4 with
     | exc x1 s1 => exact (mapR_exc cTurn_exc _ _ _ _ _ e3).elim
     | stk => rw [e3] at P'; exact (show False from P').elim
     | ok ys st5 =>
       rw [e3] at P'
       simp only [bind_ok] at P'
       unfold dFin at P'
       split at P'
       · split at P'
         · rename_i hc
           simp only [Bool.and_eq_true, decide_eq_true_eq, List.length_append, List.length_cons, List.length_nil] at hc
           omega
         · exact (show False from P').elim
       · exact (show False from P').elim
   have ry := rvv h4 ru
   have ek' : kyOf (vw st3 y) = some kq := by
     unfold kyOf at eq
     split at eq <;> first | (cases eq; done) | exact eq
   have rkey := key_of ek' ry
   have D5 : c5.ou D := by rw [ou5]; exact hcD
   have K5 : ∀ ys u, H5 D = some u → isIns D (.dK ys) = isIns D u := fun ys u e => by rw [hd5] at e; cases e; rfl
   obtain ⟨vs', g1, g2, g3⟩ := kput_ok (q := kq) hl (ra.mono S'.mn) (RV.rw rz oy.1)
   refine ⟨_, kS kq, rkey, hd5, ?_, ?_⟩
   · rw [List.length_zip, List.length_map, ← hl, Nat.min_self, ← line_eq]; omega
   refine ⟨c5, st4, ws ++ [.tup [y, z]], (kput kq z ks xs).1, (kput kq z ks xs).2, vs', stp_next S S' hD rfl, by rw [ou5, hou], ?_, ?_, ?_, ?_, g2, RWs.wrt h5 D5 (K5 _) g3, P'⟩
   · rw [← wq]
     exact (h5.wrt D5 (K5 _)).wipe n4
   · rw [prsW_snoc, hp, eq]; rfl
   · have := kput_len (q := kq) (w := z) (ks := ks) (ws := xs)
     simp only [List.length_append, List.length_cons, List.length_nil]
     omega
   · rw [g1]; exact upd_same
theorem dc_read {tg : Expr} {ek ev : E} {t : Tg} {it : I} {Q : VK} {vs : List Nat} (hpt : isTpE tg = true → t.isT = true) (ho : vs = tgIx t) (h : RSt T c st σ H) (q : PostF T Wx c σ H (evE p cal (.dcp ek ev t it) st) Q) :
  tDc (rdI T tg Wx (evI p cal it)) (rdG T t) (rdT T F0 (evT p cal none)) (rdE T F0 (evE p cal ek)) (rdE T F0 (evE p cal ev)) vs σ H Q := by
 subst ho
 rw [evE_dcp] at q
 refine ⟨c, st, h, (PostF.bind (rel := relI T tg) q).mono fun J H1 ⟨c1, st1, src, S1, h1, ⟨hk', hpr⟩, q1⟩ D hD => ?_⟩
 cases hn : noOwn st1.r (tgIx t) with
 | false => rw [hn] at q1; exact (show False from q1).elim
 | true =>
 rw [hn] at q1
 simp only [if_true] at q1
 refine ⟨DW T p cal ek ev t src st1.r σ c1 H1 Wx Q D, ⟨src.len st1, c1.opn D, st1, [], [], [], [], stp_open hD, rfl, ?_, rfl, Nat.le_refl _, upd_same, rfl, RWs.nil, by simpa using q1⟩, fun i m H w => dc_turn hk' (fun z => hpt (hpr z)) h1 hD hn i m H w⟩
 exact (h1.opn hD).wipe hn
theorem sf_dcp {tg iter kx vx : Expr} {scope : Scope} {own : List (Str × Nat)} {pos : Pos} {t : Tg} {it : I} {ek ev : E} (hc : X.calm = true) (hN : X.N.Nodup) (hi : SI T X Wx tg iter (evI p cal it)) (hpt : isTpE tg = true → t.isT = true) (ok : BlkOk X.N X.env.scope scope own) (ho : own.map (·.2) = tgIx t)
  (hg : ∀ (s : Shared) (H : Hp) (C : Addr) (cl : List (Str × Addr)) (fp : List Addr), SG T (X.blk s H scope (compEnvC scope cl C X.env) fp) tg t)
  (hk : ∀ (s : Shared) (H : Hp) (C : Addr) (cl : List (Str × Addr)) (fp : List Addr), SE T (X.blk s H scope (compEnvC scope cl C X.env) fp) F0 kx (evE p cal ek))
  (he : ∀ (s : Shared) (H : Hp) (C : Addr) (cl : List (Str × Addr)) (fp : List Addr), SE T (X.blk s H scope (compEnvC scope cl C X.env) fp) F0 vx (evE p cal ev)) (hs : ∀ x, foldedSetIterable iter X.env x = pure x) :
  SF T X Wx (.DictComp kx vx [⟨tg, iter, [], 0⟩] scope pos) (evE p cal (.dcp ek ev t it)) := by
 refine PE.imp (pe_dc (tt := rdT T F0 (evT p cal none)) hc hN hi ok hg (fun s H C cl fp => ⟨fun pins s σ H Q I h => ?_⟩) hk he hs) ?_
 ·obtain ⟨c, st, h, q⟩ := h
  rw [evT] at q
  exact (pts_nil.run pins s σ H Q I (Post.ret q h rfl))
 rintro σ H Q ⟨c, st, h, q⟩
 exact dc_read hpt ho h q
theorem pts_none : PTs X [] (rdT T F0 (evT p cal none)) := ⟨fun pins s σ H Q I h => by
 obtain ⟨c, st, h, q⟩ := h
 rw [evT] at q
 exact (pts_nil.run pins s σ H Q I (Post.ret q h rfl))⟩
theorem pts_some {e : Expr} {x : E} (h : ST T X F0 e (tst p cal x)) : PTs X [e] (rdT T F0 (evT p cal (some x))) := pts_one (PT.imp h fun σ H Q z => by
 obtain ⟨c, st, h, q⟩ := z
 rw [evT] at q
 exact ⟨c, st, h, q⟩)
end
end Ev
namespace Ev
open PySem PySem.Spec PyProof.Rows L2 Calls ClX RZ
section
variable {α β γ : Type} {T : Tb} {X : Cx} {Wx : WX} {p : Pg} {cal : Bool → Nat → List W → List OO → RC} {c c1 c2 : Cf} {st : St} {σ : L2.St} {H H0 H1 H2 : Hp} {pins : List (Addr × Obj)} {s : Shared} {k : Nat} {D : Addr}
variable {a b d e : Expr} {ea eb ed : E} {pos : Pos}
theorem bin_all (O : XO T p X Wx k cal) {op : Bop} {a b : W} {v u : V} {vv uu : Value} {Q : VK} (I : Inv X pins σ H s) (h : RSt T c st σ H) (r1 : RV T c σ H a v) (r2 : RV T c σ H b u) (qv : RelV v vv) (qu : RelV u uu)
  (q : PostF T Wx c σ H (binR p cal op a b st) Q) : wpAny (model X.prog X.w) X.A (binaryOp (opOf op) vv uu) (EP X pins σ Q) X.xe s := by
 have plain : PostF T Wx c σ H (.lift st (binW op (vw st a) (vw st b))) Q → wpAny (model X.prog X.w) X.A (binaryOp (opOf op) vv uu) (EP X pins σ Q) X.xe s := fun q => by
  obtain ⟨w, e, q⟩ := liftF_some q
  exact bin_ok O.G.hK e I h (rvv h r1) (rvv h r2) qv qu (WantsF.of q)
 cases op with
 | add =>
  simp only [binR] at q
  cases e : clsOf st a with
  | none => simp only [e] at q; exact plain q
  | some C =>
   simp only [e] at q
   by_cases e2 : clsOf st b = some C
   ·rw [if_pos e2] at q
    exact bin_own (op := .Add) O.G O.M O.tk I h r1 r2 qv qu e e2 (by rw [O.G.sAdd]; kernel_rfl) (noL_ok q)
   ·rw [if_neg e2] at q
    exact (show False from q).elim
 | mul =>
  simp only [binR] at q
  cases e : clsOf st a with
  | none => simp only [e] at q; exact plain q
  | some C =>
   simp only [e] at q
   by_cases e2 : clsOf st b = some C
   ·rw [if_pos e2] at q
    exact bin_own (op := .Mult) O.G O.M O.tk I h r1 r2 qv qu e e2 (by rw [O.G.sMul]; kernel_rfl) (noL_ok q)
   ·rw [if_neg e2] at q
    exact (show False from q).elim
 | sub => exact plain q
 | fdv => exact plain q
 | mod => exact plain q
 | pow => exact plain q
theorem sf_bin (O : XO T p X Wx k cal) {op : Bop} (ha : SE T X Wx a (evE p cal ea)) (hb : SE T X Wx b (evE p cal eb)) : SF T X Wx (.BinOp a (opOf op) b pos) (evE p cal (.bin op ea eb)) :=
 ⟨fun pins s σ H Q I ⟨c, st, h, q⟩ => by
  simp only [evE] at q
  refine wpAny_BinOp (binT ha hb I (twoF h q) fun v u s2 x y H2 I2 rx ry ⟨c, st, wa, wb, h, r1, r2, q⟩ => ?_)
  exact bin_all O I2 h r1 r2 rx ry q⟩
theorem sf_lst {es : List Expr} {xs : List E} (hs : SA T X Wx es (evEs p cal xs)) : SF T X Wx (.List es pos) (evE p cal (.lst xs)) :=
 PE.imp (pe_lst hs) fun σ H Q ⟨c, st, h, q⟩ => by
  simp only [evE] at q
  refine ⟨c, st, h, (PostF.bind (rel := relA T σ) q).mono fun vs H1 ⟨c, st, ws, S, h, ra, q⟩ => ?_⟩
  cases ho : okvs ws && decide (ws.length ≤ lineMax) with
  | false => simp [ho] at q; exact q.elim
  | true =>
   simp only [ho, if_true] at q
   obtain ⟨o1, o2⟩ := Bool.and_eq_true_iff.mp ho
   refine ⟨by rw [← ra.1, ← line_eq]; exact of_decide_eq_true o2, fun pp hp => ?_⟩
   exact new_lst h hp (okv_rw o1 ra) (WantsF.of q)
theorem sf_slc {lo hi : Option Expr} {l u : Option E} {p2 : Pos} (hK : T.K = X.K) (ha : SE T X Wx a (evE p cal ea)) (hl : SO T X Wx lo (evO p cal l)) (hh : SO T X Wx hi (evO p cal u)) : SF T X Wx (.Subscript a (.Slice lo hi none p2) pos) (evE p cal (.slc ea l u)) :=
 ⟨fun pins s σ H Q I ⟨c, st, h, q⟩ => by
  simp only [evE] at q
  refine Subscript_ (thn (ha.run pins s σ H _ I ⟨c, st, h, PostF.bind (rel := relV T σ) q⟩) ?_)
  rintro v s1 ⟨x, H1, I1, r1, c1, st1, w1, S1, h1, rw1, q1⟩
  refine wpAny_Slice (thn (hl.run pins s1 σ H1 _ I1 ⟨c1, st1, h1, PostF.bind (rel := relO) q1⟩) ?_)
  rintro vl s2 ⟨l', H2, I2, pl, c2, st2, w2, S2, h2, rw2, q2⟩
  cases rw2
  refine thn (hh.run pins s2 σ H2 _ I2 ⟨c2, st2, h2, PostF.bind (rel := relO) q2⟩) ?_
  rintro vu s3 ⟨u', H3, I3, pu, c3, st3, w3, S3, h3, rw3, q3⟩
  cases rw3
  rw [evalPart_none]
  refine wpAny_pure ?_
  obtain ⟨w, ew, q4⟩ := liftF_some q3
  have I4 : Inv X pins σ H3 { s3 with heap := s3.heap.push { cls := .type "slice", data := .fields #[vl, vu, .none] } } := I3.kept (t' := s3.toks) fun b ob q => Heap.get?_push_of_some _ q
  obtain ⟨T', id, hT, ht, hg⟩ := slc_ok (s := { s3 with heap := s3.heap.push { cls := .type "slice", data := .fields #[vl, vu, .none] } }) ew hK I4 h3 (rvv h3 (RV.mono S3 (RV.mono S2 rw1))) r1 (Heap.IsSliceOf.new ..) pl pu (WantsF.of q4)
  show wpAny (model X.prog X.w) X.A (subscriptTail a (.Slice lo hi none p2) v (.ref s3.heap.objs.size)) (EP X pins σ Q) X.xe { s3 with heap := s3.heap.push { cls := .type "slice", data := .fields #[vl, vu, .none] } }
  exact tail_any (ops := [.ref s3.heap.objs.size, v]) ht hT hg (by with_unfolding_all rfl)⟩
theorem sf_bif (O : XO T p X Wx k cal) {f : Bif} (hf : f = .list ∨ f = .sorted) {np : Pos} {a : Expr} {args : List Expr} {xs : List E} (hg : Gl X (bfNm f)) (hm : X.mg (bfNm f) = none) (hs : (a :: args).all notStar = true) (ha : SA T X Wx (a :: args) (evEs p cal xs)) :
  SF T X Wx (.Call (.Name (bfNm f) np) (a :: args) [] pos) (evE p cal (.bif f xs)) :=
 ⟨fun pins s σ H Q I ⟨c, st, h, q⟩ => by
  simp only [evE] at q
  refine wpAny_Call_Name_kw (ld_blt I hg hm (bf_boot f) ?_ (bf_nn f).1 (bf_nn f).2)
  have run : wpAny (model X.prog X.w) X.A (spliced (backTo pos (starEach (a :: args) X.env))) (fun us s1 => wpAny (model X.prog X.w) X.A (call (bfOf f) us) (EP X pins σ Q) X.xe s1) X.xe s := by
   refine thn (ha.run pos pins s σ H _ I ⟨c, st, h, PostF.bind (rel := relA T σ) q⟩) ?_
   rintro us s1 ⟨vs, H1, I1, rv, c, st, ws, S, h, ra, q⟩
   have e : bifR p cal f ws st = .lift st (bifW f (ws.map (vw st))) := by
    rcases hf with e | e <;> subst e <;> rfl
   rw [e] at q
   obtain ⟨w, e, q⟩ := liftF_some q
   obtain ⟨l1, l2⟩ := relA_vv h ra
   exact bif_ok O.G.hK O.calm h I1 l1 l2 rv e (WantsF.of q)
  have hs' := hs
  rw [List.all_cons, Bool.and_eq_true] at hs'
  rcases bf_form f with ⟨id, e⟩ | ⟨t, e⟩
  ·rw [e] at run ⊢
   exact PyProof.Rows.callWith_builtin1 run (star_ok hs'.1) (star_any hs'.2)
  ·rw [e] at run ⊢
   exact PyProof.Rows.callWith_type1 run (star_ok hs'.1) (star_any hs'.2)⟩
end
end Ev
namespace Ev
open PySem PySem.Spec PyProof.Rows L2 Calls ClX RZ
def Cf.own (c : Cf) (i : Nat) (a : Addr) : Cf := ⟨c.lv, fun j => if j = i then some a else c.ow j, c.ou⟩
section
variable {T : Tb} {c : Cf} {st : St} {σ : L2.St} {H H0 : Hp}
theorem own_nf {i : Nat} {a b : Addr} (q : (c.own i a).nf b) : (c.opn a).nf b := by
 rcases q with (q | ⟨j, q⟩) | q
 ·exact .inl (.inl q)
 ·unfold Cf.own at q
  simp only at q
  split at q
  ·cases q; exact .inr (.inr rfl)
  ·exact .inl (.inr ⟨j, q⟩)
 ·exact .inr (.inl q)
theorem RSt.setO {i : Nat} {a : Addr} {o : OO} (h : RSt T (c.opn a) st σ H) (na : ¬ c.ou a) (ro : ROn T (c.opn a).lv (c.opn a).nf H o a) (hi : i < st.r.length) : RSt T (c.own i a) ⟨st.r.set i (.own o), st.s⟩ (σ.set i (some (.ref a))) H := by
 have m : Mn (c.opn a).lv (c.opn a).nf H (c.own i a).lv (c.own i a).nf H := ⟨fun _ _ e _ _ => e, fun b q => .inl (own_nf q), fun _ _ e => e, fun _ _ _ e => e⟩
 have hi' : i < σ.length := by rw [← h.len]; exact hi
 have nm : ¬ c.mu a := h.ou a (.inr rfl)
 refine ⟨by simp [h.len], fun j w e => ?_, fun j o' e => ?_, fun j b e => ?_, fun j j' b e e' => ?_, fun j b e => ?_, fun b q z => ?_, fun b q => h.ouh b (.inl q), ⟨h.sto.len, h.sto.nd, fun n o a e1 e2 => (h.sto.at_ n o a e1 e2).mono m rfl⟩⟩
 ·by_cases hj : i = j
  ·subst hj
   rw [List.getElem?_set_self hi] at e
   cases e
  ·rw [List.getElem?_set_ne hj] at e
   obtain ⟨v', e1, r'⟩ := h.val j w e
   exact ⟨v', by rw [List.getElem?_set_ne hj]; exact e1, r'.mono m⟩
 ·by_cases hj : i = j
  ·subst hj
   rw [List.getElem?_set_self hi] at e
   cases e
   exact ⟨a, by simp [Cf.own], List.getElem?_set_self hi', ro.mono m rfl⟩
  ·rw [List.getElem?_set_ne hj] at e
   obtain ⟨b, e1, e2, r'⟩ := h.own j o' e
   exact ⟨b, by unfold Cf.own; simp only; rw [if_neg (Ne.symm hj)]; exact e1, by rw [List.getElem?_set_ne hj]; exact e2, r'.mono m rfl⟩
 ·unfold Cf.own at e
  simp only at e
  split at e
  ·rename_i hj
   subst hj
   exact ⟨o, List.getElem?_set_self hi⟩
  ·rename_i hj
   obtain ⟨o', e1⟩ := h.back j b e
   exact ⟨o', by simp only; rw [List.getElem?_set_ne (Ne.symm hj)]; exact e1⟩
 ·unfold Cf.own at e e'
  simp only at e e'
  split at e
  ·rename_i hj
   split at e'
   ·rename_i hj'
    exact hj.trans hj'.symm
   ·cases e
    exact (nm (.inr ⟨j', e'⟩)).elim
  ·split at e'
   ·cases e'
    exact (nm (.inr ⟨j, e⟩)).elim
   ·exact h.inj j j' b e e'
 ·unfold Cf.own at e
  simp only at e
  split at e
  ·cases e
   exact fun z => nm (.inl z)
  ·exact h.dis j b e
 ·rcases z with z | ⟨j, z⟩
  ·exact h.ou b (.inl q) (.inl z)
  ·unfold Cf.own at z
   simp only at z
   split at z
   ·cases z; exact na q
   ·exact h.ou b (.inl q) (.inr ⟨j, z⟩)
theorem Stp.own {c0 : Cf} {i : Nat} {a : Addr} (S : Stp c0 H0 c H) (h0 : tn (H0 a)) (hn : ∃ o, H a = some o ∧ isIns a o = none) : Stp c0 H0 (c.own i a) H where
 fr := S.fr
 mw := fun b q => by
  rcases q with q | ⟨j, q⟩
  ·exact S.mw b (.inl q)
  ·unfold Cf.own at q
   simp only at q
   split at q
   ·cases q; exact .inr h0
   ·exact S.mw b (.inr ⟨j, q⟩)
 lv := S.lv
 ou := S.ou
 kk := S.kk
 ow := fun j b e => by
  unfold Cf.own at e
  simp only at e
  split at e
  ·cases e; exact .inr hn
  ·exact S.ow j b e
end
def PostS (T : Tb) (Wx : WX) (c : Cf) (H : Hp) (r : R Fl) (D : Ends) : Prop := match r with
 | .ok .nx st' => ∀ σ' H' c', Stp c H c' H' → RSt T c' st' σ' H' → D.nx σ' H'
 | .ok .brk st' => ∀ σ' H' c', Stp c H c' H' → RSt T c' st' σ' H' → D.bk σ' H'
 | .ok .cnt st' => ∀ σ' H' c', Stp c H c' H' → RSt T c' st' σ' H' → D.ct σ' H'
 | .ok (.ret w) st' => ∀ v σ' H' c', Stp c H c' H' → RSt T c' st' σ' H' → RW T c'.lv c'.nf H' w v → D.rt v H'
 | .exc x st' => ∀ cls d σ' H' c', Stp c H c' H' → RSt T c' st' σ' H' → RX T c' H' x cls d → Wx cls d σ' H'
 | .stk => False
def rdS (T : Tb) (Wx : WX) (m : St → R Fl) : TS := fun D σ H => ∃ c st, RSt T c st σ H ∧ PostS T Wx c H (m st) D
def SS (T : Tb) (X : Cx) (Wx : WX) (s : Stmt) (m : St → R Fl) : Prop := PS X s (rdS T Wx m)
def SSs (T : Tb) (X : Cx) (Wx : WX) (s : List Stmt) (m : St → R Fl) : Prop := PSs X s (rdS T Wx m)
theorem PS.imp {X : Cx} {s : Stmt} {t t' : TS} (h : PS X s t) (q : ∀ D σ H, t' D σ H → t D σ H) : PS X s t' := ⟨fun pins sh σ H D I z => h.run pins sh σ H D I (q _ _ _ z)⟩
theorem PSs.imp {X : Cx} {s : List Stmt} {t t' : TS} (h : PSs X s t) (q : ∀ D σ H, t' D σ H → t D σ H) : PSs X s t' := ⟨fun pins sh σ H D I z => h.run pins sh σ H D I (q _ _ _ z)⟩
section
variable {α β γ : Type} {T : Tb} {X : Cx} {Wx : WX} {p : Pg} {cal : Bool → Nat → List W → List OO → RC} {c c1 c2 : Cf} {st : St} {σ : L2.St} {H H0 H1 H2 : Hp} {pins : List (Addr × Obj)} {s : Shared} {k wf : Nat} {D : Ends}
variable {a b d e : Expr} {ea eb ed : E} {pos : Pos}
theorem PostS.from {r : R Fl} (h : PostS T Wx c H r D) (s : Stp c H c1 H1) : PostS T Wx c1 H1 r D := by
 cases r with
 | ok f st =>
  cases f with
  | nx => exact fun σ' H' c' s' h1 => h σ' H' c' (s.trans s') h1
  | brk => exact fun σ' H' c' s' h1 => h σ' H' c' (s.trans s') h1
  | cnt => exact fun σ' H' c' s' h1 => h σ' H' c' (s.trans s') h1
  | ret w => exact fun v σ' H' c' s' h1 h2 => h v σ' H' c' (s.trans s') h1 h2
 | exc x st => exact fun cls d σ' H' c' s' h1 h2 => h cls d σ' H' c' (s.trans s') h1 h2
 | stk => exact h
theorem PostS.bind {rel : Cf → Hp → α → β → Prop} {m : R α} {f : α → St → R Fl} (h : PostS T Wx c H (m.bind f) D) :
  Post T Wx rel c σ H m fun b H1 => ∃ c1 st1 a, Stp c H c1 H1 ∧ RSt T c1 st1 σ H1 ∧ rel c1 H1 a b ∧ PostS T Wx c1 H1 (f a st1) D := by
 cases m with
 | ok a st => exact fun b H' c' s h1 h2 => ⟨c', st, a, s, h1, h2, h.from s⟩
 | exc x st => exact fun cls d H' c' s h1 h2 => h cls d σ H' c' s h1 h2
 | stk => exact h
theorem PostS.bindF {m : R W} {f : W → St → R Fl} (h : PostS T Wx c H (m.bind f) D) :
  PostF T Wx c σ H m fun b H1 => ∃ c1 st1 a, Stp c H c1 H1 ∧ RSt T c1 st1 σ H1 ∧ RV T c1 σ H1 a b ∧ FrW T c1 st1 σ H H1 a b ∧ PostS T Wx c H (f a st1) D := by
 cases m with
 | ok a st => exact fun b H' c' s h1 h2 h3 => ⟨c', st, a, s, h1, h2, h3, h⟩
 | exc x st => exact fun cls d H' c' s h1 h2 => h cls d σ H' c' s h1 h2
 | stk => exact h
theorem sss_nil : SSs T X Wx [] (exSs p cal wf []) := PSs.imp pss_nil fun D σ H ⟨c, st, h, q⟩ => by
 rw [exSs] at q
 exact q σ H c Stp.refl h
theorem sss_cons {x : Stmt} {xs : List Stmt} {y : S} {ys : List S} (h1 : SS T X Wx x (exS p cal wf y)) (h2 : SSs T X Wx xs (exSs p cal wf ys)) : SSs T X Wx (x :: xs) (exSs p cal wf (y :: ys)) :=
 PSs.imp (pss_cons h1 h2) fun D σ H ⟨c, st, h, q⟩ => by
  rw [exSs] at q
  refine ⟨c, st, h, ?_⟩
  cases e : exS p cal wf y st with
  | stk => rw [e] at q; exact q
  | exc x st1 => rw [e] at q; exact q
  | ok f st1 =>
   rw [e, bind_ok] at q
   cases f with
   | nx => exact fun σ' H' c' S h' => ⟨c', st1, h', PostS.from q S⟩
   | brk => exact q
   | cnt => exact q
   | ret w => exact q
theorem ss_pas : SS T X Wx (.Pass pos) (exS p cal wf .pas) := PS.imp ps_pass fun D σ H ⟨c, st, h, q⟩ => by
 rw [exS] at q
 exact q σ H c Stp.refl h
theorem ss_doc {x : Str} {j : Nat} {pos' : Pos} : SS T X Wx (.Expr (.Constant (.str x) j pos) pos') (exS p cal wf .pas) := PS.imp ps_doc fun D σ H ⟨c, st, h, q⟩ => by
 rw [exS] at q
 exact q σ H c Stp.refl h
theorem ss_brk : SS T X Wx (.Break pos) (exS p cal wf .brk) := PS.imp ps_break fun D σ H ⟨c, st, h, q⟩ => by
 rw [exS] at q
 exact q σ H c Stp.refl h
theorem ss_cnt : SS T X Wx (.Continue pos) (exS p cal wf .cnt) := PS.imp ps_continue fun D σ H ⟨c, st, h, q⟩ => by
 rw [exS] at q
 exact q σ H c Stp.refl h
theorem ss_ex (ha : SE T X Wx a (evE p cal ea)) (hs : swapsWith a none pos.line X.env = pure false) : SS T X Wx (.Expr a pos) (exS p cal wf (.ex ea)) :=
 PS.imp (ps_expr ha hs) fun D σ H ⟨c, st, h, q⟩ => by
  rw [exS] at q
  exact ⟨c, st, h, (PostS.bind (rel := relV T σ) q).mono fun v H1 ⟨c1, st1, w, S, h1, r1, q1⟩ => q1 σ H1 c1 Stp.refl h1⟩
theorem ss_ret (ha : SE T X Wx a (evE p cal ea)) : SS T X Wx (.Return (some a) pos) (exS p cal wf (.ret ea)) :=
 PS.imp (ps_ret ha) fun D σ H ⟨c, st, h, q⟩ => by
  rw [exS] at q
  refine ⟨c, st, h, (PostS.bind (rel := relV T σ) q).mono fun v H1 ⟨c1, st1, w, S, h1, r1, q1⟩ => ?_⟩
  cases o : okv w with
  | false => simp only [o] at q1; exact (show False from q1).elim
  | true =>
   simp only [o, if_true] at q1
   exact q1 v σ H1 c1 Stp.refl h1 (RV.rw r1 o)
theorem ss_rtn : SS T X Wx (.Return none pos) (exS p cal wf .rtn) := PS.imp ps_retN fun D σ H ⟨c, st, h, q⟩ => by
 rw [exS] at q
 exact q .non σ H c Stp.refl h rw_non
theorem ss_ife {xs ys : List Stmt} {us vs : List S} (ha : ST T X Wx a (tst p cal ea)) (hx : SSs T X Wx xs (exSs p cal wf us)) (hy : SSs T X Wx ys (exSs p cal wf vs)) : SS T X Wx (.If a xs ys pos) (exS p cal wf (.ife ea us vs)) :=
 PS.imp (ps_if ha hx hy) fun D σ H ⟨c, st, h, q⟩ => by
  rw [exS] at q
  have q' : PostS T Wx c H ((tst p cal ea st).bind fun k st2 => if k then exSs p cal wf us st2 else exSs p cal wf vs st2) D := by
   unfold tst
   rw [bind_assoc']
   exact q
  refine ⟨c, st, h, (PostS.bind (rel := relB) q').mono fun v H1 ⟨c1, st1, w, S, h1, r1, q1⟩ => ?_⟩
  cases r1
  cases v with
  | true => simp only [if_true] at q1 ⊢; exact ⟨c1, st1, h1, q1⟩
  | false => simp only [Bool.false_eq_true, if_false] at q1 ⊢; exact ⟨c1, st1, h1, q1⟩
theorem ss_set {i : Nat} {x : Str} {pos' : Pos} (hN : X.N.Nodup) (hi : X.N[i]? = some x) (hx : Loc X.env.scope x) (hf : X.fn x = true ∨ X.env.scope.names.lookup x = some .local) (hs : swapsWith a (some (.Name x pos')) pos.line X.env = pure false)
  (ha : SE T X Wx a (evE p cal ea)) : SS T X Wx (.Assign [.Name x pos'] a pos) (exS p cal wf (.set i ea)) :=
 PS.imp (ps_set hN hi hx ha hs hf) fun D σ H ⟨c, st, h, q⟩ => by
  rw [exS] at q
  refine ⟨c, st, h, (PostS.bind (rel := relV T σ) q).mono fun v H1 ⟨c1, st1, w, S, h1, r1, q1⟩ => ?_⟩
  cases o : okv w && decide (i < st1.r.length) with
  | false => simp only [o] at q1; exact (show False from q1).elim
  | true =>
   simp only [o, if_true] at q1
   rw [Bool.and_eq_true, decide_eq_true_eq] at o
   exact q1 _ H1 _ Stp.drop (h1.setV o.2 (RV.rw r1 o.1))
theorem oOf_nt {w : W} : oOf w ≠ .tab := by cases w <;> simp [oOf]
theorem oOf_nd {w : W} (ks : List (Tx × List Int)) (ws : List W) : oOf w ≠ .dnk ks ws := by cases w <;> simp [oOf]
theorem lst_ref {w : W} {v : V} (o : isL w = true) (r : RV T c σ H w v) : ∃ a, v = .ref a ∧ ¬ c.nf a := by
 cases w <;> first | (cases o; done) | skip
 ·obtain ⟨aa, vs, e1, e2, e3, _⟩ : ∃ a vs, v = .ref a ∧ H a = some (.lst vs) ∧ ¬ c.nf a ∧ RWs T c.lv c.nf H _ vs := by simpa [RV, RW] using r
  exact ⟨aa, e1, e3⟩
 ·simp only [RV, RW] at r
  obtain ⟨aa, vs, e1, e2, e3, _⟩ := r
  exact ⟨aa, e1, e3⟩
theorem own_fin {i : Nat} {w : W} {v : V} {st1 : St} (S : Stp c H c1 H1) (r1 : RV T c1 σ H1 w v) (f1 : FrW T c1 st1 σ H H1 w v)
  (q : PostS T Wx c H (if decide (i < st1.r.length) && isL w then .ok .nx ⟨st1.r.set i (.own (oOf w)), st1.s⟩ else .stk) D) : D.nx (σ.set i (some v)) H1 := by
 cases o : decide (i < st1.r.length) && isL w with
 | false => rw [o] at q; exact (show False from q).elim
 | true =>
  rw [o, if_pos rfl] at q
  rw [Bool.and_eq_true, decide_eq_true_eq] at o
  obtain ⟨aa, e1, e3⟩ := lst_ref o.2 r1
  obtain ⟨g1, g2, g3⟩ := f1 o.2 aa e1
  subst e1
  have hn : ∃ o, H1 aa = some o ∧ isIns aa o = none := by
   cases w <;> first | (cases o.2; done) | skip
   ·obtain ⟨vs, k1, _⟩ := g3
    exact ⟨_, k1, rfl⟩
   ·obtain ⟨vs, k1, _⟩ := g3
    exact ⟨_, k1, rfl⟩
  exact q _ H1 _ (S.own g1 hn) (g2.setO (fun z => e3 (.inr z)) (g3.n oOf_nt oOf_nd) o.1)
theorem ss_own {i : Nat} {x : Str} {pos' : Pos} (hN : X.N.Nodup) (hi : X.N[i]? = some x) (hx : Loc X.env.scope x) (hf : X.fn x = true ∨ X.env.scope.names.lookup x = some .local) (hs : swapsWith a (some (.Name x pos')) pos.line X.env = pure false)
  (ha : SF T X Wx a (evE p cal ea)) : SS T X Wx (.Assign [.Name x pos'] a pos) (exS p cal wf (.own i ea)) :=
 PS.imp (ps_set hN hi hx ha hs hf) fun D σ H ⟨c, st, h, q⟩ => by
  rw [exS] at q
  refine ⟨c, st, h, ?_⟩
  have q' := PostS.bindF (σ := σ) q
  cases e : evE p cal ea st with
  | stk => rw [e] at q'; exact q'
  | exc x st1 => rw [e] at q'; exact q'
  | ok w st1 =>
   rw [e] at q'
   intro v H1 c1 S h1 r1 f1
   obtain ⟨c2, st2, w2, S2, h2, r2, f2, q2⟩ := q' v H1 c1 S h1 r1 f1
   exact own_fin S2 r2 f2 q2
theorem ss_unp {tg : Expr} {t : Tg} (hg : SG T X tg t) (hs : swapsWithSole [tg] a pos.line X.env = pure false) (hw : swappedStores [tg] a X.env = pure none) (h1 : (assignEach [tg] X.env).map (·.2) = [assign tg X.env])
  (ha : SE T X Wx a (evE p cal ea)) : SS T X Wx (.Assign [tg] a pos) (exS p cal wf (.unp t ea)) :=
 PS.imp (ps_asg ha hg hs hw h1) fun D σ H ⟨c, st, h, q⟩ => by
  rw [exS] at q
  refine ⟨c, st, h, (PostS.bind (rel := relV T σ) q).mono fun v H1 ⟨c1, st1, w, S, h1, r1, q1⟩ => ?_⟩
  cases e : tgW t w st1.r with
  | none => rw [e] at q1; exact (show False from q1).elim
  | some r' =>
   rw [e] at q1
   cases o : okv w with
   | false =>
    exfalso
    cases w <;> first | (cases o; done) | skip
    cases t <;> simp [tgW, okv] at e
   | true => exact ⟨c1, st1, w, h1, RW.g (RV.rw r1 o), r', e, fun σ2 c2 S2 h2 _ _ => q1 σ2 H1 c2 S2 h2⟩
theorem ss_aug {i : Nat} {x : Str} {pos' : Pos} {op : Bop} (hop : op = .add ∨ op = .sub) (hN : X.N.Nodup) (hi : X.N[i]? = some x) (hx : Loc X.env.scope x) (hf : X.fn x = true ∨ X.env.scope.names.lookup x = some .local)
  (ha : SE T X Wx a (evE p cal ea)) : SS T X Wx (.AugAssign (.Name x pos') (opOf op) a pos) (exS p cal wf (.aug i op ea)) := by
 have pip : ∃ f : Int → Int → Int, PIp X (opOf op) (ipI f) ∧ ∀ w y k, binW op w y = some (.int k) → ∃ m n, w = .int m ∧ y = .int n ∧ k = f m n := by
  rcases hop with e | e <;> subst e
  ·refine ⟨_, ip_add, fun w y k e => ?_⟩
   unfold binW at e
   split at e <;> first | contradiction | (cases e; exact ⟨_, _, rfl, rfl, rfl⟩) | (cases e; done) | (split at e <;> cases e)
  ·refine ⟨_, ip_sub, fun w y k e => ?_⟩
   unfold binW at e
   split at e <;> first | contradiction | (cases e; exact ⟨_, _, rfl, rfl, rfl⟩) | (cases e; done) | (split at e <;> cases e)
 obtain ⟨f, hp, hb⟩ := pip
 refine PS.imp (ps_aug hN hi hx ha hp hf) fun D σ H ⟨c, st, h, q⟩ => ?_
 rw [exS] at q
 cases e : st.r[i]? with
 | none => rw [e] at q; exact (show False from q).elim
 | some sl =>
  rw [e] at q
  cases sl with
  | un => exact (show False from q).elim
  | own _ => exact (show False from q).elim
  | val w =>
   simp only at q
   obtain ⟨v, e1, r⟩ := h.val i w e
   refine ⟨v, e1, c, st, h, (PostS.bind (rel := relV T σ) q).mono fun u H1 ⟨c1, st1, y, S, h1, r1, q1⟩ => ?_⟩
   cases e2 : binW op w (vw st1 y) with
   | none => rw [e2] at q1; exact (show False from q1).elim
   | some z =>
    rw [e2] at q1
    cases z <;> first | exact (show False from q1).elim | skip
    obtain ⟨m, n, ew, ey, ek⟩ := hb _ _ _ e2
    subst ew ek
    have rv1 := rvv h1 r1
    rw [ey] at rv1
    cases r
    cases rv1
    refine ⟨m, n, rfl, rfl, q1 _ H1 _ Stp.drop (h1.setV ?_ rfl)⟩
    rw [h1.len, ← h.len]
    exact (List.getElem?_eq_some_iff.mp e).1
end
end Ev
namespace Ev
open PySem PySem.Spec PyProof.Rows L2
def SqN (K : PySem.W.Frag) (H : Hp) (a : Addr) (vs : List V) : Prop := Cln H a vs ∨ KT K a vs
def KeyH (K : PySem.W.Frag) (H : Hp) (q : Tx × List Int) (ka : Addr) : Prop := ∃ t, SqN K H ka [.str (tS q.1), .ref t] ∧ SqN K H t (q.2.map V.int)
def PRd (p : NestedKey × Addr × V) (q : NestedKey × Addr × Value) : Prop := p.1 = q.1 ∧ p.2.1 = q.2.1 ∧ RelV p.2.2 q.2.2
def dput (L : DL) (k : NestedKey) (ka : Addr) (v : V) : DL := if (L.any fun p => decide (p.1 = k)) then L.map (fun p => if p.1 = k then (p.1, p.2.1, v) else p) else L ++ [(k, ka, v)]
def dget (L : DL) (k : NestedKey) : Option V := (L.find? fun p => decide (p.1 = k)).map (·.2.2)
theorem pr_any {k : NestedKey} : ∀ {L : DL} {xs : List (NestedKey × Addr × Value)}, Paired PRd L xs → (L.any fun p => decide (p.1 = k)) = (atKey xs k).isSome
 | _, _, .nil => rfl
 | _, _, .cons (a := p) (b := x) r t => by
  have ih := pr_any (k := k) t
  obtain ⟨e1, _, _⟩ := r
  rw [List.any_cons, ih, e1]
  by_cases h : x.1 = k
  ·simp [atKey, h]
  ·simp [atKey, h]
theorem pr_map {k : NestedKey} {v : V} {u : Value} (r : RelV v u) : ∀ {L : DL} {xs : List (NestedKey × Addr × Value)}, Paired PRd L xs → Paired PRd (L.map fun p => if p.1 = k then (p.1, p.2.1, v) else p) (xs.map (putAt k u))
 | _, _, .nil => .nil
 | _, _, .cons (a := p) (b := x) r1 t => by
  refine .cons ?_ (pr_map r t)
  obtain ⟨e1, e2, e3⟩ := r1
  unfold putAt
  show PRd (if p.1 = k then (p.1, p.2.1, v) else p) _
  by_cases h : p.1 = k
  ·rw [if_pos h, if_pos (by rw [← e1]; exact h)]
   exact ⟨e1, e2, r⟩
  ·rw [if_neg h, if_neg (by rw [← e1]; exact h)]
   exact ⟨e1, e2, e3⟩
theorem pr_snoc {α β : Type} {F : α → β → Prop} {a : α} {b : β} (h : F a b) : ∀ {l : List α} {m : List β}, Paired F l m → Paired F (l ++ [a]) (m ++ [b])
 | _, _, .nil => .cons h .nil
 | _, _, .cons r t => .cons r (pr_snoc h t)
theorem pr_mem {α β : Type} {F : α → β → Prop} {b : β} : ∀ {l : List α} {m : List β}, Paired F l m → b ∈ m → ∃ a, a ∈ l ∧ F a b
 | _, _, .nil, h => by cases h
 | _, _, .cons (a := x) (b := y) r t, h => by
  rcases List.mem_cons.mp h with e | h
  ·subst e; exact ⟨x, List.mem_cons_self, r⟩
  ·obtain ⟨a, h1, h2⟩ := pr_mem t h
   exact ⟨a, List.mem_cons_of_mem _ h1, h2⟩
theorem pr_put {k : NestedKey} {ka : Addr} {v : V} {u : Value} (r : RelV v u) {L : DL} {xs : List (NestedKey × Addr × Value)} (h : Paired PRd L xs) : Paired PRd (dput L k ka v) (storedH xs k ka u) := by
 unfold dput storedH
 rw [pr_any h]
 split
 ·exact pr_map r h
 ·exact pr_snoc ⟨rfl, rfl, r⟩ h
theorem pr_get {k : NestedKey} : ∀ {L : DL} {xs : List (NestedKey × Addr × Value)}, Paired PRd L xs → (match dget L k with
  | some v => ∃ p, atKey xs k = some p ∧ RelV v p.2
  | none => atKey xs k = none)
 | _, _, .nil => rfl
 | _, _, .cons (a := p) (b := x) r t => by
  have ih := pr_get (k := k) t
  obtain ⟨e1, e2, e3⟩ := r
  unfold dget atKey at ih ⊢
  by_cases h : p.1 = k
  ·have h2 : x.1 = k := by rw [← e1]; exact h
   simp only [List.find?_cons, h, h2, decide_true, Option.map_some]
   exact ⟨_, rfl, e3⟩
  ·have h2 : x.1 ≠ k := by rw [← e1]; exact h
   simp only [List.find?_cons, h, h2, decide_false]
   exact ih
theorem dput_len (L : DL) (k : NestedKey) (ka : Addr) (v : V) : (dput L k ka v).length ≤ L.length + 1 := by
 unfold dput
 split
 ·simp
 ·simp
section
variable {X : Cx} {pins : List (Addr × Obj)} {σ : L2.St} {H : Hp} {s : Shared} {a ka : Addr} {q : Tx × List Int} {A : Around} {L : DL} {E : Value → Shared → Prop}
theorem sqn_at {vs : List V} (I : Inv X pins σ H s) (h : SqN X.K H a vs) : ∃ o its n, s.heap.get? a = some o ∧ o.cls = .type "tuple" ∧ o.data = .seq its n ∧ Vals vs its.toList := by
 rcases h with ⟨o, hd, e⟩ | ⟨rfl, o, n, e1, e2, e3, e4⟩
 ·obtain ⟨g1, g2, its, g3, o', g4, g5, n, g6⟩ := I.hok a _ e
  exact ⟨o', its.toArray, n, g4, g5, g6, by simpa using g3⟩
 ·exact ⟨o, #[], n, I.kIn a o e1, e2, e4, .nil⟩
theorem ints_all {h : Heap} : ∀ {zs : List Int} {us : List Value}, Vals (zs.map V.int) us → NestedAll h (zs.map .num) us
 | [], us, r => by cases r; exact .nil
 | z :: zs, us, r => by
  cases r with
  | cons r1 r2 =>
   obtain ⟨t, rfl⟩ := (show ∃ t, _ = Value.int z t from r1)
   exact .cons (.int z t) (ints_all r2)
theorem ints_dep : ∀ zs : List Int, NestedKey.depthAll (zs.map .num) = 0
 | [] => rfl
 | z :: zs => by
  have := ints_dep zs
  simp [NestedKey.depthAll, NestedKey.depth, this]
theorem key_is (I : Inv X pins σ H s) (h : KeyH X.K H q ka) : (nestedKind X.prog X.w).is s.heap (nkK q) ka := by
 obtain ⟨t, h1, h2⟩ := h
 obtain ⟨o, its, n, g1, g2, g3, g4⟩ := sqn_at I h1
 obtain ⟨o2, its2, n2, k1, k2, k3, k4⟩ := sqn_at I h2
 refine ⟨?_, ?_⟩
 ·refine .tup g1 g2 g3 ?_
  generalize its.toList = us at g4
  cases g4 with
  | cons r1 r2 =>
   cases r2 with
   | cons r2 r3 =>
    cases r3
    obtain ⟨t1, rfl⟩ := (show ∃ t, _ = Value.str (tS q.1) t from r1)
    obtain rfl := (show _ = Value.ref t from r2)
    exact .cons (.text _ t1) (.cons (.tup k1 k2 k3 (ints_all k4)) .nil)
 ·have := ints_dep q.2
  simp [nkK, NestedKey.depth, NestedKey.depthAll, this]
abbrev hsW (w : World) : NestedKey → Int := fun k => k.hash w
theorem dn_at (I : Inv X pins σ H s) (e : H a = some (DN (hsW X.w) a L)) (hk : ∀ p ∈ L, ∃ q, p.1 = nkK q ∧ KeyH X.K H q p.2.1) : L.length ≤ sizeLine ∧ (a == sysModules) = false ∧ ∃ xs, Paired PRd L xs ∧ s.heap.DictOfH (nestedKind X.prog X.w) a xs := by
 obtain ⟨⟨z, hd, xs, rel, o, es, ep, g1, g2, g3, g4, g5⟩, _⟩ := I.hok a _ e
 have rel : Paired PRd L xs := rel
 refine ⟨z, hd, xs, rel, o, es, ep, g1, g2, g3, g4, fun x hx => ?_, g5⟩
 obtain ⟨p, hp, r⟩ := pr_mem rel hx
 obtain ⟨e1, e2, _⟩ := r
 obtain ⟨q, k1, k2⟩ := hk p hp
 rw [← e1, ← e2, k1]
 exact key_is I k2
theorem set_dn {v : V} {u : Value} {Q : Unit → Shared → Prop} (hu : A.units + 140 < cLine) (I : Inv X pins σ H s) (e : H a = some (DN (hsW X.w) a L)) (hk : ∀ p ∈ L, ∃ q, p.1 = nkK q ∧ KeyH X.K H q p.2.1) (k : KeyH X.K H q ka) (hl : L.length < sizeLine) (r : RelV v u)
  (h : ∀ s', (∃ h0, dnP (hsW X.w) a (dput L (nkK q) ka v) h0) → Inv X pins σ (upd H a (DN (hsW X.w) a (dput L (nkK q) ka v))) s' → Q () s') : wpAny (model X.prog X.w) A (setItem (.ref a) (.ref ka) u) Q E s := by
 obtain ⟨z, hd, xs, rel, dd⟩ := dn_at I e hk
 have hz : xs.length ≤ sizeLine := by rw [← Paired.length rel]; exact z
 have hl2 : (dput L (nkK q) ka v).length ≤ sizeLine := by have := dput_len L (nkK q) ka v; omega
 refine wpAny_setItem_heap (hsz := hz) (by show A.units + 1 + 8 < cLine; omega) (key_is I k) dd fun h' dd' hs => ?_
 obtain ⟨o, es, ep, g1, g2, g3, g4, _, g5⟩ := dd'
 have new : dnP (hsW X.w) a (dput L (nkK q) ka v) h' := ⟨hl2, hd, _, pr_put r rel, o, es, ep, g1, g2, g3, g4, g5⟩
 refine h _ ⟨h', new⟩ (d_write I (by rw [e]; exact True.intro) hs ⟨o, g1⟩ ⟨new, ⟨o, g1⟩, fun h1 h2 p k => ?_⟩)
 obtain ⟨p1, p2, ys, p3, o, es, ep, g1, g2⟩ := p
 exact ⟨p1, p2, ys, p3, o, es, ep, k _ g1, g2⟩
theorem in_dn {neg : Bool} {Q : Value → Shared → Prop} (hu : A.units + 140 < cLine) (I : Inv X pins σ H s) (e : H a = some (DN (hsW X.w) a L)) (hk : ∀ p ∈ L, ∃ q, p.1 = nkK q ∧ KeyH X.K H q p.2.1) (k : KeyH X.K H q ka)
  (h : ∀ s', Inv X pins σ H s' → Q (.bool (neg != (dget L (nkK q)).isSome)) s') : wpAny (model X.prog X.w) A (compareOp (if neg then .NotIn else .In) (.ref ka) (.ref a)) Q E s := by
 obtain ⟨z, hd, xs, rel, dd⟩ := dn_at I e hk
 have hg := pr_get (k := nkK q) rel
 have ei : (atKey xs (nkK q)).isSome = (dget L (nkK q)).isSome := by
  cases c : dget L (nkK q) with
  | none => rw [c] at hg; simp only at hg; rw [hg]; rfl
  | some v => rw [c] at hg; obtain ⟨p, hp, _⟩ := hg; rw [hp]; rfl
 have dk : s.heap.DictKeyed (nestedKind X.prog X.w) a (pairsH xs) := ⟨xs, dd, rfl⟩
 have ev : (valueAt (pairsH xs) (nkK q)).isSome = (dget L (nkK q)).isSome := by rw [valueAt_pairsH, Option.isSome_map, ei]
 cases neg with
 | false =>
  refine in_keyed (by show A.units + 1 + 8 < cLine; omega) (key_is I k) hd dk ?_
  rw [ev]
  have := h _ (I.tok (s.toks + (nestedKind X.prog X.w).draws (nkK q)))
  simpa using this
 | true =>
  refine notIn_keyed (by show A.units + 1 + 8 < cLine; omega) (key_is I k) hd dk ?_
  rw [ev]
  have := h _ (I.tok (s.toks + (nestedKind X.prog X.w).draws (nkK q)))
  simpa using this
theorem get_dn {v : V} {Q : Value → Shared → Prop} (hu : A.units + 140 < cLine) (I : Inv X pins σ H s) (e : H a = some (DN (hsW X.w) a L)) (hk : ∀ p ∈ L, ∃ q, p.1 = nkK q ∧ KeyH X.K H q p.2.1) (k : KeyH X.K H q ka) (hv : dget L (nkK q) = some v)
  (h : ∀ u s', RelV v u → Inv X pins σ H s' → Q u s') : wpAny (model X.prog X.w) A (getItem (.ref a) (.ref ka)) Q E s := by
 obtain ⟨z, hd, xs, rel, dd⟩ := dn_at I e hk
 have hg := pr_get (k := nkK q) rel
 rw [hv] at hg
 obtain ⟨p, hp, r⟩ := hg
 exact wpAny_getItem_heap (by show A.units + 1 + 8 < cLine; omega) (key_is I k) dd hp (h _ _ r (I.tok _))
end
end Ev
namespace Ev
open PySem PySem.Spec PyProof.Rows L2
theorem tS_inj {x y : Tx} (h : tS x = tS y) : x = y := by
 have := kS_inj (a := .inr x) (b := .inr y) (by show Sum.inr _ = Sum.inr _; rw [h])
 cases this; rfl
theorem num_inj : ∀ {a b : List Int}, a.map NestedKey.num = b.map NestedKey.num → a = b
 | [], [], _ => rfl
 | [], _ :: _, h => by simp at h
 | _ :: _, [], h => by simp at h
 | x :: a, y :: b, h => by
  simp only [List.map_cons, List.cons.injEq, NestedKey.num.injEq] at h
  rw [h.1, num_inj h.2]
theorem nkK_inj {a b : Tx × List Int} (h : nkK a = nkK b) : a = b := by
 unfold nkK at h
 simp only [NestedKey.tup.injEq, List.cons.injEq, NestedKey.text.injEq, and_true] at h
 exact Prod.ext (tS_inj h.1) (num_inj h.2)
theorem intsW_eq : ∀ {ys : List W} {zs : List Int}, intsW ys = some zs → ys = zs.map .int
 | [], zs, h => by
  simp only [intsW, Option.some.injEq] at h
  subst h; rfl
 | y :: ys, zs, h => by
  cases y <;> first | (simp [intsW] at h; done) | skip
  rename_i i
  simp only [intsW] at h
  obtain ⟨z, e1, e2⟩ := Option.map_eq_some_iff.mp h
  subst e2
  rw [intsW_eq e1]; rfl
theorem nkOf_eq {w : W} {q : Tx × List Int} (h : nkOf w = some q) : w = kW q := by
 unfold nkOf at h
 split at h
 ·rename_i x ys
  obtain ⟨zs, e1, e2⟩ := Option.map_eq_some_iff.mp h
  subst e2
  unfold kW
  rw [intsW_eq e1]
 ·cases h
section
variable {T : Tb} {lv : List Addr} {nf : Addr → Prop} {H : Hp}
theorem ints_rw : ∀ {zs : List Int} {vs : List V}, RWs T lv nf H (zs.map .int) vs → vs = zs.map V.int
 | [], vs, h => by simp only [List.map_nil, RWs] at h; exact h
 | z :: zs, vs, h => by
  simp only [List.map_cons, RWs, RW] at h
  obtain ⟨v, r, e, e2, h⟩ := h
  rw [e, e2, ints_rw h]; rfl
theorem ct_sqn {a : Addr} {vs : List V} (h : CT T.K nf H a vs) : SqN T.K H a vs := h.imp (fun z => z.1) id
theorem keyH_of {q : Tx × List Int} {ka : Addr} (h : RW T lv nf H (kW q) (.ref ka)) : KeyH T.K H q ka := by
 unfold kW at h
 simp only [RW, RWs] at h
 obtain ⟨a, vs, e, c, v1, r1, e1, ⟨h1, _⟩, v2, r2, e2, h2, e3⟩ := h
 cases e
 obtain ⟨t, us, e4, c2, h3⟩ := h2
 subst e1 e2 e3 h1 e4
 refine ⟨t, ct_sqn c, ?_⟩
 rw [ints_rw h3] at c2
 exact ct_sqn c2
theorem key_ref {q : Tx × List Int} {v : V} (h : RW T lv nf H (kW q) v) : ∃ ka, v = .ref ka := by
 unfold kW at h
 simp only [RW] at h
 obtain ⟨a, vs, e, _⟩ := h
 exact ⟨a, e⟩
theorem keys_ok : ∀ {ks : List (Tx × List Int)} {L : DL}, L.map (·.1) = ks.map nkK → RWs T lv nf H (ks.map kW) (L.map fun q => V.ref q.2.1) → ∀ p ∈ L, ∃ q, p.1 = nkK q ∧ KeyH T.K H q p.2.1
 | [], [], _, _, p, hp => by cases hp
 | [], _ :: _, e, _, _, _ => by simp at e
 | _ :: _, [], e, _, _, _ => by simp at e
 | k :: ks, l :: L, e, h, p, hp => by
  simp only [List.map_cons, List.cons.injEq] at e
  simp only [List.map_cons, RWs] at h
  obtain ⟨v, r, e1, h1, h2⟩ := h
  cases e1
  rcases List.mem_cons.mp hp with z | z
  ·subst z
   exact ⟨k, e.1, keyH_of h1⟩
  ·exact keys_ok e.2 h2 p z
theorem nget_ok {q : Tx × List Int} : ∀ {ks : List (Tx × List Int)} {L : DL} {ws : List W}, L.map (·.1) = ks.map nkK → RWs T lv nf H ws (L.map fun q => q.2.2) → (match nget q ks ws with
  | some w => ∃ v, dget L (nkK q) = some v ∧ RW T lv nf H w v
  | none => dget L (nkK q) = none)
 | [], [], ws, _, h => by
  have e : nget q [] ws = none := by cases ws <;> rfl
  rw [e]; rfl
 | [], _ :: _, _, e, _ => by simp at e
 | _ :: _, [], _, e, _ => by simp at e
 | k :: ks, l :: L, ws, e, h => by
  simp only [List.map_cons, List.cons.injEq] at e
  cases ws with
  | nil => simp [RWs] at h
  | cons w ws =>
   simp only [List.map_cons, RWs] at h
   obtain ⟨v, r, e1, h1, h2⟩ := h
   cases e1
   have ih := nget_ok (q := q) e.2 h2
   unfold nget
   by_cases hk : k = q
   ·rw [if_pos hk]
    refine ⟨l.2.2, ?_, h1⟩
    unfold dget
    rw [List.find?_cons, e.1, hk]
    simp
   ·rw [if_neg hk]
    have hn : ¬ l.1 = nkK q := by rw [e.1]; exact fun z => hk (nkK_inj z)
    have hd : dget (l :: L) (nkK q) = dget L (nkK q) := by
     unfold dget
     rw [List.find?_cons]
     simp [hn]
    rw [hd]
    exact ih
theorem dn_map {L : DL} {k : NestedKey} {v : V} (h : k ∉ L.map (·.1)) : (L.map fun p => if p.1 = k then (p.1, p.2.1, v) else p) = L := by
 conv => rhs; rw [← List.map_id L]
 refine List.map_congr_left fun p hp => ?_
 have n : ¬ p.1 = k := fun z => h (by rw [← z]; exact List.mem_map_of_mem (f := fun q : NestedKey × Addr × V => q.1) hp)
 show (if p.1 = k then (p.1, p.2.1, v) else p) = p
 rw [if_neg n]
theorem nput_ok {q : Tx × List Int} {ka : Addr} {w : W} {v : V} (rk : RW T lv nf H (kW q) (.ref ka)) (rv : RW T lv nf H w v) : ∀ {ks : List (Tx × List Int)} {L : DL} {ws : List W}, (L.map (·.1)).Nodup → L.map (·.1) = ks.map nkK → RWs T lv nf H (ks.map kW) (L.map fun q => V.ref q.2.1) → RWs T lv nf H ws (L.map fun q => q.2.2) →
  (dput L (nkK q) ka v).map (·.1) = (nput q w ks ws).1.map nkK ∧ RWs T lv nf H ((nput q w ks ws).1.map kW) ((dput L (nkK q) ka v).map fun q => V.ref q.2.1) ∧ RWs T lv nf H (nput q w ks ws).2 ((dput L (nkK q) ka v).map fun q => q.2.2)
 | [], [], ws, _, _, _, h => by
  have e : nput q w [] ws = ([q], [w]) := by cases ws <;> rfl
  rw [e]
  exact ⟨rfl, ⟨_, [], rfl, rk, rfl⟩, ⟨_, [], rfl, rv, rfl⟩⟩
 | [], _ :: _, _, _, e, _, _ => by simp at e
 | _ :: _, [], _, _, e, _, _ => by simp at e
 | k :: ks, l :: L, ws, nd, e, h, h' => by
  simp only [List.map_cons, List.cons.injEq] at e
  rw [List.map_cons, List.nodup_cons] at nd
  cases ws with
  | nil => simp [RWs] at h'
  | cons w0 ws =>
   simp only [List.map_cons, RWs] at h h'
   obtain ⟨v1, r1, e1, h1, h2⟩ := h
   obtain ⟨v2, r2, e2, h3, h4⟩ := h'
   cases e1
   cases e2
   unfold nput
   by_cases hk : k = q
   ·rw [if_pos hk]
    have hl : l.1 = nkK q := by rw [e.1, hk]
    have hd : dput (l :: L) (nkK q) ka v = (l.1, l.2.1, v) :: L := by
     unfold dput
     rw [List.any_cons, if_pos (by simp [hl]), List.map_cons, if_pos hl, dn_map (by rw [← hl]; exact nd.1)]
    rw [hd]
    exact ⟨by simp [e.1, e.2], ⟨_, _, rfl, h1, h2⟩, ⟨_, _, rfl, rv, h4⟩⟩
   ·rw [if_neg hk]
    have hn : ¬ l.1 = nkK q := by rw [e.1]; exact fun z => hk (nkK_inj z)
    have hd : dput (l :: L) (nkK q) ka v = l :: dput L (nkK q) ka v := by
     unfold dput
     rw [List.any_cons]
     simp only [hn, decide_false, Bool.false_or, List.map_cons, if_false]
     split <;> rfl
    obtain ⟨i1, i2, i3⟩ := nput_ok rk rv nd.2 e.2 h2 h4
    rw [hd]
    exact ⟨by simp [e.1, i1], ⟨_, _, rfl, h1, i2⟩, ⟨_, _, rfl, h3, i3⟩⟩
theorem dn_nodup {hs : NestedKey → Int} {a : Addr} {L : DL} (h : ∃ h0, dnP hs a L h0) : (L.map (·.1)).Nodup := by
 obtain ⟨h0, _, _, xs, rel, _, _, _, _, _, _, _, nd⟩ := h
 have key : ∀ {L : DL} {xs : List (NestedKey × Addr × Value)}, Paired PRd L xs → L.map (·.1) = xs.map (·.1) := fun {L xs} rel => by
  induction rel with
  | nil => rfl
  | cons r _ ih => rw [List.map_cons, List.map_cons, ih, r.1]
 rw [key rel]; exact nd
end
end Ev
namespace Ev
open PySem PySem.Spec PyProof.Rows L2 Calls ClX RZ
section
variable {T : Tb} {X : Cx} {Wx : WX} {p : Pg} {cal : Bool → Nat → List W → List OO → RC} {c c1 c2 : Cf} {st st' : St} {σ : L2.St} {H H0 H1 H2 : Hp} {pins : List (Addr × Obj)} {s : Shared} {k wf : Nat} {D : Ends}
variable {a b d e : Expr} {ea eb ed : E} {pos : Pos}
theorem forR_none {tg : W → List Sl → Option (List Sl)} {b : St → R Fl} {q : Src} {m i : Nat} (e : q.at st i = some none) : forR tg b q m i st = .ok .nx st := by
 rw [forR.eq_def]; simp only [e]
theorem forR_stk {tg : W → List Sl → Option (List Sl)} {b : St → R Fl} {q : Src} {m i : Nat} (e : q.at st i = none) : forR tg b q m i st = .stk := by
 rw [forR.eq_def]; simp only [e]
theorem forR_zero {tg : W → List Sl → Option (List Sl)} {b : St → R Fl} {q : Src} {i : Nat} {w : W} (e : q.at st i = some (some w)) : forR tg b q 0 i st = .stk := by
 rw [forR.eq_def]; simp only [e]
def turnF (g : St → R Fl) (f : Fl) (st2 : St) : R Fl := match f with
 | .nx => g st2
 | .cnt => g st2
 | .brk => .ok .nx st2
 | .ret w => .ok (.ret w) st2
theorem forR_step {tg : W → List Sl → Option (List Sl)} {b : St → R Fl} {q : Src} {m i : Nat} {w : W} (e : q.at st i = some (some w)) : forR tg b q (m + 1) i st = match tg w st.r with
  | none => .stk
  | some r => (b ⟨r, st.s⟩).bind (turnF fun st2 => forR tg b q m (i + 1) st2) := by
 rw [forR.eq_def]; simp only [e]
 rfl
def FW (T : Tb) (Wx : WX) (t : Tg) (b : St → R Fl) (q : Src) (c1 : Cf) (H1 : Hp) (D : Ends) (i m : Nat) (σ : L2.St) (H : Hp) : Prop :=
 ∃ (c : Cf) (st : St), Stp c1 H1 c H ∧ RSt T c st σ H ∧ PostS T Wx c H (forR (tgW t) b q m i st) D
theorem turn_end {m : R Fl} {g : St → R Fl} {D2 : Ends} (P : PostS T Wx c H (m.bind (turnF g)) D) (hn : ∀ st1 σ' H' c', m = .ok .nx st1 ∨ m = .ok .cnt st1 → Stp c H c' H' → RSt T c' st1 σ' H' → PostS T Wx c' H' (g st1) D → D2.nx σ' H' ∧ D2.ct σ' H')
  (hb : D2.bk = D.nx) (hr : D2.rt = D.rt) : PostS T Wx c H m D2 := by
 cases m with
 | stk => exact P
 | exc x st1 => exact P
 | ok f st1 =>
  rw [bind_ok] at P
  cases f with
  | nx => exact fun σ' H' c' S h => (hn st1 σ' H' c' (.inl rfl) S h (PostS.from P S)).1
  | cnt => exact fun σ' H' c' S h => (hn st1 σ' H' c' (.inr rfl) S h (PostS.from P S)).2
  | brk =>
   show ∀ σ' H' c', _ → _ → D2.bk σ' H'
   rw [hb]; exact P
  | ret w =>
   show ∀ v σ' H' c', _ → _ → _ → D2.rt v H'
   rw [hr]; exact P
theorem for_turn {t : Tg} {b : St → R Fl} {q : Src} {J : It} (hk : Wk T c1 H1 q J) (hpr : q.pr = true → t.isT = true) (i m : Nat) (σ : L2.St) (H : Hp) (w : FW T Wx t b q c1 H1 D i m σ H) :
  (J.stop i H ∧ D.nx σ H) ∨ (J.go i H ∧ ∃ N : L2.St → Hp → Prop, (∀ σ' H', N σ' H' → ∃ m', m' < m ∧ FW T Wx t b q c1 H1 D (i + 1) m' σ' H') ∧ ∀ x H', J.yld i H x H' → rdG T t x σ H' fun σ2 H2 => rdS T Wx b { D with nx := N, ct := N, bk := D.nx } σ2 H2) := by
 obtain ⟨c, st, S, h, P⟩ := w
 obtain ⟨k1, k2⟩ := hk c st σ H i S.mn h
 cases ea : q.at st i with
 | none => rw [forR_stk ea] at P; exact (show False from P).elim
 | some o =>
 cases o with
 | none =>
  rw [forR_none ea] at P
  exact .inl ⟨k1 ea, P σ H c Stp.refl h⟩
 | some x =>
  cases m with
  | zero => rw [forR_zero ea] at P; exact (show False from P).elim
  | succ m =>
  obtain ⟨go, yl⟩ := k2 x ea
  refine .inr ⟨go, FW T Wx t b q c1 H1 D (i + 1) m, fun σ' H' z => ⟨m, Nat.lt_succ_self _, z⟩, fun v H' y => ?_⟩
  obtain ⟨S1, h1, rx⟩ := yl v H' y
  rw [forR_step ea] at P
  cases et : tgW t x st.r with
  | none => rw [et] at P; exact (show False from P).elim
  | some r' =>
  rw [et] at P
  refine ⟨c, st, x, h1, RWq.g hpr rx, r', et, fun σ2 c2 S2 h2 _ _ => ⟨c2, ⟨r', st.s⟩, h2, ?_⟩⟩
  refine turn_end (PostS.from (PostS.from P S1) S2) (fun st3 σ3 H3 c3 _ S3 h3 P3 => ?_) rfl rfl
  have z : FW T Wx t b q c1 H1 D (i + 1) m σ3 H3 := ⟨c3, st3, S.trans (S1.trans (S2.trans S3)), h3, P3⟩
  exact ⟨z, z⟩
theorem ss_for {tg iter : Expr} {body : List Stmt} {t : Tg} {it : I} {bs : List S} (hp : PassesOwn (model X.prog X.w) X.A X.env X.xe) (hc : X.calm = true) (hi : SI T X Wx tg iter (evI p cal it)) (hpt : isTpE tg = true → t.isT = true) (hg : SG T X tg t) (hb : SSs T X Wx body (exSs p cal wf bs))
  (hs : ∀ x, foldedSetIterable iter X.env x = pure x) : SS T X Wx (.For tg iter body [] pos) (exS p cal wf (.for t it bs)) :=
 PS.imp (ps_for hp hc hi hg hb hs) fun D σ H ⟨c, st, h, q⟩ => by
  rw [exS] at q
  refine ⟨c, st, h, (PostS.bind (rel := relI T tg) q).mono fun J H1 ⟨c1, st1, src, S, h1, ⟨hk, hpr⟩, q1⟩ => ?_⟩
  exact ⟨FW T Wx t (exSs p cal wf bs) src c1 H1 D, ⟨src.len st1, c1, st1, Stp.refl, h1, q1⟩, fun i m σ H w => for_turn hk (fun z => hpt (hpr z)) i m σ H w⟩
theorem whlR_step {cc : St → R Bool} {b : St → R Fl} {n : Nat} : whlR cc b (n + 1) st = (cc st).bind fun k st1 => if k then (b st1).bind (turnF fun st2 => whlR cc b n st2) else .ok .nx st1 := by
 rw [whlR]
 rfl
theorem ss_whl {xs : List Stmt} {us : List S} (hp : PassesOwn (model X.prog X.w) X.A X.env X.xe) (ha : ST T X Wx a (tst p cal ea)) (hx : SSs T X Wx xs (exSs p cal wf us)) : SS T X Wx (.While a xs [] pos) (exS p cal wf (.whl ea us)) :=
 PS.imp (ps_while hp ha hx) fun D σ H ⟨c, st, h, q⟩ => by
  rw [exS] at q
  refine ⟨fun m σ H => ∃ c st, RSt T c st σ H ∧ PostS T Wx c H (whlR (tst p cal ea) (exSs p cal wf us) m st) D, ⟨wf, c, st, h, q⟩, ?_⟩
  rintro m σ H ⟨c, st, h, P⟩
  cases m with
  | zero => exact (show False from P).elim
  | succ m =>
  rw [whlR_step] at P
  refine ⟨c, st, h, (PostS.bind (rel := relB) P).mono fun v H1 ⟨c1, st1, w, S, h1, r1, q1⟩ => ?_⟩
  cases r1
  cases v with
  | false =>
   simp only [Bool.false_eq_true, if_false] at q1 ⊢
   exact q1 σ H1 c1 Stp.refl h1
  | true =>
   simp only [if_true] at q1 ⊢
   refine ⟨fun σ H => ∃ c st, RSt T c st σ H ∧ PostS T Wx c H (whlR (tst p cal ea) (exSs p cal wf us) m st) D, fun σ' H' z => ⟨m, Nat.lt_succ_self _, z⟩, c1, st1, h1, ?_⟩
   refine turn_end q1 (fun st3 σ3 H3 c3 _ S3 h3 P3 => ?_) rfl rfl
   exact ⟨⟨c3, st3, h3, P3⟩, ⟨c3, st3, h3, P3⟩⟩
theorem put_nf {x : W} {v : V} {o' : OO} {aa : Addr} (h : RSt T c st σ H) (r : RV T c σ H x v) (ep : Ev.put st o' x = some st') (ev : v = .ref aa) : c.nf aa := by
 cases x with
 | loc n =>
  obtain ⟨a2, e2, hn⟩ : ∃ a2, v = .ref a2 ∧ c.lv[n]? = some a2 := by simpa [RV, RW] using r
  have : a2 = aa := by rw [ev] at e2; simpa using e2.symm
  subst this
  exact .inl (.inl (List.mem_of_getElem? hn))
 | sl i =>
  cases q0 : st.r[i]? with
  | none => simp [Ev.put, q0] at ep
  | some sl =>
   cases sl with
   | own o0 =>
    obtain ⟨a2, b1, b2, b3⟩ := h.own i o0 q0
    have e2 : σ[i]? = some (some v) := r
    have : a2 = aa := by rw [e2, ev] at b2; simpa using b2.symm
    subst this
    exact .inl (.inr ⟨i, b1⟩)
   | val _ => simp [Ev.put, q0] at ep
   | un => simp [Ev.put, q0] at ep
 | _ => simp [Ev.put] at ep
theorem fput_ok {lv : List Addr} {nf : Addr → Prop} (inj : ∀ i j, T.sy i = T.sy j → i = j) {f : Nat} {w : W} {v : V} (r : RW T lv nf H w v) : ∀ {ns : List Nat} {xs : List W} {vs : List V}, ns.length = vs.length → RWs T lv nf H xs vs →
  ∃ vs', putF (T.sy f) v ((ns.map T.sy).zip vs) = ((fput f w ns xs).1.map T.sy).zip vs' ∧ (fput f w ns xs).1.length = vs'.length ∧ RWs T lv nf H (fput f w ns xs).2 vs'
 | [], xs, vs, e, rr => by
  have : vs = [] := List.eq_nil_of_length_eq_zero e.symm
  subst this
  have : xs = [] := List.eq_nil_of_length_eq_zero rr.len
  subst this
  exact ⟨[v], rfl, rfl, RWs.cons r RWs.nil⟩
 | g :: ns, xs, [], e, rr => by simp at e
 | g :: ns, [], u :: vs, e, rr => by simp [RWs] at rr
 | g :: ns, x :: xs, u :: vs, e, rr => by
  simp only [RWs] at rr
  obtain ⟨u', vs', e1, r1, r2⟩ := rr
  cases e1
  simp only [List.map_cons, List.zip_cons_cons, putF, fput]
  by_cases hg : g = f
  ·subst hg
   rw [if_pos rfl, if_pos rfl]
   exact ⟨v :: vs, rfl, by simpa using e, RWs.cons r r2⟩
  ·rw [if_neg (fun z => hg (inj _ _ z)), if_neg hg]
   obtain ⟨zs, h1, h2, h3⟩ := fput_ok inj r (f := f) (ns := ns) (by simpa using e) r2
   refine ⟨u :: zs, ?_, ?_, RWs.cons r1 h3⟩
   ·rw [h1]; rfl
   ·simp [h2]
theorem clsG_flds {C f : Nat} (h : fldOk p C f = true) : ∃ cc, clsG p C = some cc ∧ cc.flds.contains f = true := by
 unfold fldOk at h
 cases e : clsG p C with
 | none => rw [e] at h; cases h
 | some cc => rw [e] at h; exact ⟨cc, rfl, h⟩
theorem ss_sta (O : XO T p X Wx k cal) {o : Expr} {eo : E} {f : Nat} {x : Str} {pos' : Pos} (hx : x = T.sy f) (hs : swapsWith a (some (.Attribute o x pos')) pos.line X.env = pure false) (ho : SE T X Wx o (evE p cal eo)) (ha : SE T X Wx a (evE p cal ea)) :
  SS T X Wx (.Assign [.Attribute o x pos'] a pos) (exS p cal wf (.sta eo f ea)) := by
 subst hx
 refine PS.imp (ps_fld ho ha hs) fun D σ H ⟨c, st, h, q⟩ => ?_
 rw [exS] at q
 refine ⟨c, st, h, (PostS.bind (rel := relV T σ) q).mono fun v H1 ⟨c1, st1, w, S, h1, r1, q1⟩ => ⟨c1, st1, h1, (PostS.bind (rel := relV T σ) q1).mono fun u H2 ⟨c2, st2, y, S2, h2, r2, q2⟩ => ?_⟩⟩
 cases el : look st2 y with
 | none => rw [el] at q2; exact (show False from q2).elim
 | some ob =>
 rw [el, Option.bind_some] at q2
 cases ow : okv w with
 | false => rw [ow] at q2; exact (show False from q2).elim
 | true =>
 rw [ow, if_pos rfl] at q2
 cases es : staW p f w ob with
 | none => rw [es] at q2; exact (show False from q2).elim
 | some ob' =>
 rw [es, Option.bind_some] at q2
 cases ep : Ev.put st2 ob' y with
 | none => rw [ep] at q2; exact (show False from q2).elim
 | some st3 =>
 rw [ep] at q2
 cases ob with
 | lst _ => simp [staW] at es
 | dct _ _ => simp [staW] at es
 | tab => simp [staW] at es
 | dnk _ _ => simp [staW] at es
 | ins C ns xs =>
 simp only [staW] at es
 cases hc : decide (ns.length < 900) && fldOk p C f with
 | false => rw [hc] at es; simp at es
 | true =>
 rw [hc] at es
 simp only [if_true, Option.some.injEq] at es
 subst es
 rw [Bool.and_eq_true, decide_eq_true_eq] at hc
 obtain ⟨cc, hcc, hf⟩ := clsG_flds hc.2
 have cf := O.G.cls C cc hcc
 obtain ⟨aa, e1, dx, vs, g1, g2, g3⟩ := look_ok h2 r2 el
 have nf := put_nf h2 r2 ep e1
 have rw1 : RW T c2.lv c2.nf H2 w v := (RV.rw r1 ow).mono S2.mn
 obtain ⟨vs', k1, k2, k3⟩ := fput_ok (T := T) O.G.inj (f := f) rw1 g2 g3
 refine ⟨aa, T.ca C, dx, _, e1, g1, cf.cl, cf.na f hf, ?_, ?_⟩
 ·rw [List.length_zip, List.length_map, g2, Nat.min_self, ← g2]; omega
 ·rw [k1]
  obtain ⟨_, S3, h3⟩ := h2.put (ho := .ins (T.ca C) dx (((fput f w ns xs).1.map T.sy).zip vs')) r2 el ep e1 ⟨dx, vs', upd_same, k2, k3.mono (mn_put nf fun u eu => by rw [g1] at eu; cases eu; rfl)⟩ (fun u eu => by rw [g1] at eu; cases eu; rfl)
  exact q2 σ _ c2 S3 h3
def rDnS (K : PySem.W.Frag) (w : World) (o i v : V) (H : Hp) (Q : Hp → Prop) : Prop := ∃ (a : Addr) (L : DL) (ka : Addr) (q : Tx × List Int), o = .ref a ∧ i = .ref ka ∧ H a = some (DN (hsW w) a L) ∧ (∀ p ∈ L, ∃ q, p.1 = nkK q ∧ KeyH K H q p.2.1) ∧ KeyH K H q ka ∧ L.length < sizeLine ∧
 ((∃ h0, dnP (hsW w) a (dput L (nkK q) ka v) h0) → Q (upd H a (DN (hsW w) a (dput L (nkK q) ka v))))
def rSti (K : PySem.W.Frag) (w : World) (o i v : V) (H : Hp) (Q : Hp → Prop) : Prop := rSetL o i v H Q ∨ (∃ a H', o = .ref a ∧ DPut H a i v H' ∧ Q H') ∨ rDnS K w o i v H Q
theorem set_any (hu : Deep X) : PSet X (rSti X.K X.w) := by
 intro pins s σ H o i v ov iv u Q I ro ri rv h
 rcases h with h | ⟨a, H', rfl, g, q⟩ | ⟨a, L, ka, q, rfl, rfl, e, hk, k, hl, q⟩
 ·exact set_list pins s σ H o i v ov iv u Q I ro ri rv h
 ·cases ro
  have := hu
  refine d_setItem (by unfold Deep at this; omega) I g ri rv fun s' I' => ⟨H', I', q⟩
 ·cases ro
  cases ri
  exact set_dn hu I e hk k hl rv fun s' new I' => ⟨_, I', q new⟩
theorem sw_att {o : Expr} {x : Str} {p1 : Pos} {l : Nat} {env : Env} (e : Expr) : swapsWith e (some (.Attribute o x p1)) l env = pure false := by cases e <;> rfl
theorem sti_fin {x : W} {kk v : W} {u ku z : V} {ob ob' : OO} (h : RSt T c st σ H) (rx : RV T c σ H x u) (rk : RV T c σ H kk ku) (rz : RW T c.lv c.nf H v z) (el : look st x = some ob) (es : stiW ob kk v = some ob') (ep : Ev.put st ob' x = some st')
  {Q : Hp → Prop} {K : PySem.W.Frag} {w : World} (hhs : ∀ q, nkOf kk = some q → T.K = K ∧ T.hs = hsW w) (q : ∀ H', Stp c H c H' → RSt T c st' σ H' → Q H') : rSti K w u ku z H Q := by
 obtain ⟨aa, e1, ro⟩ := look_ok h rx el
 subst e1
 have nf := put_nf h rx ep rfl
 cases ob with
 | ins _ _ _ => simp [stiW] at es
 | tab => simp [stiW] at es
 | dnk ks xs =>
  simp only [stiW] at es
  obtain ⟨kq, e2, e3⟩ := Option.bind_eq_some_iff.mp es
  obtain ⟨rfl, hw⟩ := hhs kq e2
  split at e3
  ·rename_i hl
   cases e3
   obtain ⟨L, g1, g2, g3, g4, g5⟩ := ro
   have ek := nkOf_eq e2
   subst ek
   have rk : RW T c.lv c.nf H (kW kq) ku := rk
   obtain ⟨ka, rfl⟩ := key_ref rk
   rw [hw] at g1 g2
   have hlen : L.length = ks.length := by have := congrArg List.length g3; simpa using this
   refine .inr (.inr ⟨aa, L, ka, kq, rfl, rfl, g1, keys_ok g3 g4, keyH_of rk, by rw [hlen, ← line_eq]; exact hl, fun new => ?_⟩)
   obtain ⟨i1, i2, i3⟩ := nput_ok rk rz (dn_nodup g2) g3 g4 g5
   have hki : ∀ u, H aa = some u → isIns aa (DN (hsW w) aa (dput L (nkK kq) ka z)) = isIns aa u := fun u eu => by
    rw [g1] at eu; cases eu
    rw [isIns_dn new, isIns_dn g2]
   have m := mn_put nf hki
   obtain ⟨_, S3, h3⟩ := h.put (ho := DN (hsW w) aa (dput L (nkK kq) ka z)) rx el ep rfl ⟨_, by rw [hw]; exact upd_same, by rw [hw]; exact new, i1, i2.mono m, i3.mono m⟩ hki (fun _ _ _ => ⟨_, _, rfl⟩)
   exact q _ S3 h3
  ·cases e3
 | lst xs =>
  cases kk <;> first | (simp [stiW] at es; done) | skip
  rename_i i
  obtain ⟨j, e2, e3⟩ := Option.map_eq_some_iff.mp (show (Ev.ixN xs.length i).map (fun j => OO.lst (xs.set j v)) = some ob' from es)
  subst e3
  obtain ⟨vs, g1, g2⟩ := ro
  cases rk
  obtain ⟨_, S3, h3⟩ := h.put (ho := .lst (vs.set j z)) rx el ep rfl ⟨_, upd_same, (g2.set j rz).mono (mn_put nf fun u eu => by rw [g1] at eu; cases eu; rfl)⟩ (fun u eu => by rw [g1] at eu; cases eu; rfl)
  exact .inl ⟨aa, vs, i, j, rfl, rfl, g1, by rw [← g2.len]; exact e2, q _ S3 h3⟩
 | dct ks xs =>
  simp only [stiW] at es
  obtain ⟨kq, e2, e3⟩ := Option.bind_eq_some_iff.mp es
  split at e3
  ·rename_i hl
   cases e3
   obtain ⟨vs, g1, g2, g3⟩ := ro
   have ry := rvv h rk
   have ek' : kyOf (vw st kk) = some kq := by
    have e2' := e2
    unfold kyOf at e2
    split at e2 <;> first | (cases e2; done) | exact e2'
   have rkey := key_of ek' ry
   subst rkey
   obtain ⟨vs', k1, k2, k3⟩ := kput_ok (q := kq) g2 g3 rz
   obtain ⟨_, S3, h3⟩ := h.put (ho := .dK (((kput kq v ks xs).1.map kS).zip vs')) rx el ep rfl ⟨vs', upd_same, k2, k3.mono (mn_put nf fun u eu => by rw [g1] at eu; cases eu; rfl)⟩ (fun u eu => by rw [g1] at eu; cases eu; rfl)
   refine .inr (.inl ⟨aa, _, rfl, DPut.k g1 ?_, ?_⟩)
   ·rw [List.length_zip, List.length_map, ← g2, Nat.min_self, ← line_eq]; exact hl
   ·rw [k1]
    exact q _ S3 h3
  ·cases e3
theorem ss_sti (hK : T.K = X.K) (hhs : T.hs = hsW X.w) (hu : Deep X) {o i : Expr} {eo ei : E} {pos' : Pos} (ho : SE T X Wx o (evE p cal eo)) (hi : SE T X Wx i (evE p cal ei)) (ha : SE T X Wx a (evE p cal ea)) (hns : notSlice i = true) :
  SS T X Wx (.Assign [.Subscript o i pos'] a pos) (exS p cal wf (.sti eo ei ea)) := by
 have hs1 : swapsWithSole [.Subscript o i pos'] a pos.line X.env = pure false := by cases a <;> rfl
 have hs2 : swappedStores [.Subscript o i pos'] a X.env = pure none := by cases a <;> rfl
 refine PS.imp (ps_asg ha (pg_sub ho hi (set_any hu) (fun v => by cases i <;> first | rfl | cases hns)) hs1 hs2 rfl) fun D σ H ⟨c, st, h, q⟩ => ?_
 rw [exS] at q
 refine ⟨c, st, h, (PostS.bind (rel := relV T σ) q).mono fun v H1 ⟨c1, st1, w, S, h1, r1, q1⟩ => ⟨c1, st1, h1, (PostS.bind (rel := relV T σ) q1).mono fun u H2 ⟨c2, st2, y, S2, h2, r2, q2⟩ =>
  ⟨c2, st2, h2, (PostS.bind (rel := relV T σ) q2).mono fun u3 H3 ⟨c3, st3, y3, S3, h3, r3, q3⟩ => ?_⟩⟩⟩
 cases el : look st3 y with
 | none => rw [el] at q3; exact (show False from q3).elim
 | some ob =>
 rw [el, Option.bind_some] at q3
 cases ow : okv w with
 | false => rw [ow] at q3; exact (show False from q3).elim
 | true =>
 rw [ow, if_pos rfl] at q3
 cases es : stiW ob y3 w with
 | none => rw [es] at q3; exact (show False from q3).elim
 | some ob' =>
 rw [es, Option.bind_some] at q3
 cases ep : Ev.put st3 ob' y with
 | none => rw [ep] at q3; exact (show False from q3).elim
 | some st4 =>
 rw [ep] at q3
 exact sti_fin h3 (RV.mono S3 r2) r3 ((RV.rw r1 ow).mono (S2.trans S3).mn) el es ep (fun _ _ => ⟨hK, hhs⟩) fun H' S4 h4 => q3 σ H' c3 S4 h4
end
end Ev
namespace Ev
open PySem PySem.Spec PyProof.Rows L2 Calls ClX RZ
def Cf.add (c : Cf) (a : Addr) : Cf := ⟨c.lv ++ [a], c.ow, c.ou⟩
section
variable {T : Tb} {c : Cf} {st : St} {σ : L2.St} {H H0 : Hp}
theorem add_nf {a b : Addr} (q : (c.add a).nf b) : (c.opn a).nf b := by
 rcases q with (q | q) | q
 ·rcases List.mem_append.mp (show b ∈ c.lv ++ [a] from q) with z | z
  ·exact .inl (.inl z)
  ·exact .inr (.inr (by simpa using z))
 ·exact .inl (.inr q)
 ·exact .inr (.inl q)
theorem RSt.add {a : Addr} {o : OO} (h : RSt T (c.opn a) st σ H) (na : ¬ c.ou a) (ro : RO T (c.opn a).lv (c.opn a).nf H o a) : RSt T (c.add a) ⟨st.r, st.s ++ [o]⟩ σ H := by
 have nm : ¬ c.mu a := h.ou a (.inr rfl)
 have lvx : ∀ (n : Nat) b, c.lv[n]? = some b → (c.lv ++ [a])[n]? = some b := fun n b e => by
  rw [List.getElem?_append_left (List.getElem?_eq_some_iff.mp e).1]; exact e
 have m : Mn (c.opn a).lv (c.opn a).nf H (c.add a).lv (c.add a).nf H := ⟨fun _ _ e _ _ => e, fun b q => .inl (add_nf q), lvx, fun _ _ _ e => e⟩
 have hln : st.s.length = c.lv.length := h.sto.len
 refine ⟨h.len, fun j w e => ?_, fun j o' e => ?_, h.back, h.inj, fun j b e => ?_, fun b q z => ?_, fun b q => h.ouh b (.inl q), ⟨?_, ?_, fun n o' b e1 e2 => ?_⟩⟩
 ·obtain ⟨v', e1, r'⟩ := h.val j w e
  exact ⟨v', e1, r'.mono m⟩
 ·obtain ⟨b, e1, e2, r'⟩ := h.own j o' e
  exact ⟨b, e1, e2, r'.mono m rfl⟩
 ·intro z
  rcases List.mem_append.mp (show b ∈ c.lv ++ [a] from z) with z | z
  ·exact h.dis j b e z
  ·have : b = a := by simpa using z
   subst this
   exact nm (.inr ⟨j, e⟩)
 ·rcases z with z | z
  ·rcases List.mem_append.mp (show b ∈ c.lv ++ [a] from z) with z | z
   ·exact h.ou b (.inl q) (.inl z)
   ·have : b = a := by simpa using z
    subst this
    exact na q
  ·exact h.ou b (.inl q) (.inr z)
 ·show (st.s ++ [o]).length = (c.lv ++ [a]).length
  simp [hln]
 ·show (c.lv ++ [a]).Nodup
  refine List.nodup_append.mpr ⟨h.sto.nd, by simp, fun x hx y hy => ?_⟩
  have : y = a := by simpa using hy
  subst this
  rintro rfl
  exact nm (.inl hx)
 ·have e1 : (st.s ++ [o])[n]? = some o' := e1
  have e2 : (c.lv ++ [a])[n]? = some b := e2
  by_cases hn : n < st.s.length
  ·rw [List.getElem?_append_left hn] at e1
   rw [List.getElem?_append_left (by omega)] at e2
   exact (h.sto.at_ n o' b e1 e2).mono m rfl
  ·rw [List.getElem?_append_right (by omega)] at e1
   rw [List.getElem?_append_right (by omega), ← hln] at e2
   cases hk : n - st.s.length with
   | zero =>
    rw [hk] at e1 e2
    cases e1; cases e2
    exact ro.mono m rfl
   | succ k => rw [hk] at e1; simp at e1
theorem Stp.add {c0 : Cf} {a : Addr} (S : Stp c0 H0 c H) (h0 : tn (H0 a)) : Stp c0 H0 (c.add a) H where
 fr := S.fr
 mw := fun b q => by
  rcases q with q | q
  ·rcases List.mem_append.mp (show b ∈ c.lv ++ [a] from q) with z | z
   ·exact S.mw b (.inl z)
   ·have : b = a := by simpa using z
    subst this
    exact .inr h0
  ·exact S.mw b (.inr q)
 lv := fun n b e => by
  have := S.lv n b e
  show (c.lv ++ [a])[n]? = some b
  rw [List.getElem?_append_left (List.getElem?_eq_some_iff.mp this).1]; exact this
 ou := S.ou
 kk := S.kk
 ow := S.ow
end
section
variable {T : Tb} {X : Cx} {Wx : WX} {p : Pg} {cal : Bool → Nat → List W → List OO → RC} {c c1 c2 : Cf} {st st' : St} {σ : L2.St} {H H0 H1 H2 : Hp} {pins : List (Addr × Obj)} {s : Shared} {k wf : Nat} {D : Ends}
variable {a b d e : Expr} {ea eb ed : E} {pos : Pos}
theorem Post.bindF {α β : Type} {rel2 : Cf → Hp → α → β → Prop} {Q : β → Hp → Prop} {m : R W} {f : W → St → R α} (h : Post T Wx rel2 c σ H (m.bind f) Q) :
  PostF T Wx c σ H m fun b H1 => ∃ c1 st1 a, m = .ok a st1 ∧ Stp c H c1 H1 ∧ RSt T c1 st1 σ H1 ∧ RV T c1 σ H1 a b ∧ FrW T c1 st1 σ H H1 a b ∧ Post T Wx rel2 c σ H (f a st1) Q := by
 cases m with
 | ok a st => exact fun b H' c' s h1 h2 h3 => ⟨c', st, a, rfl, s, h1, h2, h3, h⟩
 | exc x st => exact h
 | stk => exact h
theorem se_alc (ha : SF T X Wx a (evE p cal ea)) : SE T X Wx a (evE p cal (.alc ea)) :=
 PE.imp ha fun σ H Q ⟨c, st, h, q⟩ => by
  simp only [evE] at q
  refine ⟨c, st, h, ?_⟩
  have q' := Post.bindF q
  cases e : evE p cal ea st with
  | stk => rw [e] at q'; exact q'
  | exc x st1 => rw [e] at q'; exact q'
  | ok w st1 =>
   rw [e] at q'
   intro v H1 c1 S h1 r1 f1
   obtain ⟨c2, st2, w2, e2, S2, h2, r2, f2, q2⟩ := q' v H1 c1 S h1 r1 f1
   cases o : isL w2 with
   | false => rw [o] at q2; exact (show False from q2).elim
   | true =>
    rw [o, if_pos rfl] at q2
    obtain ⟨aa, e1, e3⟩ := lst_ref o r2
    obtain ⟨g1, g2, g3⟩ := f2 o aa e1
    refine q2 v H1 (c2.add aa) (S2.add g1) (g2.add (fun z => e3 (.inr z)) g3) ?_
    show RW T (c2.add aa).lv (c2.add aa).nf H1 (.loc st2.s.length) v
    simp only [RW]
    refine ⟨aa, e1, ?_⟩
    show (c2.lv ++ [aa])[st2.s.length]? = some aa
    rw [show st2.s.length = c2.lv.length from h2.sto.len]
    simp
theorem RSt.frz (h : RSt T c st σ H) {i : Nat} {o : OO} {w : W} (e : st.r[i]? = some (.own o)) (hw : ∀ a, c.ow i = some a → RO T c.lv c.nf H o a → ¬ (c.drop i).nf a → RW T (c.drop i).lv (c.drop i).nf H w (.ref a)) : RSt T (c.drop i) ⟨st.r.set i (.val w), st.s⟩ σ H ∧ ∃ a, σ[i]? = some (some (.ref a)) ∧ RW T (c.drop i).lv (c.drop i).nf H w (.ref a) := by
 obtain ⟨a, e1, e2, ro⟩ := h.own i o e
 have hi : i < st.r.length := (List.getElem?_eq_some_iff.mp e).1
 have nf : ¬ (c.drop i).nf a := fun z => by
  rcases z with (z | ⟨j, z⟩) | z
  ·exact h.dis i a e1 z
  ·unfold Cf.drop at z
   simp only at z
   split at z
   ·cases z
   ·rename_i hj
    exact hj (h.inj j i a z e1)
  ·exact h.ou a z (.inr ⟨i, e1⟩)
 have rw1 := hw a e1 ro.ro nf
 have m := (Stp.drop (c := c) (H := H) (i := i)).mn
 refine ⟨⟨by simp [h.len], fun j w' e' => ?_, fun j o' e' => ?_, fun j b e' => ?_, fun j j' b e' e'' => ?_, fun j b e' => ?_, fun b q z => h.ou b q (drop_mu z), h.ouh, ⟨h.sto.len, h.sto.nd, fun n o' b e1 e2 => (h.sto.at_ n o' b e1 e2).mono m rfl⟩⟩, a, e2, rw1⟩
 ·by_cases hj : i = j
  ·subst hj
   rw [List.getElem?_set_self hi] at e'
   cases e'
   exact ⟨_, e2, rw1⟩
  ·rw [List.getElem?_set_ne hj] at e'
   obtain ⟨v', g1, r'⟩ := h.val j w' e'
   exact ⟨v', g1, r'.mono m⟩
 ·by_cases hj : i = j
  ·subst hj
   rw [List.getElem?_set_self hi] at e'
   cases e'
  ·rw [List.getElem?_set_ne hj] at e'
   obtain ⟨b, g1, g2, r'⟩ := h.own j o' e'
   exact ⟨b, by unfold Cf.drop; simp only; rw [if_neg (Ne.symm hj)]; exact g1, g2, r'.mono m rfl⟩
 ·unfold Cf.drop at e'
  simp only at e'
  split at e'
  ·cases e'
  ·rename_i hj
   obtain ⟨o', g1⟩ := h.back j b e'
   exact ⟨o', by simp only; rw [List.getElem?_set_ne (Ne.symm hj)]; exact g1⟩
 ·unfold Cf.drop at e' e''
  simp only at e' e''
  split at e'
  ·cases e'
  ·split at e''
   ·cases e''
   ·exact h.inj j j' b e' e''
 ·unfold Cf.drop at e'
  simp only at e'
  split at e'
  ·cases e'
  ·exact h.dis j b e'
theorem se_frz {i : Nat} {x : Str} (hN : X.N[i]? = some x) (hv : Vis X.env.scope x) (h1 : (x == ("__debug__" : Str)) = false) (h2 : (x == ("__classdict__" : Str)) = false) : SE T X Wx (.Name x pos) (evE p cal (.frz i)) :=
 PE.imp (pe_var hN hv h1 h2) fun σ H Q ⟨c, st, h, q⟩ => by
   simp only [evE] at q
   cases e : st.r[i]? with
   | none => simp [e] at q; exact q.elim
   | some s =>
     cases s with
     | un => simp [e] at q; exact q.elim
     | val w =>
       simp [e] at q
       obtain ⟨v, e1, r⟩ := h.val i w e
       exact ⟨v, e1, Post.ret q h r.rv⟩
     | own o =>
       have m := (Stp.drop (c := c) (H := H) (i := i)).mn
       cases o with
       | lst xs =>
         simp only [e] at q
         obtain ⟨h', a, e1, r⟩ := h.frz (w := .lst xs) e fun a _ ro nf => by
           obtain ⟨vs, g1, g2⟩ := ro
           simp only [RW]
           exact ⟨a, vs, rfl, g1, nf, g2.mono m⟩
         exact ⟨.ref a, e1, q _ H (c.drop i) Stp.drop h' r.rv⟩
       | dct ks xs =>
         simp only [e] at q
         obtain ⟨h', a, e1, r⟩ := h.frz (w := .dct ks xs) e fun a _ ro nf => by
           obtain ⟨vs, g1, g2, g3⟩ := ro
           simp only [RW]
           exact ⟨a, vs, rfl, g1, nf, g2, g3.mono m⟩
         exact ⟨.ref a, e1, q _ H (c.drop i) Stp.drop h' r.rv⟩
       | ins _ _ _ => simp [e] at q; exact q.elim
       | tab => simp [e] at q; exact q.elim
       | dnk _ _ => simp [e] at q; exact q.elim
theorem se_nvr : SE T X Wx e (evE p cal .nvr) := ⟨fun pins s σ H Q I ⟨c, st, h, q⟩ => by
 simp only [evE] at q
 exact (show False from q).elim⟩
theorem ss_nvr {x : Stmt} : SS T X Wx x (exS p cal wf .nvr) := ⟨fun pins s σ H Q I ⟨c, st, h, q⟩ => by
 rw [exS] at q
 exact (show False from q).elim⟩
theorem ss_par2 {i j : Nat} {x y : Str} {px py pt : Pos} {kt k2 : Nat} {pt2 : Pos} (hc : X.calm = true) (hN : X.N.Nodup) (hi : X.N[i]? = some x) (hj : X.N[j]? = some y) (hij : i ≠ j)
  (hx : X.env.scope.names.lookup x = some .local) (hy : X.env.scope.names.lookup y = some .local)
  (hw : swappedStores [.Tuple [.Name x px, .Name y py] kt pt] (.Tuple [a, b] k2 pt2) X.env = pure (some [x, y])) (ha : SA T X Wx [a, b] (evEs p cal [ea, eb])) :
  SS T X Wx (.Assign [.Tuple [.Name x px, .Name y py] kt pt] (.Tuple [a, b] k2 pt2) pos) (exS p cal wf (.par [i, j] [ea, eb])) :=
 PS.imp (ps_par hc hN hi hj hij hx hy ha hw) fun D σ H ⟨c, st, h, q⟩ => by
  rw [exS] at q
  refine ⟨c, st, h, (PostS.bind (rel := relA T σ) q).mono fun vs H1 ⟨c1, st1, ws, S, h1, r1, q1⟩ => ?_⟩
  cases o : (okvs ws && decide ([i, j].length = ws.length) && [i, j].all fun i => decide (i < st1.r.length)) with
  | false => rw [o] at q1; exact (show False from q1).elim
  | true =>
  rw [o, if_pos rfl] at q1
  simp only [Bool.and_eq_true, decide_eq_true_eq, List.all_cons, List.all_nil] at o
  obtain ⟨⟨o1, o2⟩, o3, o4, _⟩ := o
  match ws, o2 with
  | [w1, w2], _ =>
  obtain ⟨v, u, rfl, rv, ru⟩ := relA_two r1
  have o1' : okv w1 = true ∧ okv w2 = true := by simpa [okvs] using o1
  refine ⟨v, u, rfl, ?_⟩
  simp only [setVs] at q1
  have h2 := h1.setV o3 (RV.rw rv o1'.1)
  have h3 := h2.setV (i := j) (by simpa using o4) ((RV.rw ru o1'.2).mono Stp.drop.mn)
  exact q1 _ H1 _ (Stp.drop.trans Stp.drop) h3
end
end Ev
namespace Ev
open PySem PySem.Spec PyProof.Rows L2 Calls ClX RZ
section
variable {T : Tb} {X : Cx} {Wx : WX} {p : Pg} {cal : Bool → Nat → List W → List OO → RC} {c c1 c2 : Cf} {st st' : St} {σ : L2.St} {H H0 H1 H2 : Hp} {pins : List (Addr × Obj)} {s : Shared} {k wf : Nat} {D : Ends}
variable {a b d e : Expr} {ea eb ed : E} {pos : Pos}
theorem set_read {i : Nat} (q : PostS T Wx c H (exS p cal wf (.set i ea) st) D) : PostF T Wx c σ H (evE p cal ea st) fun v H1 => D.nx (σ.set i (some v)) H1 := by
 rw [exS] at q
 have q' := PostS.bindF (σ := σ) q
 cases e : evE p cal ea st with
 | stk => rw [e] at q'; exact q'
 | exc x st1 => rw [e] at q'; exact q'
 | ok w st1 =>
  rw [e] at q'
  intro v H1 c1 S h1 r1 f1
  obtain ⟨c2, st2, w2, S2, h2, r2, f2, q2⟩ := q' v H1 c1 S h1 r1 f1
  cases o : okv w2 && decide (i < st2.r.length) with
  | false => rw [o] at q2; exact (show False from q2).elim
  | true =>
   rw [o, if_pos rfl] at q2
   rw [Bool.and_eq_true, decide_eq_true_eq] at o
   exact q2 _ H1 _ (S2.trans Stp.drop) (h2.setV o.2 (RV.rw r2 o.1))
theorem own_read {i : Nat} (q : PostS T Wx c H (exS p cal wf (.own i ea) st) D) : PostF T Wx c σ H (evE p cal ea st) fun v H1 => D.nx (σ.set i (some v)) H1 := by
 rw [exS] at q
 have q' := PostS.bindF (σ := σ) q
 cases e : evE p cal ea st with
 | stk => rw [e] at q'; exact q'
 | exc x st1 => rw [e] at q'; exact q'
 | ok w st1 =>
  rw [e] at q'
  intro v H1 c1 S h1 r1 f1
  obtain ⟨c2, st2, w2, S2, h2, r2, f2, q2⟩ := q' v H1 c1 S h1 r1 f1
  exact own_fin S2 r2 f2 q2
def isCmp : Expr → Bool
 | .ListComp .. => true
 | .SetComp .. => true
 | .DictComp .. => true
 | _ => false
theorem sw_plain {t : Option Expr} {l : Nat} {env : Env} (h : isCmp e = false) : swapsWith e t l env = pure false := by
 cases e <;> first | rfl | cases h
theorem sw_cell {y : Str} {py : Pos} {l : Nat} {env : Env} (e : Expr) (h : env.scope.names.lookup y = some .cell) : swapsWith e (some (.Name y py)) l env = pure false := by
 have kk : (env.kindOf y == some .local) = false := by
  unfold Env.kindOf
  rw [h]; rfl
 have go : ∀ (b c d : Bool), (b && (env.kindOf y == some .local) && c && d) = false := fun b c d => by rw [kk]; cases b <;> rfl
 cases e <;> first | rfl | (unfold swapsWith; simp only [go])
theorem sw_line {y : Str} {py : Pos} {l : Nat} {env : Env} (e : Expr) (h : (py.line == e.pos.line) = false) : swapsWith e (some (.Name y py)) l env = pure false := by
 have go : ∀ (b c d : Bool), (b && c && (py.line == e.pos.line) && d) = false := fun b c d => by rw [h]; cases b <;> cases c <;> rfl
 cases e <;> first | rfl | (unfold swapsWith; simp only [go])
theorem sw_trueD {kx vx : Expr} {gs : List Comprehension} {scope : Scope} {pos py : Pos} {y : Str} {l : Nat} {env : Env} (hk : env.scope.kind = .function) (hy : env.scope.names.lookup y = some .local) (hl : (py.line == pos.line) = true)
  (ha : (scope.names.any fun (n, k) => n == y && (k == .local || k == .cell)) = false) : swapsWith (.DictComp kx vx gs scope pos) (some (.Name y py)) l env = pure true := by
 have ky : env.kindOf y = some .local := hy
 have hb : env.blockKind = .function := by unfold Env.blockKind; rw [hk]; rfl
 unfold swapsWith
 simp only [hb, ky, ha, Expr.pos, hl]
 rfl
theorem ps_setDc {i : Nat} {y : Str} {py : Pos} {kx vx tg iter : Expr} {ifs : List Expr} {scope : Scope} {own : List (Str × Nat)} {pos spos : Pos} {wi : TI} {g : TG} {tt : TT} {tk tv : TE} (hc : X.calm = true) (hN : X.N.Nodup) (hy : X.N[i]? = some y) (hyl : X.env.scope.names.lookup y = some .local)
  (hsw : swapsWith (.DictComp kx vx [⟨tg, iter, ifs, 0⟩] scope pos) (some (.Name y py)) spos.line X.env = pure true) (hi : PI X tg iter wi) (ok : BlkOk X.N X.env.scope scope own)
  (hg : ∀ (s : Shared) (H : Hp) (C : Addr) (cl : List (Str × Addr)) (fp : List Addr), PG (X.blk s H scope (compEnvC scope cl C X.env) fp) tg g) (ht : ∀ (s : Shared) (H : Hp) (C : Addr) (cl : List (Str × Addr)) (fp : List Addr), PTs (X.blk s H scope (compEnvC scope cl C X.env) fp) ifs tt)
  (hk : ∀ (s : Shared) (H : Hp) (C : Addr) (cl : List (Str × Addr)) (fp : List Addr), PE (X.blk s H scope (compEnvC scope cl C X.env) fp) kx tk)
  (he : ∀ (s : Shared) (H : Hp) (C : Addr) (cl : List (Str × Addr)) (fp : List Addr), PE (X.blk s H scope (compEnvC scope cl C X.env) fp) vx tv) (hs : ∀ x, foldedSetIterable iter X.env x = pure x) :
  PS X (.Assign [.Name y py] (.DictComp kx vx [⟨tg, iter, ifs, 0⟩] scope pos) spos) (tAsg (tDc wi g tt tk tv (own.map (·.2))) (gName i)) := by
 refine ⟨fun pins s σ H D I h => ?_⟩
 rw [exec_Assign_Name_used _ _ _ _ hsw]
 refine wpAny_bind (wpAny_standAt (wpAny_bind ?_))
 show wpAny _ X.A (do let _ ← comprehension (.DictComp kx vx [⟨tg, iter, ifs, 0⟩] scope pos) scope X.env (firstIterPos [⟨tg, iter, ifs, 0⟩] pos) newDict false (eval iter X.env) (some (assign (.Name y py) X.env))) _ _ s
 have h : tDc wi g tt tk tv (own.map (·.2)) σ H (fun x H1 => gName i x σ H1 D.nx) := h
 refine wpAny_bind (thn (dc_core (Qf := fun _ s' => SP X pins D .next s') hc hN I hi ok hg ht hk he hs h fun L C s' m H' I' q hn f => ?_) fun _ s' hq => wpAny_pure (wpAny_pure hq))
 show wpAny _ _ (assign (.Name y py) X.env (.ref L)) _ _ _
 refine wpAny_assign_Name (store_ok2 (v := V.ref L) I' hN hy (.inl hyl) rfl (fun s2 I2 ⟨a, sb, ha⟩ => ?_) (.inr hyl))
 obtain ⟨f0, f1, f2, f3, f4, f5⟩ := f
 have haC : C ≠ a := by
  rcases ha with z | z
  ·rw [z]; exact f1
  ·exact fun e => f4 y a z e.symm
 refine ⟨m, hn.sameBut sb haC, fun h3 sb3 => ?_⟩
 exact ⟨_, H', I2.turned (t' := s2.toks) (fun b o hb e => (sb3.2 b hb).trans e) f0 f1 f3 f4 f5, q⟩
section
variable {i : Nat} {y : Str} {py spos : Pos} {tg iter elt kx vx : Expr} {ifs : List Expr} {scope : Scope} {own : List (Str × Nat)} {t : Tg} {it : I} {x xk xv : E} {co : Option E}
theorem ss_setLc (fresh : Bool) (hc : X.calm = true) (hN : X.N.Nodup) (hy : X.N[i]? = some y) (hyl : X.env.scope.names.lookup y = some .local) (hsw : swapsWith (.ListComp elt [⟨tg, iter, ifs, 0⟩] scope pos) (some (.Name y py)) spos.line X.env = pure true)
  (hi : SI T X Wx tg iter (evI p cal it)) (hpt : isTpE tg = true → t.isT = true) (ok : BlkOk X.N X.env.scope scope own) (ho : own.map (·.2) = tgIx t)
  (hg : ∀ (s : Shared) (H : Hp) (C : Addr) (cl : List (Str × Addr)) (fp : List Addr), SG T (X.blk s H scope (compEnvC scope cl C X.env) fp) tg t) (ht : ∀ (s : Shared) (H : Hp) (C : Addr) (cl : List (Str × Addr)) (fp : List Addr), PTs (X.blk s H scope (compEnvC scope cl C X.env) fp) ifs (rdT T F0 (evT p cal co)))
  (he : ∀ (s : Shared) (H : Hp) (C : Addr) (cl : List (Str × Addr)) (fp : List Addr), SE T (X.blk s H scope (compEnvC scope cl C X.env) fp) F0 elt (evE p cal x)) (hs : ∀ x, foldedSetIterable iter X.env x = pure x) :
  SS T X Wx (.Assign [.Name y py] (.ListComp elt [⟨tg, iter, ifs, 0⟩] scope pos) spos) (exS p cal wf (if fresh then .own i (.cpr x t it co) else .set i (.cpr x t it co))) :=
 PS.imp (ps_setLc hc hN hy hyl hsw hi ok hg ht he hs) fun D σ H ⟨c, st, h, q⟩ => by
  cases fresh
  ·exact lc_read hpt ho h (set_read (σ := σ) q)
  ·exact lc_read hpt ho h (own_read (σ := σ) q)
theorem ss_setDc (fresh : Bool) (hc : X.calm = true) (hN : X.N.Nodup) (hy : X.N[i]? = some y) (hyl : X.env.scope.names.lookup y = some .local) (hsw : swapsWith (.DictComp kx vx [⟨tg, iter, [], 0⟩] scope pos) (some (.Name y py)) spos.line X.env = pure true)
  (hi : SI T X Wx tg iter (evI p cal it)) (hpt : isTpE tg = true → t.isT = true) (ok : BlkOk X.N X.env.scope scope own) (ho : own.map (·.2) = tgIx t)
  (hg : ∀ (s : Shared) (H : Hp) (C : Addr) (cl : List (Str × Addr)) (fp : List Addr), SG T (X.blk s H scope (compEnvC scope cl C X.env) fp) tg t)
  (hk : ∀ (s : Shared) (H : Hp) (C : Addr) (cl : List (Str × Addr)) (fp : List Addr), SE T (X.blk s H scope (compEnvC scope cl C X.env) fp) F0 kx (evE p cal xk))
  (he : ∀ (s : Shared) (H : Hp) (C : Addr) (cl : List (Str × Addr)) (fp : List Addr), SE T (X.blk s H scope (compEnvC scope cl C X.env) fp) F0 vx (evE p cal xv)) (hs : ∀ x, foldedSetIterable iter X.env x = pure x) :
  SS T X Wx (.Assign [.Name y py] (.DictComp kx vx [⟨tg, iter, [], 0⟩] scope pos) spos) (exS p cal wf (if fresh then .own i (.dcp xk xv t it) else .set i (.dcp xk xv t it))) :=
 PS.imp (ps_setDc (tt := rdT T F0 (evT p cal none)) hc hN hy hyl hsw hi ok hg (fun s H C cl fp => pts_none) hk he hs) fun D σ H ⟨c, st, h, q⟩ => by
  cases fresh
  ·exact dc_read hpt ho h (set_read (σ := σ) q)
  ·exact dc_read hpt ho h (own_read (σ := σ) q)
end
end
end Ev
namespace Ev
open PySem PySem.Spec PyProof.Rows L2 Calls
section
variable {prog : Program} {w : World} {A : Around} {E : Value → Shared → Prop} {h : Heap} {g : Array GenState} {d : Drawn} {t : Nat} {os : OsState} {B newId initId : String} {bmB : List Value}
variable {nm q : Str} {C N : Addr} {bs bm : List Value} {hdct : Bool} {sn : List Str} {sub : List Value} {ab : Bool} {col : Option Bool} {dd : Option Addr} {k0 k1 k2 k3 k5 : Option Value}
theorem mw_call (F : ExcBaseFacts B newId initId bmB) {u e t0 : Addr} {rest : List Value} {Q : Value → Shared → Prop}
  (hC : h.get? C = some (excClassObj nm q C N bs bm hdct sn sub ab col dd k0 k1 k2 k3 k5 newId)) (he : h.get? e = some (HandSPX.excO C t0)) (hu : h.get? u = some (PySem.W.kxs_mw initId e)) (hrest : rest.length ≤ sizeLine)
  (hq : ∀ h' t1, (∀ b o, b ≠ e → h.get? b = some o → h'.get? b = some o) → h'.get? e = some (HandSPX.excO C t1) → Q .none ⟨h', g, d, t, os⟩) :
  wpAny (model prog w) A (call (.ref u) rest) Q E ⟨h, g, d, t, os⟩ := by
 refine wpAny_call (codeAny_of_tree ?_)
 show wpAny (model prog w) A.in1 (callAny (.ref u) ⟨rest, []⟩) _ _ _
 simp only [callAny]
 refine wpAny_bind (wpAny_load hu ?_)
 simp only [PySem.W.kxs_mw, show (Value.type "method-wrapper" == Value.type "method" || Value.type "method-wrapper" == Value.type "builtin_function_or_method" || Value.type "method-wrapper" == Value.type "method-wrapper") = true by decide, if_true]
 refine PySem.W.KFB.if_so (by decide) ?_
 refine wpAny_bind (PySem.ESX.check_bound F hC he rfl ?_)
 refine wpAny_bind (wpAny_pure (wpAny_pure ?_))
 refine ⟨PySem.plainId_quiet F.init.plain _, codeAny_builtin F.initEntry ?_⟩
 rw [Around.under_plainId F.init.plain _]
 wp_walk
 refine hq _ h.objs.size (fun b o hb ho => ?_) ?_
 ·rw [Heap.get?_update_other _ _ (Ne.symm hb)]
  exact Heap.get?_push_of_some _ ho
 ·rw [Heap.get?_update_self _ (Heap.get?_push_of_some _ he) rfl]
  rfl
end
section
variable {prog : Program} {w : World} {A : Around} {E : Value → Shared → Prop} {K : PySem.W.Frag} {h : Heap} {g : Array GenState} {d : Drawn} {t : Nat} {os : OsState} {B newId initId : String} {bmB : List Value}
variable {C : Addr}
theorem sup_of {env : Env} {c : Code} {o : Expr} {m : Str} {apos pos : Pos} {args : List Expr} {Q : Value → Shared → Prop} {s : Shared} (hs : args.all notStar = true) (hfew : args.length < 29) (hline : (apos.endLine == pos.line) = true)
  (hh : _root_.PySem.wpAt (model prog w) A c (attributeBase o m env (eval o env)) (fun ov s₁ => ∀ pl, wpAny (model prog w) A (getMethod ov m pl) (fun fx s₂ => wpAny (model prog w) A (callWith pos fx.1 fx.2 (backTo pos (starEach args env)) (backToKw pos (keywordEach [] env))) Q E s₂) E s₁) E s) :
  _root_.PySem.wpAt (model prog w) A c (eval (.Call (.Attribute o m apos) args [] pos) env) Q E s := by
 rw [arm_eval_Call]
 refine _root_.PySem.wpAt_bind (_root_.PySem.wpAt_mono hh (fun ov s₁ h₁ => _root_.PySem.wpAt_of_wpAny (wpAny_bind (wpAny_standAt ?_))) fun _ _ e => e)
 have hform : methodCallForm (args.length + ([] : List Keyword).length) (backTo pos (starEach args env)) (backToKw pos (keywordEach [] env)) = true := by
  unfold methodCallForm
  have e0 : (backToKw pos (keywordEach [] env)) = [] := rfl
  rw [star_all hs, e0]
  simp
  omega
 have hpos : methodCallPos true o env apos pos = pure pos := by unfold methodCallPos; simp [hline]
 unfold methodCall
 rw [hform, hpos]
 unfold calleeOf
 exact wpAny_bind (wpAny_holding (wpAny_mono (h₁ _) (fun fx s₂ z => wpAny_bind (wpAny_pure z)) fun _ _ e => e))
structure SupF (K : PySem.W.Frag) (prog : Program) (mg : Str → Option Value) (C f cda cc : Addr) (scope : Scope) (fd : FuncData) (me : Str) (B newId initId : String) (bmB : List Value) : Prop where
 KF : PySem.W.KxsFacts B initId
 F : ExcBaseFacts B newId initId bmB
 cls : ∃ nm q N bs bm sn sub ab col dd k0 k1 k2 k3 k5, K.lookup C = some (excClassObj nm q C N bs bm true sn sub ab col dd k0 k1 k2 k3 k5 newId)
 mS : mg "super" = none
 fn : ∃ oc od osl ar, K.lookup f = some ⟨oc, od, .func fd, osl⟩ ∧ (fd.params.posonlyargs ++ fd.params.args).head? = some ar ∧ ar.arg = me
 code : ∃ ccl cdd vs ccs file tf, K.lookup cda = some ⟨ccl, cdd, .fields vs, ccs⟩ ∧ vs[2]? = some (.str file tf) ∧ ((prog.main.file : Str) == file) = true
 cell : ∃ cl cld csl, K.lookup cc = some ⟨cl, cld, .cell (some (.ref C)), csl⟩
 hsub : PySem.W.mroIn K C (.ref C) = some true
 hm : PySem.W.ks_superIn K C C "__init__" = some (some (.builtin initId))
 hB : PySem.W.subIn K (.ref C) (.type B) = some true
 ho : PySem.W.nsIn K cStatics "thirdparty.any" = some none
 ks : scope.names.lookup ("super" : Str) = some .globalImplicit
 kc : scope.names.lookup ("__class__" : Str) = some .free
 ka : scope.names.lookup me = some .local
 kind : scope.kind = .function
 top : (prog.main.scope.names.lookup ("super" : Str)).isSome = false
theorem sup_ok {mg m : Str → Option Value} {f cda cc L x t0 : Addr} {qn : Str} {scope : Scope} {fd : FuncData} {me z : Str} {body : List Stmt} {p0 p1 p2 apos pos : Pos} {kk : Nat} {Q : Value → Shared → Prop}
  (hline : (apos.endLine == pos.line) = true) (S : SupF K prog mg C f cda cc scope fd me B newId initId bmB) (X : K.In h) (G : h.Ns mainGlobals mg) (Bn : ∃ mb, h.Ns builtinsNs mb ∧ ∀ x : Str, x ≠ "__name__" → mb x = bootBuiltins x) (hL : h.Ns L m) (hv : m me = some (.ref x)) (hx : h.get? x = some (HandSPX.excO C t0))
  (hq : ∀ h' t1 t', (∀ b o, b ≠ x → h.get? b = some o → h'.get? b = some o) → h'.get? x = some (HandSPX.excO C t1) → Q .none ⟨h', g, d, t', os⟩) :
  _root_.PySem.wpAt (model prog w) A (.func body (PySem.W.ksEnv qn scope L f (.ref cda) cc)) (eval (.Call (.Attribute (.Call (.Name "super" p0) [] [] p1) "__init__" apos) [.Constant (.str z) kk p2] [] pos) (PySem.W.ksEnv qn scope L f (.ref cda) cc)) Q E ⟨h, g, d, t, os⟩ := by
 obtain ⟨nm, q, N, bs, bm, sn, sub, ab, col, dd, k0, k1, k2, k3, k5, hcC⟩ := S.cls
 obtain ⟨oc, od, osl, ar, hf, hp, har⟩ := S.fn
 obtain ⟨ccl, cdd, vs, ccs, file, tf, hcode, hvs, hfile⟩ := S.code
 obtain ⟨cl, cld, csl, hcell⟩ := S.cell
 obtain ⟨mb, hb, hbb⟩ := Bn
 subst har
 have hcd : PySem.W.clsIn K C = some { name := nm, bases := bs, mro := .ref C :: bm, ns := N, qualname := q, hasDict := true, slotNames := sn, subclasses := sub, abstract := ab, collection := col, hasDel := false } := by
  unfold PySem.W.clsIn
  rw [hcC] <;> rfl
 have hxC : x ≠ C := fun e => by
  rw [e] at hx
  have e2 := X _ _ hcC
  rw [hx] at e2
  cases e2
 have hm := S.hm
 unfold PySem.W.ks_superIn at hm
 rw [hcd, Option.bind_some] at hm
 refine sup_of rfl (by simp) hline ?_
 refine PySem.ks_wpAt_super_base (env := PySem.W.ksEnv qn scope L f (.ref cda) cc) S.ks S.kc (by decide) rfl (X _ _ hf) rfl hp rfl (X _ _ hcode) rfl hvs hfile S.top ?_
 refine PySem.W.ks_loadName_global S.kind S.ks (loadGlobal_builtin (env := PySem.W.ksEnv qn scope L f (.ref cda) cc) G S.mS hb ((hbb _ (by decide +kernel)).trans (show bootBuiltins "super" = some (.type "super") by decide +kernel)) ⟨rfl, ?_⟩)
 refine wpAny_loadName_free S.kind S.kc rfl ⟨_, X _ _ hcell, rfl⟩ ?_
 refine wpAny_loadName_local S.kind S.ka hL hv ?_
 refine PySem.ks_wpAny_isType_cls (X _ _ hcC) rfl ⟨rfl, ?_⟩
 refine PySem.ks_wpAny_call_super (X _ _ hcC) rfl hx rfl (fun c e => by cases e) (PySem.W.looks_mroIn X S.hsub) (fun h1 e1 k1 => ?_)
 have X1 : K.In h1 := X.keeps k1
 have hx1 := k1 _ _ hx
 have hI : PySem.W.Looks (model prog w) h1 (isInstance (.ref x) (.type B)) true := (PySem.W.InstAt.type (ox := HandSPX.excO C t0) (od := none) ⟨hx1, rfl, rfl, trivial⟩).andThen (PySem.W.looks_subIn X1 S.hB)
 intro pl
 refine PySem.W.kxs_getMethod S.KF e1 (PySem.W.looks_opaque X1 S.ho) ((PySem.W.looks_clsIn X1 hcd).andThen .now) rfl X1 hm hI hxC (by decide) ?_
 refine PySem.W.kxs_callWith (i := initId) (x := x) rfl ?_
 refine evalArgs_plain (spliced_cons (wpAny_Constant_str (k := kk) (pos := p2) ?_))
 refine spliced_nil ⟨?_, ?_⟩
 ·exact Heap.get?_push_size h1 rfl
 ·refine mw_call S.F (X1.keeps (fun b o e => Heap.get?_push_of_some _ e) _ _ hcC) (Heap.get?_push_of_some _ hx1) (Heap.get?_push_size h1 rfl) (by rw [sizeLine_eq]; simp) fun h' t1 kp hx' => ?_
  exact hq h' t1 _ (fun b o hb e => kp b o hb (Heap.get?_push_of_some _ (k1 _ _ e))) hx'
end
end Ev
namespace Ev
open PySem PySem.Spec PyProof.Rows L2 Calls PySem.HandSPX PySem.Builtin PySem.Builtin.ObjectAttr
structure BaseX (B newId initId : String) (bmB : List Value) : Prop where
 F : ExcBaseFacts B newId initId bmB
 KF : PySem.W.KxsFacts B initId
 pass : ∀ self, refuseLoop self "__setattr__" bmB = pure ()
 obj : bmB.contains (.type "object") = true
theorem base_VE : BaseX "ValueError" "ValueError.__new__" "ValueError.__init__" [.type "ValueError", .type "Exception", .type "BaseException", .type "object"] := ⟨F.excBase_ValueError, PySem.W.kxs_ValueError, F.store_ValueError.passes, by decide +kernel⟩
theorem base_LE : BaseX "LookupError" "LookupError.__new__" "LookupError.__init__" [.type "LookupError", .type "Exception", .type "BaseException", .type "object"] := ⟨F.excBase_LookupError, PySem.W.kxs_LookupError, F.store_LookupError.passes, by decide +kernel⟩
theorem base_IE : BaseX "IndexError" "IndexError.__new__" "IndexError.__init__" [.type "IndexError", .type "LookupError", .type "Exception", .type "BaseException", .type "object"] := ⟨F.excBase_IndexError, PySem.W.kxs_IndexError, F.store_IndexError.passes, by decide +kernel⟩
def RefsT (bmB bm : List Value) : Prop := ∃ rs : List Addr, bm = rs.map Value.ref ++ bmB
theorem RefsT.has {bmB bm : List Value} (h : RefsT bmB bm) (Y : String) : bm.contains (.type Y) = bmB.contains (.type Y) := by
 obtain ⟨rs, rfl⟩ := h
 induction rs with
 | nil => rfl
 | cons r rs ih =>
  rw [List.map_cons, List.cons_append, List.contains_cons, ih]
  rfl
theorem RefsT.thru {B newId initId : String} {bmB bm : List Value} (b : BaseX B newId initId bmB) (h : RefsT bmB bm) (self : Value) : refuseLoop self "__setattr__" bm = pure () := by
 obtain ⟨rs, rfl⟩ := h
 induction rs with
 | nil => exact b.pass self
 | cons r rs ih =>
  rw [List.map_cons, List.cons_append, refuseLoop_ref]
  exact ih
def bB : Nat → String
 | 0 => "ValueError" | 1 => "LookupError" | _ => "IndexError"
def bN : Nat → String
 | 0 => "ValueError.__new__" | 1 => "LookupError.__new__" | _ => "IndexError.__new__"
def bI : Nat → String
 | 0 => "ValueError.__init__" | 1 => "LookupError.__init__" | _ => "IndexError.__init__"
def bT : Nat → List Value
 | 0 => [.type "ValueError", .type "Exception", .type "BaseException", .type "object"]
 | 1 => [.type "LookupError", .type "Exception", .type "BaseException", .type "object"]
 | _ => [.type "IndexError", .type "LookupError", .type "Exception", .type "BaseException", .type "object"]
theorem baseX : ∀ k, BaseX (bB k) (bN k) (bI k) (bT k)
 | 0 => base_VE
 | 1 => base_LE
 | _ + 2 => base_IE
def refsTB (t : List Value) : List Value → Bool
 | .ref _ :: r => refsTB t r
 | l => l == t
theorem refsTB_ok {t : List Value} : ∀ {l : List Value}, refsTB t l = true → RefsT t l
 | [], h => ⟨[], (beq_iff_eq.mp (by unfold refsTB at h; exact h)).symm ▸ rfl⟩
 | v :: r, h => by
  unfold refsTB at h
  split at h
  ·rename_i a r' e
   obtain ⟨rfl, rfl⟩ := List.cons.inj e
   obtain ⟨rs, e2⟩ := refsTB_ok h
   exact ⟨a :: rs, by rw [e2]; rfl⟩
  ·exact ⟨[], (beq_iff_eq.mp h).symm ▸ rfl⟩
structure OexB (K : PySem.W.Frag) (C : Addr) : Prop where
 cls : ∃ B newId initId bmB nm q N bs bm sn sub ab col dd k0 k1 k2 k3 k5, BaseX B newId initId bmB ∧ RefsT bmB bm ∧ K.lookup C = some (excClassObj nm q C N bs bm true sn sub ab col dd k0 k1 k2 k3 k5 newId)
 sa : PySem.W.findIn K (.ref C) "__setattr__" = some (some (.builtin "object.__setattr__"))
 exC : PySem.W.subIn K (.ref C) (.type "BaseException") = some true
 tyC : PySem.W.typeIn K (.ref C) = some (.type "type")
 kC : PySem.W.keepIn K (.ref C) = true
section
variable {prog : Program} {w : World} {A : Around} {hp : Heap} {g : Array GenState} {d : Drawn} {t : Nat} {os : OsState} {R : Result → Shared → Prop}
variable {K : PySem.W.Frag} {name : Str} {tk : Tok} {v : Value} {x C dx : Addr} {fv : Array Value} {cd : PySem.ClassData}
theorem osb_go {ox : Obj} {od : Option Obj} (kin : K.In hp) (I : PySem.W.InstAt hp x ox C od) (hcd : PySem.W.clsIn K C = some cd) (hob : cd.mro.contains (.type "object") = true) (hne : cd.mro.isEmpty = false) (hps : refuseLoop (.ref x) "__setattr__" cd.mro = pure ())
  (hno : PySem.W.findIn K (.ref C) name = some none)
  (go : wpAny (model prog w) A.in1 (storeInOwnDict (.ref x) (.ref C) (.str name tk) name v false) (fun fin s' => match fin with | .done f => R (.ok f) s' | .again c' => c'.quiet = true ∧ codeAny (model prog w) A c' R s') (fun e s' => R (.error e) s') ⟨hp, g, d, t, os⟩) :
  codeAny (model prog w) A (.call (.builtin "object.__setattr__") ⟨[.ref x, .str name tk, v], []⟩) R ⟨hp, g, d, t, os⟩ := by
 have so := F.store_object
 have s1 : PySem.W.Looks (model prog w) hp (isInstance (.ref x) (.type "object")) true :=
  I.type.andThen (PySem.W.looks_mroIn kin (by unfold PySem.W.mroIn; rw [hcd, Option.bind_some, if_neg (by rw [hne]; decide), hob]))
 refine codeAny_call_builtin so.slot.plain so.entry
  (@PySem.W.check_slot (model prog w) _ _ ⟨hp, g, d, t, os⟩ "object.__setattr__" "object" "__setattr__" (.ref x) [.str name tk, v] [] _ so.kind so.split s1 (so.args (.ref x) (.str name tk) v) ?_)
 have m1 : PySem.W.Looks (model prog w) hp (mroOf (.ref C)) cd.mro := (PySem.W.looks_clsIn kin hcd).andThen .now
 have n1 : PySem.W.Looks (model prog w) hp (storeTaker? none) none := .now
 rw [PySem.W.osa_eq, refuse_eq]
 refine wpAny_bind (wpAny_bind (I.type.at
  (wpAny_bind (m1.at ?_))))
 rw [hps]
 refine wpAny_pure (wpAny_bind (I.type.at
  (wpAny_bind ((PySem.W.looks_findIn kin hno).at (wpAny_bind (n1.at ?_))))))
 exact go
theorem osb_new (kin : K.In hp) (hx : hp.get? x = some { cls := .ref C, data := .fields fv }) (hcd : PySem.W.clsIn K C = some cd) (hob : cd.mro.contains (.type "object") = true) (hne : cd.mro.isEmpty = false) (hps : refuseLoop (.ref x) "__setattr__" cd.mro = pure ())
  (hh : cd.hasDict = true) (hno : PySem.W.findIn K (.ref C) name = some none)
  (hq : ∀ h' tk' dx, (∀ b o, b ≠ x → hp.get? b = some o → h'.get? b = some o) → hp.objs.size ≤ dx → dx ≠ x → h'.get? x = some { cls := .ref C, dict := some dx, data := .fields fv } → h'.Ns1 dx (fun y => if y = name then some v else none) → R (.ok (.ret .none)) ⟨h', g, d, tk', os⟩) :
  codeAny (model prog w) A (.call (.builtin "object.__setattr__") ⟨[.ref x, .str name tk, v], []⟩) R ⟨hp, g, d, t, os⟩ := by
 have I : PySem.W.InstAt hp x { cls := .ref C, data := .fields fv } C none := ⟨hx, rfl, rfl, trivial⟩
 have ns : x ≠ hp.objs.size := Nat.ne_of_lt (Heap.lt_size hx)
 refine osb_go kin I hcd hob hne hps hno ?_
 have c1 : PySem.W.Looks (model prog w) hp (classData C) cd := PySem.W.looks_clsIn kin hcd
 obtain ⟨z1, z2, z3, z4, z5, z6, z7, z8, z9, z10, z11⟩ := cd
 dsimp only at hh
 subst hh
 unfold storeInOwnDict ownDictForStores
 repeat (first
  | with_reducible refine store_in_new ?_ ?_
  | with_reducible refine wpAny_loadPart_at hx ?_
  | with_reducible refine c1.at ?_
  | wp_step)
 ·exact ⟨_, #[], _, (Heap.get?_update_ne _ _ _ _ ns.symm).trans (Heap.get?_push_at rfl rfl), rfl,
   fun e he => absurd he (by simp), fun _ => rfl⟩
 ·intro h' tk' hn' hs
  have hx1 : (hp.push { cls := .type "dict", data := .dict #[] }).get? x = some { cls := .ref C, data := .fields fv } := Heap.get?_push_of_some _ hx
  refine hq h' tk' hp.objs.size (fun b o hb ho => ?_) (Nat.le_refl _) ns.symm ?_ hn'
  ·exact (hs.2 b (Nat.ne_of_lt (Heap.lt_size ho))).trans
    ((Heap.get?_update_ne _ _ _ _ hb).trans (Heap.get?_push_of_some _ ho))
  ·exact (hs.2 x ns).trans (Heap.get?_update_self _ hx1 rfl)
theorem osb_old {m0 : Str → Option Value} {nl : List Str} (kin : K.In hp) (hx : hp.get? x = some { cls := .ref C, dict := some dx, data := .fields fv }) (hns : hp.Ns1 dx m0) (hw : Within m0 nl) (hz : nl.length ≤ 1000) (hcd : PySem.W.clsIn K C = some cd)
  (hob : cd.mro.contains (.type "object") = true) (hne : cd.mro.isEmpty = false) (hps : refuseLoop (.ref x) "__setattr__" cd.mro = pure ()) (hh : cd.hasDict = true) (hno : PySem.W.findIn K (.ref C) name = some none)
  (hq : ∀ h' tk', (∀ b o, b ≠ dx → hp.get? b = some o → h'.get? b = some o) → h'.Ns1 dx (fun y => if y = name then some v else m0 y) → R (.ok (.ret .none)) ⟨h', g, d, tk', os⟩) :
  codeAny (model prog w) A (.call (.builtin "object.__setattr__") ⟨[.ref x, .str name tk, v], []⟩) R ⟨hp, g, d, t, os⟩ := by
 obtain ⟨oD, _, _, hoD, _, _⟩ := hns.count hw
 have I : PySem.W.InstAt hp x { cls := .ref C, dict := some dx, data := .fields fv } C (some oD) := ⟨hx, rfl, rfl, hoD⟩
 refine osb_go kin I hcd hob hne hps hno ?_
 have c1 : PySem.W.Looks (model prog w) hp (classData C) cd := PySem.W.looks_clsIn kin hcd
 obtain ⟨z1, z2, z3, z4, z5, z6, z7, z8, z9, z10, z11⟩ := cd
 dsimp only at hh
 subst hh
 unfold storeInOwnDict ownDictForStores
 repeat (first
  | with_reducible refine PySem.OEX.store_in_old hns hw hz ?_
  | with_reducible refine wpAny_loadPart_at hx ?_
  | with_reducible refine c1.at ?_
  | wp_step)
 intro h' tk' hn' hs
 exact hq h' tk' (fun b o hb ho => (hs.2 b hb).trans ho) hn'
end
section
variable {X : Cx} {pins : List (Addr × Obj)} {σ : L2.St} {H : Hp} {s : Shared} {a dx C : Addr} {f : Str} {y : V} {u : Value} {fs : List (Str × V)} {A : Around} {Q : Unit → Shared → Prop} {E : Value → Shared → Prop}
theorem OexB.cd {K : PySem.W.Frag} (T : OexB K C) (self : Value) : ∃ cd : PySem.ClassData, PySem.W.clsIn K C = some cd ∧ cd.mro.contains (.type "object") = true ∧ cd.mro.isEmpty = false ∧ refuseLoop self "__setattr__" cd.mro = pure () ∧ cd.hasDict = true := by
 obtain ⟨B, newId, initId, bmB, nm, q, N, bs, bm, sn, sub, ab, col, dd, k0, k1, k2, k3, k5, b, rt, hC⟩ := T.cls
 refine ⟨{ name := nm, bases := bs, mro := .ref C :: bm, ns := N, qualname := q, hasDict := true, slotNames := sn, subclasses := sub, abstract := ab, collection := col, hasDel := false }, ?_, ?_, rfl, ?_, rfl⟩
 ·unfold PySem.W.clsIn
  rw [hC] <;> rfl
 ·show (Value.ref C :: bm).contains _ = true
  rw [List.contains_cons, rt.has, b.obj, Bool.or_true]
 ·show refuseLoop self "__setattr__" (Value.ref C :: bm) = _
  rw [refuseLoop_ref]
  exact rt.thru b self
theorem osb1 (T : OexB X.K C) (I : Inv X pins σ H s) (e : H a = some (exo a C none)) (hno : PySem.W.findIn X.K (.ref C) f = some none) (ry : RelV y u)
   (h : ∀ dx s', H dx = none → dx ≠ a → Inv X pins σ (upd (upd H dx (exd dx [(f, y)])) a (exo a C (some dx))) s' → Q () s') : wpAny (model X.prog X.w) A (setAttr (.ref a) f u) Q E s := by
 obtain ⟨cd, hcl, hob, hne, hps, hh⟩ := T.cd (.ref a)
 obtain ⟨t1, ho⟩ := exo_at I.hok e
 obtain ⟨hp, g, d, t, os⟩ := s
 refine PySem.W.set_plain I.kIn (ox := { cls := .ref C, dict := none, data := .fields #[.ref t1, .none, .none, .none, .bool false, .none] }) (od := none) ⟨ho, rfl, rfl, trivial⟩ T.sa ?_
 refine osb_new I.kIn ho hcl hob hne hps hh hno (fun h' tk' dx k dn dne hx hn => ?_)
 have fr : H dx = none := I.hok.fresh dn
 have nd : ∀ {b : Addr} {o : Obj}, hp.get? b = some o → b ≠ dx := fun {b o} q => Nat.ne_of_lt (Nat.lt_of_lt_of_le (Heap.lt_size q) dn)
 have na : ∀ {b : Addr}, H b = none → b ≠ a := fun {b} n z => by
   rw [z, e] at n; cases n
 have un : Un X.fs [] H (upd (upd H dx (exd dx [(f, y)])) a (exo a C (some dx))) hp h' := {
   keep := fun b o q n _ _ => k b o (na n) q
   slot := fun b o q n _ _ => ⟨o.slots, k b o (na n) q⟩
   free := fun b o q n _ => by
     rw [upd_ne (na n), upd_ne (nd q)]; exact n
   there := fun b o q _ => by
     by_cases hb : b = a
     · exact ⟨_, by rw [hb]; exact hx⟩
     · exact ⟨o, k b o hb q⟩
   tups := fun b xs q => by
     rw [upd_ne (at_ne e q exo_tup), upd_ne (ne_of_none q fr)]; exact q
   frzs := fun b o v q => by
     rw [upd_ne (at_ne e q exo_frz), upd_ne (ne_of_none q fr)]; exact q
   tbls := fun b ps q => ⟨#[], by
     rw [upd_ne (at_ne e q exo_tbl), upd_ne (ne_of_none q fr), q]; simp⟩ }
 refine h dx _ fr dne (I.un (t' := tk') un fun b o q => ?_)
 by_cases hb : b = a
 · subst hb
   rw [upd_same] at q; cases q
   exact exo_ok hx
 · rw [upd_ne hb] at q
   by_cases hd : b = dx
   · subst hd
     rw [upd_same] at q; cases q
     exact exd_ok hn (relO_put (fs := []) ry fun g => True.intro)
   · rw [upd_ne hd] at q
     exact (I.hok b o q).stay (fun c v hc z => k c v (hc.elim (fun hc => by rw [hc]; exact hb) fun hc => at_ne e hc exo_own) z)
       (fun c hc => by
         rw [upd_ne (at_ne e hc exo_own), upd_ne (ne_of_none hc fr)]; exact hc)
       (fun c xs hc => by
         rw [upd_ne (at_ne e hc exo_tup), upd_ne (ne_of_none hc fr)]; exact hc)
theorem osb2 (T : OexB X.K C) (I : Inv X pins σ H s) (e : H a = some (exo a C (some dx))) (ed : H dx = some (exd dx fs)) (hl : fs.length ≤ 900) (hno : PySem.W.findIn X.K (.ref C) f = some none) (ry : RelV y u)
  (h : ∀ s', Inv X pins σ (upd H dx (exd dx ((f, y) :: fs))) s' → Q () s') : wpAny (model X.prog X.w) A (setAttr (.ref a) f u) Q E s := by
 obtain ⟨cd, hcl, hob, hne, hps, hh⟩ := T.cd (.ref a)
 obtain ⟨t1, ho⟩ := exo_at I.hok e
 obtain ⟨mA, hns, rel⟩ := exd_at I.hok ed
 have hw := within_of rel
 obtain ⟨hp, g, d, t, os⟩ := s
 obtain ⟨oD, _, _, hoD, _, _⟩ := hns.count hw
 refine PySem.W.set_plain I.kIn (ox := { cls := .ref C, dict := some dx, data := .fields #[.ref t1, .none, .none, .none, .bool false, .none] }) (od := some oD) ⟨ho, rfl, rfl, hoD⟩ T.sa ?_
 refine osb_old I.kIn ho hns hw (by rw [List.length_map]; omega) hcl hob hne hps hh hno (fun h' tk' k hn => ?_)
 have hd : ∃ o, h'.get? dx = some o := let ⟨o, _, _, e', _⟩ := hn; ⟨o, e'⟩
 exact h _ (I.write (t' := tk') (x := dx) (e := dx) (o := exd dx ((f, y) :: fs)) (by rw [ed]; exact True.intro) (.inl rfl) k hd (exd_ok hn (relO_put ry rel)))
def tOsb (K : PySem.W.Frag) (f : Str) (to te : TE) : TS := fun D σ H => te σ H fun y H1 => to σ H1 fun x H2 => ∃ a C : Addr, x = .ref a ∧ OexB K C ∧ PySem.W.findIn K (.ref C) f = some none ∧
 ((H2 a = some (exo a C none) ∧ ∀ dx, H2 dx = none → dx ≠ a → D.nx σ (upd (upd H2 dx (exd dx [(f, y)])) a (exo a C (some dx)))) ∨ ∃ dx fs, H2 a = some (exo a C (some dx)) ∧ H2 dx = some (exd dx fs) ∧ fs.length ≤ 900 ∧ D.nx σ (upd H2 dx (exd dx ((f, y) :: fs))))
variable {o e : Expr} {to te : TE} {p' pos : Pos}
theorem ps_osb (ho : PE X o to) (he : PE X e te) (hs : swapsWith e (some (.Attribute o f p')) pos.line X.env = pure false := by rfl) : PS X (.Assign [.Attribute o f p'] e pos) (tOsb X.K f to te) :=
 ⟨fun pins s σ H D I h => plainObj_wpAny_Assign_Attribute (thn (he.run pins s σ H _ I h) fun v s1 ⟨y, H1, I1, r1, q1⟩ =>
  thn (ho.run pins s1 σ H1 _ I1 q1) fun u s2 ⟨x, H2, I2, r2, a, C, ex, T, hno, q⟩ => by
   subst ex
   obtain rfl : u = Value.ref a := r2
   rcases q with ⟨ea, q⟩ | ⟨dx, fs, ea, ed, hl, q⟩
   ·exact osb1 T I2 ea hno r1 fun dx s' n ne J => ⟨σ, _, J, q dx n ne⟩
   ·exact osb2 T I2 ea ed hl hno r1 fun s' J => ⟨σ, _, J, q⟩) hs⟩
end
end Ev
namespace Ev
open PySem PySem.Spec PyProof.Rows L2 Calls
inductive FI where
 | par (i : Nat) | txt (z : Str)
def asgB (N : List Str) (nm : List (Str × NameKind)) : List (Str × FI) → List Stmt → Bool
 | [], [] => true
 | (f, it) :: r, s :: ss => (match s with
   | .Assign [.Attribute (.Name x _) y _] e _ => decide (N[0]? = some x) && decide (nm.lookup x = some .local) && decide (y = f) && (match it with
     | .par i => (match e with
       | .Name v _ => decide (N[i]? = some v) && decide (nm.lookup v = some .local) && !(v == ("__debug__" : Str)) && !(v == ("__classdict__" : Str))
       | _ => false)
     | .txt z => (match e with
       | .Constant (.str z') _ _ => decide (z' = z)
       | _ => false)) && !(x == ("__debug__" : Str)) && !(x == ("__classdict__" : Str))
   | _ => false) && asgB N nm r ss
 | _, _ => false
def fiV (vs : List V) : FI → V
 | .par i => vs.getD i .non
 | .txt z => .str z
def fldV (vs : List V) : List (Str × FI) → List (Str × V) → List (Str × V)
 | [], acc => acc
 | (f, it) :: r, acc => fldV vs r ((f, fiV vs it) :: acc)
def teFI : FI → TE
 | .par i => tVar i
 | .txt z => tC (.str z)
def tAsg (K : PySem.W.Frag) : List (Str × FI) → TS
 | [] => tNext
 | (f, it) :: r => tSeq (tOsb K f (tVar 0) (teFI it)) (tAsg K r)
section
variable {X : Cx}
theorem asg_pss (hN : X.env.scope.names = nm) : ∀ {items : List (Str × FI)} {ss : List Stmt}, asgB X.N nm items ss = true → PSs X ss (tAsg X.K items)
 | [], [], _ => pss_nil
 | [], _ :: _, h => by simp [asgB] at h
 | _ :: _, [], h => by simp [asgB] at h
 | (f, it) :: r, s :: ss, h => by
   simp only [asgB, Bool.and_eq_true] at h
   obtain ⟨h1, h2⟩ := h
   refine pss_cons ?_ (asg_pss hN h2)
   split at h1
   · rename_i x _ y _ e _
     simp only [Bool.and_eq_true, decide_eq_true_eq, Bool.not_eq_true'] at h1
     obtain ⟨⟨⟨⟨⟨e1, e2⟩, e3⟩, e4⟩, e5⟩, e6⟩ := h1
     subst e3
     have vx : Vis X.env.scope x := .inl (by rw [hN]; exact e2)
     cases it with
     | par i =>
       simp only at e4
       split at e4
       · simp only [Bool.and_eq_true, decide_eq_true_eq, Bool.not_eq_true'] at e4
         obtain ⟨⟨⟨g1, g2⟩, g3⟩, g4⟩ := e4
         exact ps_osb (pe_var e1 vx e5 e6) (pe_var g1 (.inl (by rw [hN]; exact g2)) g3 g4) rfl
       · cases e4
     | txt z =>
       simp only at e4
       split at e4
       · have e4 := of_decide_eq_true e4
         subst e4
         exact ps_osb (pe_var e1 vx e5 e6) pe_str rfl
       · cases e4
   · cases h1
end
section
variable {K : PySem.W.Frag} {a dx C : Addr} {vs : List V} {σ : L2.St} {D : Ends}
theorem upd_id {H : Hp} {x : Addr} {o : HO} (h : H x = some o) : upd H x o = H := by
 funext b
 by_cases hb : b = x
 ·rw [hb, upd_same, h]
 ·rw [upd_ne hb]
theorem upd_upd {H : Hp} {x : Addr} {o o' : HO} : upd (upd H x o) x o' = upd H x o' := by
 funext b
 by_cases hb : b = x
 ·rw [hb, upd_same, upd_same]
 ·rw [upd_ne hb, upd_ne hb, upd_ne hb]
def FIok (σ : L2.St) (vs : List V) : FI → Prop
 | .par i => ∃ v, σ[i]? = some (some v) ∧ vs.getD i .non = v
 | .txt _ => True
theorem fi_te {it : FI} {H : Hp} {Q : VK} (h : FIok σ vs it) (q : Q (fiV vs it) H) : teFI it σ H Q := by
 cases it with
 | par i =>
  obtain ⟨v, e1, e2⟩ := h
  refine ⟨v, e1, ?_⟩
  rw [← e2]; exact q
 | txt z => exact q
theorem tAsg_old (T : OexB K C) (h0 : σ[0]? = some (some (.ref a))) (ne : dx ≠ a) : ∀ {items : List (Str × FI)} {H : Hp} {fs : List (Str × V)} {D : Ends}, H a = some (exo a C (some dx)) → H dx = some (exd dx fs) → fs.length + items.length ≤ 900 →
  (∀ q ∈ items, PySem.W.findIn K (.ref C) q.1 = some none ∧ FIok σ vs q.2) → D.nx σ (upd H dx (exd dx (fldV vs items fs))) → tAsg K items D σ H
 | [], H, fs, D, e1, e2, hl, hi, q => by
  have q : D.nx σ (upd H dx (exd dx fs)) := q
  rw [upd_id e2] at q
  exact q
 | (f, it) :: r, H, fs, D, e1, e2, hl, hi, q => by
  obtain ⟨g1, g2⟩ := hi _ List.mem_cons_self
  simp only [List.length_cons] at hl
  refine fi_te g2 ⟨.ref a, h0, a, C, rfl, T, g1, .inr ⟨dx, fs, e1, e2, by omega, ?_⟩⟩
  have q : D.nx σ (upd H dx (exd dx (fldV vs r ((f, fiV vs it) :: fs)))) := q
  refine tAsg_old T h0 ne (fs := (f, fiV vs it) :: fs) (by rw [upd_ne (Ne.symm ne)]; exact e1) upd_same (by simp only [List.length_cons]; omega) (fun q hq => hi q (List.mem_cons_of_mem _ hq)) ?_
  rw [upd_upd]
  exact q
theorem tAsg_new (T : OexB K C) (h0 : σ[0]? = some (some (.ref a))) {items : List (Str × FI)} {H : Hp} (hne : items ≠ []) (e1 : H a = some (exo a C none)) (hl : items.length ≤ 900)
  (hi : ∀ q ∈ items, PySem.W.findIn K (.ref C) q.1 = some none ∧ FIok σ vs q.2) (q : ∀ dx, H dx = none → dx ≠ a → D.nx σ (upd (upd H dx (exd dx (fldV vs items []))) a (exo a C (some dx)))) : tAsg K items D σ H := by
 cases items with
 | nil => exact absurd rfl hne
 | cons it r =>
  obtain ⟨f, it⟩ := it
  obtain ⟨g1, g2⟩ := hi _ List.mem_cons_self
  simp only [List.length_cons] at hl
  refine fi_te g2 ⟨.ref a, h0, a, C, rfl, T, g1, .inl ⟨e1, fun dx n ne => ?_⟩⟩
  refine tAsg_old T h0 ne (fs := [(f, fiV vs it)]) upd_same (by rw [upd_ne ne, upd_same]) (by simp only [List.length_cons, List.length_nil]; omega) (fun q hq => hi q (List.mem_cons_of_mem _ hq)) ?_
  have q := q dx n ne
  have e : upd (upd (upd H dx (exd dx [(f, fiV vs it)])) a (exo a C (some dx))) dx (exd dx (fldV vs r [(f, fiV vs it)])) = upd (upd H dx (exd dx (fldV vs ((f, it) :: r) []))) a (exo a C (some dx)) := by
   funext b
   by_cases hb : b = a
   ·rw [hb, upd_ne (Ne.symm ne), upd_same, upd_same]
   ·by_cases hd : b = dx
    ·rw [hd, upd_same, upd_ne ne, upd_same]
     rfl
    ·rw [upd_ne hd, upd_ne hb, upd_ne hd, upd_ne hb, upd_ne hd]
  rw [e]
  exact q
end
def spE (C : Addr) (np : Nat) (items : List (Str × FI)) : Sp := fun vs H Q _ => vs.length = np ∧ ∃ a, vs[0]? = some (.ref a) ∧ H a = some (exo a C none) ∧ ∀ dx, H dx = none → dx ≠ a → Q .non (upd (upd H dx (exd dx (fldV vs items []))) a (exo a C (some dx)))
def supCx (P : Program) (w : World) (K : PySem.W.Frag) (mg : Str → Option Value) (base : Heap) (N : List Str) (qual : Str) (scope : Scope) (f : Addr) (cd : Value) (cc : Addr) (A : Around) (outer : List Env) (s : Shared) (H : Hp) : Cx where
 prog := P
 w := w
 K := K
 mg := mg
 base := base
 A := A.deeper (PySem.W.ksEnv qual scope s.heap.objs.size f cd cc)
 N := N
 s_0 := s
 H_0 := H
 env := PySem.W.ksEnv qual scope s.heap.objs.size f cd cc
 outer := outer
 stack := PySem.W.ksEnv qual scope s.heap.objs.size f cd cc :: outer
 ex := []
 calm := true
 fn := fun _ => false
 pn := []
 xe := fun _ _ => False
theorem look_zip : ∀ {ps : List Str} {us : List Value} {i : Nat} {x : Str} {u : Value}, ps.Nodup → us.length = ps.length → ps[i]? = some x → us[i]? = some u → (ps.zip us).reverse.lookup x = some u := by
 intro ps us i x u nd hl e1 e2
 have hm : (x, u) ∈ (ps.zip us).reverse := by
  rw [List.mem_reverse]
  refine List.mem_of_getElem? (i := i) ?_
  rw [List.getElem?_zip_eq_some]
  exact ⟨e1, e2⟩
 have key : ∀ {l : List (Str × Value)}, (l.map Prod.fst).Nodup → (x, u) ∈ l → l.lookup x = some u := by
  intro l
  induction l with
  | nil => intro _ h; cases h
  | cons q l ih =>
   intro nd h
   obtain ⟨y, v⟩ := q
   rw [List.map_cons, List.nodup_cons] at nd
   rcases List.mem_cons.mp h with h | h
   ·cases h
    simp [List.lookup]
   ·have : x ≠ y := fun z => nd.1 (by have h2 := List.mem_map_of_mem (f := Prod.fst) h; rw [z] at h2; exact h2)
    have e : (x == y) = false := by simpa using this
    simp only [List.lookup, e]
    exact ih nd.2 h
 refine key ?_ hm
 rw [List.map_reverse]
 refine (List.reverse_perm _).nodup_iff.mpr ?_
 rw [List.map_fst_zip (by omega)]
 exact nd
section
variable {P : Program} {w : World} {K : PySem.W.Frag} {mg : Str → Option Value} {base : Heap} {B newId initId : String} {bmB : List Value}
structure SupS (ps : List Str) (scope : Scope) : Prop where
 co : scope.isCoroutine = false
 gen : scope.isGenerator = false
 nd : ps.Nodup
 par : ∀ x ∈ ps, scope.names.lookup x = some .local
 nocell : ∀ y ∈ scope.names, y.2 ≠ .cell
 free : ∀ y, scope.names.lookup y = some .free → y = ("__class__" : Str)
theorem sup_inv {ps : List Str} {scope : Scope} {qual : Str} {f cc : Addr} {cd : Value} {A : Around} {outer : List Env} {s : Shared} {H : Hp} {us : List Value} {vs : List V} {h1 : Heap} {tk : Nat} (W : SupS ps scope) (kind : scope.kind = .function) (hd : A.handled = none) (e0 : Env0 P w K mg base A outer s H)
  (hcc : ∃ cl cld csl v, K.lookup cc = some ⟨cl, cld, .cell v, csl⟩) (hl : vs.length = ps.length) (r : Vals vs us) (hns : h1.Ns s.heap.objs.size fun x => (ps.zip us).reverse.lookup x) (hk : ∀ b o, s.heap.get? b = some o → h1.get? b = some o) :
  Inv (supCx P w K mg base ps qual scope f cd cc A outer s H) [] (L2.start ps vs) H { s with heap := h1, toks := tk } := by
 have KX : K.In s.heap := e0.mod.kin.keeps fun b o e => (e0.bs b o e).1
 obtain ⟨cl, cld, csl, cv, hcc⟩ := hcc
 have cells : ∀ y c, (supCx P w K mg base ps qual scope f cd cc A outer s H).env.cells.lookup y = some c → y = ("__class__" : Str) ∧ c = cc := fun y c e => by
  have e : List.lookup y [(("__class__" : Str), cc)] = some c := e
  by_cases hy : y = ("__class__" : Str)
  ·subst hy
   simp [List.lookup] at e
   exact ⟨rfl, e.symm⟩
  ·have : (y == ("__class__" : Str)) = false := by simpa using hy
   simp only [List.lookup, this] at e
   cases e
 have noA : ∀ b : Addr, b ∉ (supCx P w K mg base ps qual scope f cd cc A outer s H).ex := fun b z => absurd (show b ∈ ([] : List Addr) from z) (by simp)
 have hul : us.length = ps.length := by rw [← hl]; exact (Paired.length r).symm
 refine ⟨⟨e0.mod, kind, rfl, rfl, Nat.le_refl _, fun y z c e1 e2 => ?_, fun y hy => ?_, fun y c h _ => ?_, fun _ => hd, Around.frames_deeper e0.frames, .inr ⟨rfl, rfl⟩, fun b z => absurd z (noA b), e0.bs, e0.bsz, fun b _ _ => noA b, fun b z => absurd z (noA b), e0.funs, e0.frf⟩,
  rfl, e0.bare, Un.kept hk, ⟨_, hns, fun i y v e1 e2 e3 => ?_⟩, fun y c e => ?_, e0.hok.fresh (Nat.le_refl _), fun y c e => ?_, fun p hp => absurd (show p ∈ ([] : List (Addr × Obj)) ++ [] from hp) (by simp), e0.hok.kept hk, ?_⟩
 ·rw [(cells y c e1).1, (cells z c e2).1]
 ·have hy : scope.names.lookup y = some .cell ∨ scope.names.lookup y = some .free := hy
  rcases hy with hy | hy
  ·exact absurd rfl (W.nocell _ (PySem.mem_of_lookup hy))
  ·have := W.free y hy
   subst this
   exact ⟨cc, by show List.lookup _ [(("__class__" : Str), cc)] = _; simp [List.lookup]⟩
 ·exact absurd (show false = true from h) (by simp)
 ·have hi : i < vs.length := by
   unfold L2.start at e2
   by_cases hi : i < vs.length
   ·exact hi
   ·rw [List.getElem?_append_right (by simpa using hi), List.getElem?_replicate] at e2
    split at e2 <;> cases e2
  have e1 : ps[i]? = some y := e1
  have ev : vs[i]? = some v := by
   unfold L2.start at e2
   rw [List.getElem?_append_left (by simpa using hi), List.getElem?_map] at e2
   cases q : vs[i]? with
   | none => rw [q] at e2; cases e2
   | some u => rw [q] at e2; simpa using e2
  obtain ⟨u, eu, ru⟩ : ∃ u, us[i]? = some u ∧ RelV v u := by
   have hi2 : i < us.length := by rw [hul, ← hl]; exact hi
   exact ⟨us[i], List.getElem?_eq_getElem hi2, (by obtain ⟨u, e, q⟩ := r.get ev; rw [List.getElem?_eq_getElem hi2] at e; cases e; exact q)⟩
  exact ⟨u, ru, .inl ⟨W.par y (List.mem_of_getElem? e1), look_zip W.nd hul e1 eu⟩⟩
 ·rw [(cells y c e).2]
  exact ⟨cv, _, hk _ _ (KX _ _ hcc), rfl⟩
 ·rw [(cells y c e).2]
  exact (e0.bs _ _ (e0.mod.kin _ _ hcc)).2
 ·unfold L2.start supCx
  simp only [List.length_append, List.length_map, List.length_replicate]
  omega
theorem init_ok {f C cda cc : Addr} {name qual : Str} {params : Arguments} {scope : Scope} {dV kV doc pm ct oc : Value} {an od : Option Addr} {osl : Array (Option Value)} {p0 p1 p2 apos pos spos : Pos} {kk : Nat} {z me : Str} {rest : List Stmt} {ps : List Str} {items : List (Str × FI)}
  (lk : K.lookup f = some ⟨oc, od, .func (PySem.W.ksFn name qual params (.Expr (.Call (.Attribute (.Call (.Name "super" p0) [] [] p1) "__init__" apos) [.Constant (.str z) kk p2] [] pos) spos :: rest) scope dV kV doc pm an (.ref cda) ct cc), osl⟩)
  (hcd : PySem.W.codeIn K (.ref cda) qual = true) (S : SupF K P mg C f cda cc scope (PySem.W.ksFn name qual params (.Expr (.Call (.Attribute (.Call (.Name "super" p0) [] [] p1) "__init__" apos) [.Constant (.str z) kk p2] [] pos) spos :: rest) scope dV kV doc pm an (.ref cda) ct cc) me B newId initId bmB)
  (T : OexB K C) (W : SupS ps scope) (h0 : ps[0]? = some me) (hline : (apos.endLine == pos.line) = true) (hne : items ≠ []) (hil : items.length ≤ 900) (hasg : asgB ps scope.names items rest = true) (hnn : ∀ q ∈ items, PySem.W.findIn K (.ref C) q.1 = some none)
  (hix : ∀ q ∈ items, ∀ i, q.2 = .par i → i < ps.length) : FnOk P w K mg base (L2.CX P w) 0 f (PySem.W.ksFn name qual params (.Expr (.Call (.Attribute (.Call (.Name "super" p0) [] [] p1) "__init__" apos) [.Constant (.str z) kk p2] [] pos) spos :: rest) scope dV kV doc pm an (.ref cda) ct cc) ps (spE C ps.length items) := by
 refine ⟨fun vs H Q E h => h.1, fun A outer s H args us vs Q E hr e0 hb r hsp => ?_⟩
 obtain ⟨hl, a, ha0, ha, hq⟩ := hsp
 have hul : us.length = ps.length := by rw [← hl]; exact (Paired.length r).symm
 have KX : K.In s.heap := e0.mod.kin.keeps fun b o e => (e0.bs b o e).1
 have lim : s.heap.NoLimit := e0.mod.nolimit.keeps fun b o e => (e0.bs b o e).1
 refine PySem.ks_codeAny_call_defAt (fd := PySem.W.ksFn name qual params _ scope dV kV doc pm an (.ref cda) ct cc) hr.depth (KX _ _ lk) rfl lim (PySem.W.codeRec_of KX hcd) rfl hb W.nocell (fun x hx => W.par _ (List.of_mem_zip hx).1) (fun h1 hns hk1 => ?_) W.co W.gen S.kind
 obtain ⟨hp, g, d, tk, os⟩ := s
 have ha1 : us[0]? = some (.ref a) := by
  cases r with
  | nil => simp at ha0
  | cons r1 r2 =>
   simp only [List.getElem?_cons_zero, Option.some.injEq] at ha0
   subst ha0
   obtain rfl := show _ = Value.ref a from r1
   rfl
 have KX1 : K.In h1 := KX.keeps hk1
 obtain ⟨mb, hb1, hb2⟩ := e0.mod.blt
 obtain ⟨t0, hx0⟩ := exo_at e0.hok ha
 have I0 := sup_inv (P := P) (w := w) (f := f) (qual := qual) (cd := .ref cda) (tk := tk + (ps.zip us).length) W S.kind hr.hd e0 (by obtain ⟨cl, cld, csl, e⟩ := S.cell; exact ⟨cl, cld, csl, _, e⟩) hl r hns hk1
 refine PySem.ks_wpAt_execs_cons (PySem.ks_wpAt_Expr_any ?_ I0.quiet rfl)
 refine sup_ok hline S KX1 ((e0.mod.glob.keeps fun b o e => (e0.bs b o e).1).keeps hk1) ⟨mb, (hb1.keeps fun b o e => (e0.bs b o e).1).keeps hk1, hb2⟩ hns (look_zip W.nd hul h0 ha1) (hk1 _ _ hx0) (fun h2 t1 t2 kp hx2 => ?_)
 have J := I0.write (t' := t2) (x := a) (e := a) (o := exo a C none) (by rw [ha]; exact True.intro) (.inl rfl) kp ⟨_, hx2⟩ (exo_ok hx2)
 rw [upd_id ha] at J
 refine _root_.PySem.wpAt_of_wpAny (wpAny_mono ((asg_pss (X := supCx P w K mg base ps qual scope f (.ref cda) cc A outer ⟨hp, g, d, tk, os⟩ H) rfl hasg).run [] _ (L2.start ps vs) H { nx := fun _ H' => Q .non H', rt := fun _ _ => False } J
  (tAsg_new (vs := vs) T ?_ hne ha hil (fun q hq' => ⟨hnn q hq', ?_⟩) fun dx n ne => hq dx n ne)) (fun fl s' hs => ?_) fun _ _ z => (show False from z).elim)
 ·have : 0 < vs.length := (List.getElem?_eq_some_iff.mp ha0).1
  unfold L2.start
  rw [List.getElem?_append_left (by simpa using this), List.getElem?_map, ha0]
  rfl
 ·obtain ⟨y, it⟩ := q
  cases it with
  | txt z => exact True.intro
  | par i =>
   have hi : i < vs.length := by rw [hl]; exact hix _ hq' i rfl
   refine ⟨vs[i], ?_, ?_⟩
   ·unfold L2.start
    rw [List.getElem?_append_left (by simpa using hi), List.getElem?_map, List.getElem?_eq_getElem hi]
    rfl
   ·rw [List.getD_eq_getElem?_getD, List.getElem?_eq_getElem hi]
    rfl
 ·cases fl with
  | next =>
   obtain ⟨σ', H', J', q⟩ := hs
   exact ⟨.non, H', J'.os, J'.bare, J'.base, J'.hok, rfl, q⟩
  | ret u =>
   obtain ⟨v, σ', H', J', r', q⟩ := hs
   exact q.elim
  | brk =>
   obtain ⟨_, _, _, q⟩ := hs
   exact False.elim q
  | cont =>
   obtain ⟨_, _, _, q⟩ := hs
   exact False.elim q
end
end Ev
namespace Ev
open PySem PySem.Spec PyProof.Rows L2 Calls ClX RZ
section
variable {X : Cx} {es : List Expr} {ta : TA} {p pos : Pos} {x : Str} {C fI : Addr} {fd : FuncData} {ps : List Str} {items : List (Str × FI)} {np : Nat}
def tMkX (C : Addr) (np : Nat) (items : List (Str × FI)) (ta : TA) : L2.St → Hp → XK → Prop := fun σ H Q => ta σ H fun vs H1 => vs.length + 1 = np ∧ vs.length ≤ 1000 ∧ ∀ a d, H1 d = none → Q (.ref C) (some d) (upd H1 d (.xd (fldV (.ref a :: vs) items [])))
theorem pmk_x (T : OexB X.K C) (iC : PySem.W.findIn X.K (.ref C) "__init__" = some (some (.ref fI))) (tI : PySem.W.typeIn X.K (.ref fI) = some (.type "function"))
  (F1 : FnOk X.prog X.w X.K X.mg X.base (L2.CX X.prog X.w) 0 fI fd ps (spE C np items)) (hr : Room 1 X.A) (hb : ∀ (s : Shared) (us : List Value), us.length = np → BindsTo s fd ⟨us, []⟩ (ps.zip us)) (hx : Takes X fun _ _ _ _ => False) (hg : Gl X x) (hm : X.mg x = some (.ref C)) (ha : PA X es ta) (hs : es.all notStar = true)
  (hz : es = [] → ∀ σ H R, ta σ H R → R [] H) (hdb : (x == ("__debug__" : Str)) = false) : PMk X (.Call (.Name x p) es [] pos) (tMkX C np items ta) := by
 intro pins s σ H Q I h
 obtain ⟨B, newId, initId, bmB, nm, q, N, bs, bm, sn, sub, ab, col, dd, k0, k1, k2, k3, k5, bx, rt, hC⟩ := T.cls
 have fin : ∀ (us : List Value) (vs : List V) (H1 : Hp) (s1 : Shared), Inv X pins σ H1 s1 → Vals vs us → vs.length + 1 = np → vs.length ≤ 1000 → (∀ a d, H1 d = none → Q (.ref C) (some d) (upd H1 d (.xd (fldV (.ref a :: vs) items [])))) → wpAny (model X.prog X.w) X.A (call (.ref C) us) (MkP X pins σ Q) X.xe s1 := by
  intro us vs H1 s1 I1 r1 hnp hvz q1
  obtain ⟨hp, g, dr, tk, os⟩ := s1
  have hsz : hp.objs.size ≤ hp.objs.size + 1 := Nat.le_succ _
  have hn : H1 (hp.objs.size + 1) = none := I1.hok.fresh hsz
  have kk : ∀ b o, hp.get? b = some o → ((hp.push (PySem.W.kdv_tup us)).push (PySem.HandSPX.excO C hp.objs.size)).get? b = some o := fun b o e => Heap.get?_push_of_some _ (Heap.get?_push_of_some _ e)
  have hget : ((hp.push (PySem.W.kdv_tup us)).push (PySem.HandSPX.excO C hp.objs.size)).get? (hp.objs.size + 1) = some (PySem.HandSPX.excO C hp.objs.size) := by heap_get
  have I2 : Inv X pins σ (upd H1 (hp.objs.size + 1) (exo (hp.objs.size + 1) C none)) ⟨(hp.push (PySem.W.kdv_tup us)).push (PySem.HandSPX.excO C hp.objs.size), g, dr, tk, os⟩ :=
   I1.laid (t' := tk) (a := hp.objs.size + 1) (o := exo (hp.objs.size + 1) C none) (h' := (hp.push (PySem.W.kdv_tup us)).push (PySem.HandSPX.excO C hp.objs.size)) kk hsz (exo_ok hget)
  have r2 : Vals (V.ref (hp.objs.size + 1) :: vs) (Value.ref (hp.objs.size + 1) :: us) := .cons rfl r1
  have hul : us.length = vs.length := (Paired.length r1).symm
  have hus : us.length ≤ sizeLine := by
   rw [hul, sizeLine_eq]; omega
  have hsp : spE C np items (.ref (hp.objs.size + 1) :: vs) (upd H1 (hp.objs.size + 1) (exo (hp.objs.size + 1) C none)) (fun v H2 => v = .non ∧ ∃ (d : Addr), H2 (hp.objs.size + 1) = some (exo (hp.objs.size + 1) C (some d)) ∧ H2 d = some (exd d (fldV (.ref (hp.objs.size + 1) :: vs) items [])) ∧ H1 d = none ∧
    Q (.ref C) (some d) (upd (L2.del H2 (hp.objs.size + 1)) d (.xd (fldV (.ref (hp.objs.size + 1) :: vs) items [])))) (fun _ _ _ => False) := by
   refine ⟨by rw [List.length_cons]; exact hnp, _, rfl, upd_same, fun dx n ne => ⟨rfl, dx, upd_same, by rw [upd_ne ne, upd_same], ?_, ?_⟩⟩
   ·rw [upd_ne ne] at n; exact n
   ·rw [upd_ne ne] at n
    have e : upd (L2.del (upd (upd (upd H1 (hp.objs.size + 1) (exo (hp.objs.size + 1) C none)) dx (exd dx (fldV (.ref (hp.objs.size + 1) :: vs) items []))) (hp.objs.size + 1) (exo (hp.objs.size + 1) C (some dx))) (hp.objs.size + 1)) dx (.xd (fldV (.ref (hp.objs.size + 1) :: vs) items [])) =
      upd H1 dx (.xd (fldV (.ref (hp.objs.size + 1) :: vs) items [])) := by
     funext b
     by_cases hd : b = dx
     ·rw [hd, upd_same, upd_same]
     ·rw [upd_ne hd, upd_ne hd]
      by_cases hb : b = hp.objs.size + 1
      ·rw [hb, L2.del_same, hn]
      ·rw [L2.del_ne hb, upd_ne hb, upd_ne hd, upd_ne hb]
    rw [e]
    exact q1 _ _ n
  refine wpAny_call (PySem.HandSPX.call_own bx.F rt.has (I1.kIn _ _ hC) (PySem.W.looks_findIn I1.kIn iC) (fun me => PySem.W.bind_fn I1.kIn me tI) hus
   (codeAny_mono (F1.run _ X.stack _ _ ⟨Value.ref (hp.objs.size + 1) :: us, []⟩ (Value.ref (hp.objs.size + 1) :: us) _ _ (fun _ _ _ => False) (hr.make C us []) (I2.env0.make C us []) (hb _ (Value.ref (hp.objs.size + 1) :: us) (by rw [List.length_cons, hul]; exact hnp)) r2 hsp) fun r s' hq' => ?_))
  cases r with
  | error er => exact passes_call hx (fun _ _ _ _ z => z.elim) pins σ _ _ er s' I2 hq'
  | ok fl =>
   cases fl with
   | ret u =>
    obtain ⟨v, H2, os2, bare2, un2, hok2, rv, ev, d, ea, ed, hd1, q2⟩ := hq'
    subst ev
    obtain ⟨h2, g2, d2, t2, os'⟩ := s'
    exact ⟨rv, mk_end (raises_own T.exC T.tyC) I1 hsz kk un2 hok2 os2 bare2 ea ed hd1 q2⟩
   | next => exact False.elim hq'
   | brk => exact False.elim hq'
   | cont => exact False.elim hq'
 refine wpAny_Call_Name_kw (ld_glob I hg hm ?_ hdb)
 cases es with
 | nil =>
  have h := hz rfl _ _ _ h
  exact PySem.W.callWith_K0 I.kIn T.kC (fin [] [] H s I .nil h.1 h.2.1 h.2.2)
 | cons e es =>
  simp only [List.all_cons, Bool.and_eq_true] at hs
  refine PySem.W.callWith_K (h₀ := X.base) I.ok.mod.kin T.kC (thn (ha.run pos pins s σ H _ I h) fun us s1 ⟨vs, H1, I1, r1, hz1, hz2, q1⟩ => ⟨I1.kIn, ?_⟩) (star_ok hs.1) (star_any hs.2)
  exact fin us vs H1 s1 I1 r1 hz1 hz2 q1
end
end Ev
namespace Ev
open PySem PySem.Spec PyProof.Rows L2 Calls ClX RZ
theorem look_nd {α β : Type} [BEq α] [LawfulBEq α] {x : α} {u : β} : ∀ {l : List (α × β)}, (l.map Prod.fst).Nodup → (x, u) ∈ l → l.lookup x = some u
 | (y, v) :: l, nd, h => by
   rw [List.map_cons, List.nodup_cons] at nd
   rcases List.mem_cons.mp h with h | h
   · cases h
     simp [List.lookup]
   · have ne : x ≠ y := fun z => nd.1 (by have h2 := List.mem_map_of_mem (f := Prod.fst) h; rw [z] at h2; exact h2)
     have e : (x == y) = false := by simpa using ne
     simp only [List.lookup, e]
     exact look_nd nd.2 h
theorem fldV_eq (vs : List V) : ∀ (items : List (Str × FI)) (acc : List (Str × V)), fldV vs items acc = (items.map fun q => (q.1, fiV vs q.2)).reverse ++ acc
 | [], acc => rfl
 | (f, it) :: r, acc => by
  rw [fldV, fldV_eq vs r]
  simp
theorem fldV_look {vs : List V} {items : List (Str × FI)} {f : Str} {it : FI} (nd : (items.map Prod.fst).Nodup) (h : (f, it) ∈ items) : (fldV vs items []).lookup f = some (fiV vs it) := by
 rw [fldV_eq, List.append_nil]
 refine look_nd ?_ ?_
 ·rw [List.map_reverse, List.map_map]
  exact (List.reverse_perm _).nodup_iff.mpr nd
 ·rw [List.mem_reverse]
  exact List.mem_map_of_mem (f := fun q : Str × FI => (q.1, fiV vs q.2)) h
def itemsX (sy : Nat → Str) (ns : List Nat) (np : Nat) (code : Tx) : List (Str × FI) := ns.zipIdx.map fun q => (sy q.1, if q.2 < np then .par (q.2 + 1) else .txt (tS code))
theorem items_get {sy : Nat → Str} {ns : List Nat} {np : Nat} {code : Tx} {i n : Nat} (e : ns[i]? = some n) : (sy n, if i < np then FI.par (i + 1) else .txt (tS code)) ∈ itemsX sy ns np code := by
 refine List.mem_of_getElem? (i := i) ?_
 unfold itemsX
 rw [List.getElem?_map, List.getElem?_zipIdx, e]
 simp
theorem items_nd {sy : Nat → Str} {ns : List Nat} {np : Nat} {code : Tx} (inj : ∀ i j, sy i = sy j → i = j) (nd : ns.Nodup) : ((itemsX sy ns np code).map Prod.fst).Nodup := by
 unfold itemsX
 rw [List.map_map]
 have : (Prod.fst ∘ fun (q : Nat × Nat) => ((sy q.1, if q.2 < np then FI.par (q.2 + 1) else .txt (tS code)) : Str × FI)) = sy ∘ Prod.fst := rfl
 rw [this, ← List.map_map, List.zipIdx_map_fst]
 refine List.Pairwise.map _ (fun a b h z => h (inj _ _ z)) nd
def ExnG (T : Tb) (P : Program) (w : World) (K : PySem.W.Frag) (mg : Str → Option Value) (base : Heap) (C np : Nat) (ns : List Nat) (code : Tx) : Prop := ∃ fI fd ps, OexB K (T.ca C) ∧ PySem.W.findIn K (.ref (T.ca C)) "__init__" = some (some (.ref fI)) ∧ PySem.W.typeIn K (.ref fI) = some (.type "function") ∧
 FnOk P w K mg base (L2.CX P w) 0 fI fd ps (spE (T.ca C) (np + 1) (itemsX T.sy ns np code)) ∧ (∀ (s : Shared) (us : List Value), us.length = np + 1 → BindsTo s fd ⟨us, []⟩ (ps.zip us)) ∧ ns.Nodup ∧ ns.length = np + 1 ∧ tOk code = true ∧ np ≤ 1000
abbrev ExnF (T : Tb) (X : Cx) (C np : Nat) (ns : List Nat) (code : Tx) : Prop := ExnG T X.prog X.w X.K X.mg X.base C np ns code
section
variable {T : Tb} {X : Cx} {Wx : WX} {p : Pg} {cal : Bool → Nat → List W → List OO → RC} {k wf C np : Nat} {pl ns : List Nat} {code : Tx} {c : Cl}
theorem ss_rai (O : XO T p X Wx k cal) (hr : Room 1 X.A) (hc : p.cls[C]? = some c) (hx : c.exn = some (pl, ns, code)) (F : ExnF T X C pl.length ns code) {x : Str} {es : List Expr} {xs : List E} {q1 pos cpos : Pos} (hg : Gl X x) (hm : X.mg x = some (.ref (T.ca C))) (hdb : (x == ("__debug__" : Str)) = false)
  (ha : SA T X Wx es (evEs p cal xs)) (hs : es.all notStar = true) (hz : es = [] → xs = []) : SS T X Wx (.Raise (some (.Call (.Name x q1) es [] cpos)) none pos) (exS p cal wf (.rai C xs)) := by
 obtain ⟨fI, fd, ps, T0, iC, tI, F1, hb, nd, nl, ok, npz⟩ := F
 refine PS.imp (ps_raise O.calm O.tk (pmk_x (ta := rdA T Wx (evEs p cal xs)) T0 iC tI F1 hr hb LamX.takes0 hg hm ha hs (fun z σ H R ⟨c, st, h, q⟩ => ?_) hdb)) fun D σ H ⟨c, st, h, q⟩ => ?_
 ·rw [hz z] at q
  have q2 : Post T Wx (relA T σ) c σ H (.ok [] st) R := by
   have e : evEs p cal [] st = .ok [] st := by rw [evEs]
   rw [e] at q; exact q
  exact q2.ret h ⟨rfl, fun i w v e => by simp at e⟩
 ·rw [exS] at q
  refine ⟨c, st, h, (PostS.bind (rel := relA T σ) q).mono fun vs H1 ⟨c1, st1, ws, S, h1, r1, q1⟩ => ?_⟩
  simp only [hc, hx] at q1
  cases o : decide (pl.length = ws.length) && okvs ws with
  | false => rw [o] at q1; exact (show False from q1).elim
  | true =>
   rw [o] at q1
   simp only [Bool.and_eq_true, decide_eq_true_eq] at o
   obtain ⟨o1, o2⟩ := o
   refine ⟨by rw [← r1.1, o1], by rw [← r1.1, ← o1]; exact npz, fun a d hd => ?_⟩
   refine q1 _ _ σ _ c1 (Stp.grow hd) (h1.grow hd) ⟨rfl, d, _, rfl, upd_same, h1.new hd, fun i n w e1 e2 => ?_⟩
   have e1 : ns[i]? = some n := e1
   refine ⟨_, fldV_look (items_nd O.G.inj nd) (items_get e1), ?_⟩
   by_cases hi : i < pl.length
   ·rw [if_pos hi]
    have e2 : (ws ++ [W.str code])[i]? = some w := e2
    rw [List.getElem?_append_left (by omega)] at e2
    have hv : i < vs.length := by rw [← r1.1]; omega
    have e3 : fiV (V.ref a :: vs) (.par (i + 1)) = vs[i] := by
     simp [fiV, List.getD_eq_getElem?_getD, hv]
    rw [e3]
    have rw' := okv_rw o2 r1
    obtain ⟨v, g1, g2⟩ := rw'.get e2
    rw [List.getElem?_eq_getElem hv] at g1
    cases g1
    exact g2.mono (Stp.grow hd).mn
   ·rw [if_neg hi]
    have hil : i < ns.length := (List.getElem?_eq_some_iff.mp e1).1
    have e2 : (ws ++ [W.str code])[i]? = some w := e2
    have : i = ws.length := by omega
    rw [this, List.getElem?_append_right (Nat.le_refl _)] at e2
    simp at e2
    subst e2
    exact ⟨rfl, ok⟩
end
end Ev
namespace Ev
open PySem PySem.Spec PyProof.Rows L2 Calls
structure CauG (K : PySem.W.Frag) (a C dd : Addr) (oe : Obj) : Prop where
 T : XfC K C
 z : Zc (.ref C) (some dd) oe
 d : ∃ vs, oe.data = .fields vs
section
variable {X : Cx} {a C dd : Addr} {oe : Obj} {e : Expr} {te : TE} {pos : Pos} {n : Str}
def tXp (a dd : Addr) (n : Str) (te : TE) : TE := fun σ H Q => te σ H fun x H1 => x = .ref a ∧ ∃ fs v, H1 dd = some (.xd fs) ∧ fs.lookup n = some v ∧ Q v H1
theorem pe_xp (G : CauG X.K a C dd oe) (hp : (a, oe) ∈ X.pn) (hno : PySem.W.findIn X.K (.ref C) n = some none) (he : PE X e te) (hb : attributeBase e n X.env (eval e X.env) = eval e X.env) : PE X (.Attribute e n pos) (tXp a dd n te) := by
 refine ⟨fun pins s σ H Q I h => attr_of hb (thn (he.run pins s σ H _ I h) fun u s1 hh => ?_)⟩
 obtain ⟨x, H1, I1, rx, ex, fs, v, ea, l, q⟩ := hh
 subst ex
 obtain rfl : u = Value.ref a := rx
 have hget := (I1.pin (a, oe) (List.mem_append_left _ hp)).1
 obtain ⟨vs, hd⟩ := G.d
 obtain ⟨mA, hns, hr⟩ : ObjOk X.prog X.w H1 s1.heap dd (.xd fs) := I1.hok dd _ ea
 obtain ⟨od, ho, hl⟩ := lookIn_ns hns
 have hrel := hr n
 rw [l] at hrel
 obtain ⟨u, hu, ru⟩ := RelO.some_of (v := v) (o := mA n) hrel
 have J : PySem.W.InstAt s1.heap a oe C (some od) := ⟨hget, G.z.1, by unfold PySem.W.notCls; rw [hd] <;> rfl, by rw [G.z.2]; exact ho⟩
 exact HandSPX.exc_get I1.kIn J G.T.ga G.T.gg G.T.exC (PySem.W.findObj_own G.T.hdC hno rfl (by rw [hl, hu])) (handed_of ru) ⟨v, H1, I1.tok _, ru, q⟩
end
def isN (x : Str) : Expr → Bool
 | .Name y _ => decide (y = x)
 | _ => false
theorem isN_ok {x : Str} {e : Expr} (h : isN x e = true) : ∃ p, e = .Name x p := by
 unfold isN at h
 split at h
 ·rename_i y p
  exact ⟨p, by rw [of_decide_eq_true h]⟩
 ·cases h
def txtB : List Str → List Expr → Bool
 | [], [] => true
 | t :: ts, e :: es => (match e with | .Constant (.str z) _ _ => decide (z = t) | _ => false) && txtB ts es
 | _, _ => false
def tstB (x : Str) (ts : List Str) : Expr → Bool
 | .Compare (.Attribute e n _) [op] [b] _ => isN x e && decide (n = ("code" : Str)) && (match b with
  | .Tuple es _ _ => decide (op = .In) && txtB ts es && decide (ts.length ≤ 1000)
  | .Constant (.str z) _ _ => decide (op = .Eq) && decide (ts = [z])
  | _ => false)
 | _ => false
def attB (x f : Str) : Expr → Bool
 | .Attribute e n _ => isN x e && decide (n = f)
 | _ => false
def fldB (x : Str) : List (List Str × Str) → List Stmt → Bool
 | [(ts, f)], [.Return (some (.IfExp c a (.Constant .none _ _) _)) _] => tstB x ts c && attB x f a
 | (ts, f) :: r, .If c [.Return (some a) _] [] _ :: ss => tstB x ts c && attB x f a && fldB x r ss
 | _, _ => false
def fldOf : List (List Str × Str) → Str → List (Str × V) → Option V
 | [], _, _ => some .non
 | (ts, f) :: r, c, fs => if c ∈ ts then fs.lookup f else fldOf r c fs
section
variable {X : Cx} {a C dd : Addr} {oe : Obj} {x : Str} {fs : List (Str × V)} {cz : Str}
theorem txt_pa : ∀ {ts : List Str} {es : List Expr}, txtB ts es = true → ∃ t, PA X es t ∧ ∀ σ H Q, Q (ts.map V.str) H → t σ H Q
 | [], [], _ => ⟨_, pa_nil, fun σ H Q q => q⟩
 | [], _ :: _, h => by simp [txtB] at h
 | _ :: _, [], h => by simp [txtB] at h
 | t :: ts, e :: es, h => by
  simp only [txtB, Bool.and_eq_true] at h
  obtain ⟨h1, h2⟩ := h
  obtain ⟨u, hu, hq⟩ := txt_pa h2
  split at h1
  ·have := of_decide_eq_true h1
   subst this
   exact ⟨_, pa_cons pe_str hu rfl, fun σ H Q q => hq σ H _ q⟩
  ·cases h1
theorem inV_strs {c : Str} : ∀ {ts : List Str}, inV (.str c) (ts.map V.str) = decide (c ∈ ts)
 | [] => rfl
 | t :: ts => by
  have ih := inV_strs (c := c) (ts := ts)
  unfold inV at ih ⊢
  rw [List.map_cons, List.any_cons, ih]
  show (t == c || _) = _
  by_cases h : t = c
  ·subst h; simp
  ·have h2 : ¬ c = t := fun z => h z.symm
   simp [h, h2]
def XAt (a dd : Addr) (fs : List (Str × V)) (i : Nat) (σ : L2.St) (H : Hp) : Prop := σ[i]? = some (some (.ref a)) ∧ H dd = some (.xd fs)
theorem abase_name {e : Expr} {n : Str} {env : Env} {w : Sem Value} (h : ∃ y p, e = .Name y p) : attributeBase e n env w = w := by
 obtain ⟨y, p, rfl⟩ := h
 rfl
theorem tst_pt {i : Nat} (G : CauG X.K a C dd oe) (hp : (a, oe) ∈ X.pn) (hno : PySem.W.findIn X.K (.ref C) ("code" : Str) = some none) (hN : X.N[i]? = some x) (hv : Vis X.env.scope x) (hd : (x == ("__debug__" : Str)) = false) (hcd : (x == ("__classdict__" : Str)) = false) {ts : List Str} {e : Expr} (h : tstB x ts e = true) :
  ∃ t, PT X e t ∧ ∀ σ H (Q : Bool → Hp → Prop), XAt a dd fs i σ H → fs.lookup ("code" : Str) = some (V.str cz) → (∀ H', (∀ b o, H b = some o → H' b = some o) → Q (decide (cz ∈ ts)) H') → t σ H Q := by
 unfold tstB at h
 split at h
 ·rename_i e' n pa op b pos
  simp only [Bool.and_eq_true, decide_eq_true_eq] at h
  obtain ⟨⟨h1, h2⟩, h3⟩ := h
  subst h2
  obtain ⟨pn, rfl⟩ := isN_ok h1
  have hA := pe_xp (pos := pa) (n := "code") G hp hno (pe_var (pos := pn) hN hv hd hcd) (abase_name ⟨_, _, rfl⟩)
  split at h3
  ·simp only [Bool.and_eq_true, decide_eq_true_eq] at h3
   obtain ⟨⟨h4, h5⟩, h6⟩ := h3
   subst h4
   obtain ⟨u, hu, hq⟩ := txt_pa (X := X) h5
   refine ⟨_, pt_cmpR op_in_seq hA (pe_tup hu) (by first | exact nobehind _ (by decide) (by decide) | rfl), fun σ H Q hx hc q => ?_⟩
   refine ⟨.ref a, hx.1, rfl, fs, _, hx.2, hc, hq _ _ _ ⟨by rw [List.length_map, sizeLine_eq]; omega, fun p hp => ?_⟩⟩
   refine ⟨p, _, rfl, .inr (.inl (Rd.of upd_same)), rfl, ?_, _, rfl, ?_⟩
   ·rw [List.all_map]
    exact List.all_eq_true.mpr fun _ _ => rfl
   ·rw [inV_strs]
    exact q _ fun b o e => by rw [upd_ne (ne_of_none e hp)]; exact e
  ·simp only [Bool.and_eq_true, decide_eq_true_eq] at h3
   obtain ⟨h4, h5⟩ := h3
   subst h4 h5
   refine ⟨_, pt_cmpR op_eq hA pe_str (by first | exact nobehind _ (by decide) (by decide) | rfl), fun σ H Q hx hc q => ?_⟩
   refine ⟨.ref a, hx.1, rfl, fs, _, hx.2, hc, rfl, _, rfl, ?_⟩
   have q2 := q H fun _ _ e => e
   simp only [List.mem_singleton] at q2
   simp only [V.str.injEq]
   exact q2
  ·cases h3
 ·cases h
theorem att_pe {i : Nat} {f : Str} (G : CauG X.K a C dd oe) (hp : (a, oe) ∈ X.pn) (hno : PySem.W.findIn X.K (.ref C) f = some none) (hN : X.N[i]? = some x) (hv : Vis X.env.scope x) (hd : (x == ("__debug__" : Str)) = false) (hcd : (x == ("__classdict__" : Str)) = false) {e : Expr} (h : attB x f e = true) :
  PE X e (tXp a dd f (tVar i)) := by
 unfold attB at h
 split at h
 ·simp only [Bool.and_eq_true, decide_eq_true_eq] at h
  obtain ⟨h1, h2⟩ := h
  subst h2
  obtain ⟨pn, rfl⟩ := isN_ok h1
  exact pe_xp G hp hno (pe_var hN hv hd hcd) (abase_name ⟨_, _, rfl⟩)
 ·cases h
theorem fld_pss {i : Nat} (G : CauG X.K a C dd oe) (hp : (a, oe) ∈ X.pn) (hno : PySem.W.findIn X.K (.ref C) ("code" : Str) = some none) (hN : X.N[i]? = some x) (hv : Vis X.env.scope x) (hd : (x == ("__debug__" : Str)) = false) (hcd : (x == ("__classdict__" : Str)) = false) :
   ∀ {cl : List (List Str × Str)} {ss : List Stmt}, (∀ q ∈ cl, PySem.W.findIn X.K (.ref C) q.2 = some none) → fldB x cl ss = true →
     ∃ t, PSs X ss t ∧ ∀ σ H (D : Ends) v, XAt a dd fs i σ H → fs.lookup ("code" : Str) = some (V.str cz) → fldOf cl cz fs = some v → (∀ H', (∀ b o, H b = some o → H' b = some o) → D.rt v H') → t D σ H
 | [], _, _, h => by simp [fldB] at h
 | (ts, f) :: r, [], _, h => by cases r <;> simp [fldB] at h
 | (ts, f) :: r, s :: ss, hf, h => by
   unfold fldB at h
   split at h
   · rename_i heq1 heq2
     cases heq1
     cases heq2
     simp only [Bool.and_eq_true] at h
     obtain ⟨t, ht, hq⟩ := tst_pt (fs := fs) (cz := cz) G hp hno hN hv hd hcd h.1
     refine ⟨_, pss_one (ps_ret (pe_ifExp ht (att_pe G hp (hf _ List.mem_cons_self) hN hv hd hcd h.2) pe_non)), fun σ H D v hx hc hv q => ?_⟩
     refine hq σ H _ hx hc fun H' kp => ?_
     have kx : XAt a dd fs i σ H' := ⟨hx.1, kp _ _ hx.2⟩
     by_cases hm : cz ∈ ts
     · simp only [fldOf, if_pos hm] at hv
       rw [decide_eq_true hm, if_pos rfl]
       exact ⟨.ref a, kx.1, rfl, fs, v, kx.2, hv, q H' kp⟩
     · simp only [fldOf, if_neg hm] at hv
       cases hv
       rw [decide_eq_false hm, if_neg (by decide)]
       exact q H' kp
   · rename_i heq1 heq2
     cases heq1
     cases heq2
     simp only [Bool.and_eq_true] at h
     obtain ⟨⟨h1, h2⟩, h3⟩ := h
     obtain ⟨t, ht, hq⟩ := tst_pt (fs := fs) (cz := cz) G hp hno hN hv hd hcd h1
     obtain ⟨u, hu, hq2⟩ := fld_pss G hp hno hN hv hd hcd (fun q hq => hf q (List.mem_cons_of_mem _ hq)) h3
     refine ⟨_, pss_cons (ps_if ht (pss_one (ps_ret (att_pe G hp (hf _ List.mem_cons_self) hN hv hd hcd h2))) pss_nil) hu, fun σ H D v hx hc hv q => ?_⟩
     refine hq σ H _ hx hc fun H' kp => ?_
     have kx : XAt a dd fs i σ H' := ⟨hx.1, kp _ _ hx.2⟩
     by_cases hm : cz ∈ ts
     · simp only [fldOf, if_pos hm] at hv
       rw [decide_eq_true hm, if_pos rfl]
       exact ⟨.ref a, kx.1, rfl, fs, v, kx.2, hv, q H' kp⟩
     · simp only [fldOf, if_neg hm] at hv
       rw [decide_eq_false hm, if_neg (by decide)]
       exact hq2 σ H' _ v kx hc hv fun H2 kp2 => q H2 fun b o e => kp2 b o (kp b o e)
   · cases h
end
end Ev
namespace Ev
open PySem PySem.Spec PyProof.Rows L2 Calls
structure CauC (K : PySem.W.Frag) (C : Addr) (cl : List (List Str × Str)) : Prop where
 T : XfC K C
 code : PySem.W.findIn K (.ref C) ("code" : Str) = some none
 fld : ∀ q ∈ cl, PySem.W.findIn K (.ref C) q.2 = some none
def FnR (P : Program) (w : World) (K : PySem.W.Frag) (mg : Str → Option Value) (base : Heap) (f : Addr) (cl : List (List Str × Str)) : Prop :=
 ∀ (A : Around) (outer : List Env) (s : Shared) (H : Hp) (a C dd : Addr) (oe : Obj) (fs : List (Str × V)) (cz : Str) (v : V) (Q : VK), A.depth < recursionLimit → L2H.PinOk outer H s (a, oe) → Env0 P w K mg base A outer s H → CauC K C cl → Zc (.ref C) (some dd) oe → (∃ vs, oe.data = .fields vs) →
  H dd = some (.xd fs) → fs.lookup ("code" : Str) = some (V.str cz) → fldOf cl cz fs = some v → (∀ H', (∀ b o, H b = some o → H' b = some o) → Q v H') → codeAny (model P w) A (.call (.ref f) ⟨[.ref a], []⟩) (CR L2.CX0 outer P w H s Q fun _ _ _ => False) s
theorem fnR_of {P : Program} {w : World} {K : PySem.W.Frag} {mg : Str → Option Value} {base : Heap} {f : Addr} {name qual x : Str} {params : Arguments} {body : List Stmt} {scope : Scope} {dV kV doc pm cdv ct oc : Value} {an od : Option Addr} {osl : Array (Option Value)} {N : List Str} {cl : List (List Str × Str)}
  (lk : K.lookup f = some ⟨oc, od, .func (PySem.W.fnOf name qual params body scope dV kV doc pm an cdv ct), osl⟩) (hcd : PySem.W.codeIn K cdv qual = true) (S : FnScope N [x] scope) (hx0 : N[0]? = some x) (hv : Vis scope x) (hd : (x == ("__debug__" : Str)) = false) (hcl : (x == ("__classdict__" : Str)) = false)
  (hbd : ∀ (s : Shared) (u : Value), BindsTo s (PySem.W.fnOf name qual params body scope dV kV doc pm an cdv ct) ⟨[u], []⟩ [(x, u)]) (hB : fldB x cl body = true) : FnR P w K mg base f cl := by
 intro A outer s H a C dd oe fs cz v Q hr hpin e0 G z d hdd hcz hfv hq
 have KX : K.In s.heap := e0.mod.kin.keeps fun b o e => (e0.bs b o e).1
 have lim : s.heap.NoLimit := e0.mod.nolimit.keeps fun b o e => (e0.bs b o e).1
 have kind1 : ∀ y ∈ ([x] : List Str).zip [Value.ref a], scope.names.lookup y.1 = some .local ∨ (scope.names.lookup y.1 = some .cell ∧ ((cellsFrom (s.heap.objs.size + 1) scope.names []).lookup y.1).isSome = true) := fun ⟨n, u⟩ hy =>
  (S.par n (List.of_mem_zip hy).1).imp id fun q => ⟨q, PySem.W.cellsFrom_some _ _ _ (.inl q)⟩
 have BD : BindsTo s (PySem.W.fnOf name qual params body scope dV kV doc pm an cdv ct) ⟨[.ref a], []⟩ (([x] : List Str).zip [Value.ref a]) := hbd s (.ref a)
 refine codeAny_call_function hr (KX _ _ lk) rfl S.co S.gen rfl (PySem.W.codeRec_of KX hcd) (BD _ _ _ _ ?_)
 refine wpAny_newFunctionEnv_cells S.kind kind1 fun env he s1 ic => ?_
 subst he
 refine ⟨lim.keeps ic.toInCall.keep, codeAny_func ?_⟩
 let Xh := L2H.cxH L2.CX0 P w K mg base N qual scope f cdv A outer s H (fun _ _ _ => False) (a, oe)
 have I0 : Inv Xh [] (L2.start N [.ref a]) H s1 := L2H.inv_startH S hpin e0 rfl (.cons rfl .nil) ic
 obtain ⟨t, ht, hT⟩ := fld_pss (X := Xh) (dd := dd) (fs := fs) (cz := cz) (i := 0) ⟨G.T, z, d⟩ (List.mem_singleton.mpr rfl) G.code hx0 hv hd hcl G.fld hB
 have hs0 : (L2.start N [V.ref a])[0]? = some (some (V.ref a)) := rfl
 refine wpAny_mono (ht.run [] s1 _ H { nx := fun _ _ => False, rt := Q } I0 (hT _ _ { nx := fun _ _ => False, rt := Q } v ⟨hs0, hdd⟩ hcz hfv hq)) (fun fl s' hs => ?_) fun e s' hs => hs
 cases fl with
 | ret u =>
  obtain ⟨v', σ', H', J, rv, q⟩ := hs
  exact ⟨v', H', J.os, J.bare, J.base, J.hok, rv, q⟩
 | next =>
  obtain ⟨_, _, _, q⟩ := hs
  exact q.elim
 | brk =>
  obtain ⟨_, _, _, q⟩ := hs
  exact False.elim q
 | cont =>
  obtain ⟨_, _, _, q⟩ := hs
  exact False.elim q
section
variable {X : Cx} {a C dd f : Addr} {oe : Obj} {x y : Str} {p1 p2 pos : Pos} {cl : List (List Str × Str)} {i : Nat}
def tFld (a dd : Addr) (cl : List (List Str × Str)) (i : Nat) : TE := fun σ H Q => σ[i]? = some (some (.ref a)) ∧ ∃ fs cz v, H dd = some (.xd fs) ∧ fs.lookup ("code" : Str) = some (V.str cz) ∧ fldOf cl cz fs = some v ∧ ∀ H', (∀ b o, H b = some o → H' b = some o) → Q v H'
theorem pe_fld (F : FnR X.prog X.w X.K X.mg X.base f cl) (hr : X.A.depth < recursionLimit) (hp : (a, oe) ∈ X.pn) (G : CauC X.K C cl) (z : Zc (.ref C) (some dd) oe) (d : ∃ vs, oe.data = .fields vs) (hg : Gl X x) (hm : X.mg x = some (.ref f)) (hk : PySem.W.keepIn X.K (.ref f) = true) (hdb : (x == ("__debug__" : Str)) = false)
  (hN : X.N[i]? = some y) (hv : Vis X.env.scope y) (hd : (y == ("__debug__" : Str)) = false) (hcd : (y == ("__classdict__" : Str)) = false) : PE X (.Call (.Name x p1) [.Name y p2] [] pos) (tFld a dd cl i) := by
 refine ⟨fun pins s σ H Q I h => ?_⟩
 obtain ⟨h0, fs, cz, v, h1, h2, h3, h4⟩ := h
 refine wpAny_Call_Name_kw (ld_glob I hg hm ?_ hdb)
 refine PySem.W.callWith_K (h₀ := X.base) I.ok.mod.kin hk (thn ((pa_cons (pe_var (pos := p2) hN hv hd hcd) pa_nil rfl).run pos pins s σ H (fun vs H1 => vs = [V.ref a] ∧ H1 = H) I ⟨_, h0, rfl, rfl⟩) fun us s1 ⟨vs, H1, I1, r, e1, e2⟩ => ⟨I1.kIn, ?_⟩)
 subst e1 e2
 cases r with
 | @cons _ u _ ur ra rr =>
  obtain rfl : u = Value.ref a := ra
  cases rr
  have P1 := I1.pin (a, oe) (List.mem_append_left _ hp)
  have hpin : L2H.PinOk X.stack H1 s1 (a, oe) := ⟨P1.1, P1.2.1, fun hm => (List.mem_cons.mp (I1.stkSub _ hm)).elim P1.2.2.1 P1.2.2.2.1, P1.2.2.2.2⟩
  refine wpAny_call (codeAny_mono (F X.A X.stack s1 H1 a C dd oe fs cz v Q hr hpin I1.env0 G z d h1 h2 h3 h4) fun r s' hq => ?_)
  cases r with
  | error e => exact (show False from hq).elim
  | ok fl =>
   cases fl with
   | ret u => exact I1.after hq
   | next => exact False.elim hq
   | brk => exact False.elim hq
   | cont => exact False.elim hq
end
end Ev
namespace Ev
open PySem PySem.Spec PyProof.Rows L2 Calls
def offN (i : Nat) (D : Ends) : Ends := { nx := fun σ H => D.nx (σ.set i none) H, rt := D.rt, bk := fun σ H => D.bk (σ.set i none) H, ct := fun σ H => D.ct (σ.set i none) H }
def w1 (K : PySem.W.Frag) (c : Value) (i m : Nat) (ts : Addr → Value → Option Addr → TS) (D : Ends) : WX := fun cls d σ H =>
 PySem.W.exmOne K cls c = some true ∧ (σ.length = m → ∀ a, H a = none → ts a cls d (offN i D) (σ.set i (some (.ref a))) H)
section
variable {X : Cx} {x n : Str} {c : Value} {i : Nat} {body suite : List Stmt} {b₀ : Stmt} {np pos pos' : Pos} {tb : WX → TS} {ts : Addr → Value → Option Addr → TS} {more : List ExceptHandler}
theorem fld_noframe {B : Heap} {l : List Env} {a : Addr} {h : Heap} {o : Obj} {vs : Array Value} (ff : h.FunFrames B l) (e : h.get? a = some o) (dd : o.data = .fields vs) : a ∉ L2.frs l := by
 intro hm
 obtain ⟨_, o', e', hnf⟩ := ff.mem hm
 rw [e] at e'
 cases e'
 exact hnf vs dd
theorem ps_try1 (hs : X.stack = X.env :: X.outer) (hf : X.env.frame = some X.env.locals) (hN : X.N.Nodup) (hi : X.N[i]? = some n) (hln : X.env.kindOf n = some .local) (hc : Names X x c)
  (hb : ∀ (W : WX) (pn : List (Addr × Obj)) (xe : Value → Shared → Prop), Takes (X.tr pn xe) W → PassesOwn (model X.prog X.w) X.A X.env xe → PSs (X.tr pn xe) body (tb W))
  (hsu : ∀ (a : Addr) (oe : Obj) (cls : Value) (d : Option Addr) (pn : List (Addr × Obj)), Zc cls d oe → (∃ vs, oe.data = .fields vs) → PSs (X.suite a ((a, oe) :: pn)) (b₀ :: suite) (ts a cls d)) :
  PS X (.Try body (.ExceptHandler (some (.Name x np)) (some n) (b₀ :: suite) pos' :: more) [] [] pos) (fun D σ H => tb (w1 X.K c i X.N.length ts D) D σ H) := by
 refine ⟨fun pins s σ H D I h => wpAny_Try_except ?_⟩
 have ok := I.ok
 have hfr : X.A.frames = some (X.env :: X.outer) := by rw [ok.frames, hs]
 let xe2 : Value → Shared → Prop := fun e s₁ => wpAny (model X.prog X.w) X.A (noteFrame e X.env) (fun _ s₂ => wpAny (model X.prog X.w) X.A (setFlight e none) (fun _ s₃ =>
  wpAny (model X.prog X.w) X.A (handleBy e X.env (.ExceptHandler (some (.Name x np)) (some n) (b₀ :: suite) pos' :: more)) (SP X pins D) X.xe s₃) X.xe s₂) X.xe s₁
 have tk : Takes (X.tr (X.pn ++ pins) xe2) (w1 X.K c i X.N.length ts D) := by
  intro u s' xx
  obtain ⟨a, B, sI, pins', σ', H', cls, d, rfl, J', nb, up, sky, na, os, ag, hb1, hyes⟩ := xx
  have J : Inv X pins σ' H' sI := J'.ofTry ok
  rw [show (X.tr (X.pn ++ pins) xe2).stack = X.env :: X.outer from hs] at sky
  refine L2.Sky.land Zc.steady hfr hf sky fun h3 fl3 up3 => ?_
  have J3 : Inv X pins σ' H' { s' with heap := h3 } := J.landed nb fl3.1 (up.trans up3) os ag
  obtain ⟨oe3, vs3, he3, hz3, hd3⟩ := fl3.there
  have nfr := fld_noframe fl3.2.2.1 he3 hd3
  have nL : a ≠ X.env.locals := fun z => nfr (List.mem_filterMap.mpr ⟨X.env, List.mem_cons_self, by rw [hf, z]⟩)
  have nF : a ∉ X.fs := fun hm => nfr (by
   obtain ⟨e, he, q⟩ := List.mem_filterMap.mp hm
   exact List.mem_filterMap.mpr ⟨e, List.mem_cons_of_mem _ he, q⟩)
  have S3 := J3.suite he3 hd3 na nL nF
  refine wpAny_handleBy_cons (codeAny_handlers_test ?_) (by intro q; cases q)
  have LT : PySem.W.Looks (model X.prog X.w) h3 (typeOf (.ref a)) cls := fun A Q E s k q => wpAny_typeOf_ref (k _ _ he3) (by rw [hz3.1]; exact q)
  have LM := PySem.W.exm_one (M := model X.prog X.w) J3.kIn LT hb1
  have look : ∀ {Q E : Value → Shared → Prop}, Q c { s' with heap := h3 } → wpAny (model X.prog X.w) (X.A.mark (some (.ref a))) (eval (.Name x np) X.env) Q E { s' with heap := h3 } := by
   intro Q E q
   obtain ⟨hg, hdbg, hm⟩ := hc
   rcases hm with hm | ⟨hm, hv, hnn⟩
   ·exact ld_glob (X := X.suite a ((a, oe3) :: (X.pn ++ pins))) S3 hg hm q hdbg
   ·exact ld_blt (X := X.suite a ((a, oe3) :: (X.pn ++ pins))) S3 hg hm hv q hnn hdbg
  refine look (LM.here (codeAny_handlers_suite_as (HandSPX.lands_againZ fl3 fun h4 fl4 up4 => ?_)))
  have J4 : Inv X pins σ' H' { s' with heap := h4 } := J.landed nb fl4.1 ((up.trans up3).trans up4) os ag
  obtain ⟨oe4, vs4, he4, hz4, hd4⟩ := fl4.there
  have S4 := J4.suite he4 hd4 na nL nF
  refine store_ok (X := X.suite a ((a, oe4) :: (X.pn ++ pins))) (v := .ref a) S4 hN hi (.inl hln) rfl (fun s5 S5 => ?_) (.inr hln)
  refine wpAny_mono ((hsu a oe4 cls d (X.pn ++ pins) hz4 ⟨_, hd4⟩).run [] s5 _ H' (offN i D) S5 (hyes J.len a na)) (fun f s6 hsp => ?_) (fun _ _ z => False.elim z)
  cases f with
  | next =>
   obtain ⟨σ6, H6, S6, q6⟩ := hsp
   exact gone_ok (S6.unsuite ok) hN hi hln fun s7 J7 => ⟨_, _, J7, q6⟩
  | brk =>
   obtain ⟨σ6, H6, S6, q6⟩ := hsp
   exact gone_ok (S6.unsuite ok) hN hi hln fun s7 J7 => ⟨_, _, J7, q6⟩
  | cont =>
   obtain ⟨σ6, H6, S6, q6⟩ := hsp
   exact gone_ok (S6.unsuite ok) hN hi hln fun s7 J7 => ⟨_, _, J7, q6⟩
  | ret u =>
   obtain ⟨v6, σ6, H6, S6, r6, q6⟩ := hsp
   exact gone_ok (S6.unsuite ok) hN hi hln fun s7 J7 => ⟨_, _, _, J7, r6, q6⟩
 refine wpAny_mono ((hb _ (X.pn ++ pins) xe2 tk PassesOwn.looking).run [] s σ H D (I.toTry _) h) (fun f s1 hsp => ?_) (fun e s1 he => he)
 cases f with
 | next =>
  obtain ⟨σ', H', J', q⟩ := hsp
  exact wpAny_execs_nil ⟨σ', H', J'.ofTry ok, q⟩
 | brk =>
  obtain ⟨σ', H', J', q⟩ := hsp
  exact ⟨σ', H', J'.ofTry ok, q⟩
 | cont =>
  obtain ⟨σ', H', J', q⟩ := hsp
  exact ⟨σ', H', J'.ofTry ok, q⟩
 | ret u =>
  obtain ⟨v, σ', H', J', r, q⟩ := hsp
  exact ⟨v, σ', H', J'.ofTry ok, r, q⟩
end
end Ev
namespace Ev
open PySem PySem.Spec PyProof.Rows L2 Calls
def refB (ask told e cP fx : Str) : List Stmt → Bool
 | [.Assign [.Name t1 _] (.Tuple [.Constant (.str z) _ _, .Constant .none _ _] _ _) _,
   .Try [.Expr (.Call (.Name a1 _) [] [] _) _] (.ExceptHandler (some (.Name c1 _)) (some e1) [.Assign [.Name t2 _] (.Tuple [.Attribute (.Name e2 _) n _, .Call (.Name f1 _) [.Name e3 _] [] _] _ _) _] _ :: _) [] [] _,
   .Return (some (.Name t3 _)) _] =>
  decide (t1 = told) && decide (z = ("" : Str)) && decide (a1 = ask) && decide (c1 = cP) && decide (e1 = e) && decide (t2 = told) && decide (e2 = e) && decide (n = ("code" : Str)) && decide (f1 = fx) && decide (e3 = e) && decide (t3 = told)
 | _ => false
def refB2 (ask told e cP f : Str) : List Stmt → Bool
 | [.Assign [.Name t1 _] (.Tuple [.Constant (.str z) _ _, .Constant .none _ _] _ _) _,
   .Try [.Expr (.Call (.Name a1 _) [] [] _) _] (.ExceptHandler (some (.Name c1 _)) (some e1) [.Assign [.Name t2 _] (.Tuple [.Attribute (.Name e2 _) n _, .Attribute (.Name e3 _) n2 _] _ _) _] _ :: _) [] [] _,
   .Return (some (.Name t3 _)) _] =>
  decide (t1 = told) && decide (z = ("" : Str)) && decide (a1 = ask) && decide (c1 = cP) && decide (e1 = e) && decide (t2 = told) && decide (e2 = e) && decide (n = ("code" : Str)) && decide (n2 = f) && decide (e3 = e) && decide (t3 = told)
 | _ => false
def okC (rk : Bool) (cl : List (List Str × Str)) (cz : Str) : Prop := rk = true → ∃ q ∈ cl, cz ∈ q.1
def TRef (K : PySem.W.Frag) (CP : Addr) (cl : List (List Str × Str)) (ok : Str → Prop) : (XK → Hp → VK → Prop) → Hp → VK → Prop := fun tl H Q => ∀ (p0 : Addr) (o0 : Obj), o0.dict = none → H p0 = none → tl (fun cls d H' => PySem.W.exmOne K cls (.ref CP) = some true ∧ ∃ C dd fs cz v, cls = .ref C ∧ d = some dd ∧ CauC K C cl ∧ H' dd = some (.xd fs) ∧
  fs.lookup ("code" : Str) = some (V.str cz) ∧ ok cz ∧ fldOf cl cz fs = some v ∧ ∀ H2, (∀ b o, H' b = some o → H2 b = some o) → ∀ (p : Addr) (o : Obj), o.dict = none → H2 p = none → Q (.ref p) (upd H2 p (.frz o (.tup [V.str cz, v]))))
 (upd H p0 (.frz o0 (.tup [V.str ("" : Str), .non]))) (fun _ H' => ∃ v, (some (some (V.ref p0)) : Option (Option V)) = some (some v) ∧ Q v H')
section
variable {ok : Str → Prop} {X : Cx} {CP ff g : Addr} {x q ask told e cP fx : Str} {sg : Scope} {cdg : Value} {bg : List Stmt} {cl : List (List Str × Str)}
def tsRef (K : PySem.W.Frag) (cl : List (List Str × Str)) (a : Addr) (cls : Value) (d : Option Addr) : TS := fun D σ H => ∃ C dd fs cz v, cls = .ref C ∧ d = some dd ∧ CauC K C cl ∧ σ[2]? = some (some (.ref a)) ∧ H dd = some (.xd fs) ∧ fs.lookup ("code" : Str) = some (V.str cz) ∧ fldOf cl cz fs = some v ∧
 ∀ H2, (∀ b o, H b = some o → H2 b = some o) → ∀ (p : Addr) (o : Obj), o.dict = none → H2 p = none → D.nx (σ.set 1 (some (.ref p))) (upd H2 p (.frz o (.tup [V.str cz, v])))
theorem ref_suite {Z : Cx} {a : Addr} {oe : Obj} {cls : Value} {d : Option Addr} {pn : List (Addr × Obj)} {py p1 p2 p3 p4 p5 p6 p7 : Pos} {k2 : Nat} (hZN : Z.N = [ask, told, e]) (nd : [ask, told, e].Nodup) (F : FnR Z.prog Z.w Z.K Z.mg Z.base ff cl) (hr : Z.A.depth < recursionLimit) (hfx : Gl Z fx) (hmf : Z.mg fx = some (.ref ff)) (hkf : PySem.W.keepIn Z.K (.ref ff) = true)
  (ht : Z.env.scope.names.lookup told = some .local) (he : Z.env.scope.names.lookup e = some .local) (n1 : (fx == ("__debug__" : Str)) = false) (n2 : (e == ("__debug__" : Str)) = false) (n3 : (e == ("__classdict__" : Str)) = false) (hdep : ∀ v, (Z.A.mark v).depth = Z.A.depth)
  (hz : Zc cls d oe) (hd : ∃ vs, oe.data = .fields vs) :
  PSs (Z.suite a ((a, oe) :: pn)) [.Assign [.Name told py] (.Tuple [.Attribute (.Name e p1) ("code" : Str) p2, .Call (.Name fx p3) [.Name e p4] [] p5] k2 p6) p7] (tsRef Z.K cl a cls d) := by
 refine ⟨fun pins s σ H D I h => ?_⟩
 obtain ⟨C, dd, fs, cz, v, e1, e2, G, h2, hdd, hcz, hfv, hq⟩ := h
 subst e1 e2
 have hp : (a, oe) ∈ (Z.suite a ((a, oe) :: pn)).pn := List.mem_cons_self
 have hN2 : (Z.suite a ((a, oe) :: pn)).N[2]? = some e := by show Z.N[2]? = _; rw [hZN]; rfl
 have hN1 : (Z.suite a ((a, oe) :: pn)).N[1]? = some told := by show Z.N[1]? = _; rw [hZN]; rfl
 have hA := pe_xp (X := Z.suite a ((a, oe) :: pn)) (pos := p2) (n := ("code" : Str)) (dd := dd) (oe := oe) ⟨G.T, hz, hd⟩ hp G.code (pe_var (pos := p1) hN2 (.inl he) n2 n3) (abase_name ⟨_, _, rfl⟩)
 have hB := pe_fld (X := Z.suite a ((a, oe) :: pn)) (p1 := p3) (p2 := p4) (pos := p5) (dd := dd) F (by show (Z.A.mark _).depth < _; rw [hdep]; omega) hp G hz hd hfx hmf hkf n1 hN2 (.inl he) n2 n3
 have hT := pss_one (ps_set (X := Z.suite a ((a, oe) :: pn)) (pos := p7) (pos' := py) (by show Z.N.Nodup; rw [hZN]; exact nd) hN1 (.inl ht) (pe_tupC (k := k2) (pos := p6) (pa_cons hA (pa_cons hB pa_nil rfl) rfl)) rfl (.inr ht))
 refine hT.run pins s σ H D I ?_
 refine ⟨.ref a, h2, rfl, fs, _, hdd, hcz, h2, fs, cz, v, hdd, hcz, hfv, fun H2 kp => ⟨by rw [sizeLine_eq]; simp, fun p o ho hpn => ?_⟩⟩
 exact hq H2 kp p o ho hpn
theorem ref_gives (hN : [ask, told, e].Nodup) (F : FnR X.prog X.w X.K X.mg X.base ff cl) (hr : X.A.depth + 1 < recursionLimit) (hdep : ∀ (A : Around) v, (A.mark v).depth = A.depth) (hfx : sg.names.lookup fx = some .globalImplicit) (hmf : X.mg fx = some (.ref ff)) (hkf : PySem.W.keepIn X.K (.ref ff) = true)
   (ht : sg.names.lookup told = some .local) (he : sg.names.lookup e = some .local) (hcP : sg.names.lookup cP = some .globalImplicit) (hmP : X.mg cP = some (.ref CP)) (n0 : (cP == ("__debug__" : Str)) = false) (n1 : (fx == ("__debug__" : Str)) = false) (n2 : (e == ("__debug__" : Str)) = false) (n3 : (e == ("__classdict__" : Str)) = false)
   (n4 : (told == ("__debug__" : Str)) = false) (n5 : (told == ("__classdict__" : Str)) = false) (hB : refB ask told e cP fx bg = true) : LamX.GivesTo X [ask, told, e] x sg g cdg bg ask q (TRef X.K CP cl ok) := by
 intro f c' s H Q tl act hc h
 unfold refB at hB
 split at hB
 · rename_i t1 py1 z kz pz kn pn1 kt pt pa a1 pa1 pc1 pe1 c1 pc e1 t2 py2 e2 pe2 n pn2 f1 pf1 e3 pe3 pcl kt2 pt2 pas ph more ptry t3 pt3 prt
   simp only [Bool.and_eq_true, decide_eq_true_eq] at hB
   obtain ⟨⟨⟨⟨⟨⟨⟨⟨⟨⟨b1, b2⟩, b3⟩, b4⟩, b5⟩, b6⟩, b7⟩, b8⟩, b9⟩, b10⟩, b11⟩ := hB
   replace b1 := b1.symm
   subst b1
   replace b2 := b2.symm
   subst b2
   replace b3 := b3.symm
   subst b3
   replace b4 := b4.symm
   subst b4
   replace b5 := b5.symm
   subst b5
   replace b6 := b6.symm
   subst b6
   replace b7 := b7.symm
   subst b7
   replace b8 := b8.symm
   subst b8
   replace b9 := b9.symm
   subst b9
   replace b10 := b10.symm
   subst b10
   replace b11 := b11.symm
   subst b11
   generalize hZ : (cxOf C8.CX0 X.prog X.w X.K X.mg X.base [ask, told, e] x sg g cdg X.A X.stack s H C8.E0).nox = Z
   have zN : Z.N = [ask, told, e] := by rw [← hZ] <;> rfl
   have zsc : Z.env.scope.names = sg.names := by rw [← hZ] <;> rfl
   have zA : Z.A.depth = X.A.depth + 1 := by rw [← hZ] <;> rfl
   have hst : Z.stack = Z.env :: Z.outer := by rw [← hZ] <;> rfl
   have hfr : Z.env.frame = some Z.env.locals := by rw [← hZ] <;> rfl
   have hfn : ∀ y, Z.fn y = true := fun y => by rw [← hZ] <;> rfl
   have F' : FnR Z.prog Z.w Z.K Z.mg Z.base ff cl := by rw [← hZ]; exact F
   have mf' : Z.mg fx = some (.ref ff) := by rw [← hZ]; exact hmf
   have kf' : PySem.W.keepIn Z.K (.ref ff) = true := by rw [← hZ]; exact hkf
   have mP' : Z.mg cP = some (.ref CP) := by rw [← hZ]; exact hmP
   have hK : Z.K = X.K := by rw [← hZ] <;> rfl
   have gf : Gl Z fx := by show Z.env.scope.names.lookup fx = _; rw [zsc]; exact hfx
   have gP : Gl Z cP := by show Z.env.scope.names.lookup cP = _; rw [zsc]; exact hcP
   have ht' : Z.env.scope.names.lookup told = some .local := by rw [zsc]; exact ht
   have he' : Z.env.scope.names.lookup e = some .local := by rw [zsc]; exact he
   have nd' : Z.N.Nodup := by rw [zN]; exact hN
   have i1 : Z.N[1]? = some told := by rw [zN]; rfl
   have i2 : Z.N[2]? = some e := by rw [zN]; rfl
   let tb : WX → TS := fun W D σ HH => ∃ Ech : XK, (∀ cls d σ' H', Ech cls d H' → W cls d σ' H') ∧ σ[0]? = some (some (.ref f)) ∧ HH c' = some (LamX.CodeO c' q) ∧ tl Ech HH fun _ H' => D.nx σ H'
   have hbody : ∀ (W : WX) (pn : List (Addr × Obj)) (xe : Value → Shared → Prop), Takes (Z.tr pn xe) W → PassesOwn (model Z.prog Z.w) Z.A Z.env xe → PSs (Z.tr pn xe) [.Expr (.Call (.Name ask pa1) [] [] pc1) pe1] (tb W) := fun W pn xe tk _ => by
     refine ⟨fun pins s' σ H' D I h' => ?_⟩
     obtain ⟨Ech, hW, h1, h2, h3⟩ := h'
     have tk' : Takes ((cxOf C8.CX0 X.prog X.w X.K X.mg X.base [ask, told, e] x sg g cdg X.A X.stack s H C8.E0).tr pn xe) W := by
       rw [← hZ] at tk; exact tk
     have hp := pss_one (ps_expr (pos := pe1) (act W pn xe Ech pa1 pc1 tk' hW) rfl)
     have I' : Inv ((cxOf C8.CX0 X.prog X.w X.K X.mg X.base [ask, told, e] x sg g cdg X.A X.stack s H C8.E0).tr pn xe) pins σ H' s' := by
       rw [← hZ] at I; exact I
     have r := hp.run pins s' σ H' D I' ⟨h1, h2, h3⟩
     rw [← hZ]
     exact r
   have hT := pss_cons (ps_set (X := Z) (pos := pa) (pos' := py1) nd' i1 (.inl ht') (pe_tupC (k := kt) (pos := pt) (pa_cons (pe_str (x := ("" : Str)) (j := kz) (pos := pz)) (pa_cons (pe_non (j := kn) (pos := pn1)) pa_nil rfl) rfl)) rfl (.inr ht'))
     (pss_cons (ps_try1 (X := Z) (np := pc) (pos := ptry) (pos' := ph) (more := more) hst hfr nd' i2 he' ⟨gP, n0, .inl mP'⟩ hbody fun a oe cls d pn hz hd => ref_suite (py := py2) (p1 := pe2) (p2 := pn2) (p3 := pf1) (p4 := pe3) (p5 := pcl) (p6 := pt2) (p7 := pas) (k2 := kt2) zN hN F' (by rw [zA]; omega) gf mf' kf' ht' he' n1 n2 n3 (hdep Z.A) hz hd)
       (pss_one (ps_ret (pos := prt) (pe_var (pos := pt3) i1 (.inl ht') n4 n5))))
   refine ⟨_, hT, ?_⟩
   refine ⟨by rw [sizeLine_eq]; simp, fun p0 o0 ho0 hp0 => ?_⟩
   have h := h p0 o0 ho0 hp0
   have h0 : (L2.start [ask, told, e] [V.ref f]) = [some (V.ref f), none, none] := rfl
   rw [h0]
   refine ⟨_, fun cls d σ' H' hE => ?_, rfl, ?_, h⟩
   · obtain ⟨b, C, dd, fs, cz, v, k1, k2, k3, k4, k5, _, k6, k7⟩ := hE
     refine ⟨by rw [hK]; exact b, fun hl a na => ?_⟩
     rw [zN] at hl
     have hl : σ'.length = 3 := hl
     match σ', hl with
     | [x0, x1, x2], _ =>
       refine ⟨C, dd, fs, cz, v, k1, k2, by rw [hK]; exact k3, rfl, k4, k5, k6, fun H2 kp p o ho hpn => ?_⟩
       exact ⟨.ref p, rfl, k7 H2 kp p o ho hpn⟩
   · rw [upd_ne (ne_of_none hc hp0)]; exact hc
 · cases hB
def tsRef2 (K : PySem.W.Frag) (cl : List (List Str × Str)) (f : Str) (a : Addr) (cls : Value) (d : Option Addr) : TS := fun D σ H => ∃ C dd fs cz v, cls = .ref C ∧ d = some dd ∧ CauC K C cl ∧ σ[2]? = some (some (.ref a)) ∧ H dd = some (.xd fs) ∧ fs.lookup ("code" : Str) = some (V.str cz) ∧ fs.lookup f = some v ∧
 ∀ H2, (∀ b o, H b = some o → H2 b = some o) → ∀ (p : Addr) (o : Obj), o.dict = none → H2 p = none → D.nx (σ.set 1 (some (.ref p))) (upd H2 p (.frz o (.tup [V.str cz, v])))
theorem ref_suite2 {Z : Cx} {a : Addr} {oe : Obj} {cls : Value} {d : Option Addr} {pn : List (Addr × Obj)} {py p1 p2 p3 p4 p6 p7 : Pos} {k2 : Nat} (hZN : Z.N = [ask, told, e]) (nd : [ask, told, e].Nodup) (hcl : ∃ q ∈ cl, q.2 = f)
  (ht : Z.env.scope.names.lookup told = some .local) (he : Z.env.scope.names.lookup e = some .local) (n2 : (e == ("__debug__" : Str)) = false) (n3 : (e == ("__classdict__" : Str)) = false)
  (hz : Zc cls d oe) (hd : ∃ vs, oe.data = .fields vs) :
  PSs (Z.suite a ((a, oe) :: pn)) [.Assign [.Name told py] (.Tuple [.Attribute (.Name e p1) ("code" : Str) p2, .Attribute (.Name e p3) f p4] k2 p6) p7] (tsRef2 Z.K cl f a cls d) := by
 refine ⟨fun pins s σ H D I h => ?_⟩
 obtain ⟨C, dd, fs, cz, v, e1, e2, G, h2, hdd, hcz, hfv, hq⟩ := h
 subst e1 e2
 have hp : (a, oe) ∈ (Z.suite a ((a, oe) :: pn)).pn := List.mem_cons_self
 have hN2 : (Z.suite a ((a, oe) :: pn)).N[2]? = some e := by show Z.N[2]? = _; rw [hZN]; rfl
 have hN1 : (Z.suite a ((a, oe) :: pn)).N[1]? = some told := by show Z.N[1]? = _; rw [hZN]; rfl
 have hA := pe_xp (X := Z.suite a ((a, oe) :: pn)) (pos := p2) (n := ("code" : Str)) (dd := dd) (oe := oe) ⟨G.T, hz, hd⟩ hp G.code (pe_var (pos := p1) hN2 (.inl he) n2 n3) (abase_name ⟨_, _, rfl⟩)
 obtain ⟨qf, hq1, hq2⟩ := hcl
 have hB := pe_xp (X := Z.suite a ((a, oe) :: pn)) (pos := p4) (n := f) (dd := dd) (oe := oe) ⟨G.T, hz, hd⟩ hp (by rw [← hq2]; exact G.fld qf hq1) (pe_var (pos := p3) hN2 (.inl he) n2 n3) (abase_name ⟨_, _, rfl⟩)
 have hT := pss_one (ps_set (X := Z.suite a ((a, oe) :: pn)) (pos := p7) (pos' := py) (by show Z.N.Nodup; rw [hZN]; exact nd) hN1 (.inl ht) (pe_tupC (k := k2) (pos := p6) (pa_cons hA (pa_cons hB pa_nil rfl) rfl)) rfl (.inr ht))
 refine hT.run pins s σ H D I ?_
 exact ⟨.ref a, h2, rfl, fs, _, hdd, hcz, .ref a, h2, rfl, fs, _, hdd, hfv, by rw [sizeLine_eq]; simp, fun p o ho hpn => hq H (fun _ _ z => z) p o ho hpn⟩
theorem ref_gives2 {f : Str} (hN : [ask, told, e].Nodup) (hcl : ∃ q ∈ cl, q.2 = f) (hof : ∀ cz fs v, ok cz → fldOf cl cz fs = some v → fs.lookup f = some v)
   (ht : sg.names.lookup told = some .local) (he : sg.names.lookup e = some .local) (hcP : sg.names.lookup cP = some .globalImplicit) (hmP : X.mg cP = some (.ref CP)) (n0 : (cP == ("__debug__" : Str)) = false) (n2 : (e == ("__debug__" : Str)) = false) (n3 : (e == ("__classdict__" : Str)) = false)
   (n4 : (told == ("__debug__" : Str)) = false) (n5 : (told == ("__classdict__" : Str)) = false) (hB : refB2 ask told e cP f bg = true) : LamX.GivesTo X [ask, told, e] x sg g cdg bg ask q (TRef X.K CP cl ok) := by
 intro f0 c' s H Q tl act hc h
 unfold refB2 at hB
 split at hB
 · rename_i t1 py1 z kz pz kn pn1 kt pt pa a1 pa1 pc1 pe1 c1 pc e1 t2 py2 e2 pe2 n pn2 e3 pe3 n2' pe4 kt2 pt2 pas ph more ptry t3 pt3 prt
   simp only [Bool.and_eq_true, decide_eq_true_eq] at hB
   obtain ⟨⟨⟨⟨⟨⟨⟨⟨⟨⟨b1, b2⟩, b3⟩, b4⟩, b5⟩, b6⟩, b7⟩, b8⟩, b9⟩, b10⟩, b11⟩ := hB
   replace b1 := b1.symm
   subst b1
   replace b2 := b2.symm
   subst b2
   replace b3 := b3.symm
   subst b3
   replace b4 := b4.symm
   subst b4
   replace b5 := b5.symm
   subst b5
   replace b6 := b6.symm
   subst b6
   replace b7 := b7.symm
   subst b7
   replace b8 := b8.symm
   subst b8
   replace b9 := b9.symm
   subst b9
   replace b10 := b10.symm
   subst b10
   replace b11 := b11.symm
   subst b11
   generalize hZ : (cxOf C8.CX0 X.prog X.w X.K X.mg X.base [ask, told, e] x sg g cdg X.A X.stack s H C8.E0).nox = Z
   have zN : Z.N = [ask, told, e] := by rw [← hZ] <;> rfl
   have zsc : Z.env.scope.names = sg.names := by rw [← hZ] <;> rfl
   have zA : Z.A.depth = X.A.depth + 1 := by rw [← hZ] <;> rfl
   have hst : Z.stack = Z.env :: Z.outer := by rw [← hZ] <;> rfl
   have hfr : Z.env.frame = some Z.env.locals := by rw [← hZ] <;> rfl
   have hfn : ∀ y, Z.fn y = true := fun y => by rw [← hZ] <;> rfl
   have mP' : Z.mg cP = some (.ref CP) := by rw [← hZ]; exact hmP
   have hK : Z.K = X.K := by rw [← hZ] <;> rfl
   have gP : Gl Z cP := by show Z.env.scope.names.lookup cP = _; rw [zsc]; exact hcP
   have ht' : Z.env.scope.names.lookup told = some .local := by rw [zsc]; exact ht
   have he' : Z.env.scope.names.lookup e = some .local := by rw [zsc]; exact he
   have nd' : Z.N.Nodup := by rw [zN]; exact hN
   have i1 : Z.N[1]? = some told := by rw [zN]; rfl
   have i2 : Z.N[2]? = some e := by rw [zN]; rfl
   let tb : WX → TS := fun W D σ HH => ∃ Ech : XK, (∀ cls d σ' H', Ech cls d H' → W cls d σ' H') ∧ σ[0]? = some (some (.ref f0)) ∧ HH c' = some (LamX.CodeO c' q) ∧ tl Ech HH fun _ H' => D.nx σ H'
   have hbody : ∀ (W : WX) (pn : List (Addr × Obj)) (xe : Value → Shared → Prop), Takes (Z.tr pn xe) W → PassesOwn (model Z.prog Z.w) Z.A Z.env xe → PSs (Z.tr pn xe) [.Expr (.Call (.Name ask pa1) [] [] pc1) pe1] (tb W) := fun W pn xe tk _ => by
     refine ⟨fun pins s' σ H' D I h' => ?_⟩
     obtain ⟨Ech, hW, h1, h2, h3⟩ := h'
     have tk' : Takes ((cxOf C8.CX0 X.prog X.w X.K X.mg X.base [ask, told, e] x sg g cdg X.A X.stack s H C8.E0).tr pn xe) W := by
       rw [← hZ] at tk; exact tk
     have hp := pss_one (ps_expr (pos := pe1) (act W pn xe Ech pa1 pc1 tk' hW) rfl)
     have I' : Inv ((cxOf C8.CX0 X.prog X.w X.K X.mg X.base [ask, told, e] x sg g cdg X.A X.stack s H C8.E0).tr pn xe) pins σ H' s' := by
       rw [← hZ] at I; exact I
     have r := hp.run pins s' σ H' D I' ⟨h1, h2, h3⟩
     rw [← hZ]
     exact r
   have hT := pss_cons (ps_set (X := Z) (pos := pa) (pos' := py1) nd' i1 (.inl ht') (pe_tupC (k := kt) (pos := pt) (pa_cons (pe_str (x := ("" : Str)) (j := kz) (pos := pz)) (pa_cons (pe_non (j := kn) (pos := pn1)) pa_nil rfl) rfl)) rfl (.inr ht'))
     (pss_cons (ps_try1 (X := Z) (np := pc) (pos := ptry) (pos' := ph) (more := more) hst hfr nd' i2 he' ⟨gP, n0, .inl mP'⟩ hbody fun a oe cls d pn hz hd => ref_suite2 (py := py2) (p1 := pe2) (p2 := pn2) (p3 := pe3) (p4 := pe4) (p6 := pt2) (p7 := pas) (k2 := kt2) zN hN hcl ht' he' n2 n3 hz hd)
       (pss_one (ps_ret (pos := prt) (pe_var (pos := pt3) i1 (.inl ht') n4 n5))))
   refine ⟨_, hT, ?_⟩
   refine ⟨by rw [sizeLine_eq]; simp, fun p0 o0 ho0 hp0 => ?_⟩
   have h := h p0 o0 ho0 hp0
   have h0 : (L2.start [ask, told, e] [V.ref f0]) = [some (V.ref f0), none, none] := rfl
   rw [h0]
   refine ⟨_, fun cls d σ' H' hE => ?_, rfl, ?_, h⟩
   · obtain ⟨b, C, dd, fs, cz, v, k1, k2, k3, k4, k5, ko, k6, k7⟩ := hE
     refine ⟨by rw [hK]; exact b, fun hl a na => ?_⟩
     rw [zN] at hl
     have hl : σ'.length = 3 := hl
     match σ', hl with
     | [x0, x1, x2], _ =>
       refine ⟨C, dd, fs, cz, v, k1, k2, by rw [hK]; exact k3, rfl, k4, k5, hof _ _ _ ko k6, fun H2 kp p o ho hpn => ?_⟩
       exact ⟨.ref p, rfl, k7 H2 kp p o ho hpn⟩
   · rw [upd_ne (ne_of_none hc hp0)]; exact hc
 · cases hB
end
end Ev
namespace Ev
open PySem PySem.Spec PyProof.Rows L2 Calls
def refB3 (ask told e cP : Str) : List Stmt → Bool
 | [.Assign [.Name t1 _] (.Constant (.str z) _ _) _,
   .Try [.Expr (.Call (.Name a1 _) [] [] _) _] (.ExceptHandler (some (.Name c1 _)) (some e1) [.Assign [.Name t2 _] (.Attribute (.Name e2 _) n _) _] _ :: _) [] [] _,
   .Return (some (.Name t3 _)) _] =>
  decide (t1 = told) && decide (z = ("" : Str)) && decide (a1 = ask) && decide (c1 = cP) && decide (e1 = e) && decide (t2 = told) && decide (e2 = e) && decide (n = ("code" : Str)) && decide (t3 = told)
 | _ => false
def TCod (K : PySem.W.Frag) (CP : Addr) (cl : List (List Str × Str)) : (XK → Hp → VK → Prop) → Hp → VK → Prop := fun tl H Q => tl (fun cls d H' => PySem.W.exmOne K cls (.ref CP) = some true ∧ ∃ C dd fs cz, cls = .ref C ∧ d = some dd ∧ CauC K C cl ∧ H' dd = some (.xd fs) ∧
  fs.lookup ("code" : Str) = some (V.str cz) ∧ Q (V.str cz) H') H (fun _ H' => ∃ v, (some (some (V.str ("" : Str))) : Option (Option V)) = some (some v) ∧ Q v H')
section
variable {ok : Str → Prop} {X : Cx} {CP ff g : Addr} {x q ask told e cP fx : Str} {sg : Scope} {cdg : Value} {bg : List Stmt} {cl : List (List Str × Str)}
def tsRef3 (K : PySem.W.Frag) (cl : List (List Str × Str)) (a : Addr) (cls : Value) (d : Option Addr) : TS := fun D σ H => ∃ C dd fs cz, cls = .ref C ∧ d = some dd ∧ CauC K C cl ∧ σ[2]? = some (some (.ref a)) ∧ H dd = some (.xd fs) ∧ fs.lookup ("code" : Str) = some (V.str cz) ∧ D.nx (σ.set 1 (some (V.str cz))) H
theorem ref_suite3 {Z : Cx} {a : Addr} {oe : Obj} {cls : Value} {d : Option Addr} {pn : List (Addr × Obj)} {py p1 p2 p7 : Pos} (hZN : Z.N = [ask, told, e]) (nd : [ask, told, e].Nodup)
  (ht : Z.env.scope.names.lookup told = some .local) (he : Z.env.scope.names.lookup e = some .local) (n2 : (e == ("__debug__" : Str)) = false) (n3 : (e == ("__classdict__" : Str)) = false)
  (hz : Zc cls d oe) (hd : ∃ vs, oe.data = .fields vs) :
  PSs (Z.suite a ((a, oe) :: pn)) [.Assign [.Name told py] (.Attribute (.Name e p1) ("code" : Str) p2) p7] (tsRef3 Z.K cl a cls d) := by
 refine ⟨fun pins s σ H D I h => ?_⟩
 obtain ⟨C, dd, fs, cz, e1, e2, G, h2, hdd, hcz, hq⟩ := h
 subst e1 e2
 have hp : (a, oe) ∈ (Z.suite a ((a, oe) :: pn)).pn := List.mem_cons_self
 have hN2 : (Z.suite a ((a, oe) :: pn)).N[2]? = some e := by show Z.N[2]? = _; rw [hZN]; rfl
 have hN1 : (Z.suite a ((a, oe) :: pn)).N[1]? = some told := by show Z.N[1]? = _; rw [hZN]; rfl
 have hA := pe_xp (X := Z.suite a ((a, oe) :: pn)) (pos := p2) (n := ("code" : Str)) (dd := dd) (oe := oe) ⟨G.T, hz, hd⟩ hp G.code (pe_var (pos := p1) hN2 (.inl he) n2 n3) (abase_name ⟨_, _, rfl⟩)
 have hT := pss_one (ps_set (X := Z.suite a ((a, oe) :: pn)) (pos := p7) (pos' := py) (by show Z.N.Nodup; rw [hZN]; exact nd) hN1 (.inl ht) hA rfl (.inr ht))
 refine hT.run pins s σ H D I ?_
 exact ⟨.ref a, h2, rfl, fs, _, hdd, hcz, hq⟩
theorem ref_gives3 (hN : [ask, told, e].Nodup)
   (ht : sg.names.lookup told = some .local) (he : sg.names.lookup e = some .local) (hcP : sg.names.lookup cP = some .globalImplicit) (hmP : X.mg cP = some (.ref CP)) (n0 : (cP == ("__debug__" : Str)) = false) (n2 : (e == ("__debug__" : Str)) = false) (n3 : (e == ("__classdict__" : Str)) = false)
   (n4 : (told == ("__debug__" : Str)) = false) (n5 : (told == ("__classdict__" : Str)) = false) (hB : refB3 ask told e cP bg = true) : LamX.GivesTo X [ask, told, e] x sg g cdg bg ask q (TCod X.K CP cl) := by
 intro f0 c' s H Q tl act hc h
 unfold refB3 at hB
 split at hB
 · rename_i t1 py1 z kz pz pa a1 pa1 pc1 pe1 c1 pc e1 t2 py2 e2 pe2 n pn2 pas ph more ptry t3 pt3 prt
   simp only [Bool.and_eq_true, decide_eq_true_eq] at hB
   obtain ⟨⟨⟨⟨⟨⟨⟨⟨b1, b2⟩, b3⟩, b4⟩, b5⟩, b6⟩, b7⟩, b8⟩, b9⟩ := hB
   replace b1 := b1.symm
   subst b1
   replace b2 := b2.symm
   subst b2
   replace b3 := b3.symm
   subst b3
   replace b4 := b4.symm
   subst b4
   replace b5 := b5.symm
   subst b5
   replace b6 := b6.symm
   subst b6
   replace b7 := b7.symm
   subst b7
   replace b8 := b8.symm
   subst b8
   replace b9 := b9.symm
   subst b9
   generalize hZ : (cxOf C8.CX0 X.prog X.w X.K X.mg X.base [ask, told, e] x sg g cdg X.A X.stack s H C8.E0).nox = Z
   have zN : Z.N = [ask, told, e] := by rw [← hZ] <;> rfl
   have zsc : Z.env.scope.names = sg.names := by rw [← hZ] <;> rfl
   have zA : Z.A.depth = X.A.depth + 1 := by rw [← hZ] <;> rfl
   have hst : Z.stack = Z.env :: Z.outer := by rw [← hZ] <;> rfl
   have hfr : Z.env.frame = some Z.env.locals := by rw [← hZ] <;> rfl
   have hfn : ∀ y, Z.fn y = true := fun y => by rw [← hZ] <;> rfl
   have mP' : Z.mg cP = some (.ref CP) := by rw [← hZ]; exact hmP
   have hK : Z.K = X.K := by rw [← hZ] <;> rfl
   have gP : Gl Z cP := by show Z.env.scope.names.lookup cP = _; rw [zsc]; exact hcP
   have ht' : Z.env.scope.names.lookup told = some .local := by rw [zsc]; exact ht
   have he' : Z.env.scope.names.lookup e = some .local := by rw [zsc]; exact he
   have nd' : Z.N.Nodup := by rw [zN]; exact hN
   have i1 : Z.N[1]? = some told := by rw [zN]; rfl
   have i2 : Z.N[2]? = some e := by rw [zN]; rfl
   let tb : WX → TS := fun W D σ HH => ∃ Ech : XK, (∀ cls d σ' H', Ech cls d H' → W cls d σ' H') ∧ σ[0]? = some (some (.ref f0)) ∧ HH c' = some (LamX.CodeO c' q) ∧ tl Ech HH fun _ H' => D.nx σ H'
   have hbody : ∀ (W : WX) (pn : List (Addr × Obj)) (xe : Value → Shared → Prop), Takes (Z.tr pn xe) W → PassesOwn (model Z.prog Z.w) Z.A Z.env xe → PSs (Z.tr pn xe) [.Expr (.Call (.Name ask pa1) [] [] pc1) pe1] (tb W) := fun W pn xe tk _ => by
     refine ⟨fun pins s' σ H' D I h' => ?_⟩
     obtain ⟨Ech, hW, h1, h2, h3⟩ := h'
     have tk' : Takes ((cxOf C8.CX0 X.prog X.w X.K X.mg X.base [ask, told, e] x sg g cdg X.A X.stack s H C8.E0).tr pn xe) W := by
       rw [← hZ] at tk; exact tk
     have hp := pss_one (ps_expr (pos := pe1) (act W pn xe Ech pa1 pc1 tk' hW) rfl)
     have I' : Inv ((cxOf C8.CX0 X.prog X.w X.K X.mg X.base [ask, told, e] x sg g cdg X.A X.stack s H C8.E0).tr pn xe) pins σ H' s' := by
       rw [← hZ] at I; exact I
     have r := hp.run pins s' σ H' D I' ⟨h1, h2, h3⟩
     rw [← hZ]
     exact r
   have hT := pss_cons (ps_set (X := Z) (pos := pa) (pos' := py1) nd' i1 (.inl ht') (pe_str (x := ("" : Str)) (j := kz) (pos := pz)) rfl (.inr ht'))
     (pss_cons (ps_try1 (X := Z) (np := pc) (pos := ptry) (pos' := ph) (more := more) hst hfr nd' i2 he' ⟨gP, n0, .inl mP'⟩ hbody fun a oe cls d pn hz hd => ref_suite3 (cl := cl) (py := py2) (p1 := pe2) (p2 := pn2) (p7 := pas) zN hN ht' he' n2 n3 hz hd)
       (pss_one (ps_ret (pos := prt) (pe_var (pos := pt3) i1 (.inl ht') n4 n5))))
   refine ⟨_, hT, ?_⟩
   have h0 : (L2.start [ask, told, e] [V.ref f0]) = [some (V.ref f0), none, none] := rfl
   rw [h0]
   refine ⟨_, fun cls d σ' H' hE => ?_, rfl, hc, h⟩
   obtain ⟨b, C, dd, fs, cz, k1, k2, k3, k4, k5, k7⟩ := hE
   refine ⟨by rw [hK]; exact b, fun hl a na => ?_⟩
   rw [zN] at hl
   have hl : σ'.length = 3 := hl
   match σ', hl with
   | [x0, x1, x2], _ => exact ⟨C, dd, fs, cz, k1, k2, by rw [hK]; exact k3, rfl, k4, k5, _, rfl, k7⟩
 · cases hB
end
def TRefG (rc : Bool) (K : PySem.W.Frag) (CP : Addr) (cl : List (List Str × Str)) (ok : Str → Prop) : (XK → Hp → VK → Prop) → Hp → VK → Prop := match rc with
 | true => TCod K CP cl
 | false => TRef K CP cl ok
end Ev
namespace Ev
open PySem PySem.Spec PyProof.Rows L2 Calls
def wAs (K : PySem.W.Frag) (Wout : WX) (m : Nat) (D : Ends) : List (Value × Nat × (Addr → Value → Option Addr → TS)) → WX
 | [] => Wout
 | (c, i, ts) :: r => fun cls d σ H => ∃ b, PySem.W.exmOne K cls c = some b ∧ (b = true → σ.length = m → ∀ a, H a = none → ts a cls d (offN i D) (σ.set i (some (.ref a))) H) ∧ (b = false → wAs K Wout m D r cls d σ H)
inductive HdsA (X : Cx) : List ExceptHandler → List (Value × Nat × (Addr → Value → Option Addr → TS)) → Prop
 | nil : HdsA X [] []
 | cons {x n : Str} {i : Nat} {c : Value} {ts : Addr → Value → Option Addr → TS} {b₀ : Stmt} {suite : List Stmt} {np pos' : Pos} {hds : List ExceptHandler} {l : List (Value × Nat × (Addr → Value → Option Addr → TS))} (hc : Names X x c) (hi : X.N[i]? = some n) (hln : X.env.kindOf n = some .local)
   (hsu : ∀ (a : Addr) (oe : Obj) (cls : Value) (d : Option Addr) (pn : List (Addr × Obj)), Zc cls d oe → (∃ vs, oe.data = .fields vs) → PSs (X.suite a ((a, oe) :: pn)) (b₀ :: suite) (ts a cls d)) (r : HdsA X hds l) :
   HdsA X (.ExceptHandler (some (.Name x np)) (some n) (b₀ :: suite) pos' :: hds) ((c, i, ts) :: l)
section
variable {X : Cx} {body : List Stmt} {h₀ : ExceptHandler} {hds : List ExceptHandler} {l : List (Value × Nat × (Addr → Value → Option Addr → TS))} {pos : Pos} {tb : WX → TS} {Wout : WX}
theorem ps_tryA (hs : X.stack = X.env :: X.outer) (hf : X.env.frame = some X.env.locals) (hN : X.N.Nodup) (tk : Takes X Wout)
  (hb : ∀ (W : WX) (pn : List (Addr × Obj)) (xe : Value → Shared → Prop), Takes (X.tr pn xe) W → PassesOwn (model X.prog X.w) X.A X.env xe → PSs (X.tr pn xe) body (tb W))
  (hh : HdsA X (h₀ :: hds) l) : PS X (.Try body (h₀ :: hds) [] [] pos) (fun D σ H => tb (wAs X.K Wout X.N.length D l) D σ H) := by
 refine ⟨fun pins s σ H D I h => ?_⟩
 have ok := I.ok
 have hfr : X.A.frames = some (X.env :: X.outer) := by rw [ok.frames, hs]
 refine wpAny_Try_except ?_
 refine wpAny_mono ((hb (wAs X.K Wout X.N.length D l) (X.pn ++ pins) (fun e s₁ => wpAny (model X.prog X.w) X.A (noteFrame e X.env) (fun _ s₂ => wpAny (model X.prog X.w) X.A (setFlight e none) (fun _ s₃ =>
  wpAny (model X.prog X.w) X.A (handleBy e X.env (h₀ :: hds)) (SP X pins D) X.xe s₃) X.xe s₂) X.xe s₁) (fun u s' xx => ?_) PassesOwn.looking).run [] s σ H D (I.toTry _) h) (fun f s1 hsp => ?_) (fun e s1 he => he)
 ·
  obtain ⟨a, B, sI, pins', σ', H', cls, d, rfl, J', nb, up, sky, na, os, ag, w⟩ := xx
  have J : Inv X pins σ' H' sI := J'.ofTry ok
  have sky' : Sky B (X.env :: X.outer) a (Zc cls d) X.env.locals s'.heap := by rw [← hs]; exact sky
  show wpAny (model X.prog X.w) X.A (noteFrame (.ref a) X.env) _ _ _
  refine Sky.land Zc.steady hfr hf sky' fun h3 fl3 up3 => ?_
  have J3 : Inv X pins σ' H' { s' with heap := h3 } := J.landed nb fl3.1 (up.trans up3) os ag
  obtain ⟨oe3, vs3, he3, hz3, hd3⟩ := fl3.there
  have nfr := fld_noframe fl3.2.2.1 he3 hd3
  have nL : a ≠ X.env.locals := fun z => nfr (List.mem_filterMap.mpr ⟨X.env, List.mem_cons_self, by rw [hf, z]⟩)
  have nF : a ∉ X.fs := fun hm => nfr (by
   obtain ⟨e, he, q⟩ := List.mem_filterMap.mp hm
   exact List.mem_filterMap.mpr ⟨e, List.mem_cons_of_mem _ he, q⟩)
  have S3 := J3.suite he3 hd3 na nL nF
  have go : ∀ {hds' : List ExceptHandler} {l' : List (Value × Nat × (Addr → Value → Option Addr → TS))}, HdsA X hds' l' → wAs X.K Wout X.N.length D l' cls d σ' H' →
    wpAny (model X.prog X.w) X.A (handleBy (.ref a) X.env hds') (SP X pins D) X.xe { s' with heap := h3 } := by
   intro hds' l' hk
   induction hk with
   | nil =>
    intro w
    refine wpAny_handleBy_nil ?_
    obtain ⟨k1, k2, k3, oe, vs, T, oT, ts', he, hz, hd, h1, hr⟩ := id fl3
    unfold PySem.passOn
    refine wpAny_bind (wpAny_field he hd h1 ?_)
    rw [if_neg (show ¬ ((Value.ref T == Value.none) = true) from by simp)]
    have fin : wpAny (model X.prog X.w) X.A (setFlight (.ref a) X.env.frame) (fun _ s4 => wpAny (model X.prog X.w) X.A (throw (.ref a) : Sem Flow) (SP X pins D) X.xe s4) X.xe { s' with heap := h3 } := by
     rw [hf]
     refine HandSPX.setFlight_upZ fl3 fun h4 hh4 up4 => wpAny_throw (tk _ _ ?_)
     exact ⟨a, B, sI, pins, σ', H', cls, d, rfl, J, nb, (up.trans up3).trans up4, .inr (.inr (by rw [hs]; exact hh4)), na, os, ag, w⟩
    first
     | exact wpAny_bind (wpAny_pure (wpAny_bind fin))
     | exact wpAny_bind fin
   | @cons x n i c ts b₀ suite np pos' hds2 l2 hc hi hln hsu r ih =>
    intro w
    obtain ⟨b, hb1, hyes, hno⟩ := w
    refine wpAny_handleBy_cons (codeAny_handlers_test ?_) (by intro q; cases q)
    have LT : PySem.W.Looks (model X.prog X.w) h3 (typeOf (.ref a)) cls := fun A Q E s k q => wpAny_typeOf_ref (k _ _ he3) (by rw [hz3.1]; exact q)
    have LM := PySem.W.exm_one (M := model X.prog X.w) (J3.kIn) LT hb1
    have test : ∀ {Q : Value → Shared → Prop} {E : Value → Shared → Prop}, Q c { s' with heap := h3 } → wpAny (model X.prog X.w) (X.A.mark (some (.ref a))) (eval (.Name x np) X.env) Q E { s' with heap := h3 } := fun {Q E} q => by
     obtain ⟨hg, hdbg, hm | ⟨hm, hv, hnn⟩⟩ := hc
     ·exact ld_glob (X := X.suite a ((a, oe3) :: (X.pn ++ pins))) S3 hg hm q hdbg
     ·exact ld_blt (X := X.suite a ((a, oe3) :: (X.pn ++ pins))) S3 hg hm hv q hnn hdbg
    refine test (LM.here ?_)
    cases b with
    | true =>
     refine codeAny_handlers_suite_as (HandSPX.lands_againZ fl3 fun h4 fl4 up4 => ?_)
     have J4 : Inv X pins σ' H' { s' with heap := h4 } := J.landed nb fl4.1 ((up.trans up3).trans up4) os ag
     obtain ⟨oe4, vs4, he4, hz4, hd4⟩ := fl4.there
     have S4 := J4.suite he4 hd4 na nL nF
     refine store_ok (X := X.suite a ((a, oe4) :: (X.pn ++ pins))) (v := .ref a) S4 hN hi (.inl hln) rfl (fun s5 S5 => ?_) (.inr hln)
     refine wpAny_mono ((hsu a oe4 cls d (X.pn ++ pins) hz4 ⟨_, hd4⟩).run [] s5 _ H' (offN i D) S5 (hyes rfl J.len a na)) (fun f s6 hsp => ?_) (fun _ _ z => False.elim z)
     cases f with
     | next =>
      obtain ⟨σ6, H6, S6, q6⟩ := hsp
      exact gone_ok (S6.unsuite ok) hN hi hln fun s7 J7 => ⟨_, _, J7, q6⟩
     | brk =>
      obtain ⟨σ6, H6, S6, q6⟩ := hsp
      exact gone_ok (S6.unsuite ok) hN hi hln fun s7 J7 => ⟨_, _, J7, q6⟩
     | cont =>
      obtain ⟨σ6, H6, S6, q6⟩ := hsp
      exact gone_ok (S6.unsuite ok) hN hi hln fun s7 J7 => ⟨_, _, J7, q6⟩
     | ret u =>
      obtain ⟨v6, σ6, H6, S6, r6, q6⟩ := hsp
      exact gone_ok (S6.unsuite ok) hN hi hln fun s7 J7 => ⟨_, _, _, J7, r6, q6⟩
    | false =>
     show wpAny _ X.A (handleBy (.ref a) X.env hds2) _ _ _
     exact ih (hno rfl)
  exact go hh w
 ·cases f with
  | next =>
   obtain ⟨σ', H', J', q⟩ := hsp
   exact wpAny_execs_nil ⟨σ', H', J'.ofTry ok, q⟩
  | brk =>
   obtain ⟨σ', H', J', q⟩ := hsp
   exact ⟨σ', H', J'.ofTry ok, q⟩
  | cont =>
   obtain ⟨σ', H', J', q⟩ := hsp
   exact ⟨σ', H', J'.ofTry ok, q⟩
  | ret u =>
   obtain ⟨v, σ', H', J', r, q⟩ := hsp
   exact ⟨v, σ', H', J'.ofTry ok, r, q⟩
end
end Ev
namespace Ev
open PySem PySem.Spec PyProof.Rows L2 Calls
def itB (e : Str) : List (Option Str) → List Expr → Bool
 | [], [] => true
 | none :: r, .Constant .none _ _ :: q => itB e r q
 | some f :: r, .Attribute (.Name n _) g _ :: q => decide (n = e) && decide (g = f) && itB e r q
 | _, _ => false
def itV1 (fs : List (Str × V)) : Option Str → Option V
 | none => some .non
 | some f => fs.lookup f
def itV (fs : List (Str × V)) : List (Option Str) → Option (List V)
 | [] => some []
 | o :: r => (itV1 fs o).bind fun v => (itV fs r).map fun l => v :: l
def refB4 (ask told e c1 c2 z1 z2 : Str) (i1 i2 : List (Option Str)) : List Stmt → Bool
 | [.Assign [.Name t1 _] (.Tuple [.Constant (.str z) _ _, .Constant .none _ _, .Constant .none _ _, .Constant .none _ _] _ _) _,
   .Try [.Expr (.Call (.Name a1 _) [] [] _) _] [.ExceptHandler (some (.Name x1 _)) (some e1) [.Assign [.Name t2 _] (.Tuple [.Constant (.str y1) _ _, j1, j2, j3] _ _) _] _,
    .ExceptHandler (some (.Name x2 _)) (some e2) [.Assign [.Name t3 _] (.Tuple [.Constant (.str y2) _ _, k1, k2, k3] _ _) _] _] [] [] _,
   .Return (some (.Name t4 _)) _] =>
  decide (t1 = told) && decide (z = ("" : Str)) && decide (a1 = ask) && decide (x1 = c1) && decide (e1 = e) && decide (t2 = told) && decide (y1 = z1) && itB e i1 [j1, j2, j3] && decide (x2 = c2) && decide (e2 = e) && decide (t3 = told) && decide (y2 = z2) && itB e i2 [k1, k2, k3] && decide (t4 = told)
 | _ => false
def TLck (K : PySem.W.Frag) (A1 A2 : Addr) (cl : List (List Str × Str)) (z1 z2 : Str) (i1 i2 : List (Option Str)) : (XK → Hp → VK → Prop) → Hp → VK → Prop := fun tl H Q => ∀ (p0 : Addr) (o0 : Obj), o0.dict = none → H p0 = none → tl (fun cls d H' => ∃ (C dd : Addr) (fs : List (Str × V)) (b : Bool) (vs : List V), cls = .ref C ∧ d = some dd ∧ PySem.W.exmOne K cls (.ref A1) = some b ∧ (b = false → PySem.W.exmOne K cls (.ref A2) = some true) ∧ CauC K C cl ∧ H' dd = some (.xd fs) ∧
  itV fs (if b then i1 else i2) = some vs ∧ ∀ H2, (∀ b o, H' b = some o → H2 b = some o) → ∀ (p : Addr) (o : Obj), o.dict = none → H2 p = none → Q (.ref p) (upd H2 p (.frz o (.tup (V.str (if b then z1 else z2) :: vs)))))
 (upd H p0 (.frz o0 (.tup [V.str ("" : Str), .non, .non, .non]))) (fun _ H' => ∃ v, (some (some (V.ref p0)) : Option (Option V)) = some (some v) ∧ Q v H')
section
variable {X : Cx} {A1 A2 g : Addr} {x q ask told e c1 c2 z1 z2 : Str} {sg : Scope} {cdg : Value} {bg : List Stmt} {cl : List (List Str × Str)} {i1 i2 is : List (Option Str)}
def tIt (a dd : Addr) (o : Option Str) : TE := fun σ H Q => ∃ fs v, H dd = some (.xd fs) ∧ σ[2]? = some (some (.ref a)) ∧ itV1 fs o = some v ∧ Q v H
theorem pe_it {Z : Cx} {a dd C : Addr} {oe : Obj} {o : Option Str} {j : Expr} {r : List (Option Str)} {qs : List Expr} (h : itB e (o :: r) (j :: qs) = true) (hp : (a, oe) ∈ Z.pn) (G : CauC Z.K C cl) (hz : Zc (.ref C) (some dd) oe) (hd : ∃ vs, oe.data = .fields vs) (hN2 : Z.N[2]? = some e) (he : Z.env.scope.names.lookup e = some .local) (n2 : (e == ("__debug__" : Str)) = false) (n3 : (e == ("__classdict__" : Str)) = false)
  (hcl : ∀ f, o = some f → ∃ q ∈ cl, q.2 = f) : PE Z j (tIt a dd o) ∧ itB e r qs = true ∧ starEach (j :: []) Z.env = (false, eval j Z.env) :: [] ∧ (∀ es, starEach (j :: es) Z.env = (false, eval j Z.env) :: starEach es Z.env) := by
 cases o with
 | none =>
  unfold itB at h
  split at h <;> first | (cases h; done) | skip
  ·rename_i e1 e2; cases e1
  ·rename_i e1 e2
   cases e1; cases e2
   exact ⟨PE.imp pe_non fun σ H Q ⟨fs, v, _, _, hv, q⟩ => by
    have : v = .non := (Option.some.inj hv).symm
    rw [this] at q; exact q, h, rfl, fun _ => rfl⟩
  ·rename_i e1 e2; cases e1
 | some f =>
  unfold itB at h
  split at h <;> first | (cases h; done) | skip
  ·rename_i e1 e2; cases e1
  ·rename_i e1 e2; cases e1
  ·rename_i e1 e2
   cases e1; cases e2
   simp only [Bool.and_eq_true, decide_eq_true_eq] at h
   obtain ⟨⟨h1, h2⟩, h3⟩ := h
   subst h1 h2
   obtain ⟨qf, hq1, hq2⟩ := hcl _ rfl
   refine ⟨PE.imp (pe_xp (X := Z) (dd := dd) (oe := oe) ⟨G.T, hz, hd⟩ hp (by rw [← hq2]; exact G.fld qf hq1) (pe_var hN2 (.inl he) n2 n3) (abase_name ⟨_, _, rfl⟩)) fun σ H Q ⟨fs, v, k1, k2, k3, q⟩ => ?_, h3, rfl, fun _ => rfl⟩
   exact ⟨.ref a, k2, rfl, fs, v, k1, k3, q⟩
def tsRef4 (K : PySem.W.Frag) (cl : List (List Str × Str)) (z : Str) (is : List (Option Str)) (a : Addr) (cls : Value) (d : Option Addr) : TS := fun D σ H => ∃ C dd fs vs, cls = .ref C ∧ d = some dd ∧ CauC K C cl ∧ σ[2]? = some (some (.ref a)) ∧ H dd = some (.xd fs) ∧ itV fs is = some vs ∧
 ∀ H2, (∀ b o, H b = some o → H2 b = some o) → ∀ (p : Addr) (o : Obj), o.dict = none → H2 p = none → D.nx (σ.set 1 (some (.ref p))) (upd H2 p (.frz o (.tup (V.str z :: vs))))
theorem ref_suite4 {Z : Cx} {a : Addr} {oe : Obj} {cls : Value} {d : Option Addr} {pn : List (Addr × Obj)} {py py0 p6 p7 : Pos} {k0 k2 : Nat} {z : Str} {j1 j2 j3 : Expr} (hZN : Z.N = [ask, told, e]) (nd : [ask, told, e].Nodup) (hcl : ∀ f, some f ∈ is → ∃ q ∈ cl, q.2 = f)
  (ht : Z.env.scope.names.lookup told = some .local) (he : Z.env.scope.names.lookup e = some .local) (n2 : (e == ("__debug__" : Str)) = false) (n3 : (e == ("__classdict__" : Str)) = false)
  (hz : Zc cls d oe) (hd : ∃ vs, oe.data = .fields vs) (hi : itB e is [j1, j2, j3] = true) :
  PSs (Z.suite a ((a, oe) :: pn)) [.Assign [.Name told py] (.Tuple [.Constant (.str z) k0 py0, j1, j2, j3] k2 p6) p7] (tsRef4 Z.K cl z is a cls d) := by
 refine ⟨fun pins s σ H D I h => ?_⟩
 obtain ⟨C, dd, fs, vs, e1, e2, G, h2, hdd, hv, hq⟩ := h
 subst e1 e2
 have hp : (a, oe) ∈ (Z.suite a ((a, oe) :: pn)).pn := List.mem_cons_self
 have hN2 : (Z.suite a ((a, oe) :: pn)).N[2]? = some e := by show Z.N[2]? = _; rw [hZN]; rfl
 have hN1 : (Z.suite a ((a, oe) :: pn)).N[1]? = some told := by show Z.N[1]? = _; rw [hZN]; rfl
 match is, hi with
 | [], hi => simp [itB] at hi
 | o1 :: r1, hi =>
 obtain ⟨P1, hi1, _, S1⟩ := pe_it (Z := Z.suite a ((a, oe) :: pn)) (a := a) (dd := dd) (oe := oe) hi hp G hz hd hN2 he n2 n3 fun f hf => hcl f (by rw [hf]; simp)
 match r1, hi1 with
 | [], hi1 => simp [itB] at hi1
 | o2 :: r2, hi1 =>
 obtain ⟨P2, hi2, _, S2⟩ := pe_it (Z := Z.suite a ((a, oe) :: pn)) (a := a) (dd := dd) (oe := oe) hi1 hp G hz hd hN2 he n2 n3 fun f hf => hcl f (by rw [hf]; simp)
 match r2, hi2 with
 | [], hi2 => simp [itB] at hi2
 | o3 :: r3, hi2 =>
 obtain ⟨P3, hi3, _, S3⟩ := pe_it (Z := Z.suite a ((a, oe) :: pn)) (a := a) (dd := dd) (oe := oe) hi2 hp G hz hd hN2 he n2 n3 fun f hf => hcl f (by rw [hf]; simp)
 match r3, hi3 with
 | _ :: _, hi3 => simp [itB] at hi3
 | [], hi3 =>
 have hT := pss_one (ps_set (X := Z.suite a ((a, oe) :: pn)) (pos := p7) (pos' := py) (by show Z.N.Nodup; rw [hZN]; exact nd) hN1 (.inl ht) (pe_tupC (k := k2) (pos := p6) (pa_cons (pe_str (x := z) (j := k0) (pos := py0)) (pa_cons P1 (pa_cons P2 (pa_cons P3 pa_nil (S3 _)) (S2 _)) (S1 _)) rfl)) rfl (.inr ht))
 refine hT.run pins s σ H D I ?_
 simp only [itV] at hv
 obtain ⟨v1, q1, hv1⟩ := Option.bind_eq_some_iff.mp hv
 obtain ⟨l1, hw1, e1⟩ := Option.map_eq_some_iff.mp hv1
 obtain ⟨v2, q2, hv2⟩ := Option.bind_eq_some_iff.mp hw1
 obtain ⟨l2, hw2, e2⟩ := Option.map_eq_some_iff.mp hv2
 obtain ⟨v3, q3, hv3⟩ := Option.bind_eq_some_iff.mp hw2
 obtain ⟨l3, hw3, e3⟩ := Option.map_eq_some_iff.mp hv3
 cases hw3
 subst e3
 subst e2
 subst e1
 exact ⟨fs, v1, hdd, h2, q1, fs, v2, hdd, h2, q2, fs, v3, hdd, h2, q3, by rw [sizeLine_eq]; simp, fun p o ho hpn => hq H (fun _ _ z => z) p o ho hpn⟩
theorem ref_gives4 (hN : [ask, told, e].Nodup) (hcl : ∀ f, some f ∈ i1 ++ i2 → ∃ q ∈ cl, q.2 = f)
   (ht : sg.names.lookup told = some .local) (he : sg.names.lookup e = some .local) (hc1 : sg.names.lookup c1 = some .globalImplicit) (hm1 : X.mg c1 = some (.ref A1)) (n0 : (c1 == ("__debug__" : Str)) = false) (hc2 : sg.names.lookup c2 = some .globalImplicit) (hm2 : X.mg c2 = some (.ref A2)) (n1 : (c2 == ("__debug__" : Str)) = false) (n2 : (e == ("__debug__" : Str)) = false) (n3 : (e == ("__classdict__" : Str)) = false)
   (n4 : (told == ("__debug__" : Str)) = false) (n5 : (told == ("__classdict__" : Str)) = false) (hB : refB4 ask told e c1 c2 z1 z2 i1 i2 bg = true) : LamX.GivesTo X [ask, told, e] x sg g cdg bg ask q (TLck X.K A1 A2 cl z1 z2 i1 i2) := by
 intro f0 c' s H Q tl act hc h
 unfold refB4 at hB
 split at hB
 · rename_i t1 py1 z kz pz kn1 pn1 kn2 pn2 kn3 pn3 kt pt pa a1 pa1 pc1 pe1 x1 px1 e1 t2 py2 y1 ky1 pk1 j1 j2 j3 kt1 pt1 pas1 ph1 x2 px2 e2 t3 py3 y2 ky2 pk2 k1 k2 k3 kt2 pt2 pas2 ph2 ptry t4 pt4 prt
   simp only [Bool.and_eq_true, decide_eq_true_eq] at hB
   obtain ⟨⟨⟨⟨⟨⟨⟨⟨⟨⟨⟨⟨⟨b1, b2⟩, b3⟩, b4⟩, b5⟩, b6⟩, b7⟩, b8⟩, b9⟩, b10⟩, b11⟩, b12⟩, b13⟩, b14⟩ := hB
   replace b1 := b1.symm
   subst b1
   replace b2 := b2.symm
   subst b2
   replace b3 := b3.symm
   subst b3
   replace b4 := b4.symm
   subst b4
   replace b5 := b5.symm
   subst b5
   replace b6 := b6.symm
   subst b6
   replace b7 := b7.symm
   subst b7
   replace b9 := b9.symm
   subst b9
   replace b10 := b10.symm
   subst b10
   replace b11 := b11.symm
   subst b11
   replace b12 := b12.symm
   subst b12
   replace b14 := b14.symm
   subst b14
   generalize hZ : (cxOf C8.CX0 X.prog X.w X.K X.mg X.base [ask, told, e] x sg g cdg X.A X.stack s H C8.E0).nox = Z
   have zN : Z.N = [ask, told, e] := by rw [← hZ] <;> rfl
   have zsc : Z.env.scope.names = sg.names := by rw [← hZ] <;> rfl
   have zA : Z.A.depth = X.A.depth + 1 := by rw [← hZ] <;> rfl
   have hst : Z.stack = Z.env :: Z.outer := by rw [← hZ] <;> rfl
   have hfr : Z.env.frame = some Z.env.locals := by rw [← hZ] <;> rfl
   have hfn : ∀ y, Z.fn y = true := fun y => by rw [← hZ] <;> rfl
   have mP1 : Z.mg c1 = some (.ref A1) := by rw [← hZ]; exact hm1
   have mP2 : Z.mg c2 = some (.ref A2) := by rw [← hZ]; exact hm2
   have hK : Z.K = X.K := by rw [← hZ] <;> rfl
   have gP1 : Gl Z c1 := by show Z.env.scope.names.lookup c1 = _; rw [zsc]; exact hc1
   have gP2 : Gl Z c2 := by show Z.env.scope.names.lookup c2 = _; rw [zsc]; exact hc2
   have ht' : Z.env.scope.names.lookup told = some .local := by rw [zsc]; exact ht
   have he' : Z.env.scope.names.lookup e = some .local := by rw [zsc]; exact he
   have nd' : Z.N.Nodup := by rw [zN]; exact hN
   have i1' : Z.N[1]? = some told := by rw [zN]; rfl
   have i2' : Z.N[2]? = some e := by rw [zN]; rfl
   let tb : WX → TS := fun W D σ HH => ∃ Ech : XK, (∀ cls d σ' H', Ech cls d H' → W cls d σ' H') ∧ σ[0]? = some (some (.ref f0)) ∧ HH c' = some (LamX.CodeO c' q) ∧ tl Ech HH fun _ H' => D.nx σ H'
   have hbody : ∀ (W : WX) (pn : List (Addr × Obj)) (xe : Value → Shared → Prop), Takes (Z.tr pn xe) W → PassesOwn (model Z.prog Z.w) Z.A Z.env xe → PSs (Z.tr pn xe) [.Expr (.Call (.Name ask pa1) [] [] pc1) pe1] (tb W) := fun W pn xe tk _ => by
     refine ⟨fun pins s' σ H' D I h' => ?_⟩
     obtain ⟨Ech, hW, h1, h2, h3⟩ := h'
     have tk' : Takes ((cxOf C8.CX0 X.prog X.w X.K X.mg X.base [ask, told, e] x sg g cdg X.A X.stack s H C8.E0).tr pn xe) W := by
       rw [← hZ] at tk; exact tk
     have hp := pss_one (ps_expr (pos := pe1) (act W pn xe Ech pa1 pc1 tk' hW) rfl)
     have I' : Inv ((cxOf C8.CX0 X.prog X.w X.K X.mg X.base [ask, told, e] x sg g cdg X.A X.stack s H C8.E0).tr pn xe) pins σ H' s' := by
       rw [← hZ] at I; exact I
     have r := hp.run pins s' σ H' D I' ⟨h1, h2, h3⟩
     rw [← hZ]
     exact r
   have hh : HdsA Z [.ExceptHandler (some (.Name c1 px1)) (some e) [.Assign [.Name told py2] (.Tuple [.Constant (.str z1) ky1 pk1, j1, j2, j3] kt1 pt1) pas1] ph1, .ExceptHandler (some (.Name c2 px2)) (some e) [.Assign [.Name told py3] (.Tuple [.Constant (.str z2) ky2 pk2, k1, k2, k3] kt2 pt2) pas2] ph2]
       [(.ref A1, 2, tsRef4 Z.K cl z1 i1), (.ref A2, 2, tsRef4 Z.K cl z2 i2)] :=
     .cons ⟨gP1, n0, .inl mP1⟩ i2' he' (fun a oe cls d pn hz hd => ref_suite4 (py := py2) (py0 := pk1) (p6 := pt1) (p7 := pas1) (k0 := ky1) (k2 := kt1) zN hN (fun f hf => hcl f (List.mem_append_left _ hf)) ht' he' n2 n3 hz hd b8)
       (.cons ⟨gP2, n1, .inl mP2⟩ i2' he' (fun a oe cls d pn hz hd => ref_suite4 (py := py3) (py0 := pk2) (p6 := pt2) (p7 := pas2) (k0 := ky2) (k2 := kt2) zN hN (fun f hf => hcl f (List.mem_append_right _ hf)) ht' he' n2 n3 hz hd b13) .nil)
   have hT := pss_cons (ps_set (X := Z) (pos := pa) (pos' := py1) nd' i1' (.inl ht') (pe_tupC (k := kt) (pos := pt) (pa_cons (pe_str (x := ("" : Str)) (j := kz) (pos := pz)) (pa_cons (pe_non (j := kn1) (pos := pn1)) (pa_cons (pe_non (j := kn2) (pos := pn2)) (pa_cons (pe_non (j := kn3) (pos := pn3)) pa_nil rfl) rfl) rfl) rfl)) rfl (.inr ht'))
     (pss_cons (ps_tryA (X := Z) (pos := ptry) (Wout := fun _ _ _ _ => False) hst hfr nd' takes_none5 hbody hh)
       (pss_one (ps_ret (pos := prt) (pe_var (pos := pt4) i1' (.inl ht') n4 n5))))
   refine ⟨_, hT, ?_⟩
   refine ⟨by rw [sizeLine_eq]; simp, fun p0 o0 ho0 hp0 => ?_⟩
   have h := h p0 o0 ho0 hp0
   have h0 : (L2.start [ask, told, e] [V.ref f0]) = [some (V.ref f0), none, none] := rfl
   rw [h0]
   refine ⟨_, fun cls d σ' H' hE => ?_, rfl, ?_, h⟩
   · obtain ⟨C, dd, fs, b, vs, k1, k2, kb, kb2, k3, k4, k5, k7⟩ := hE
     refine ⟨b, by rw [hK]; exact kb, fun hb hl a na => ?_, fun hb => ⟨true, by rw [hK]; exact kb2 hb, fun _ hl a na => ?_, fun z => by cases z⟩⟩
     · rw [hb] at k5 k7
       rw [zN] at hl
       have hl : σ'.length = 3 := hl
       match σ', hl with
       | [x0, x1, x2], _ => exact ⟨C, dd, fs, vs, k1, k2, by rw [hK]; exact k3, rfl, k4, k5, fun H2 kp p o ho hpn => ⟨.ref p, rfl, k7 H2 kp p o ho hpn⟩⟩
     · rw [hb] at k5 k7
       rw [zN] at hl
       have hl : σ'.length = 3 := hl
       match σ', hl with
       | [x0, x1, x2], _ => exact ⟨C, dd, fs, vs, k1, k2, by rw [hK]; exact k3, rfl, k4, k5, fun H2 kp p o ho hpn => ⟨.ref p, rfl, k7 H2 kp p o ho hpn⟩⟩
   · rw [upd_ne (ne_of_none hc hp0)]; exact hc
 · cases hB
end
end Ev
namespace Ev
open PySem PySem.Spec PyProof.Rows L2 Calls
def clS (T : Tb) (l : List (List Tx × Nat)) : List (List Str × Str) := l.map fun q => (q.1.map tS, T.sy q.2)
def RfdK (T : Tb) (p : Pg) (P : Program) (w : World) (K : PySem.W.Frag) (mg : Str → Option Value) (base : Heap) (ask told e cP : Str) (bg : List Stmt) (sg : Scope) : Prop :=
 (p.rl = false ∧ ((p.rc = false ∧ ((∃ (fx : Str) (ff : Addr), sg.names.lookup fx = some .globalImplicit ∧ mg fx = some (.ref ff) ∧ PySem.W.keepIn K (.ref ff) = true ∧ (fx == ("__debug__" : Str)) = false ∧ refB ask told e cP fx bg = true ∧ FnR P w K mg base ff (clS T p.rfd)) ∨
 ∃ (z : Tx) (f : Nat), p.rk = true ∧ p.rfd = [([z], f)] ∧ refB2 ask told e cP (T.sy f) bg = true)) ∨ p.rc = true ∧ refB3 ask told e cP bg = true)) ∨
 p.rl = true ∧ ∃ (C1 C2 : Nat) (z1 z2 : Tx) (i1 i2 : List (Option Nat)) (c2 : Str), p.lk = [(C1, z1, i1), (C2, z2, i2)] ∧ sg.names.lookup c2 = some .globalImplicit ∧ mg c2 = some (.ref (T.ca C2)) ∧ (c2 == ("__debug__" : Str)) = false ∧
  refB4 ask told e cP c2 (tS z1) (tS z2) (i1.map (Option.map T.sy)) (i2.map (Option.map T.sy)) bg = true ∧ ∀ f, some f ∈ i1 ++ i2 → ∃ q ∈ p.rfd, q.2 = f
def LkF (T : Tb) (p : Pg) (K : PySem.W.Frag) (CP : Addr) : Prop := p.rl = true → ∃ (C1 C2 : Nat) (z1 z2 : Tx) (i1 i2 : List (Option Nat)), p.lk = [(C1, z1, i1), (C2, z2, i2)] ∧ CP = T.ca C1 ∧ C1 ∈ p.rok ∧ C2 ∈ p.rok ∧ tOk z1 = true ∧ tOk z2 = true ∧
 PySem.W.exmOne K (.ref (T.ca C1)) (.ref (T.ca C1)) = some true ∧ PySem.W.exmOne K (.ref (T.ca C2)) (.ref (T.ca C1)) = some false ∧ PySem.W.exmOne K (.ref (T.ca C2)) (.ref (T.ca C2)) = some true
def TRefP (T : Tb) (p : Pg) (K : PySem.W.Frag) (CP : Addr) : (XK → Hp → VK → Prop) → Hp → VK → Prop := match p.rl with
 | true => (match p.lk with
  | [(_, z1, i1), (C2, z2, i2)] => TLck K CP (T.ca C2) (clS T p.rfd) (tS z1) (tS z2) (i1.map (Option.map T.sy)) (i2.map (Option.map T.sy))
  | _ => TCod K CP (clS T p.rfd))
 | false => TRefG p.rc K CP (clS T p.rfd) (okC p.rk (clS T p.rfd))
theorem refR_ok0 {p : Pg} {w : W} {st : St} (hl : p.rl = false) (h : p.rc = false) : refR p (.ok w st) = .ok (.tup [.str [], .non]) st := by
 simp only [refR, hl, h, Bool.false_eq_true, if_false]
theorem refR_ok1 {p : Pg} {w : W} {st : St} (hl : p.rl = false) (h : p.rc = true) : refR p (.ok w st) = .ok (.str []) st := by
 simp only [refR, hl, h, Bool.false_eq_true, if_false, if_true]
theorem refR_exc0 {p : Pg} {x : Xn} {st : St} (hl : p.rl = false) (h : p.rc = false) : refR p (.exc x st) = if !p.rok.contains x.C then .stk else match fget p.sCode x.ns x.xs with
  | some (.str c) => (match fldX p.rfd c x.ns x.xs with
   | some w => if p.rk && !(p.rfd.any fun q => q.1.contains c) then .stk else .ok (.tup [.str c, w]) st
   | none => .stk)
  | _ => .stk := by
 simp only [refR, hl, h, Bool.false_eq_true, if_false] <;> rfl
theorem refR_exc1 {p : Pg} {x : Xn} {st : St} (hl : p.rl = false) (h : p.rc = true) : refR p (.exc x st) = if !p.rok.contains x.C then .stk else match fget p.sCode x.ns x.xs with
  | some (.str c) => .ok (.str c) st
  | _ => .stk := by
 simp only [refR, hl, h, Bool.false_eq_true, if_false, if_true] <;> rfl
theorem refR_okL {p : Pg} {w : W} {st : St} (hl : p.rl = true) : refR p (.ok w st) = .ok (.tup [.str [], .non, .non, .non]) st := by
 simp only [refR, hl, if_true]
theorem refR_excL {p : Pg} {x : Xn} {st : St} (hl : p.rl = true) : refR p (.exc x st) = match lkR p x with
  | some w => .ok w st
  | none => .stk := by
 simp only [refR, hl, if_true] <;> rfl
def RfdG (T : Tb) (p : Pg) (P : Program) (w : World) (K : PySem.W.Frag) (mg : Str → Option Value) (base : Heap) (x : Str) : Prop := ∃ (ask told e cP : Str) (g CP : Addr) (pg : Arguments) (bg : List Stmt) (sg : Scope) (dV kV doc pm cdv ct oc : Value) (an od : Option Addr) (osl : Array (Option Value)), mg x = some (.ref g) ∧ PySem.W.keepIn K (.ref g) = true ∧
  K.lookup g = some ⟨oc, od, .func (PySem.W.fnOf x x pg bg sg dV kV doc pm an cdv ct), osl⟩ ∧ PySem.W.codeIn K cdv x = true ∧ L2.Binds K (PySem.W.fnOf x x pg bg sg dV kV doc pm an cdv ct) [ask] [] ∧ FnScope [ask, told, e] [ask] sg ∧ Vis sg ask ∧
  sg.names.lookup told = some .local ∧ sg.names.lookup e = some .local ∧ sg.names.lookup cP = some .globalImplicit ∧ mg cP = some (.ref CP) ∧
  (cP == ("__debug__" : Str)) = false ∧ (e == ("__debug__" : Str)) = false ∧ (e == ("__classdict__" : Str)) = false ∧ (told == ("__debug__" : Str)) = false ∧ (told == ("__classdict__" : Str)) = false ∧ (ask == ("__debug__" : Str)) = false ∧ (ask == ("__classdict__" : Str)) = false ∧
  RfdK T p P w K mg base ask told e cP bg sg ∧ LkF T p K CP ∧ ∀ C ∈ p.rok, (p.rl = false → PySem.W.exmOne K (.ref (T.ca C)) (.ref CP) = some true) ∧ CauC K (T.ca C) (clS T p.rfd)
theorem RfdG.use {T : Tb} {p : Pg} {X : Cx} {x : Str} (D : RfdG T p X.prog X.w X.K X.mg X.base x) (hA : X.A.depth + 1 < recursionLimit) : ∃ (ask told e : Str) (g CP : Addr) (pg : Arguments) (bg : List Stmt) (sg : Scope) (dV kV doc pm cdv ct oc : Value) (an od : Option Addr) (osl : Array (Option Value)), X.mg x = some (.ref g) ∧ PySem.W.keepIn X.K (.ref g) = true ∧
  X.K.lookup g = some ⟨oc, od, .func (PySem.W.fnOf x x pg bg sg dV kV doc pm an cdv ct), osl⟩ ∧ PySem.W.codeIn X.K cdv x = true ∧ L2.Binds X.K (PySem.W.fnOf x x pg bg sg dV kV doc pm an cdv ct) [ask] [] ∧ FnScope [ask, told, e] [ask] sg ∧ Vis sg ask ∧ (ask == ("__debug__" : Str)) = false ∧ (ask == ("__classdict__" : Str)) = false ∧
  (∀ q, LamX.GivesTo X [ask, told, e] x sg g cdv bg ask q (TRefP T p X.K CP)) ∧ LkF T p X.K CP ∧ ∀ C ∈ p.rok, (p.rl = false → PySem.W.exmOne X.K (.ref (T.ca C)) (.ref CP) = some true) ∧ CauC X.K (T.ca C) (clS T p.rfd) := by
 obtain ⟨ask, told, e, cP, ga, CP, pg, bg, sg, dV, kV, doc, pm, cdv, ct, oc, an, od, osl, f1, f2, f3, f4, f5, f6, f7, f11, f12, f13, f14, n0, n2, n3, n4, n5, n6, n7, hK, hLk, hR⟩ := D
 refine ⟨ask, told, e, ga, CP, pg, bg, sg, dV, kV, doc, pm, cdv, ct, oc, an, od, osl, f1, f2, f3, f4, f5, f6, f7, n6, n7, fun q => ?_, hLk, hR⟩
 rcases hK with ⟨hrl, ⟨hrc, ⟨fx, ff, f8, f9, f10, n1, hB, hF⟩ | ⟨z, f, hk, hr, hB⟩⟩ | ⟨hrc, hB⟩⟩ | ⟨hrl, C1, C2, z1, z2, i1, i2, c2, hlk, g1, g2, g3, hB, hfl⟩ <;> unfold TRefP <;> rw [hrl] <;> (try simp only []) <;> (try rw [hrc])
 ·exact ref_gives f6.nd hF hA (fun _ _ => rfl) f8 f9 f10 f11 f12 f13 f14 n0 n1 n2 n3 n4 n5 hB
 ·refine ref_gives2 f6.nd ⟨([tS z], T.sy f), by rw [hr]; exact List.mem_singleton.mpr rfl, rfl⟩ (fun cz fs v ho hv => ?_) f11 f12 f13 f14 n0 n2 n3 n4 n5 hB
  obtain ⟨q, h1, h2⟩ := ho hk
  rw [hr] at h1 hv
  rw [List.mem_singleton.mp h1] at h2
  have h2 : cz ∈ [tS z] := h2
  have hv : (if cz ∈ [tS z] then fs.lookup (T.sy f) else fldOf [] cz fs) = some v := hv
  rw [if_pos h2] at hv
  exact hv
 ·exact ref_gives3 f6.nd f11 f12 f13 f14 n0 n2 n3 n4 n5 hB
 ·rw [hlk]
  refine ref_gives4 f6.nd (fun f hf => ?_) f11 f12 f13 f14 n0 g1 g2 g3 n2 n3 n4 n5 hB
  rw [← List.map_append] at hf
  obtain ⟨o, ho, e1⟩ := List.mem_map.mp hf
  cases o with
  | none => cases e1
  | some f' =>
   cases e1
   obtain ⟨q, hq, e2⟩ := hfl f' ho
   exact ⟨(q.1.map tS, T.sy q.2), List.mem_map.mpr ⟨q, hq, rfl⟩, by rw [e2]⟩
structure RfdF (T : Tb) (p : Pg) (X : Cx) (k : Nat) (x : Str) : Prop where
 room : Room (k + 3) X.A
 cd : ∃ c, X.env.code = .ref c ∧ LamX.TabB X.base X.mg c T.ta
 q : X.env.qual ++ "<lambda>" = T.tq
 code : T.sy p.sCode = "code"
 df : RfdG T p X.prog X.w X.K X.mg X.base x
section
variable {T : Tb} {X : Cx} {Wx : WX} {p : Pg} {cal : Bool → Nat → List W → List OO → RC} {k : Nat} {c : Cf} {st : St} {σ : L2.St} {H H1 : Hp}
theorem RSt.ext (h : RSt T c st σ H) (e : LamX.ExtN H H1) (ht : LamX.TabS H1 T.ta T.tq) : RSt T c st σ H1 := by
 have kp : ∀ a o, H a = some o → noTb o = true → H1 a = some o := fun a o z n => e a o z fun ps q => by subst q; cases n
 have m : Mn c.lv c.nf H c.lv c.nf H1 := ⟨fun a o z n _ => kp a o z n, fun _ q => .inl q, fun _ _ e => e, fun a f _ z => kp a _ z rfl⟩
 have keR : ∀ {o : OO} {a : Addr}, RO T c.lv c.nf H o a → RO T c.lv c.nf H1 o a := fun {o a} r => by
  cases o with
  | tab => exact ⟨r.1, by rw [r.1]; exact ht⟩
  | dnk ks ws =>
   obtain ⟨L, g1, g2, g3, g4, g5⟩ := r
   exact ⟨L, kp _ _ g1 rfl, g2, g3, g4.mono m, g5.mono m⟩
  | lst ws =>
   obtain ⟨vs, h1, h2⟩ := r
   exact ⟨vs, kp _ _ h1 rfl, h2.mono m⟩
  | dct ks ws =>
   obtain ⟨vs, h1, h2, h3⟩ := r
   exact ⟨vs, kp _ _ h1 rfl, h2, h3.mono m⟩
  | ins C ns ws =>
   obtain ⟨dx, vs, h1, h2, h3⟩ := r
   exact ⟨dx, vs, kp _ _ h1 rfl, h2, h3.mono m⟩
 refine ⟨h.len, fun i w e => ?_, fun i o e => ?_, h.back, h.inj, h.dis, h.ou, fun a q => ?_, ⟨h.sto.len, h.sto.nd, fun n o a e1 e2 => keR (h.sto.at_ n o a e1 e2)⟩⟩
 ·obtain ⟨v, e1, r⟩ := h.val i w e
  exact ⟨v, e1, r.mono m⟩
 ·obtain ⟨a, e1, e2, r⟩ := h.own i o e
  exact ⟨a, e1, e2, (keR r.ro).n r.nt r.nd⟩
 ·obtain ⟨o, e, n⟩ := h.ouh a q
  exact ⟨o, kp a o e n, n⟩
theorem Stp.extN (e : LamX.ExtN H H1) : Stp c H c H1 := by
 have kp : ∀ a o, H a = some o → noTb o = true → H1 a = some o := fun a o z n => e a o z fun ps q => by subst q; cases n
 exact ⟨fun a o z n _ => kp a o z n, fun _ h => .inl h, fun _ _ e => e, rfl, fun a o z n => ⟨o, kp a o z n, rfl⟩, fun _ _ e => .inl e⟩
theorem fget_ix {f : Nat} {w : W} : ∀ {ns : List Nat} {xs : List W}, fget f ns xs = some w → ∃ i : Nat, ns[i]? = some f ∧ xs[i]? = some w
 | [], _, h => by simp [fget] at h
 | _ :: _, [], h => by simp [fget] at h
 | g :: ns, y :: xs, h => by
  unfold fget at h
  split at h
  ·rename_i e
   exact ⟨0, by simp [e], by simpa using h⟩
  ·obtain ⟨i, h1, h2⟩ := fget_ix h
   exact ⟨i + 1, by simpa using h1, by simpa using h2⟩
theorem fldX_ok {fs : List (Str × V)} {ns : List Nat} {xs : List W} {cz : Tx} {w : W} (hf : ∀ (i n : Nat) w, ns[i]? = some n → xs[i]? = some w → ∃ v, fs.lookup (T.sy n) = some v ∧ RW T c.lv c.nf H w v) :
   ∀ {l : List (List Tx × Nat)}, fldX l cz ns xs = some w → ∃ v, fldOf (clS T l) (tS cz) fs = some v ∧ RW T c.lv c.nf H w v
 | [], h => by
   simp only [fldX, Option.some.injEq] at h
   subst h
   exact ⟨.non, rfl, by simp only [RW]⟩
 | (ts, f) :: r, h => by
   have hm : (tS cz ∈ ts.map tS) ↔ cz ∈ ts := by
     rw [List.mem_map]
     constructor
     · rintro ⟨y, hy, e⟩
       rw [← SX.S_inj e]; exact hy
     · exact fun z => ⟨cz, z, rfl⟩
   show ∃ v, (if tS cz ∈ ts.map tS then fs.lookup (T.sy f) else fldOf (clS T r) (tS cz) fs) = some v ∧ _
   unfold fldX at h
   by_cases z : cz ∈ ts
   · rw [if_pos z] at h
     rw [if_pos (hm.mpr z)]
     obtain ⟨i, h1, h2⟩ := fget_ix h
     exact hf i f w h1 h2
   · rw [if_neg z] at h
     rw [if_neg fun y => z (hm.mp y)]
     exact fldX_ok hf h
theorem itX_ok {fs : List (Str × V)} {xx : Xn} (hf : ∀ (i n : Nat) w, xx.ns[i]? = some n → xx.xs[i]? = some w → ∃ v, fs.lookup (T.sy n) = some v ∧ RW T c.lv c.nf H w v) :
  ∀ {is : List (Option Nat)} {l : List W}, itX xx is = some l → ∃ vs, itV fs (is.map (Option.map T.sy)) = some vs ∧ RWs T c.lv c.nf H l vs
 | [], l, h => by
  simp only [itX, Option.some.injEq] at h
  subst h
  exact ⟨[], rfl, RWs.nil⟩
 | none :: r, l, h => by
  simp only [itX] at h
  obtain ⟨l2, h1, rfl⟩ := Option.map_eq_some_iff.mp h
  obtain ⟨vs, e1, e2⟩ := itX_ok hf h1
  exact ⟨.non :: vs, by simp only [List.map_cons, Option.map_none, itV, itV1, Option.bind_some, e1, Option.map_some], RWs.cons (by simp only [RW]) e2⟩
 | some f :: r, l, h => by
  simp only [itX] at h
  obtain ⟨w, h1, h2⟩ := Option.bind_eq_some_iff.mp h
  obtain ⟨l2, h3, rfl⟩ := Option.map_eq_some_iff.mp h2
  obtain ⟨vs, e1, e2⟩ := itX_ok hf h3
  obtain ⟨i, g1, g2⟩ := fget_ix h1
  obtain ⟨v, k1, k2⟩ := hf i _ _ g1 g2
  exact ⟨v :: vs, by simp only [List.map_cons, Option.map_some, itV, itV1, k1, Option.bind_some, e1], RWs.cons k2 e2⟩
theorem rfd_core {x : Str} {g : Nat} {CP : Addr} {call : Expr} {b : E} (F : RfdF T p X k x) (hLk : LkF T p X.K CP) (hR : ∀ C ∈ p.rok, (p.rl = false → PySem.W.exmOne X.K (.ref (T.ca C)) (.ref CP) = some true) ∧ CauC X.K (T.ca C) (clS T p.rfd))
  (hG : PE X call (LamX.tLam [(T.ta, T.tq)] (TRefP T p X.K CP) fun E => rdE T (fun cls d _ H => E cls d H) (evE p cal b))) : SE T X Wx call (evE p cal (.rfd g b)) := by
 refine PE.imp hG fun σ H Q ⟨c, st, h, q⟩ => ?_
 rw [evE] at q
 cases e0 : st.s[0]? with
 | none => rw [e0] at q; exact (show False from q).elim
 | some o =>
 cases o with
 | lst _ => rw [e0] at q; exact (show False from q).elim
 | dct _ _ => rw [e0] at q; exact (show False from q).elim
 | ins _ _ _ => rw [e0] at q; exact (show False from q).elim
 | dnk _ _ => rw [e0] at q; exact (show False from q).elim
 | tab =>
 rw [e0] at q
 simp only at q
 have hl : 0 < c.lv.length := by
  rw [← h.sto.len]
  exact (List.getElem?_eq_some_iff.mp e0).1
 obtain ⟨ea, ht⟩ := h.sto.at_ 0 _ _ e0 (List.getElem?_eq_getElem hl)
 rw [ea] at ht
 refine ⟨fun z hz => by rw [List.mem_singleton.mp hz]; exact ht, fun H1 x1 T1 => ?_⟩
 have ht1 : LamX.TabS H1 T.ta T.tq := T1 _ (List.mem_singleton.mpr rfl)
 cases hrl : p.rl with
 | true =>
  obtain ⟨C1, C2, z1, z2, i1, i2, hlk, hCP, ok1, ok2, tz1, tz2, m11, m21, m22⟩ := hLk hrl
  unfold TRefP
  rw [hrl]
  simp only []
  rw [hlk]
  intro p0 o0 ho0 hp0
  have S1 : Stp c H c (upd H1 p0 (.frz o0 (.tup [V.str ("" : Str), .non, .non, .non]))) := (Stp.extN x1).trans (Stp.grow hp0)
  have h1 : RSt T c st σ (upd H1 p0 (.frz o0 (.tup [V.str ("" : Str), .non, .non, .non]))) := (h.ext x1 ht1).grow hp0
  refine ⟨c, st, h1, ?_⟩
  cases eb : evE p cal b st with
  | stk => rw [eb] at q; exact (show False from q).elim
  | ok w st' =>
   rw [eb, refR_okL hrl] at q
   intro v H2 c2 S2 h2 r2
   refine ⟨_, rfl, q (.ref p0) H2 c2 (S1.trans S2) h2 ?_⟩
   have m := S2.mn
   have g0 : upd H1 p0 (.frz o0 (.tup [V.str ("" : Str), .non, .non, .non])) p0 = some (.frz o0 (.tup [V.str ("" : Str), .non, .non, .non])) := upd_same
   have nf0 : ¬ c.nf p0 := (h.ext x1 ht1).new hp0
   show RW T c2.lv c2.nf H2 (.tup [.str [], .non, .non, .non]) (.ref p0)
   simp only [RW]
   exact ⟨p0, [V.str ("" : Str), .non, .non, .non], rfl, .inl ⟨⟨o0, ho0, m.fr _ _ g0 rfl nf0⟩, m.nn g0 rfl nf0⟩, RWs.cons (by simp only [RW]; exact ⟨rfl, rfl⟩) (RWs.cons (by simp only [RW]) (RWs.cons (by simp only [RW]) (RWs.cons (by simp only [RW]) RWs.nil)))⟩
  | exc xx st' =>
   rw [eb, refR_excL hrl] at q
   intro cls d H2 c2 S2 h2 rx
   obtain ⟨r1, dx, fs, r2, r3, r4, r5⟩ := rx
   have key : ∀ (C : Nat) (z : Tx) (is : List (Option Nat)) (l : List W), xx.C = C → itX xx is = some l → tOk z = true → (Post T Wx (relV T σ) c σ H (.ok (.tup (.str z :: l)) st') Q) → C ∈ p.rok →
     CauC X.K (T.ca xx.C) (clS T p.rfd) ∧ ∃ vs, itV fs (is.map (Option.map T.sy)) = some vs ∧ ∀ H3, (∀ b o, H2 b = some o → H3 b = some o) → ∀ (p1 : Addr) (o1 : Obj), o1.dict = none → H3 p1 = none → Q (.ref p1) (upd H3 p1 (.frz o1 (.tup (V.str (tS z) :: vs)))) := fun C z is l eC el tz q hC => by
    obtain ⟨vs, e1, e2⟩ := itX_ok (c := c2) (H := H2) r5 el
    refine ⟨by rw [eC]; exact (hR C hC).2, vs, e1, fun H3 kp p1 o1 ho1 hp1 => ?_⟩
    have S3 : Stp c2 H2 c2 (upd H3 p1 (.frz o1 (.tup (V.str (tS z) :: vs)))) := (Stp.extN (LamX.ExtN.of kp)).trans (Stp.grow hp1)
    refine q (.ref p1) _ c2 ((S1.trans S2).trans S3) ((h2.keep kp).grow hp1) ?_
    have nf1 : ¬ c2.nf p1 := (h2.keep kp).new hp1
    show RW T c2.lv c2.nf _ (.tup (.str z :: l)) (.ref p1)
    simp only [RW]
    exact ⟨p1, V.str (tS z) :: vs, rfl, .inl ⟨⟨o1, ho1, upd_same⟩, nf1⟩, RWs.cons (show V.str (tS z) = V.str (tS z) ∧ tOk z = true from ⟨rfl, tz⟩) (e2.mono S3.mn)⟩
   unfold lkR at q
   rw [hlk] at q
   simp only at q
   by_cases eC : xx.C = C1
   ·rw [if_pos eC] at q
    cases el : itX xx i1 with
    | none => rw [el] at q; exact (show False from q).elim
    | some l =>
     rw [el] at q
     obtain ⟨k1, vs, k2, k3⟩ := key C1 z1 i1 l eC el tz1 q ok1
     exact ⟨T.ca xx.C, dx, fs, true, vs, r1, r2, by rw [r1, hCP, eC]; exact m11, (fun z => by cases z), k1, r3, k2, k3⟩
   ·rw [if_neg eC] at q
    by_cases eD : xx.C = C2
    ·rw [if_pos eD] at q
     cases el : itX xx i2 with
     | none => rw [el] at q; exact (show False from q).elim
     | some l =>
      rw [el] at q
      obtain ⟨k1, vs, k2, k3⟩ := key C2 z2 i2 l eD el tz2 q ok2
      exact ⟨T.ca xx.C, dx, fs, false, vs, r1, r2, by rw [r1, hCP, eD]; exact m21, (fun _ => by rw [r1, eD]; exact m22), k1, r3, k2, k3⟩
    ·rw [if_neg eD] at q; exact (show False from q).elim
 | false =>
  unfold TRefP
  rw [hrl]
  simp only []
  cases hrc : p.rc with
  | true =>
   have S1 : Stp c H c H1 := Stp.extN x1
   have h1 : RSt T c st σ H1 := h.ext x1 ht1
   refine ⟨c, st, h1, ?_⟩
   cases eb : evE p cal b st with
   | stk => rw [eb] at q; exact (show False from q).elim
   | ok w st' =>
    rw [eb, refR_ok1 hrl hrc] at q
    intro v H2 c2 S2 h2 r2
    refine ⟨_, rfl, q (V.str ("" : Str)) H2 c2 (S1.trans S2) h2 ?_⟩
    show RW T c2.lv c2.nf H2 (.str []) (V.str ("" : Str))
    simp only [RW]
    exact ⟨rfl, rfl⟩
   | exc xx st' =>
    rw [eb, refR_exc1 hrl hrc] at q
    intro cls d H2 c2 S2 h2 rx
    split at q
    ·exact (show False from q).elim
    rename_i hrok
    have hrok : xx.C ∈ p.rok := by simpa using hrok
    split at q
    ·rename_i cz hcz
     obtain ⟨r1, dx, fs, r2, r3, r4, r5⟩ := rx
     obtain ⟨i, g1, g2⟩ := fget_ix hcz
     obtain ⟨v1, k1, k2⟩ := r5 i _ _ g1 g2
     obtain ⟨k2, k3⟩ : v1 = .str (tS cz) ∧ tOk cz = true := k2
     subst k2
     rw [F.code] at k1
     obtain ⟨y1, y2⟩ := hR _ hrok
     refine ⟨by rw [r1]; exact y1 hrl, T.ca xx.C, dx, fs, tS cz, r1, r2, y2, r3, k1, q (V.str (tS cz)) H2 c2 (S1.trans S2) h2 ?_⟩
     show V.str (tS cz) = V.str (tS cz) ∧ tOk cz = true
     exact ⟨rfl, k3⟩
    ·exact (show False from q).elim
  | false =>
   intro p0 o0 ho0 hp0
   have S1 : Stp c H c (upd H1 p0 (.frz o0 (.tup [V.str ("" : Str), .non]))) := (Stp.extN x1).trans (Stp.grow hp0)
   have h1 : RSt T c st σ (upd H1 p0 (.frz o0 (.tup [V.str ("" : Str), .non]))) := (h.ext x1 ht1).grow hp0
   refine ⟨c, st, h1, ?_⟩
   cases eb : evE p cal b st with
   | stk => rw [eb] at q; exact (show False from q).elim
   | ok w st' =>
    rw [eb, refR_ok0 hrl hrc] at q
    intro v H2 c2 S2 h2 r2
    refine ⟨_, rfl, q (.ref p0) H2 c2 (S1.trans S2) h2 ?_⟩
    have m := S2.mn
    have g0 : upd H1 p0 (.frz o0 (.tup [V.str ("" : Str), .non])) p0 = some (.frz o0 (.tup [V.str ("" : Str), .non])) := upd_same
    have nf0 : ¬ c.nf p0 := (h.ext x1 ht1).new hp0
    show RW T c2.lv c2.nf H2 (.tup [.str [], .non]) (.ref p0)
    simp only [RW]
    exact ⟨p0, [V.str ("" : Str), .non], rfl, .inl ⟨⟨o0, ho0, m.fr _ _ g0 rfl nf0⟩, m.nn g0 rfl nf0⟩, RWs.cons (by simp only [RW]; exact ⟨rfl, rfl⟩) (RWs.cons (by simp only [RW]) RWs.nil)⟩
   | exc xx st' =>
    rw [eb, refR_exc0 hrl hrc] at q
    intro cls d H2 c2 S2 h2 rx
    split at q
    ·exact (show False from q).elim
    rename_i hrok
    have hrok : xx.C ∈ p.rok := by simpa using hrok
    split at q
    ·rename_i cz hcz
     split at q
     ·rename_i w hw
      split at q
      ·exact (show False from q).elim
      rename_i hok
      obtain ⟨r1, dx, fs, r2, r3, r4, r5⟩ := rx
      obtain ⟨i, g1, g2⟩ := fget_ix hcz
      obtain ⟨v1, k1, k2⟩ := r5 i _ _ g1 g2
      obtain ⟨k2, k3⟩ : v1 = .str (tS cz) ∧ tOk cz = true := k2
      subst k2
      rw [F.code] at k1
      obtain ⟨v, k4, k5⟩ := fldX_ok r5 hw
      have ko : okC p.rk (clS T p.rfd) (tS cz) := fun hk => by
       rw [hk, Bool.true_and] at hok
       have hok : (p.rfd.any fun q => q.1.contains cz) = true := by simpa using hok
       obtain ⟨q1, h1, h2⟩ := List.any_eq_true.mp hok
       exact ⟨(q1.1.map tS, T.sy q1.2), List.mem_map.mpr ⟨q1, h1, rfl⟩, List.mem_map.mpr ⟨cz, by simpa using h2, rfl⟩⟩
      obtain ⟨y1, y2⟩ := hR _ hrok
      refine ⟨by rw [r1]; exact y1 hrl, T.ca xx.C, dx, fs, tS cz, v, r1, r2, y2, r3, k1, ko, k4, fun H3 kp p1 o1 ho1 hp1 => ?_⟩
      have S3 : Stp c2 H2 c2 (upd H3 p1 (.frz o1 (.tup [V.str (tS cz), v]))) := (Stp.extN (LamX.ExtN.of kp)).trans (Stp.grow hp1)
      refine q (.ref p1) _ c2 ((S1.trans S2).trans S3) ((h2.keep kp).grow hp1) ?_
      have nf1 : ¬ c2.nf p1 := (h2.keep kp).new hp1
      show RW T c2.lv c2.nf _ (.tup [.str cz, w]) (.ref p1)
      simp only [RW]
      exact ⟨p1, [V.str (tS cz), v], rfl, .inl ⟨⟨o1, ho1, upd_same⟩, nf1⟩, RWs.cons (show V.str (tS cz) = V.str (tS cz) ∧ tOk cz = true from ⟨rfl, k3⟩) (RWs.cons (k5.mono S3.mn) RWs.nil)⟩
     ·exact (show False from q).elim
    ·exact (show False from q).elim
theorem se_rfd {x : Str} {g : Nat} {body : Expr} {params : Arguments} {scope : Scope} {p1 lpos pos : Pos} {b : E} (F : RfdF T p X k x) (hgl : Gl X x) (hdb : (x == ("__debug__" : Str)) = false) (L : LamX.LamS X.env.scope scope) (hdef : defaultsOf params X.env = ([], []))
  (hbind : ∀ (q : Str) (cl : List (Str × Addr)) (pm cv ctv : Value), bindArgs (PySem.W.kla_fn "<lambda>" q params body scope cl pm cv ctv) ⟨[], []⟩ = pure [])
  (hbody : ∀ (A : Around) (outer : List Env) (s : Shared) (H : Hp) (E : XK) (f c' : Addr), Room (k + 1) (A.deeper (LamX.lamEnv X scope s.heap.objs.size f c')) → SE T (LamX.lamCx X A outer s H E scope f c') (fun cls d _ H => E cls d H) body (evE p cal b)) :
  SE T X Wx (.Call (.Name x p1) [.Lambda params body scope lpos] [] pos) (evE p cal (.rfd g b)) := by
 have hA : X.A.depth + 1 < recursionLimit := by have := F.room.dp; omega
 obtain ⟨ask, told, e, ga, CP, pg, bg, sg, dV, kV, doc, pm, cdv, ct, oc, an, od, osl, f1, f2, f3, f4, f5, f6, f7, n6, n7, hGv, hLk, hR⟩ := RfdG.use F.df hA
 obtain ⟨cc, hcc, TB⟩ := F.cd
 have hG := LamX.pe_lamcall (X := X) (T := [(T.ta, T.tq)]) (TT := TRefP T p X.K CP) (t := fun E => rdE T (fun cls d _ H => E cls d H) (evE p cal b)) (p := p1) (lpos := lpos) (pos := pos) hgl f1 f2 f3 f4 f5 f6 rfl f7
  (hGv _) TB hcc (by rw [F.q]; exact List.mem_singleton.mpr rfl) (fun z hz _ => by rw [List.mem_singleton.mp hz, F.q]) F.room L hdef hbind hbody hdb n6 n7
 exact rfd_core F hLk hR hG
end
end Ev
set_option maxHeartbeats 2000000
namespace Ev
open PySem PySem.Spec PyProof.Rows L2 Calls LamX
structure LamD (N : List Str) (a : Str) (sc scope : Scope) : Prop where
 kind : scope.kind = .function
 co : scope.isCoroutine = false
 gen : scope.isGenerator = false
 cel : ∀ y ∈ scope.names, y.2 ≠ .cell
 own : ∀ y ∈ scope.names, y.2 = .local → y.1 = a
 par : scope.names.lookup a = some .local
 out : a ∉ N
 free : ∀ y ∈ scope.names, y.2 = .free → sc.names.lookup y.1 = some .cell ∨ sc.names.lookup y.1 = some .free
def lamDB (N : List Str) (a : Str) (sc scope : Scope) : Bool :=
 decide (scope.kind = .function) && !scope.isCoroutine && !scope.isGenerator && (scope.names.all fun y => !decide (y.2 = .cell) && (!decide (y.2 = .local) || decide (y.1 = a)) && (!decide (y.2 = .free) || decide (sc.names.lookup y.1 = some .cell) || decide (sc.names.lookup y.1 = some .free))) && decide (scope.names.lookup a = some .local) && !N.contains a
theorem lamD_by {N : List Str} {a : Str} {sc scope : Scope} (h : lamDB N a sc scope = true) : LamD N a sc scope := by
 unfold lamDB at h
 simp only [Bool.and_eq_true, Bool.not_eq_true', decide_eq_true_eq, List.all_eq_true] at h
 obtain ⟨⟨⟨⟨⟨h1, h2⟩, h3⟩, h4⟩, h5⟩, h6⟩ := h
 refine ⟨h1, h2, h3, fun y hy e => ?_, fun y hy e => ?_, h5, fun hm => ?_, fun y hy e => ?_⟩
 ·have := (h4 y hy).1.1
  simp [e] at this
 ·have := (h4 y hy).1.2
  simpa [e] using this
 ·have : N.contains a = true := by simpa using hm
  rw [h6] at this; cases this
 ·have := (h4 y hy).2
  simp only [Bool.or_eq_true, Bool.not_eq_true', decide_eq_false_iff_not, decide_eq_true_eq] at this
  rcases this with (z | z) | z
  ·exact absurd e z
  ·exact .inl z
  ·exact .inr z
section
variable {X : Cx} {a : Str} {scope : Scope} {pins : List (Addr × Obj)} {σ : L2.St} {H HZ : Hp} {s s1 : Shared}
theorem LamD.has (L : LamD X.N a X.env.scope scope) (ok : X.Ok) : ∀ y ∈ scope.names, y.2 = .free → ∃ c, X.env.cells.lookup y.1 = some c := fun y hy e =>
 (L.free y hy e).elim (fun k => ok.has _ (.inl k)) fun k => ok.has _ (.inr k)
abbrev ldObj (X : Cx) (params : Arguments) (body : Expr) (scope : Scope) (t : Addr) (doc pm : Value) (c' : Addr) (ctv : Value) : Obj :=
 PySem.W.kdv_obj "<lambda>" (X.env.qual ++ "<lambda>") params (.expr body) scope (cloFrom X.env.cells scope.names []) (.ref t) doc pm c' ctv
abbrev MadeD (X : Cx) (pins : List (Addr × Obj)) (σ : L2.St) (H : Hp) (T : List (Addr × Str)) (params : Arguments) (body : Expr) (scope : Scope) (z : Int) (Q : Value → Shared → Prop) : Prop :=
 ∀ (f t c' : Addr) (doc pm ctv u : Value) (H1 : Hp) (s' : Shared), Inv X pins σ H1 s' → ExtN H H1 → Tabs T H1 → s'.heap.get? f = some (ldObj X params body scope t doc pm c' ctv) → s'.heap.get? t = some (PySem.W.kdv_tup [u]) → RelV (.int z) u →
  H1 f = none → H1 t = none → f ∉ frs X.stack → t ∉ frs X.stack → H1 c' = some (CodeO c' (X.env.qual ++ "<lambda>")) → Q (.ref f) s'
theorem ld_make {T : List (Addr × Str)} {c P : Addr} {params : Arguments} {body : Expr} {pos dp : Pos} {dj : Nat} {z : Int} {E : Value → Shared → Prop} {Q : Value → Shared → Prop} (I : Inv X pins σ H s) (TB : TabB X.base X.mg c P) (hcode : X.env.code = .ref c)
  (hm : (P, X.env.qual ++ "<lambda>") ∈ T) (hu : ∀ p ∈ T, p.1 = P → p.2 = X.env.qual ++ "<lambda>") (hT : Tabs T H) (hd : params.defaults = [.Constant (.int z) dj dp]) (hk0 : params.kw_defaults = []) (hfree : ∀ y ∈ scope.names, y.2 = .free → ∃ c, X.env.cells.lookup y.1 = some c)
  (h : MadeD X pins σ H T params body scope z Q) : wpAny (model X.prog X.w) X.A (eval (.Lambda params body scope pos) X.env) Q E s := by
 refine PySem.W.kdv_lam (by rw [hd]; rfl) hk0 ?_
 rw [hd]
 refine PySem.W.kdv_all1 (wpAny_Constant_int (PySem.W.kdv_all0 ?_))
 generalize hu0 : Value.int z s.toks = u
 have ru : RelV (.int z) u := ⟨s.toks, hu0.symm⟩
 replace I := I.tok (s.toks + 1)
 generalize ({ s with toks := s.toks + 1 } : Shared) = s at I
 rw [makeFunction_eq]
 simp only [List.zip_nil_right, List.filterMap_nil, List.isEmpty_nil, if_true, pure_bind, List.isEmpty_cons, Bool.false_eq_true, if_false]
 refine wpAny_bind (wpAny_newTextTuple ?_)
 have ft : s.heap.get? s.heap.objs.size = none := Heap.get?_none_of_le (Nat.le_refl _)
 have nfr : ∀ b, s.heap.objs.size ≤ b → b ∉ frs X.stack := fun b hb y => (List.mem_cons.mp (I.stkSub _ y)).elim (fun e => by
  have := I.lt
  rw [← e] at this
  exact Nat.lt_irrefl _ (Nat.lt_of_lt_of_le this hb)) fun e => I.nofs hb e
 have ot : (s.heap.push (PySem.W.kdv_tup [u])).get? s.heap.objs.size = some (PySem.W.kdv_tup [u]) := Heap.get?_push_size _ rfl
 have st : (s.heap.push (PySem.W.kdv_tup [u])).objs.size = s.heap.objs.size + 1 := Heap.size_push ..
 have nt : H s.heap.objs.size = none := I.hok.fresh (Nat.le_refl _)
 have ut := nfr _ (Nat.le_refl s.heap.objs.size)
 have lts : ∀ b o, s.heap.get? b = some o → b < s.heap.objs.size := fun b o e => Heap.lt_size e
 have I2 : Inv X pins σ H { s with heap := s.heap.push (PySem.W.kdv_tup [u]) } := I.kept (t' := s.toks) fun b o e => Heap.get?_push_of_some _ e
 generalize s.heap.objs.size = t at *
 generalize hs2 : ({ s with heap := s.heap.push (PySem.W.kdv_tup [u]) } : Shared) = s2 at I2
 have ot2 : s2.heap.get? t = some (PySem.W.kdv_tup [u]) := by rw [← hs2]; exact ot
 have lt2 : t < s2.heap.objs.size := Heap.lt_size ot2
 have nf2 : ∀ b, s2.heap.objs.size ≤ b → b ∉ frs X.stack := fun b hb => nfr b (by omega)
 show wpAny (model X.prog X.w) X.A (makeTail "<lambda>" (X.env.qual ++ "<lambda>") params (.expr body) scope X.env (.ref t) .none none pos pos.line) Q E s2
 obtain ⟨ps, hP, tr, am⟩ := hT _ hm
 have bP : s2.heap.BuiltinsAt X.mg P := TB.bm.keeps I2.bk
 have hP2 : s2.heap.get? P = some (PySem.W.tabObj ps) := I2.hok P _ hP
 have glb := I2.mod.glob.keeps I2.bk
 cases hc : codeAmong pos ps.toList with
 | some cv =>
  obtain ⟨c', e, hco⟩ := am pos cv hc
  subst e
  refine PySem.W.kdv_makeTailHit (mg := X.mg) (c := c) (P := P) (ps := ps) (closure_ok hfree) I2.ok.glob glb hcode (TB.code.keeps I2.bk) hP2 tr hc bP fun ctv doc h' tk hx hsz => ?_
  have k2 : ∀ b o, s2.heap.get? b = some o → (h'.push (ldObj X params body scope t doc ((X.mg "__name__").getD .none) c' ctv)).get? b = some o := fun b o e => Heap.get?_push_of_some _ (hx b o e)
  exact h h'.objs.size t c' doc ((X.mg "__name__").getD .none) ctv u H _ (I2.kept k2) (ExtN.refl H) hT (Heap.get?_push_size _ rfl) (k2 _ _ ot2) ru (I2.hok.fresh hsz) nt (nf2 _ hsz) ut hco
 | none =>
  refine PySem.W.kdv_makeTail (mg := X.mg) (c := c) (P := P) (ps := ps) (closure_ok hfree) I2.ok.glob glb hcode (TB.code.keeps I2.bk) hP2 tr hc TB.gP bP fun c' ctv doc h' tk hx hge hlt hrec htb => ?_
  obtain ⟨c2, oc, vs, tq, e2, hoc, hdd, hv⟩ := hrec
  cases e2
  have nC : H c' = none := I2.hok.fresh hge
  have tP : t ≠ P := fun e => by rw [e, hP] at nt; cases nt
  have le : s2.heap.objs.size ≤ h'.objs.size := by omega
  have mine := inv_table (t' := tk) (more := #[rawInt pos.line, rawInt pos.col, .ref c']) (h' := h'.push (ldObj X params body scope t doc ((X.mg "__name__").getD .none) c' ctv)) I2 hP
   (fun b o hb e => Heap.get?_push_of_some _ (hx b o hb e)) (Heap.get?_push_of_some _ htb) hge ⟨oc, vs, tq, Heap.get?_push_of_some _ hoc, hdd, hv⟩
  have old : ExtN H (upd (upd H P (.tbl (ps ++ #[rawInt pos.line, rawInt pos.col, .ref c']))) c' (CodeO c' (X.env.qual ++ "<lambda>"))) := fun b o e n => by
   have n1 : b ≠ c' := ne_of_none e nC
   have n2 : b ≠ P := fun z => by
    rw [z, hP] at e
    exact n ps (Option.some.inj e).symm
   rw [upd_ne n1, upd_ne n2]
   exact e
  have el : (ps ++ #[rawInt pos.line, rawInt pos.col, .ref c']).toList = ps.toList ++ [rawInt pos.line, rawInt pos.col, .ref c'] := by simp
  have mt : H h'.objs.size = none := I2.hok.fresh le
  refine h h'.objs.size t c' doc ((X.mg "__name__").getD .none) ctv u _ _ mine old (fun p hp => ?_) (Heap.get?_push_size _ rfl) (Heap.get?_push_of_some _ (hx _ _ tP ot2)) ru ?_ ?_ (nf2 _ le) ut upd_same
  ·by_cases hb : p.1 = P
   ·rw [hu p hp hb, hb]
    refine ⟨_, by rw [upd_ne (ne_of_none hP nC), upd_same], by rw [el]; exact PySem.TriplesOk_snoc _ _ _ _ tr, fun p' cv hcv => ?_⟩
    rw [el] at hcv
    exact (among_app _ tr hcv).elim (fun y => by
     obtain ⟨c0, e1, e2⟩ := am p' cv y
     exact ⟨c0, e1, old _ _ e2 codeO_ne⟩) fun y => ⟨c', y, upd_same⟩
   ·obtain ⟨ps', a1, a2, a3⟩ := hT p hp
    refine ⟨ps', by rw [upd_ne (ne_of_none a1 nC), upd_ne hb]; exact a1, a2, fun p' cv hcv => ?_⟩
    obtain ⟨c0, e1, e2⟩ := a3 p' cv hcv
    exact ⟨c0, e1, old _ _ e2 codeO_ne⟩
  ·have lP : P < s2.heap.objs.size := Heap.lt_size hP2
   rw [upd_ne (Nat.ne_of_gt hlt), upd_ne (Nat.ne_of_gt (Nat.lt_of_lt_of_le lP le))]
   exact mt
  ·rw [upd_ne (Nat.ne_of_lt (Nat.lt_of_lt_of_le lt2 hge)), upd_ne tP]
   exact nt
theorem ld_start {A : Around} {outer : List Env} {E : XK} {f c' : Addr} {h₁ : Heap} {tk : Nat} {bi : List (Str × Value)} (I : Inv X pins σ H s) (L : LamD X.N a X.env.scope scope) (e0 : Env0 X.prog X.w X.K X.mg X.base A outer s1 HZ) (hd : A.handled = none)
  (un : Un (frs X.stack) [] H HZ s.heap s1.heap) (hns : h₁.Ns s1.heap.objs.size fun y => bi.reverse.lookup y) (kp : ∀ b o, s1.heap.get? b = some o → h₁.get? b = some o) :
  Inv (lamCx X A outer s1 HZ E scope f c') [] σ HZ { s1 with heap := h₁, toks := tk } := by
 have hf := L.has I.ok
 have cm : ∀ {y c}, (cloFrom X.env.cells scope.names []).lookup y = some c → X.env.cells.lookup y = some c := fun {y c} e => by
  rcases cloFrom_mem (PySem.mem_of_lookup e) with hm | ⟨h1, h2⟩
  ·cases hm
  ·obtain ⟨c1, hc⟩ := hf _ h1 rfl
   replace hc : X.env.cells.lookup y = some c1 := hc
   have : c = c1 := by rw [h2, hc] <;> rfl
   rw [this]; exact hc
 have free : ∀ {y}, scope.names.lookup y = some .free → ∃ c, (cloFrom X.env.cells scope.names []).lookup y = some c := fun {y} hl =>
  mem_lookup (cloFrom_has (cells := X.env.cells) (acc := []) (show (y, NameKind.free) ∈ scope.names from PySem.mem_of_lookup hl))
 have cellK : ∀ {c : Addr} {v : Option Value}, H c = none → s.heap.IsCell c v → h₁.IsCell c v := fun {c v} n ⟨o, ho, hd⟩ => by
  obtain ⟨sl, q⟩ := un.any ho n (by simp)
  exact ⟨_, kp _ _ q, hd⟩
 have noA : ∀ b : Addr, b ∉ (lamCx X A outer s1 HZ E scope f c').ex := fun b y => absurd (show b ∈ ([] : List Addr) from y) (by simp)
 have ok1 : ∀ y, (scope.names.lookup y = some .cell ∨ scope.names.lookup y = some .free) → ∃ c, (cloFrom X.env.cells scope.names []).lookup y = some c := fun y hy => by
  rcases hy with hy | hy
  ·exact absurd rfl (L.cel _ (PySem.mem_of_lookup hy))
  ·exact free hy
 have loc1 : ∀ (i : Nat) (y : Str) (v : V), X.N[i]? = some y → σ[i]? = some (some v) → Vis scope y → ∃ u, RelV v u ∧ Look (lamEnv X scope s1.heap.objs.size f c') h₁ (fun y => bi.reverse.lookup y) y u := fun i y v e2 e1 e3 => by
  rcases e3 with k | k | k
  ·have ey : y = a := L.own _ (PySem.mem_of_lookup k) rfl
   exact absurd (List.mem_of_getElem? e2) (by rw [ey]; exact L.out)
  ·exact absurd rfl (L.cel _ (PySem.mem_of_lookup k))
  ·obtain ⟨m, hn, hl⟩ := I.loc
   have hvis : Vis X.env.scope y := (L.free _ (PySem.mem_of_lookup k) rfl).elim (fun k => .inr (.inl k)) (fun k => .inr (.inr k))
   obtain ⟨u, r, q⟩ := hl i y v e2 e1 hvis
   obtain ⟨c2, h2⟩ := free k
   refine ⟨u, r, .inr ⟨.inr k, c2, h2, ?_⟩⟩
   have c1 := cm h2
   rcases q with ⟨k', _⟩ | ⟨_, c3, e', y3⟩
   ·replace k' : X.env.scope.names.lookup y = some .local := k'
    rcases L.free _ (PySem.mem_of_lookup k) rfl with k2 | k2 <;> rw [show X.env.scope.names.lookup y = _ from k2] at k' <;> cases k'
   ·rw [c1] at e'
    cases e'
    exact cellK (I.freeC y _ c1) y3
 refine ⟨⟨e0.mod, L.kind, rfl, rfl, Nat.le_refl _, fun y z c e1 e2 => I.ok.inj y z c (cm e1) (cm e2), fun y hy => ok1 y hy, fun y c z _ => absurd (show false = true from z) (by decide), fun _ => hd, Around.frames_deeper e0.frames, .inr ⟨rfl, rfl⟩, fun b z => absurd z (noA b), e0.bs, e0.bsz, fun b _ _ => noA b,
   fun b z => absurd z (noA b), e0.funs, e0.frf⟩,
  rfl, e0.bare, Un.kept kp, ⟨_, hns, loc1⟩, fun y c e => ?_, e0.hok.fresh (Nat.le_refl _), fun y c e => ?_, fun q hq => absurd (show q ∈ ([] : List (Addr × Obj)) ++ [] from hq) (by simp), e0.hok.kept kp, I.len⟩
 ·obtain ⟨w', z⟩ := I.cell y c (cm e)
  exact ⟨w', cellK (I.freeC y c (cm e)) z⟩
 ·obtain ⟨v, o, ho, hd⟩ := I.cell y c (cm e)
  exact un.free c o ho (I.freeC y c (cm e)) (by simp)
abbrev DefB (params : Arguments) (body : Expr) (scope : Scope) (a : Str) : Prop := ∀ (q : Str) (cl : List (Str × Addr)) (dV doc pm cv ctv u : Value), ∃ k : Option (Array Value) → Sem (List (Str × Value)),
 bindArgs (PySem.W.kdv_fn "<lambda>" q params (.expr body) scope cl dV doc pm cv ctv) ⟨[], []⟩ = seqItems? dV >>= k ∧ k (some #[u]) = pure [(a, u)]
theorem ld_act {CXg : CXT} {Eg : XK} {Ng : List Str} {qg : Str} {sg : Scope} {g f t c' : Addr} {cdg pm ctv doc u : Value} {params : Arguments} {body : Expr} {k i : Nat} {ask : Str} {pn : List (Addr × Obj)} {xe : Value → Shared → Prop} {W : WX} {E : XK} {tb : TE} {p1 p2 : Pos}
  (I : Inv X pins σ H s) (L : LamD X.N a X.env.scope scope) (hf : s.heap.get? f = some (ldObj X params body scope t doc pm c' ctv)) (ht : s.heap.get? t = some (PySem.W.kdv_tup [u])) (hfn : H f = none) (htn : H t = none) (hfr : f ∉ frs X.stack) (htr : t ∉ frs X.stack) (hb : DefB params body scope a)
  (tk : Takes ((cxOf CXg X.prog X.w X.K X.mg X.base Ng qg sg g cdg X.A X.stack s H Eg).tr pn xe) W) (hW : ∀ cls d σ' H', E cls d H' → W cls d σ' H') (hr : Room (k + 1) (X.A.deeper (envOfC qg sg s.heap.objs.size g cdg)))
  (hbody : ∀ (A : Around) (outer : List Env) (s : Shared) (H : Hp), Room k (A.deeper (lamEnv X scope s.heap.objs.size f c')) → PE (lamCx X A outer s H E scope f c') body tb)
  (hN : Ng[i]? = some ask) (hv : Vis sg ask) (hd : (ask == ("__debug__" : Str)) = false) (hcd : (ask == ("__classdict__" : Str)) = false) :
  PE ((cxOf CXg X.prog X.w X.K X.mg X.base Ng qg sg g cdg X.A X.stack s H Eg).tr pn xe) (.Call (.Name ask p1) [] [] p2)
   (fun σZ HZ Q => σZ[i]? = some (some (.ref f)) ∧ HZ c' = some (CodeO c' (X.env.qual ++ "<lambda>")) ∧ tb σ HZ Q) := by
 constructor
 intro pinsZ sZ σZ HZ Q IZ h
 obtain ⟨hs, hc, hq⟩ := h
 refine wpAny_Call_Name_kw (thn ((pe_var (pos := p1) (i := i) hN hv hd hcd).run pinsZ sZ σZ HZ (fun v H1 => v = .ref f ∧ H1 = HZ) IZ ⟨.ref f, hs, rfl, rfl⟩) fun uf s1 ⟨v, H1, I1, r1, q1⟩ => ?_)
 obtain ⟨rfl, rfl⟩ := q1
 obtain rfl : uf = Value.ref f := r1
 have nil : ∀ b : Addr, b ∉ ([] : List Addr) := fun b y => nomatch y
 have of1 := I1.base.keep f _ hf hfn hfr (nil f)
 have ot1 := I1.base.keep t _ ht htn htr (nil t)
 refine PySem.W.callWith_F0 ⟨_, _, _, _, of1⟩ ?_
 have un : Un (frs X.stack) [] H H1 s.heap s1.heap := I1.base
 obtain ⟨⟨oc, vs, tq, hoc, hdc, hvc⟩, _, _⟩ := I1.hok c' _ hc
 have rc : codeAny (model X.prog X.w) (X.A.deeper (envOfC qg sg s.heap.objs.size g cdg)) (.call (.ref f) ⟨[], []⟩) (CR (L2.CX X.prog X.w) (envOfC qg sg s.heap.objs.size g cdg :: X.stack) X.prog X.w H1 s1 Q E) s1 := by
  obtain ⟨kk, b1, b2⟩ := hb (X.env.qual ++ "<lambda>") (cloFrom X.env.cells scope.names []) (.ref t) doc pm (.ref c') ctv u
  have bi := BindsTo.of_defaults (s := s1) (fd := PySem.W.kdv_fn "<lambda>" (X.env.qual ++ "<lambda>") params (.expr body) scope (cloFrom X.env.cells scope.names []) (.ref t) doc pm (.ref c') ctv) (args := ⟨[], []⟩) rfl ot1 rfl b1 b2
  refine PySem.W.kla_callFunE hr.depth of1 rfl L.co L.gen rfl ⟨c', oc, vs, tq, rfl, hoc, hdc, hvc⟩ (bi _ _ _ _ ?_)
  refine wpAny_newFunctionEnv L.cel (fun y hy => by rw [List.mem_singleton.mp hy]; exact L.par) (fun h₁ hns hsb => ⟨I1.nolimit.fresh _ hsb, ?_⟩) L.kind
  show codeAny _ _ (.expr body (lamEnv X scope s1.heap.objs.size f c')) _ _
  have kp : ∀ b o, s1.heap.get? b = some o → h₁.get? b = some o := fun b o e => hsb.extBut b o (Nat.ne_of_lt (Heap.lt_size e)) (Heap.get?_push_of_some _ e)
  have J : Inv (lamCx X (X.A.deeper (envOfC qg sg s.heap.objs.size g cdg)) (envOfC qg sg s.heap.objs.size g cdg :: X.stack) s1 H1 E scope f c') [] σ H1 { s1 with heap := h₁, toks := s1.toks + ([(a, u)] : List (Str × Value)).length } :=
   ld_start I L I1.env0 hr.hd un hns kp
  refine PySem.W.kla_codeExpr (wpAny_mono ((hbody _ _ s1 H1 (hr.deeper _)).run [] _ _ H1 Q J hq) (fun v s' y => ?_) fun e s' y => y)
  obtain ⟨w', H', J', rv, q⟩ := y
  exact ⟨w', H', J'.os, J'.bare, J'.base, J'.hok, rv, q⟩
 refine wpAny_call (codeAny_mono rc fun r s' hq => ?_)
 match r with
 | .error e => exact (passes_call tk hW) pinsZ σZ H1 s1 e s' I1 hq
 | .ok (.ret w') => exact I1.after hq
 | .ok .next => exact False.elim hq
 | .ok .brk => exact False.elim hq
 | .ok .cont => exact False.elim hq
theorem ld_call {T : List (Addr × Str)} {TT : (XK → Hp → VK → Prop) → Hp → VK → Prop} {x ask : Str} {g c P : Addr} {k : Nat} {pg : Arguments} {bg : List Stmt} {sg : Scope} {dV kV doc pm cdv ct oc : Value} {an od : Option Addr} {osl : Array (Option Value)} {Ng : List Str}
  {params : Arguments} {body : Expr} {z : Int} {dj : Nat} {dp : Pos} {tb : XK → TE} {p lpos pos : Pos} (hg : Gl X x) (hm : X.mg x = some (.ref g)) (hk : PySem.W.keepIn X.K (.ref g) = true)
  (lk : X.K.lookup g = some ⟨oc, od, .func (PySem.W.fnOf x x pg bg sg dV kV doc pm an cdv ct), osl⟩) (hcg : PySem.W.codeIn X.K cdv x = true) (hb : L2.Binds X.K (PySem.W.fnOf x x pg bg sg dV kV doc pm an cdv ct) [ask] []) (Sg : FnScope Ng [ask] sg) (hNg : Ng[0]? = some ask) (hva : Vis sg ask)
  (hG : GivesTo X Ng x sg g cdv bg ask (X.env.qual ++ "<lambda>") TT)
  (TB : TabB X.base X.mg c P) (hcode : X.env.code = .ref c) (hmT : (P, X.env.qual ++ "<lambda>") ∈ T) (hu : ∀ p ∈ T, p.1 = P → p.2 = X.env.qual ++ "<lambda>") (hr : Room (k + 2) X.A) (L : LamD X.N a X.env.scope scope) (hd : params.defaults = [.Constant (.int z) dj dp]) (hk0 : params.kw_defaults = [])
  (hbind : DefB params body scope a)
  (hbody : ∀ (A : Around) (outer : List Env) (s : Shared) (H : Hp) (E : XK) (f c' : Addr), Room k (A.deeper (lamEnv X scope s.heap.objs.size f c')) → PE (lamCx X A outer s H E scope f c') body (tb E))
  (hdb : (x == ("__debug__" : Str)) = false) (n1 : (ask == ("__debug__" : Str)) = false) (n2 : (ask == ("__classdict__" : Str)) = false) :
  PE X (.Call (.Name x p) [.Lambda params body scope lpos] [] pos) (tLam T TT tb) := by
 constructor
 intro pins s σ H Q I ⟨hT, h⟩
 refine wpAny_Call_Name_kw (ld_glob I hg hm ?_ hdb)
 refine PySem.W.callWith_K (h₀ := X.base) I.ok.mod.kin hk ?_ (by rfl) (by rfl)
 show wpAny _ _ (spliced ((false, eval (.Lambda params body scope lpos) X.env) :: backTo pos (starEach [] X.env))) _ _ s
 refine Calls.spliced_cons (ld_make I TB hcode hmT hu hT hd hk0 (L.has I.ok) fun f t c' doc' pm' ctv u H1 s' I1 eN T1 hf ht _ hfn htn hfr htr hco => ?_)
 refine Calls.spliced_nil ⟨I1.kIn, ?_⟩
 have rc : codeAny (model X.prog X.w) X.A (.call (.ref g) ⟨[.ref f], []⟩) (CR C8.CX0 X.stack X.prog X.w H1 s' Q C8.E0) s' := by
  refine run_ofS (N := Ng) (ps := [ask]) (us := [.ref f]) (vs := [.ref f]) lk hcg Sg hr I1.env0 (hb s' [.ref f] I1.kIn rfl) (.cons rfl .nil) rfl fun hr' => ?_
  obtain ⟨t', ht', hq'⟩ := hG f c' s' H1 Q (fun E H' Q' => tb E σ H' Q') (fun W pn xe E p1 p2 tk hW => ld_act (i := 0) I1 L hf ht hfn htn hfr htr hbind tk hW hr' (fun A outer s H hr2 => hbody A outer s H E f c' hr2) hNg hva n1 n2) hco (h H1 eN T1)
  exact ⟨t', ht'.nox, hq'⟩
 refine wpAny_call (codeAny_mono rc fun r s2 hq => ?_)
 match r with
 | .error e => exact (show False from hq).elim
 | .ok (.ret w') => exact I1.after hq
 | .ok .next => exact False.elim hq
 | .ok .brk => exact False.elim hq
 | .ok .cont => exact False.elim hq
end
def onePar : Arguments → Option Str
 | ⟨[], [⟨a, none, _⟩], none, [], [], none, [.Constant (.int _) _ _]⟩ => some a
 | _ => none
theorem onePar_ok {params : Arguments} {a : Str} (h : onePar params = some a) : ∃ (ap dp : Pos) (z : Int) (dj : Nat), params = ⟨[], [⟨a, none, ap⟩], none, [], [], none, [.Constant (.int z) dj dp]⟩ := by
 unfold onePar at h
 split at h
 ·cases h
  exact ⟨_, _, _, _, rfl⟩
 ·cases h
theorem onePar_def {params : Arguments} {a : Str} {body : Expr} {scope : Scope} (h : onePar params = some a) : DefB params body scope a := by
 obtain ⟨ap, dp, z, dj, rfl⟩ := onePar_ok h
 intro q cl dV doc pm cv ctv u
 exact ⟨_, rfl, by simp⟩
section
variable {T : Tb} {X : Cx} {Wx : WX} {p : Pg} {cal : Bool → Nat → List W → List OO → RC} {k : Nat}
theorem se_rfdD {x : Str} {g : Nat} {body : Expr} {params : Arguments} {scope : Scope} {p1 lpos pos : Pos} {b : E} {a : Str} (F : RfdF T p X k x) (hgl : Gl X x) (hdb : (x == ("__debug__" : Str)) = false) (hp : onePar params = some a) (L : LamD X.N a X.env.scope scope)
  (hbody : ∀ (A : Around) (outer : List Env) (s : Shared) (H : Hp) (E : XK) (f c' : Addr), Room (k + 1) (A.deeper (LamX.lamEnv X scope s.heap.objs.size f c')) → SE T (LamX.lamCx X A outer s H E scope f c') (fun cls d _ H => E cls d H) body (evE p cal b)) :
  SE T X Wx (.Call (.Name x p1) [.Lambda params body scope lpos] [] pos) (evE p cal (.rfd g b)) := by
 have hA : X.A.depth + 1 < recursionLimit := by have := F.room.dp; omega
 obtain ⟨ask, told, e, ga, CP, pg, bg, sg, dV, kV, doc, pm, cdv, ct, oc, an, od, osl, f1, f2, f3, f4, f5, f6, f7, n6, n7, hGv, hLk, hR⟩ := RfdG.use F.df hA
 obtain ⟨cc, hcc, TB⟩ := F.cd
 obtain ⟨ap, dp, z, dj, ep⟩ := onePar_ok hp
 have hG := ld_call (X := X) (a := a) (z := z) (dj := dj) (dp := dp) (T := [(T.ta, T.tq)]) (TT := TRefP T p X.K CP) (tb := fun E => rdE T (fun cls d _ H => E cls d H) (evE p cal b)) (p := p1) (lpos := lpos) (pos := pos) hgl f1 f2 f3 f4 f5 f6 rfl f7
  (hGv _) TB hcc (by rw [F.q]; exact List.mem_singleton.mpr rfl) (fun z hz _ => by rw [List.mem_singleton.mp hz, F.q]) F.room L (by rw [ep]) (by rw [ep]) (onePar_def hp) hbody hdb n6 n7
 exact rfd_core F hLk hR hG
end
end Ev
set_option maxHeartbeats 2000000
namespace Ev
open PySem PySem.Spec PyProof.Rows L2 Calls LamX
section
variable {X : Cx} {a : Str} {scope : Scope} {pins : List (Addr × Obj)} {σ : L2.St} {H HZ : Hp} {s s1 : Shared}
theorem pin_new {P : Program} {w : World} {h : Heap} {a : Addr} {o : Obj} {H : Hp} (e : h.get? a = some o) : ObjOk P w H h a (pinO a o) := ⟨e, ⟨o, e⟩, fun h1 h2 p q => q _ p⟩
abbrev MadeK (X : Cx) (pins : List (Addr × Obj)) (σ : L2.St) (H : Hp) (T : List (Addr × Str)) (params : Arguments) (body : Expr) (scope : Scope) (z : Int) (Q : Value → Shared → Prop) : Prop :=
 ∀ (f t c' : Addr) (doc pm ctv u : Value) (H1 : Hp) (s' : Shared), Inv X pins σ H1 s' → ExtN H H1 → Tabs T H1 → H1 f = some (pinO f (ldObj X params body scope t doc pm c' ctv)) → H1 t = some (pinO t (PySem.W.kdv_tup [u])) → RelV (.int z) u →
  H1 c' = some (CodeO c' (X.env.qual ++ "<lambda>")) → Q (.ref f) s'
theorem lk_make {T : List (Addr × Str)} {c P : Addr} {params : Arguments} {body : Expr} {pos dp : Pos} {dj : Nat} {z : Int} {E : Value → Shared → Prop} {Q : Value → Shared → Prop} (I : Inv X pins σ H s) (TB : TabB X.base X.mg c P) (hcode : X.env.code = .ref c)
  (hm : (P, X.env.qual ++ "<lambda>") ∈ T) (hu : ∀ p ∈ T, p.1 = P → p.2 = X.env.qual ++ "<lambda>") (hT : Tabs T H) (hd : params.defaults = [.Constant (.int z) dj dp]) (hk0 : params.kw_defaults = []) (hfree : ∀ y ∈ scope.names, y.2 = .free → ∃ c, X.env.cells.lookup y.1 = some c)
  (h : MadeK X pins σ H T params body scope z Q) : wpAny (model X.prog X.w) X.A (eval (.Lambda params body scope pos) X.env) Q E s := by
 refine PySem.W.kdv_lam (by rw [hd]; rfl) hk0 ?_
 rw [hd]
 refine PySem.W.kdv_all1 (wpAny_Constant_int (PySem.W.kdv_all0 ?_))
 generalize hu0 : Value.int z s.toks = u
 have ru : RelV (.int z) u := ⟨s.toks, hu0.symm⟩
 replace I := I.tok (s.toks + 1)
 generalize ({ s with toks := s.toks + 1 } : Shared) = s at I
 rw [makeFunction_eq]
 simp only [List.zip_nil_right, List.filterMap_nil, List.isEmpty_nil, if_true, pure_bind, List.isEmpty_cons, Bool.false_eq_true, if_false]
 refine wpAny_bind (wpAny_newTextTuple ?_)
 have ot : (s.heap.push (PySem.W.kdv_tup [u])).get? s.heap.objs.size = some (PySem.W.kdv_tup [u]) := Heap.get?_push_size _ rfl
 have nt : H s.heap.objs.size = none := I.hok.fresh (Nat.le_refl _)
 have I2 : Inv X pins σ (upd H s.heap.objs.size (pinO s.heap.objs.size (PySem.W.kdv_tup [u]))) { s with heap := s.heap.push (PySem.W.kdv_tup [u]) } := I.laid (t' := s.toks) (fun b o e => Heap.get?_push_of_some _ e) (Nat.le_refl _) (pin_new ot)
 generalize s.heap.objs.size = t at *
 generalize hs2 : ({ s with heap := s.heap.push (PySem.W.kdv_tup [u]) } : Shared) = s2 at I2
 have e0 : ∀ b o, H b = some o → (upd H t (pinO t (PySem.W.kdv_tup [u]))) b = some o := fun b o e => by rw [upd_ne (ne_of_none e nt)]; exact e
 have at0 : (upd H t (pinO t (PySem.W.kdv_tup [u]))) t = some (pinO t (PySem.W.kdv_tup [u])) := upd_same
 have hT := hT.ext e0
 generalize upd H t (pinO t (PySem.W.kdv_tup [u])) = H2 at I2 e0 at0 hT
 show wpAny (model X.prog X.w) X.A (makeTail "<lambda>" (X.env.qual ++ "<lambda>") params (.expr body) scope X.env (.ref t) .none none pos pos.line) Q E s2
 obtain ⟨ps, hP, tr, am⟩ := hT _ hm
 have bP : s2.heap.BuiltinsAt X.mg P := TB.bm.keeps I2.bk
 have hP2 : s2.heap.get? P = some (PySem.W.tabObj ps) := I2.hok P _ hP
 have glb := I2.mod.glob.keeps I2.bk
 cases hc : codeAmong pos ps.toList with
 | some cv =>
  obtain ⟨c', e, hco⟩ := am pos cv hc
  subst e
  refine PySem.W.kdv_makeTailHit (mg := X.mg) (c := c) (P := P) (ps := ps) (closure_ok hfree) I2.ok.glob glb hcode (TB.code.keeps I2.bk) hP2 tr hc bP fun ctv doc h' tk hx hsz => ?_
  have nf : H2 h'.objs.size = none := I2.hok.fresh hsz
  have e3 : ∀ b o, H2 b = some o → (upd H2 h'.objs.size (pinO h'.objs.size (ldObj X params body scope t doc ((X.mg "__name__").getD .none) c' ctv))) b = some o := fun b o e => by rw [upd_ne (ne_of_none e nf)]; exact e
  exact h h'.objs.size t c' doc ((X.mg "__name__").getD .none) ctv u _ _ (I2.laid (fun b o e => Heap.get?_push_of_some _ (hx b o e)) hsz (pin_new (Heap.get?_push_size _ rfl))) (ExtN.of fun b o e => e3 _ _ (e0 _ _ e)) (hT.ext e3) upd_same (e3 _ _ at0) ru (e3 _ _ hco)
 | none =>
  refine PySem.W.kdv_makeTail (mg := X.mg) (c := c) (P := P) (ps := ps) (closure_ok hfree) I2.ok.glob glb hcode (TB.code.keeps I2.bk) hP2 tr hc TB.gP bP fun c' ctv doc h' tk hx hge hlt hrec htb => ?_
  obtain ⟨c2, oc, vs, tq, e2, hoc, hdd, hv⟩ := hrec
  cases e2
  have nC : H2 c' = none := I2.hok.fresh hge
  have le : s2.heap.objs.size ≤ h'.objs.size := by omega
  have mine := inv_table (t' := tk) (more := #[rawInt pos.line, rawInt pos.col, .ref c']) (h' := h') I2 hP (fun b o hb e => hx b o hb e) htb hge ⟨oc, vs, tq, hoc, hdd, hv⟩
  have old : ExtN H2 (upd (upd H2 P (.tbl (ps ++ #[rawInt pos.line, rawInt pos.col, .ref c']))) c' (CodeO c' (X.env.qual ++ "<lambda>"))) := fun b o e n => by
   have n1 : b ≠ c' := ne_of_none e nC
   have n2 : b ≠ P := fun z => by
    rw [z, hP] at e
    exact n ps (Option.some.inj e).symm
   rw [upd_ne n1, upd_ne n2]
   exact e
  have el : (ps ++ #[rawInt pos.line, rawInt pos.col, .ref c']).toList = ps.toList ++ [rawInt pos.line, rawInt pos.col, .ref c'] := by simp
  have hT3 : Tabs T (upd (upd H2 P (.tbl (ps ++ #[rawInt pos.line, rawInt pos.col, .ref c']))) c' (CodeO c' (X.env.qual ++ "<lambda>"))) := fun p hp => by
   by_cases hb : p.1 = P
   ·rw [hu p hp hb, hb]
    refine ⟨_, by rw [upd_ne (ne_of_none hP nC), upd_same], by rw [el]; exact PySem.TriplesOk_snoc _ _ _ _ tr, fun p' cv hcv => ?_⟩
    rw [el] at hcv
    exact (among_app _ tr hcv).elim (fun y => by
     obtain ⟨c0, e1, e2⟩ := am p' cv y
     exact ⟨c0, e1, old _ _ e2 codeO_ne⟩) fun y => ⟨c', y, upd_same⟩
   ·obtain ⟨ps', a1, a2, a3⟩ := hT p hp
    refine ⟨ps', by rw [upd_ne (ne_of_none a1 nC), upd_ne hb]; exact a1, a2, fun p' cv hcv => ?_⟩
    obtain ⟨c0, e1, e2⟩ := a3 p' cv hcv
    exact ⟨c0, e1, old _ _ e2 codeO_ne⟩
  have hc3 : (upd (upd H2 P (.tbl (ps ++ #[rawInt pos.line, rawInt pos.col, .ref c']))) c' (CodeO c' (X.env.qual ++ "<lambda>"))) c' = some (CodeO c' (X.env.qual ++ "<lambda>")) := upd_same
  have at3 := old _ _ at0 fun ps z => by cases z
  generalize upd (upd H2 P (.tbl (ps ++ #[rawInt pos.line, rawInt pos.col, .ref c']))) c' (CodeO c' (X.env.qual ++ "<lambda>")) = H3 at mine old hT3 hc3 at3
  have nf : H3 h'.objs.size = none := mine.hok.fresh (Nat.le_refl _)
  have e3 : ∀ b o, H3 b = some o → (upd H3 h'.objs.size (pinO h'.objs.size (ldObj X params body scope t doc ((X.mg "__name__").getD .none) c' ctv))) b = some o := fun b o e => by rw [upd_ne (ne_of_none e nf)]; exact e
  exact h h'.objs.size t c' doc ((X.mg "__name__").getD .none) ctv u _ _ (mine.laid (t' := tk) (fun b o e => Heap.get?_push_of_some _ e) (Nat.le_refl _) (pin_new (Heap.get?_push_size _ rfl))) ((ExtN.of e0).trans (old.trans (ExtN.of e3))) (hT3.ext e3) upd_same (e3 _ _ at3) ru (e3 _ _ hc3)
theorem lk_act {CXg : CXT} {Eg : XK} {Ng : List Str} {qg : Str} {sg : Scope} {g f t c' : Addr} {cdg pm ctv doc u : Value} {params : Arguments} {body : Expr} {k i : Nat} {ask : Str} {pn : List (Addr × Obj)} {xe : Value → Shared → Prop} {W : WX} {E : XK} {tb : TE} {p1 p2 : Pos}
  (I : Inv X pins σ H s) (L : LamD X.N a X.env.scope scope) (hb : DefB params body scope a)
  (tk : Takes ((cxOf CXg X.prog X.w X.K X.mg X.base Ng qg sg g cdg X.A X.stack s H Eg).tr pn xe) W) (hW : ∀ cls d σ' H', E cls d H' → W cls d σ' H') (hr : Room (k + 1) (X.A.deeper (envOfC qg sg s.heap.objs.size g cdg)))
  (hbody : ∀ (A : Around) (outer : List Env) (s : Shared) (H : Hp), Room k (A.deeper (lamEnv X scope s.heap.objs.size f c')) → PE (lamCx X A outer s H E scope f c') body tb)
  (hN : Ng[i]? = some ask) (hv : Vis sg ask) (hd : (ask == ("__debug__" : Str)) = false) (hcd : (ask == ("__classdict__" : Str)) = false) :
  PE ((cxOf CXg X.prog X.w X.K X.mg X.base Ng qg sg g cdg X.A X.stack s H Eg).tr pn xe) (.Call (.Name ask p1) [] [] p2)
   (fun σZ HZ Q => σZ[i]? = some (some (.ref f)) ∧ HZ c' = some (CodeO c' (X.env.qual ++ "<lambda>")) ∧ HZ f = some (pinO f (ldObj X params body scope t doc pm c' ctv)) ∧ HZ t = some (pinO t (PySem.W.kdv_tup [u])) ∧ tb σ HZ Q) := by
 constructor
 intro pinsZ sZ σZ HZ Q IZ h
 obtain ⟨hs, hc, hf, ht, hq⟩ := h
 refine wpAny_Call_Name_kw (thn ((pe_var (pos := p1) (i := i) hN hv hd hcd).run pinsZ sZ σZ HZ (fun v H1 => v = .ref f ∧ H1 = HZ) IZ ⟨.ref f, hs, rfl, rfl⟩) fun uf s1 ⟨v, H1, I1, r1, q1⟩ => ?_)
 obtain ⟨rfl, rfl⟩ := q1
 obtain rfl : uf = Value.ref f := r1
 have nil : ∀ b : Addr, b ∉ ([] : List Addr) := fun b y => nomatch y
 have of1 := (I1.hok f _ hf).1
 have ot1 := (I1.hok t _ ht).1
 refine PySem.W.callWith_F0 ⟨_, _, _, _, of1⟩ ?_
 have un : Un (frs X.stack) [] H H1 s.heap s1.heap := I1.base
 obtain ⟨⟨oc, vs, tq, hoc, hdc, hvc⟩, _, _⟩ := I1.hok c' _ hc
 have rc : codeAny (model X.prog X.w) (X.A.deeper (envOfC qg sg s.heap.objs.size g cdg)) (.call (.ref f) ⟨[], []⟩) (CR (L2.CX X.prog X.w) (envOfC qg sg s.heap.objs.size g cdg :: X.stack) X.prog X.w H1 s1 Q E) s1 := by
  obtain ⟨kk, b1, b2⟩ := hb (X.env.qual ++ "<lambda>") (cloFrom X.env.cells scope.names []) (.ref t) doc pm (.ref c') ctv u
  have bi := BindsTo.of_defaults (s := s1) (fd := PySem.W.kdv_fn "<lambda>" (X.env.qual ++ "<lambda>") params (.expr body) scope (cloFrom X.env.cells scope.names []) (.ref t) doc pm (.ref c') ctv) (args := ⟨[], []⟩) rfl ot1 rfl b1 b2
  refine PySem.W.kla_callFunE hr.depth of1 rfl L.co L.gen rfl ⟨c', oc, vs, tq, rfl, hoc, hdc, hvc⟩ (bi _ _ _ _ ?_)
  refine wpAny_newFunctionEnv L.cel (fun y hy => by rw [List.mem_singleton.mp hy]; exact L.par) (fun h₁ hns hsb => ⟨I1.nolimit.fresh _ hsb, ?_⟩) L.kind
  show codeAny _ _ (.expr body (lamEnv X scope s1.heap.objs.size f c')) _ _
  have kp : ∀ b o, s1.heap.get? b = some o → h₁.get? b = some o := fun b o e => hsb.extBut b o (Nat.ne_of_lt (Heap.lt_size e)) (Heap.get?_push_of_some _ e)
  have J : Inv (lamCx X (X.A.deeper (envOfC qg sg s.heap.objs.size g cdg)) (envOfC qg sg s.heap.objs.size g cdg :: X.stack) s1 H1 E scope f c') [] σ H1 { s1 with heap := h₁, toks := s1.toks + ([(a, u)] : List (Str × Value)).length } :=
   ld_start I L I1.env0 hr.hd un hns kp
  refine PySem.W.kla_codeExpr (wpAny_mono ((hbody _ _ s1 H1 (hr.deeper _)).run [] _ _ H1 Q J hq) (fun v s' y => ?_) fun e s' y => y)
  obtain ⟨w', H', J', rv, q⟩ := y
  exact ⟨w', H', J'.os, J'.bare, J'.base, J'.hok, rv, q⟩
 refine wpAny_call (codeAny_mono rc fun r s' hq => ?_)
 match r with
 | .error e => exact (passes_call tk hW) pinsZ σZ H1 s1 e s' I1 hq
 | .ok (.ret w') => exact I1.after hq
 | .ok .next => exact False.elim hq
 | .ok .brk => exact False.elim hq
 | .ok .cont => exact False.elim hq
end
section
variable {T : Tb} {X : Cx} {Wx : WX} {p : Pg} {cal : Bool → Nat → List W → List OO → RC} {k : Nat} {c : Cf} {st : St} {σ : L2.St} {H H1 : Hp}
theorem evN_get : ∀ {bs : List E} {k : Nat} {b : E} {st : St}, bs[k]? = some b → evN p cal bs k st = evE p cal b st
 | [], k, b, st, h => by simp at h
 | a :: bs, 0, b, st, h => by
  simp only [List.getElem?_cons_zero, Option.some.injEq] at h
  subst h
  rw [evN]
 | a :: bs, k + 1, b, st, h => by
  rw [evN]
  exact evN_get (by simpa using h)
theorem rfx_tail {x : Str} {CP : Addr} {b : E} {Q : VK} {p0 : Addr} {o0 : Obj} (hrl : p.rl = false) (hrc : p.rc = false) (F : RfdF T p X k x) (hR : ∀ C ∈ p.rok, (p.rl = false → PySem.W.exmOne X.K (.ref (T.ca C)) (.ref CP) = some true) ∧ CauC X.K (T.ca C) (clS T p.rfd))
  (h : RSt T c st σ H) (q : Post T Wx (relV T σ) c σ H (refR p (evE p cal b st)) Q) (ho0 : o0.dict = none) (hp0 : H p0 = none) :
  rdE T (fun cls d _ H' => PySem.W.exmOne X.K cls (.ref CP) = some true ∧ ∃ C dd fs cz v, cls = .ref C ∧ d = some dd ∧ CauC X.K C (clS T p.rfd) ∧ H' dd = some (.xd fs) ∧
   fs.lookup ("code" : Str) = some (V.str cz) ∧ okC p.rk (clS T p.rfd) cz ∧ fldOf (clS T p.rfd) cz fs = some v ∧ ∀ H2, (∀ b o, H' b = some o → H2 b = some o) → ∀ (p : Addr) (o : Obj), o.dict = none → H2 p = none → Q (.ref p) (upd H2 p (.frz o (.tup [V.str cz, v])))) (evE p cal b) σ
   (upd H p0 (.frz o0 (.tup [V.str ("" : Str), .non]))) (fun _ H' => ∃ v, (some (some (V.ref p0)) : Option (Option V)) = some (some v) ∧ Q v H') := by
 have S1 : Stp c H c (upd H p0 (.frz o0 (.tup [V.str ("" : Str), .non]))) := Stp.grow hp0
 have h1 : RSt T c st σ (upd H p0 (.frz o0 (.tup [V.str ("" : Str), .non]))) := h.grow hp0
 refine ⟨c, st, h1, ?_⟩
 cases eb : evE p cal b st with
 | stk => rw [eb] at q; exact (show False from q).elim
 | ok w st' =>
  rw [eb, refR_ok0 hrl hrc] at q
  intro v H2 c2 S2 h2 r2
  refine ⟨_, rfl, q (.ref p0) H2 c2 (S1.trans S2) h2 ?_⟩
  have m := S2.mn
  have g0 : upd H p0 (.frz o0 (.tup [V.str ("" : Str), .non])) p0 = some (.frz o0 (.tup [V.str ("" : Str), .non])) := upd_same
  have nf0 : ¬ c.nf p0 := h.new hp0
  show RW T c2.lv c2.nf H2 (.tup [.str [], .non]) (.ref p0)
  simp only [RW]
  exact ⟨p0, [V.str ("" : Str), .non], rfl, .inl ⟨⟨o0, ho0, m.fr _ _ g0 rfl nf0⟩, m.nn g0 rfl nf0⟩, RWs.cons (by simp only [RW]; exact ⟨rfl, rfl⟩) (RWs.cons (by simp only [RW]) RWs.nil)⟩
 | exc xx st' =>
  rw [eb, refR_exc0 hrl hrc] at q
  intro cls d H2 c2 S2 h2 rx
  split at q
  ·exact (show False from q).elim
  rename_i hrok
  have hrok : xx.C ∈ p.rok := by simpa using hrok
  split at q
  ·rename_i cz hcz
   split at q
   ·rename_i w hw
    split at q
    ·exact (show False from q).elim
    rename_i hok
    obtain ⟨r1, dx, fs, r2, r3, r4, r5⟩ := rx
    obtain ⟨i, g1, g2⟩ := fget_ix hcz
    obtain ⟨v1, k1, k2⟩ := r5 i _ _ g1 g2
    obtain ⟨k2, k3⟩ : v1 = .str (tS cz) ∧ tOk cz = true := k2
    subst k2
    rw [F.code] at k1
    obtain ⟨v, k4, k5⟩ := fldX_ok r5 hw
    have ko : okC p.rk (clS T p.rfd) (tS cz) := fun hk => by
     rw [hk, Bool.true_and] at hok
     have hok : (p.rfd.any fun q => q.1.contains cz) = true := by simpa using hok
     obtain ⟨q1, h1, h2⟩ := List.any_eq_true.mp hok
     exact ⟨(q1.1.map tS, T.sy q1.2), List.mem_map.mpr ⟨q1, h1, rfl⟩, List.mem_map.mpr ⟨cz, by simpa using h2, rfl⟩⟩
    obtain ⟨y1, y2⟩ := hR _ hrok
    refine ⟨by rw [r1]; exact y1 hrl, T.ca xx.C, dx, fs, tS cz, v, r1, r2, y2, r3, k1, ko, k4, fun H3 kp p1 o1 ho1 hp1 => ?_⟩
    have S3 : Stp c2 H2 c2 (upd H3 p1 (.frz o1 (.tup [V.str (tS cz), v]))) := (Stp.extN (LamX.ExtN.of kp)).trans (Stp.grow hp1)
    refine q (.ref p1) _ c2 ((S1.trans S2).trans S3) ((h2.keep kp).grow hp1) ?_
    have nf1 : ¬ c2.nf p1 := (h2.keep kp).new hp1
    show RW T c2.lv c2.nf _ (.tup [.str cz, w]) (.ref p1)
    simp only [RW]
    exact ⟨p1, [V.str (tS cz), v], rfl, .inl ⟨⟨o1, ho1, upd_same⟩, nf1⟩, RWs.cons (show V.str (tS cz) = V.str (tS cz) ∧ tOk cz = true from ⟨rfl, k3⟩) (RWs.cons (k5.mono S3.mn) RWs.nil)⟩
   ·exact (show False from q).elim
  ·exact (show False from q).elim
theorem rfx_tailC {x : Str} {CP : Addr} {b : E} {Q : VK} (hrl : p.rl = false) (hrc : p.rc = true) (F : RfdF T p X k x) (hR : ∀ C ∈ p.rok, (p.rl = false → PySem.W.exmOne X.K (.ref (T.ca C)) (.ref CP) = some true) ∧ CauC X.K (T.ca C) (clS T p.rfd))
  (h : RSt T c st σ H) (q : Post T Wx (relV T σ) c σ H (refR p (evE p cal b st)) Q) :
  rdE T (fun cls d _ H' => PySem.W.exmOne X.K cls (.ref CP) = some true ∧ ∃ C dd fs cz, cls = .ref C ∧ d = some dd ∧ CauC X.K C (clS T p.rfd) ∧ H' dd = some (.xd fs) ∧
   fs.lookup ("code" : Str) = some (V.str cz) ∧ Q (V.str cz) H') (evE p cal b) σ H (fun _ H' => ∃ v, (some (some (V.str ("" : Str))) : Option (Option V)) = some (some v) ∧ Q v H') := by
 refine ⟨c, st, h, ?_⟩
 cases eb : evE p cal b st with
 | stk => rw [eb] at q; exact (show False from q).elim
 | ok w st' =>
  rw [eb, refR_ok1 hrl hrc] at q
  intro v H2 c2 S2 h2 r2
  refine ⟨_, rfl, q (V.str ("" : Str)) H2 c2 S2 h2 ?_⟩
  show RW T c2.lv c2.nf H2 (.str []) (V.str ("" : Str))
  simp only [RW]
  exact ⟨rfl, rfl⟩
 | exc xx st' =>
  rw [eb, refR_exc1 hrl hrc] at q
  intro cls d H2 c2 S2 h2 rx
  split at q
  ·exact (show False from q).elim
  rename_i hrok
  have hrok : xx.C ∈ p.rok := by simpa using hrok
  split at q
  ·rename_i cz hcz
   obtain ⟨r1, dx, fs, r2, r3, r4, r5⟩ := rx
   obtain ⟨i, g1, g2⟩ := fget_ix hcz
   obtain ⟨v1, k1, k2⟩ := r5 i _ _ g1 g2
   obtain ⟨k2, k3⟩ : v1 = .str (tS cz) ∧ tOk cz = true := k2
   subst k2
   rw [F.code] at k1
   obtain ⟨y1, y2⟩ := hR _ hrok
   refine ⟨by rw [r1]; exact y1 hrl, T.ca xx.C, dx, fs, tS cz, r1, r2, y2, r3, k1, q (V.str (tS cz)) H2 c2 S2 h2 ?_⟩
   show V.str (tS cz) = V.str (tS cz) ∧ tOk cz = true
   exact ⟨rfl, k3⟩
  ·exact (show False from q).elim
theorem rfx_tailL {CP : Addr} {b : E} {Q : VK} {p0 : Addr} {o0 : Obj} {C1 C2 : Nat} {z1 z2 : Tx} {i1 i2 : List (Option Nat)} (hrl : p.rl = true) (hlk : p.lk = [(C1, z1, i1), (C2, z2, i2)]) (hLk : LkF T p X.K CP) (hR : ∀ C ∈ p.rok, (p.rl = false → PySem.W.exmOne X.K (.ref (T.ca C)) (.ref CP) = some true) ∧ CauC X.K (T.ca C) (clS T p.rfd))
  (h : RSt T c st σ H) (q : Post T Wx (relV T σ) c σ H (refR p (evE p cal b st)) Q) (ho0 : o0.dict = none) (hp0 : H p0 = none) :
  rdE T (fun cls d _ H' => ∃ (C dd : Addr) (fs : List (Str × V)) (b : Bool) (vs : List V), cls = .ref C ∧ d = some dd ∧ PySem.W.exmOne X.K cls (.ref CP) = some b ∧ (b = false → PySem.W.exmOne X.K cls (.ref (T.ca C2)) = some true) ∧ CauC X.K C (clS T p.rfd) ∧ H' dd = some (.xd fs) ∧
   itV fs (if b then i1.map (Option.map T.sy) else i2.map (Option.map T.sy)) = some vs ∧ ∀ H2, (∀ b o, H' b = some o → H2 b = some o) → ∀ (p : Addr) (o : Obj), o.dict = none → H2 p = none → Q (.ref p) (upd H2 p (.frz o (.tup (V.str (if b then tS z1 else tS z2) :: vs))))) (evE p cal b) σ
   (upd H p0 (.frz o0 (.tup [V.str ("" : Str), .non, .non, .non]))) (fun _ H' => ∃ v, (some (some (V.ref p0)) : Option (Option V)) = some (some v) ∧ Q v H') := by
 obtain ⟨C1', C2', z1', z2', i1', i2', hlk', hCP, ok1, ok2, tz1, tz2, m11, m21, m22⟩ := hLk hrl
 rw [hlk] at hlk'
 cases hlk'
 have S1 : Stp c H c (upd H p0 (.frz o0 (.tup [V.str ("" : Str), .non, .non, .non]))) := Stp.grow hp0
 have h1 : RSt T c st σ (upd H p0 (.frz o0 (.tup [V.str ("" : Str), .non, .non, .non]))) := h.grow hp0
 refine ⟨c, st, h1, ?_⟩
 cases eb : evE p cal b st with
 | stk => rw [eb] at q; exact (show False from q).elim
 | ok w st' =>
  rw [eb, refR_okL hrl] at q
  intro v H2 c2 S2 h2 r2
  refine ⟨_, rfl, q (.ref p0) H2 c2 (S1.trans S2) h2 ?_⟩
  have m := S2.mn
  have g0 : upd H p0 (.frz o0 (.tup [V.str ("" : Str), .non, .non, .non])) p0 = some (.frz o0 (.tup [V.str ("" : Str), .non, .non, .non])) := upd_same
  have nf0 : ¬ c.nf p0 := h.new hp0
  show RW T c2.lv c2.nf H2 (.tup [.str [], .non, .non, .non]) (.ref p0)
  simp only [RW]
  exact ⟨p0, [V.str ("" : Str), .non, .non, .non], rfl, .inl ⟨⟨o0, ho0, m.fr _ _ g0 rfl nf0⟩, m.nn g0 rfl nf0⟩, RWs.cons (by simp only [RW]; exact ⟨rfl, rfl⟩) (RWs.cons (by simp only [RW]) (RWs.cons (by simp only [RW]) (RWs.cons (by simp only [RW]) RWs.nil)))⟩
 | exc xx st' =>
  rw [eb, refR_excL hrl] at q
  intro cls d H2 c2 S2 h2 rx
  obtain ⟨r1, dx, fs, r2, r3, r4, r5⟩ := rx
  have key : ∀ (C : Nat) (z : Tx) (is : List (Option Nat)) (l : List W), xx.C = C → itX xx is = some l → tOk z = true → (Post T Wx (relV T σ) c σ H (.ok (.tup (.str z :: l)) st') Q) → C ∈ p.rok →
    CauC X.K (T.ca xx.C) (clS T p.rfd) ∧ ∃ vs, itV fs (is.map (Option.map T.sy)) = some vs ∧ ∀ H3, (∀ b o, H2 b = some o → H3 b = some o) → ∀ (p1 : Addr) (o1 : Obj), o1.dict = none → H3 p1 = none → Q (.ref p1) (upd H3 p1 (.frz o1 (.tup (V.str (tS z) :: vs)))) := fun C z is l eC el tz q hC => by
   obtain ⟨vs, e1, e2⟩ := itX_ok (c := c2) (H := H2) r5 el
   refine ⟨by rw [eC]; exact (hR C hC).2, vs, e1, fun H3 kp p1 o1 ho1 hp1 => ?_⟩
   have S3 : Stp c2 H2 c2 (upd H3 p1 (.frz o1 (.tup (V.str (tS z) :: vs)))) := (Stp.extN (LamX.ExtN.of kp)).trans (Stp.grow hp1)
   refine q (.ref p1) _ c2 ((S1.trans S2).trans S3) ((h2.keep kp).grow hp1) ?_
   have nf1 : ¬ c2.nf p1 := (h2.keep kp).new hp1
   show RW T c2.lv c2.nf _ (.tup (.str z :: l)) (.ref p1)
   simp only [RW]
   exact ⟨p1, V.str (tS z) :: vs, rfl, .inl ⟨⟨o1, ho1, upd_same⟩, nf1⟩, RWs.cons (show V.str (tS z) = V.str (tS z) ∧ tOk z = true from ⟨rfl, tz⟩) (e2.mono S3.mn)⟩
  unfold lkR at q
  rw [hlk] at q
  simp only at q
  by_cases eC : xx.C = C1
  ·rw [if_pos eC] at q
   cases el : itX xx i1 with
   | none => rw [el] at q; exact (show False from q).elim
   | some l =>
    rw [el] at q
    obtain ⟨k1, vs, k2, k3⟩ := key C1 z1 i1 l eC el tz1 q ok1
    exact ⟨T.ca xx.C, dx, fs, true, vs, r1, r2, by rw [r1, hCP, eC]; exact m11, (fun z => by cases z), k1, r3, k2, k3⟩
  ·rw [if_neg eC] at q
   by_cases eD : xx.C = C2
   ·rw [if_pos eD] at q
    cases el : itX xx i2 with
    | none => rw [el] at q; exact (show False from q).elim
    | some l =>
     rw [el] at q
     obtain ⟨k1, vs, k2, k3⟩ := key C2 z2 i2 l eD el tz2 q ok2
     exact ⟨T.ca xx.C, dx, fs, false, vs, r1, r2, by rw [r1, hCP, eD]; exact m21, (fun _ => by rw [r1, eD]; exact m22), k1, r3, k2, k3⟩
   ·rw [if_neg eD] at q; exact (show False from q).elim
theorem se_alf {x : Str} {j : Nat} {params : Arguments} {body : Expr} {scope : Scope} {pos dp : Pos} {z : Int} {dj : Nat} (F : RfdF T p X k x) (hd : params.defaults = [.Constant (.int z) dj dp]) (hk0 : params.kw_defaults = []) (hfr : ∀ y ∈ scope.names, y.2 = .free → X.env.kindOf y.1 = some .cell ∨ X.env.kindOf y.1 = some .free)
  (hlb : ∀ (t c' : Addr) (doc pm ctv u : Value), T.lb T.cl j (ldObj X params body scope t doc pm c' ctv) c' [(t, PySem.W.kdv_tup [u])]) : SE T X Wx (.Lambda params body scope pos) (evE p cal (.alf j)) := by
 obtain ⟨cc, hcc, TB⟩ := F.cd
 constructor
 intro pins s σ H Q I hq
 obtain ⟨c, st, h, q⟩ := hq
 rw [evE] at q
 cases e0 : st.s[0]? with
 | none => rw [e0] at q; exact (show False from q).elim
 | some o =>
 cases o with
 | lst _ => rw [e0] at q; exact (show False from q).elim
 | dct _ _ => rw [e0] at q; exact (show False from q).elim
 | ins _ _ _ => rw [e0] at q; exact (show False from q).elim
 | dnk _ _ => rw [e0] at q; exact (show False from q).elim
 | tab =>
 rw [e0] at q
 have hl : 0 < c.lv.length := by
  rw [← h.sto.len]
  exact (List.getElem?_eq_some_iff.mp e0).1
 obtain ⟨ea, ht⟩ := h.sto.at_ 0 _ _ e0 (List.getElem?_eq_getElem hl)
 rw [ea] at ht
 refine lk_make (T := [(T.ta, T.tq)]) I TB hcc (by rw [F.q]; exact List.mem_singleton.mpr rfl) (fun z hz _ => by rw [List.mem_singleton.mp hz, F.q]) (fun z hz => by rw [List.mem_singleton.mp hz]; exact ht) hd hk0 (fun y hy e => I.ok.has _ (hfr y hy e)) fun f t c' doc pm ctv u H1 s' I1 x1 T1 hf htu ru hco => ?_
 have ht1 : LamX.TabS H1 T.ta T.tq := T1 _ (List.mem_singleton.mpr rfl)
 rw [F.q] at hco
 refine ⟨.ref f, H1, I1, rfl, q (.ref f) H1 c (Stp.extN x1) (h.ext x1 ht1) ?_⟩
 show RW T c.lv c.nf H1 (.glo j) (.ref f)
 simp only [RW]
 exact ⟨f, rfl, _, c', [(t, PySem.W.kdv_tup [u])], hlb t c' doc pm ctv u, (fun _ _ z => by cases z), (fun z hz => by rw [List.mem_singleton.mp hz]; exact fun _ _ z => by cases z), hf, hco, fun z hz => by rw [List.mem_singleton.mp hz]; exact htu⟩
end
end Ev
set_option maxHeartbeats 2000000
namespace Ev
open PySem PySem.Spec PyProof.Rows L2 Calls LamX
section
variable {X : Cx} {scope : Scope} {pins : List (Addr × Obj)} {σ : L2.St} {H HZ : Hp} {s s1 : Shared}
abbrev l0Obj (X : Cx) (params : Arguments) (body : Expr) (scope : Scope) (pm : Value) (c' : Addr) (ctv : Value) : Obj :=
 PySem.W.kla_obj "<lambda>" (X.env.qual ++ "<lambda>") params body scope (cloFrom X.env.cells scope.names []) pm c' ctv
theorem lk_make0 {T : List (Addr × Str)} {c P : Addr} {params : Arguments} {body : Expr} {pos : Pos} {E : Value → Shared → Prop} {Q : Value → Shared → Prop} (I : Inv X pins σ H s) (TB : TabB X.base X.mg c P) (hcode : X.env.code = .ref c)
  (hm : (P, X.env.qual ++ "<lambda>") ∈ T) (hu : ∀ p ∈ T, p.1 = P → p.2 = X.env.qual ++ "<lambda>") (hT : Tabs T H) (hdef : defaultsOf params X.env = ([], [])) (hfree : ∀ y ∈ scope.names, y.2 = .free → ∃ c, X.env.cells.lookup y.1 = some c)
  (h : ∀ (f c' : Addr) (pm ctv : Value) (H1 : Hp) (s' : Shared), Inv X pins σ H1 s' → ExtN H H1 → Tabs T H1 → H1 f = some (pinO f (l0Obj X params body scope pm c' ctv)) → H1 c' = some (CodeO c' (X.env.qual ++ "<lambda>")) → Q (.ref f) s') :
  wpAny (model X.prog X.w) X.A (eval (.Lambda params body scope pos) X.env) Q E s := by
 obtain ⟨ps, hP, tr, am⟩ := hT _ hm
 refine PySem.W.kla_eval hdef ?_
 have bP : s.heap.BuiltinsAt X.mg P := TB.bm.keeps I.bk
 have hP2 : s.heap.get? P = some { cls := .none, data := .fields ps } := I.hok P _ hP
 cases hc : codeAmong pos ps.toList with
 | none =>
  refine PySem.W.kla_makeFunction (mg := X.mg) (c := c) (P := P) (ps := ps) (closure_ok hfree) I.ok.glob (I.mod.glob.keeps I.bk) hcode (TB.code.keeps I.bk) hP2 tr hc TB.gP bP fun c' ctv h' tk hx hge hlt hrec htb => ?_
  obtain ⟨c2, oc, vs, tq, e2, hoc, hdd, hv⟩ := hrec
  cases e2
  have nC : H c' = none := I.hok.fresh hge
  have mine := inv_table (t' := tk) (more := #[rawInt pos.line, rawInt pos.col, .ref c']) (h' := h') I hP (fun b o hb e => hx b o hb e) htb hge ⟨oc, vs, tq, hoc, hdd, hv⟩
  have old : ExtN H (upd (upd H P (.tbl (ps ++ #[rawInt pos.line, rawInt pos.col, .ref c']))) c' (CodeO c' (X.env.qual ++ "<lambda>"))) := fun b o e n => by
   have n1 : b ≠ c' := ne_of_none e nC
   have n2 : b ≠ P := fun z => by
    rw [z, hP] at e
    exact n ps (Option.some.inj e).symm
   rw [upd_ne n1, upd_ne n2]
   exact e
  have el : (ps ++ #[rawInt pos.line, rawInt pos.col, .ref c']).toList = ps.toList ++ [rawInt pos.line, rawInt pos.col, .ref c'] := by simp
  have hT3 : Tabs T (upd (upd H P (.tbl (ps ++ #[rawInt pos.line, rawInt pos.col, .ref c']))) c' (CodeO c' (X.env.qual ++ "<lambda>"))) := fun p hp => by
   by_cases hb : p.1 = P
   ·rw [hu p hp hb, hb]
    refine ⟨_, by rw [upd_ne (ne_of_none hP nC), upd_same], by rw [el]; exact PySem.TriplesOk_snoc _ _ _ _ tr, fun p' cv hcv => ?_⟩
    rw [el] at hcv
    exact (among_app _ tr hcv).elim (fun y => by
     obtain ⟨c0, e1, e2⟩ := am p' cv y
     exact ⟨c0, e1, old _ _ e2 codeO_ne⟩) fun y => ⟨c', y, upd_same⟩
   ·obtain ⟨ps', a1, a2, a3⟩ := hT p hp
    refine ⟨ps', by rw [upd_ne (ne_of_none a1 nC), upd_ne hb]; exact a1, a2, fun p' cv hcv => ?_⟩
    obtain ⟨c0, e1, e2⟩ := a3 p' cv hcv
    exact ⟨c0, e1, old _ _ e2 codeO_ne⟩
  have hc3 : (upd (upd H P (.tbl (ps ++ #[rawInt pos.line, rawInt pos.col, .ref c']))) c' (CodeO c' (X.env.qual ++ "<lambda>"))) c' = some (CodeO c' (X.env.qual ++ "<lambda>")) := upd_same
  generalize upd (upd H P (.tbl (ps ++ #[rawInt pos.line, rawInt pos.col, .ref c']))) c' (CodeO c' (X.env.qual ++ "<lambda>")) = H3 at mine old hT3 hc3
  have nf : H3 h'.objs.size = none := mine.hok.fresh (Nat.le_refl _)
  have e3 : ∀ b o, H3 b = some o → (upd H3 h'.objs.size (pinO h'.objs.size (l0Obj X params body scope ((X.mg "__name__").getD .none) c' ctv))) b = some o := fun b o e => by rw [upd_ne (ne_of_none e nf)]; exact e
  exact h h'.objs.size c' ((X.mg "__name__").getD .none) ctv _ _ (mine.laid (t' := tk) (fun b o e => Heap.get?_push_of_some _ e) (Nat.le_refl _) (pin_new (Heap.get?_push_size _ rfl))) (old.trans (ExtN.of e3)) (hT3.ext e3) upd_same (e3 _ _ hc3)
 | some cv =>
  obtain ⟨c', e, hco⟩ := am pos cv hc
  subst e
  refine PySem.W.kla_makeFunctionHit (mg := X.mg) (c := c) (P := P) (ps := ps) (closure_ok hfree) I.ok.glob (I.mod.glob.keeps I.bk) hcode (TB.code.keeps I.bk) hP2 tr hc bP fun ctv h' tk hx hsz => ?_
  have nf : H h'.objs.size = none := I.hok.fresh hsz
  have e3 : ∀ b o, H b = some o → (upd H h'.objs.size (pinO h'.objs.size (l0Obj X params body scope ((X.mg "__name__").getD .none) c' ctv))) b = some o := fun b o e => by rw [upd_ne (ne_of_none e nf)]; exact e
  exact h h'.objs.size c' ((X.mg "__name__").getD .none) ctv _ _ (I.laid (fun b o e => Heap.get?_push_of_some _ (hx b o e)) hsz (pin_new (Heap.get?_push_size _ rfl))) (ExtN.of e3) (hT.ext e3) upd_same (e3 _ _ hco)
theorem lk_act0 {CXg : CXT} {Eg : XK} {Ng : List Str} {qg : Str} {sg : Scope} {g f c' : Addr} {cdg pm ctv : Value} {params : Arguments} {body : Expr} {k i : Nat} {ask : Str} {pn : List (Addr × Obj)} {xe : Value → Shared → Prop} {W : WX} {E : XK} {tb : TE} {p1 p2 : Pos}
  (I : Inv X pins σ H s) (L : LamX.LamS X.env.scope scope) (hb : bindArgs (PySem.W.kla_fn "<lambda>" (X.env.qual ++ "<lambda>") params body scope (cloFrom X.env.cells scope.names []) pm (.ref c') ctv) ⟨[], []⟩ = pure [])
  (tk : Takes ((cxOf CXg X.prog X.w X.K X.mg X.base Ng qg sg g cdg X.A X.stack s H Eg).tr pn xe) W) (hW : ∀ cls d σ' H', E cls d H' → W cls d σ' H') (hr : Room (k + 1) (X.A.deeper (envOfC qg sg s.heap.objs.size g cdg)))
  (hbody : ∀ (A : Around) (outer : List Env) (s : Shared) (H : Hp), Room k (A.deeper (lamEnv X scope s.heap.objs.size f c')) → PE (lamCx X A outer s H E scope f c') body tb)
  (hN : Ng[i]? = some ask) (hv : Vis sg ask) (hd : (ask == ("__debug__" : Str)) = false) (hcd : (ask == ("__classdict__" : Str)) = false) :
  PE ((cxOf CXg X.prog X.w X.K X.mg X.base Ng qg sg g cdg X.A X.stack s H Eg).tr pn xe) (.Call (.Name ask p1) [] [] p2)
   (fun σZ HZ Q => σZ[i]? = some (some (.ref f)) ∧ HZ c' = some (CodeO c' (X.env.qual ++ "<lambda>")) ∧ HZ f = some (pinO f (l0Obj X params body scope pm c' ctv)) ∧ tb σ HZ Q) := by
 constructor
 intro pinsZ sZ σZ HZ Q IZ h
 obtain ⟨hs, hc, hf, hq⟩ := h
 refine wpAny_Call_Name_kw (thn ((pe_var (pos := p1) (i := i) hN hv hd hcd).run pinsZ sZ σZ HZ (fun v H1 => v = .ref f ∧ H1 = HZ) IZ ⟨.ref f, hs, rfl, rfl⟩) fun uf s1 ⟨v, H1, I1, r1, q1⟩ => ?_)
 obtain ⟨rfl, rfl⟩ := q1
 obtain rfl : uf = Value.ref f := r1
 have nil : ∀ b : Addr, b ∉ ([] : List Addr) := fun b y => nomatch y
 have of1 := (I1.hok f _ hf).1
 refine PySem.W.callWith_F0 ⟨_, _, _, _, of1⟩ ?_
 have un : Un (frs X.stack) [] H H1 s.heap s1.heap := I1.base
 obtain ⟨⟨oc, vs, tq, hoc, hdc, hvc⟩, _, _⟩ := I1.hok c' _ hc
 have rc : codeAny (model X.prog X.w) (X.A.deeper (envOfC qg sg s.heap.objs.size g cdg)) (.call (.ref f) ⟨[], []⟩) (CR (L2.CX X.prog X.w) (envOfC qg sg s.heap.objs.size g cdg :: X.stack) X.prog X.w H1 s1 Q E) s1 := by
  refine PySem.W.kla_callFunE hr.depth of1 rfl L.co L.gen rfl ⟨c', oc, vs, tq, rfl, hoc, hdc, hvc⟩ ?_
  rw [hb]
  refine wpAny_pure (wpAny_newFunctionEnv (fun y hy => (L.own y hy).2) (fun y hy => absurd hy (by simp)) (fun h₁ hns hsb => ⟨I1.nolimit.fresh _ hsb, ?_⟩) L.kind)
  show codeAny _ _ (.expr body (lamEnv X scope s1.heap.objs.size f c')) _ _
  have kp : ∀ b o, s1.heap.get? b = some o → h₁.get? b = some o := fun b o e => hsb.extBut b o (Nat.ne_of_lt (Heap.lt_size e)) (Heap.get?_push_of_some _ e)
  have J : Inv (lamCx X (X.A.deeper (envOfC qg sg s.heap.objs.size g cdg)) (envOfC qg sg s.heap.objs.size g cdg :: X.stack) s1 H1 E scope f c') [] σ H1 { s1 with heap := h₁, toks := s1.toks + ([] : List (Str × Value)).length } :=
   lam_start2 I L I1.env0 hr.hd un hns kp
  refine PySem.W.kla_codeExpr (wpAny_mono ((hbody _ _ s1 H1 (hr.deeper _)).run [] _ _ H1 Q J hq) (fun v s' y => ?_) fun e s' y => y)
  obtain ⟨w', H', J', rv, q⟩ := y
  exact ⟨w', H', J'.os, J'.bare, J'.base, J'.hok, rv, q⟩
 refine wpAny_call (codeAny_mono rc fun r s' hq => ?_)
 match r with
 | .error e => exact (passes_call tk hW) pinsZ σZ H1 s1 e s' I1 hq
 | .ok (.ret w') => exact I1.after hq
 | .ok .next => exact False.elim hq
 | .ok .brk => exact False.elim hq
 | .ok .cont => exact False.elim hq
end
section
variable {T : Tb} {X : Cx} {Wx : WX} {p : Pg} {cal : Bool → Nat → List W → List OO → RC} {k : Nat}
theorem se_alf0 {x : Str} {j : Nat} {params : Arguments} {body : Expr} {scope : Scope} {pos : Pos} (F : RfdF T p X k x) (hdef : defaultsOf params X.env = ([], [])) (hfr : ∀ y ∈ scope.names, y.2 = .free → X.env.kindOf y.1 = some .cell ∨ X.env.kindOf y.1 = some .free)
  (hlb : ∀ (c' : Addr) (pm ctv : Value), T.lb T.cl j (l0Obj X params body scope pm c' ctv) c' []) : SE T X Wx (.Lambda params body scope pos) (evE p cal (.alf j)) := by
 obtain ⟨cc, hcc, TB⟩ := F.cd
 constructor
 intro pins s σ H Q I hq
 obtain ⟨c, st, h, q⟩ := hq
 rw [evE] at q
 cases e0 : st.s[0]? with
 | none => rw [e0] at q; exact (show False from q).elim
 | some o =>
 cases o with
 | lst _ => rw [e0] at q; exact (show False from q).elim
 | dct _ _ => rw [e0] at q; exact (show False from q).elim
 | ins _ _ _ => rw [e0] at q; exact (show False from q).elim
 | dnk _ _ => rw [e0] at q; exact (show False from q).elim
 | tab =>
 rw [e0] at q
 have hl : 0 < c.lv.length := by
  rw [← h.sto.len]
  exact (List.getElem?_eq_some_iff.mp e0).1
 obtain ⟨ea, ht⟩ := h.sto.at_ 0 _ _ e0 (List.getElem?_eq_getElem hl)
 rw [ea] at ht
 refine lk_make0 (T := [(T.ta, T.tq)]) I TB hcc (by rw [F.q]; exact List.mem_singleton.mpr rfl) (fun z hz _ => by rw [List.mem_singleton.mp hz, F.q]) (fun z hz => by rw [List.mem_singleton.mp hz]; exact ht) hdef (fun y hy e => I.ok.has _ (hfr y hy e)) fun f c' pm ctv H1 s' I1 x1 T1 hf hco => ?_
 have ht1 : LamX.TabS H1 T.ta T.tq := T1 _ (List.mem_singleton.mpr rfl)
 rw [F.q] at hco
 refine ⟨.ref f, H1, I1, rfl, q (.ref f) H1 c (Stp.extN x1) (h.ext x1 ht1) ?_⟩
 show RW T c.lv c.nf H1 (.glo j) (.ref f)
 simp only [RW]
 exact ⟨f, rfl, _, c', [], hlb c' pm ctv, (fun _ _ z => by cases z), (fun z hz => (nomatch hz)), hf, hco, fun z hz => (nomatch hz)⟩
end
section
variable {T : Tb} {X : Cx} {Wx : WX} {p : Pg} {cal : Bool → Nat → List W → List OO → RC} {k : Nat}
theorem pe_or {e : Expr} {t1 t2 : TE} (h1 : PE X e t1) (h2 : PE X e t2) : PE X e (fun σ H Q => t1 σ H Q ∨ t2 σ H Q) := ⟨fun pins s σ H Q I h => h.elim (fun h => h1.run pins s σ H Q I h) fun h => h2.run pins s σ H Q I h⟩
end
end Ev
namespace Ev
open PySem PySem.Spec PyProof.Rows L2 Calls ClX RZ
section
variable {X : Cx}
def Back (X : Cx) (pins : List (Addr × Obj)) (σ : L2.St) (Z : Cx) : Prop := ∀ (pins' : List (Addr × Obj)) (σ' : L2.St) (H' : Hp) (s' : Shared), Inv Z pins' σ' H' s' → Inv X pins σ H' s'
theorem back_of {pins : List (Addr × Obj)} {σ : L2.St} {H : Hp} {s : Shared} {scope : Scope} {ce : Env} {fp : List Addr} (I : Inv X pins σ H s) (f : ∀ b ∈ fp, FpOk X pins H b) : Back X pins σ (X.blk s H scope ce fp) :=
 fun pins' σ' H' s' I' => I.call' (ch := fp) I'.os I'.base I'.hok I'.bare fun b hb => ⟨(f b hb).2.2.2.1, (f b hb).2.1, (f b hb).2.2.2.2.1, (f b hb).2.2.2.2.2⟩
theorem lc_coreC {pins : List (Addr × Obj)} {s : Shared} {σ : L2.St} {H : Hp} {Q : VK} {elt tg iter : Expr} {ifs : List Expr} {scope : Scope} {own : List (Str × Nat)} {pos pos' : Pos} {wi : TI} {g : TG} {tt : TT} {te : TE} {use : Option (Value → Sem Unit)} {Qf : Value → Shared → Prop}
  (hc : X.calm = true) (hN : X.N.Nodup) (I : Inv X pins σ H s) (hi : PI X tg iter wi) (ok : BlkOk X.N X.env.scope scope own)
  (hg : ∀ (s : Shared) (H : Hp) (C : Addr) (cl : List (Str × Addr)) (fp : List Addr), PG (X.blk s H scope (compEnvC scope cl C X.env) fp) tg g) (ht : ∀ (s : Shared) (H : Hp) (C : Addr) (cl : List (Str × Addr)) (fp : List Addr), PTs (X.blk s H scope (compEnvC scope cl C X.env) fp) ifs tt)
  (he : ∀ (s' : Shared) (H' : Hp) (C : Addr) (cl : List (Str × Addr)) (fp : List Addr), Back X pins σ (X.blk s' H' scope (compEnvC scope cl C X.env) fp) → PE (X.blk s' H' scope (compEnvC scope cl C X.env) fp) elt te) (hs : ∀ x, foldedSetIterable iter X.env x = pure x)
  (h : tLc wi g tt te (own.map (·.2)) σ H Q)
  (hRR : ∀ D C s' m H', Inv X pins σ H' s' → Q (.ref D) H' → s'.heap.Ns C m → FpOk X pins H' C → compPost (model X.prog X.w) X.A X.xe use Qf (.ref D) C (.ok .next) s') :
  wpAny (model X.prog X.w) X.A (comprehension (.ListComp elt [⟨tg, iter, ifs, 0⟩] scope pos) scope X.env pos' (newList []) false (eval iter X.env) use) Qf X.xe s := by
 have hfree : ∀ y ∈ scope.names, y.2 = .free → ∃ c, X.env.cells.lookup y.1 = some c := fun y hy e => by
  rcases ok.free y hy e with k | k
  ·exact I.ok.has _ (.inl k)
  ·exact I.ok.has _ (.inr k)
 refine wpAny_comprehension_free (use := use) rfl hs (closure_ok hfree) ok.kind (fun y hy e => by rw [ok.uniq y hy, e])
  (thn (hi.run pins s σ H _ I h) fun xv s1 hx => thn hx fun itv s2 h2 => ?_)
 obtain ⟨it, fp, tn, J, H2, e, I2, T, st2, f2, q⟩ := h2
 subst e
 refine wpAny_newObj_type (newEnv_comp ?_) (by show 0 ≤ sizeLine; decide)
 generalize hD : s2.heap.objs.size = D
 have hDn : H2 D = none := I2.hok.fresh (Nat.le_of_eq hD)
 obtain ⟨W, ⟨m0, w0⟩, turn⟩ := q D hDn
 generalize hs3 : ({ s2 with heap := s2.heap.push { cls := .type "list", data := .seq ([] : List Value).toArray } } : Shared) = s3
 have I3 : Inv X pins σ (upd H2 D (.lst [])) s3 := by
  rw [← hs3]
  refine I2.laid (t' := s2.toks) (fun b o e => Heap.get?_push_of_some _ e) (Nat.le_of_eq hD) ⟨Nat.zero_le _, [], 0, .nil, ?_⟩
  rw [← hD]
  exact Heap.get?_push_size _ rfl
 have h3 : s3.heap = s2.heap.push { cls := .type "list", data := .seq ([] : List Value).toArray } := by rw [← hs3]
 have sz : ∀ b ∈ fp, b < s2.heap.objs.size := fun b hb => by
  obtain ⟨o, e, _⟩ := T.obj _ _ st2 b hb
  exact Heap.lt_size e
 have f3 : ∀ b ∈ fp, FpOk X pins (upd H2 D (.lst [])) b ∧ b < s3.heap.objs.size := fun b hb => by
  have hlt := sz b hb
  refine ⟨⟨?_, (f2 b hb).2⟩, by rw [h3, Heap.size_push]; exact Nat.lt_succ_of_lt hlt⟩
  rw [upd_ne (by rw [← hD]; exact Nat.ne_of_lt hlt)]
  exact (f2 b hb).1
 have st3 : tn 0 s3.heap := T.keep _ _ _ st2 fun b _ o e => by rw [h3]; exact Heap.get?_push_of_some _ e
 have I4 := block_start I3 ok hN f3
 have pg := hg s3 (upd H2 D (.lst [])) s3.heap.objs.size (cellsFrom (s3.heap.objs.size + 1) scope.names (cloFrom X.env.cells scope.names [])) fp
 have pt := ht s3 (upd H2 D (.lst [])) s3.heap.objs.size (cellsFrom (s3.heap.objs.size + 1) scope.names (cloFrom X.env.cells scope.names [])) fp
 have pe := he s3 (upd H2 D (.lst [])) s3.heap.objs.size (cellsFrom (s3.heap.objs.size + 1) scope.names (cloFrom X.env.cells scope.names [])) fp (back_of I3 fun b hb => (f3 b hb).1)
 show codeAny _ _ (.compStart (.ListComp elt [⟨tg, iter, ifs, 0⟩] scope pos) 0 (.ref it) (.ref D) (compEnvC scope (cellsFrom (s3.heap.objs.size + 1) scope.names (cloFrom X.env.cells scope.names [])) s3.heap.objs.size X.env)) (compPost (model X.prog X.w) X.A X.xe use Qf (.ref D) s3.heap.objs.size) { s3 with heap := pushCells (s3.heap.push { cls := .type "dict", data := .dict #[] }) scope.names }
 have nfp : ∀ b ∈ fp, (upd H2 D (.lst [])) b = none := fun b hb => (f3 b hb).1.1
 generalize hce : compEnvC scope (cellsFrom (s3.heap.objs.size + 1) scope.names (cloFrom X.env.cells scope.names [])) s3.heap.objs.size X.env = ce at I4 pg pt pe ⊢
 have cL : ce.locals = s3.heap.objs.size := by subst hce; rfl
 generalize hH3 : upd H2 D (.lst []) = H3 at I3 I4 pg pt pe w0 nfp f3
 generalize hs4 : ({ s3 with heap := pushCells (s3.heap.push { cls := .type "dict", data := .dict #[] }) scope.names } : Shared) = s4 at I4 ⊢
 have st4 : tn 0 s4.heap := T.keep _ _ _ st3 fun b _ o e => by rw [← hs4]; exact pushCells_keeps _ _ _ _ (Heap.get?_push_of_some _ e)
 have stat : ∀ {σ' : L2.St} {H' : Hp} {s' : Shared}, Inv (X.blk s3 H3 scope ce fp) [] σ' H' s' → (∀ b ∈ fp, H' b = none) → ∀ b ∈ fp, FpOk (X.blk s3 H3 scope ce fp) [] H' b := fun {σ' H' s'} I' hn b hb =>
  ⟨hn b hb, (I'.ok.exf b hb).1, I'.ok.exfs b hb, .inl hb, fun x c e => (I'.ok.exf b hb).2 x c e, fun p hp => absurd (show p ∈ ([] : List (Addr × Obj)) ++ [] from hp) (by simp)⟩
 have loop : codeAny (model X.prog X.w) X.A (.compLoop (.ListComp elt [⟨tg, iter, ifs, 0⟩] scope pos) 0 (.ref it) (.ref D) ce) (compPost (model X.prog X.w) X.A X.xe use Qf (.ref D) s3.heap.objs.size) s4 := by
  refine compLoop_any (fun n s' => ∃ i H', Inv (X.blk s3 H3 scope ce fp) [] (L2.wipe σ (own.map (·.2))) H' s' ∧ tn i s'.heap ∧ (∀ b ∈ fp, H' b = none) ∧ W i n H') ?_ m0 ⟨0, H3, I4, st4, nfp, w0⟩
  rintro n s5 ⟨i, H5, I5, st5, n5, w5⟩
  rcases turn i n H5 w5 with ⟨stop, qq⟩ | ⟨go, Nx, hNx, step⟩
  ·have td := T.done (X.blk s3 H3 scope ce fp) rfl rfl rfl hc i [] s5 _ H5 (fun _ _ => False) I5 (stat I5 n5) st5 stop
   refine thnF td fun r s6 ⟨hr, I6⟩ => ?_
   subst hr
   have I7 : Inv X pins σ H5 s6 := I3.call' (ch := fp) I6.os I6.base I6.hok I6.bare fun b hb => ⟨(f3 b hb).1.2.2.2.1, (f3 b hb).1.2.1, (f3 b hb).1.2.2.2.2.1, (f3 b hb).1.2.2.2.2.2⟩
   have nC : H5 s3.heap.objs.size = none := by
    have z : H5 ce.locals = none := I6.free
    rw [cL] at z
    exact z
   obtain ⟨m, hn, _⟩ := I6.loc
   have hn : s6.heap.Ns ce.locals m := hn
   rw [cL] at hn
   exact hRR D s3.heap.objs.size s6 m H5 I7 qq hn (I3.fpOk (Nat.le_refl _) nC)
  ·have ti := T.item (X.blk s3 H3 scope ce fp) rfl rfl rfl hc i [] s5 _ H5 (fun _ _ => False) I5 (stat I5 n5) st5 go
   refine thnF ti fun r s6 ⟨u, hr, h6⟩ => ?_
   subst hr
   refine thnF h6 fun _ s7 ⟨x, H7, I7, r7, y7, st7, n7⟩ => ?_
   have I7' := I7.pinned (stat I7 n7) (T.obj _ _ st7)
   refine thnF (pg.run _ s7 _ H7 x u _ I7' r7 (step x H7 y7)) fun _ s8 ⟨σ8, H8, I8, hw8, q8⟩ => ?_
   refine thnF (pt.run _ s8 σ8 H8 _ I8 q8) fun b s9 ⟨H9, I9, q9⟩ => ?_
   have fin : ∀ {s' : Shared} {H' : Hp}, Inv (X.blk s3 H3 scope ce fp) ([] ++ pinsAt fp s7.heap) σ8 H' s' → Nx H' → ∃ m, m < n ∧ ∃ i H', Inv (X.blk s3 H3 scope ce fp) [] (L2.wipe σ (own.map (·.2))) H' s' ∧ tn i s'.heap ∧ (∀ b ∈ fp, H' b = none) ∧ W i m H' := fun {s' H'} I' nx => by
    obtain ⟨m', hm, w'⟩ := hNx H' nx
    have pin' : ∀ b ∈ fp, ∀ o, s7.heap.get? b = some o → s'.heap.get? b = some o ∧ H' b = none := fun b hb o e =>
     let z := I'.pin (b, o) (List.mem_append_right _ (List.mem_append_right _ (mem_pinsAt hb e)))
     ⟨z.1, z.2.1⟩
    have hl : (L2.wipe σ (own.map (·.2))).length = σ8.length := by rw [← hw8, L2.wipe_length]
    refine ⟨m', hm, i + 1, H', (I'.unpinned (pins := [])).weak hl (fun j v e => ?_), T.keep _ _ _ st7 fun b hb o e => (pin' b hb o e).1, fun b hb => ?_, w'⟩
    ·rw [← hw8] at e
     exact (L2.wipe_some e).1
    ·obtain ⟨o, e, _⟩ := T.obj _ _ st7 b hb
     exact (pin' b hb o e).2
   cases b with
   | false =>
    simp only [Bool.false_eq_true, if_false] at q9 ⊢
    exact fin I9 q9
   | true =>
    simp only [if_true] at q9 ⊢
    refine thnF (pe.run _ s9 σ8 H9 _ I9 q9) fun z s10 ⟨yv, H10, I10, r10, acc, hD10, hz10, nx⟩ => ?_
    exact app_ok (X := X.blk s3 H3 scope ce fp) I10 hD10 hz10 r10 fun s11 I11 => fin I11 nx
 exact codeAny_compStart_list loop (T.self X.A 0 _ _ _ st4 loop)
end
section
variable {T : Tb} {X : Cx} {Wx : WX} {p : Pg} {cal : Bool → Nat → List W → List OO → RC} {c : Cf} {st : St} {σ : L2.St} {H : Hp} {pins : List (Addr × Obj)} {s : Shared} {k : Nat}
theorem rdI_mono {tg : Expr} {m : St → R Src} {R R' : It → Hp → Prop} (h : rdI T tg Wx m σ H R) (q : ∀ J H, R J H → R' J H) : rdI T tg Wx m σ H R' :=
 let ⟨c, st, h1, h2⟩ := h; ⟨c, st, h1, h2.mono q⟩
theorem rdT_mono {m : St → R Bool} {R R' : Bool → Hp → Prop} (h : rdT T Wx m σ H R) (q : ∀ b H, R b H → R' b H) : rdT T Wx m σ H R' :=
 let ⟨c, st, h1, h2⟩ := h; ⟨c, st, h1, h2.mono q⟩
theorem rdG_mono {t : Tg} {v : V} {R R' : L2.St → Hp → Prop} (h : rdG T t v σ H R) (q : ∀ σ' H, R σ' H → R' σ' H) : rdG T t v σ H R' :=
 let ⟨c, st, w, h1, h2, r', e, h3⟩ := h; ⟨c, st, w, h1, h2, r', e, fun σ' c' a b d f => q _ _ (h3 σ' c' a b d f)⟩
theorem tLc_wipe {tg : Expr} {m : St → R Src} {t : Tg} {mt : St → R Bool} {te : TE} {vs : List Nat} {Q : VK} (h : tLc (rdI T tg Wx m) (rdG T t) (rdT T F0 mt) te vs σ H Q) :
  tLc (rdI T tg Wx m) (rdG T t) (rdT T F0 mt) (fun σ2 H2 Q2 => L2.wipe σ2 vs = L2.wipe σ vs ∧ te σ2 H2 Q2) vs σ H Q := by
 unfold tLc at h ⊢
 refine rdI_mono h fun J H1 hJ D hD => ?_
 obtain ⟨W, w0, turn⟩ := hJ D hD
 refine ⟨W, w0, fun i m H w => ?_⟩
 rcases turn i m H w with z | ⟨go, Nx, hN, st⟩
 ·exact .inl z
 ·refine .inr ⟨go, Nx, hN, fun x H' y => rdG_mono (st x H' y) fun σ2 H2 ⟨ew, q⟩ => ⟨ew, rdT_mono q fun b H3 q3 => ?_⟩⟩
  cases b with
  | false => exact q3
  | true => exact ⟨ew, q3⟩
theorem sf_cprC {tg iter elt : Expr} {ifs : List Expr} {scope : Scope} {own : List (Str × Nat)} {pos : Pos} {t : Tg} {it : I} {e : E} {co : Option E} (hc : X.calm = true) (hN : X.N.Nodup) (hi : SI T X Wx tg iter (evI p cal it)) (hpt : isTpE tg = true → t.isT = true) (ok : BlkOk X.N X.env.scope scope own) (ho : own.map (·.2) = tgIx t)
   (hg : ∀ (s : Shared) (H : Hp) (C : Addr) (cl : List (Str × Addr)) (fp : List Addr), SG T (X.blk s H scope (compEnvC scope cl C X.env) fp) tg t) (ht : ∀ (s : Shared) (H : Hp) (C : Addr) (cl : List (Str × Addr)) (fp : List Addr), PTs (X.blk s H scope (compEnvC scope cl C X.env) fp) ifs (rdT T F0 (evT p cal co)))
   (he : ∀ (pins : List (Addr × Obj)) (σ : L2.St) (s : Shared) (H : Hp) (C : Addr) (cl : List (Str × Addr)) (fp : List Addr), Back X pins σ (X.blk s H scope (compEnvC scope cl C X.env) fp) →
     PE (X.blk s H scope (compEnvC scope cl C X.env) fp) elt fun σ2 H2 Q2 => L2.wipe σ2 (tgIx t) = L2.wipe σ (tgIx t) ∧ rdE T F0 (evE p cal e) σ2 H2 Q2) (hs : ∀ x, foldedSetIterable iter X.env x = pure x) :
   SF T X Wx (.ListComp elt [⟨tg, iter, ifs, 0⟩] scope pos) (evE p cal (.cpr e t it co)) := by
 refine ⟨fun pins s σ H Q I ⟨c, st, h, q⟩ => ?_⟩
 rw [eval_ListComp]
 have hl := tLc_wipe (lc_read hpt ho h q)
 rw [ho] at hl
 refine lc_coreC hc hN I hi ok hg ht (fun s' H' C cl fp B => he pins σ s' H' C cl fp B) hs (by rw [ho]; exact hl) fun D C s' m H' I' q hn f => ⟨m, hn, fun h'' sb => ?_⟩
 obtain ⟨f0, f1, f2, f3, f4, f5⟩ := f
 exact ⟨.ref D, H', I'.turned (t' := s'.toks) (fun b o hb e => (sb.2 b hb).trans e) f0 f1 f3 f4 f5, rfl, q⟩
end
end Ev
set_option maxHeartbeats 2000000
namespace Ev
open PySem PySem.Spec PyProof.Rows L2 Calls LamX
section
variable {X : Cx} {a : Str} {scope : Scope} {pins : List (Addr × Obj)} {σ : L2.St} {H HZ : Hp} {s s1 : Shared}
theorem lk_callC {pins0 : List (Addr × Obj)} {σ0 : L2.St} {s3 : Shared} {H3 : Hp} {sc0 : Scope} {ce : Env} {fp : List Addr} {TT : (XK → Hp → VK → Prop) → Hp → VK → Prop} {x ask y : Str} {g : Addr} {k iy : Nat} {pg : Arguments} {bg : List Stmt} {sg : Scope} {dV kV doc pm cdv ct oc : Value} {an od : Option Addr} {osl : Array (Option Value)} {Ng : List Str}
  {G : Nat → Arguments → Expr → Scope → Prop} {tb : Nat → XK → TE} {p py pos : Pos} (B : Back X pins0 σ0 (X.blk s3 H3 sc0 ce fp)) (hg : Gl (X.blk s3 H3 sc0 ce fp) x) (hm : X.mg x = some (.ref g)) (hk : PySem.W.keepIn X.K (.ref g) = true)
  (lk : X.K.lookup g = some ⟨oc, od, .func (PySem.W.fnOf x x pg bg sg dV kV doc pm an cdv ct), osl⟩) (hcg : PySem.W.codeIn X.K cdv x = true) (hb : L2.Binds X.K (PySem.W.fnOf x x pg bg sg dV kV doc pm an cdv ct) [ask] []) (Sg : FnScope Ng [ask] sg) (hNg : Ng[0]? = some ask) (hva : Vis sg ask)
  (hG : GivesTo X Ng x sg g cdv bg ask (X.env.qual ++ "<lambda>") TT) (hr : Room (k + 2) X.A)
  (hy : X.N[iy]? = some y) (hvy : Vis ce.scope y) (y1 : (y == ("__debug__" : Str)) = false) (y2 : (y == ("__classdict__" : Str)) = false)
  (hL : ∀ j params body scope, G j params body scope → ∃ a, LamD X.N a X.env.scope scope ∧ DefB params body scope a)
  (hbody : ∀ j params body scope, G j params body scope → ∀ (A : Around) (outer : List Env) (s : Shared) (H : Hp) (E : XK) (f c' : Addr), Room k (A.deeper (lamEnv X scope s.heap.objs.size f c')) → PE (lamCx X A outer s H E scope f c') body (tb j E))
  (hdb : (x == ("__debug__" : Str)) = false) (n1 : (ask == ("__debug__" : Str)) = false) (n2 : (ask == ("__classdict__" : Str)) = false) :
  PE (X.blk s3 H3 sc0 ce fp) (.Call (.Name x p) [.Name y py] [] pos) (fun σ H Q => L2.wipe σ [iy] = L2.wipe σ0 [iy] ∧ ∃ (j : Nat) (f t c' : Addr) (doc pm ctv u : Value) (params : Arguments) (body : Expr) (scope : Scope), σ[iy]? = some (some (.ref f)) ∧ G j params body scope ∧ H c' = some (CodeO c' (X.env.qual ++ "<lambda>")) ∧
   H f = some (pinO f (ldObj X params body scope t doc pm c' ctv)) ∧ H t = some (pinO t (PySem.W.kdv_tup [u])) ∧
   TT (fun E H' Q' => H' f = some (pinO f (ldObj X params body scope t doc pm c' ctv)) ∧ H' t = some (pinO t (PySem.W.kdv_tup [u])) ∧ tb j E (L2.wipe σ0 [iy]) H' Q') H Q) := by
 constructor
 intro pins s σ H Q I h
 obtain ⟨hw, j, f, t, c', doc', pm', ctv', u, params, body, scope, hs, hGj, hco, hf, ht, hTT⟩ := h
 obtain ⟨a, L, hbind⟩ := hL j params body scope hGj
 have K0 : ∀ {H' : Hp} {s' : Shared}, Inv (X.blk s3 H3 sc0 ce fp) pins σ H' s' → Inv X pins0 (L2.wipe σ0 [iy]) H' s' := fun I' => (B _ _ _ _ I').weak (L2.wipe_length _ _) fun i v e => (L2.wipe_some e).1
 refine wpAny_Call_Name_kw (ld_glob I hg hm ?_ hdb)
 refine PySem.W.callWith_K (h₀ := X.base) I.ok.mod.kin hk ?_ (by rfl) (by rfl)
 show wpAny _ _ (spliced ((false, eval (.Name y py) ce) :: backTo pos (starEach [] ce))) _ _ s
 refine Calls.spliced_cons (thn ((pe_var (X := X.blk s3 H3 sc0 ce fp) (pos := py) (i := iy) hy hvy y1 y2).run pins s σ H (fun v H1 => v = .ref f ∧ H1 = H) I ⟨.ref f, hs, rfl, rfl⟩) fun uf s1 ⟨v, H1, I1, r1, q1⟩ => ?_)
 obtain ⟨rfl, rfl⟩ := q1
 obtain rfl : uf = Value.ref f := r1
 refine Calls.spliced_nil ⟨I1.kIn, ?_⟩
 have J1 := K0 I1
 have rc : codeAny (model X.prog X.w) X.A (.call (.ref g) ⟨[.ref f], []⟩) (CR C8.CX0 X.stack X.prog X.w H1 s1 Q C8.E0) s1 := by
  refine run_ofS (N := Ng) (ps := [ask]) (us := [.ref f]) (vs := [.ref f]) lk hcg Sg hr J1.env0 (hb s1 [.ref f] I1.kIn rfl) (.cons rfl .nil) rfl fun hr' => ?_
  obtain ⟨t', ht', hq'⟩ := hG f c' s1 H1 Q (fun E H' Q' => H' f = some (pinO f (ldObj X params body scope t doc' pm' c' ctv')) ∧ H' t = some (pinO t (PySem.W.kdv_tup [u])) ∧ tb j E (L2.wipe σ0 [iy]) H' Q') (fun W pn xe E p1 p2 tk hW => lk_act (i := 0) J1 L hbind tk hW hr' (fun A outer s H hr2 => hbody j params body scope hGj A outer s H E f c' hr2) hNg hva n1 n2) hco hTT
  exact ⟨t', ht'.nox, hq'⟩
 refine wpAny_call (codeAny_mono rc fun r s2 hq => ?_)
 match r with
 | .error e => exact (show False from hq).elim
 | .ok (.ret w') => exact I1.after hq
 | .ok .next => exact False.elim hq
 | .ok .brk => exact False.elim hq
 | .ok .cont => exact False.elim hq
theorem lk_callC0 {pins0 : List (Addr × Obj)} {σ0 : L2.St} {s3 : Shared} {H3 : Hp} {sc0 : Scope} {ce : Env} {fp : List Addr} {TT : (XK → Hp → VK → Prop) → Hp → VK → Prop} {x ask y : Str} {g : Addr} {k iy : Nat} {pg : Arguments} {bg : List Stmt} {sg : Scope} {dV kV doc pm cdv ct oc : Value} {an od : Option Addr} {osl : Array (Option Value)} {Ng : List Str}
  {G : Nat → Arguments → Expr → Scope → Prop} {tb : Nat → XK → TE} {p py pos : Pos} (B : Back X pins0 σ0 (X.blk s3 H3 sc0 ce fp)) (hg : Gl (X.blk s3 H3 sc0 ce fp) x) (hm : X.mg x = some (.ref g)) (hk : PySem.W.keepIn X.K (.ref g) = true)
  (lk : X.K.lookup g = some ⟨oc, od, .func (PySem.W.fnOf x x pg bg sg dV kV doc pm an cdv ct), osl⟩) (hcg : PySem.W.codeIn X.K cdv x = true) (hb : L2.Binds X.K (PySem.W.fnOf x x pg bg sg dV kV doc pm an cdv ct) [ask] []) (Sg : FnScope Ng [ask] sg) (hNg : Ng[0]? = some ask) (hva : Vis sg ask)
  (hG : GivesTo X Ng x sg g cdv bg ask (X.env.qual ++ "<lambda>") TT) (hr : Room (k + 2) X.A)
  (hy : X.N[iy]? = some y) (hvy : Vis ce.scope y) (y1 : (y == ("__debug__" : Str)) = false) (y2 : (y == ("__classdict__" : Str)) = false)
  (hL : ∀ j params body scope, G j params body scope → LamX.LamS X.env.scope scope ∧ ∀ (q : Str) (cl : List (Str × Addr)) (pm cv ctv : Value), bindArgs (PySem.W.kla_fn "<lambda>" q params body scope cl pm cv ctv) ⟨[], []⟩ = pure [])
  (hbody : ∀ j params body scope, G j params body scope → ∀ (A : Around) (outer : List Env) (s : Shared) (H : Hp) (E : XK) (f c' : Addr), Room k (A.deeper (lamEnv X scope s.heap.objs.size f c')) → PE (lamCx X A outer s H E scope f c') body (tb j E))
  (hdb : (x == ("__debug__" : Str)) = false) (n1 : (ask == ("__debug__" : Str)) = false) (n2 : (ask == ("__classdict__" : Str)) = false) :
  PE (X.blk s3 H3 sc0 ce fp) (.Call (.Name x p) [.Name y py] [] pos) (fun σ H Q => L2.wipe σ [iy] = L2.wipe σ0 [iy] ∧ ∃ (j : Nat) (f c' : Addr) (pm ctv : Value) (params : Arguments) (body : Expr) (scope : Scope), σ[iy]? = some (some (.ref f)) ∧ G j params body scope ∧ H c' = some (CodeO c' (X.env.qual ++ "<lambda>")) ∧
   H f = some (pinO f (l0Obj X params body scope pm c' ctv)) ∧
   TT (fun E H' Q' => H' f = some (pinO f (l0Obj X params body scope pm c' ctv)) ∧ tb j E (L2.wipe σ0 [iy]) H' Q') H Q) := by
 constructor
 intro pins s σ H Q I h
 obtain ⟨hw, j, f, c', pm', ctv', params, body, scope, hs, hGj, hco, hf, hTT⟩ := h
 obtain ⟨L, hbind⟩ := hL j params body scope hGj
 have K0 : ∀ {H' : Hp} {s' : Shared}, Inv (X.blk s3 H3 sc0 ce fp) pins σ H' s' → Inv X pins0 (L2.wipe σ0 [iy]) H' s' := fun I' => (B _ _ _ _ I').weak (L2.wipe_length _ _) fun i v e => (L2.wipe_some e).1
 refine wpAny_Call_Name_kw (ld_glob I hg hm ?_ hdb)
 refine PySem.W.callWith_K (h₀ := X.base) I.ok.mod.kin hk ?_ (by rfl) (by rfl)
 show wpAny _ _ (spliced ((false, eval (.Name y py) ce) :: backTo pos (starEach [] ce))) _ _ s
 refine Calls.spliced_cons (thn ((pe_var (X := X.blk s3 H3 sc0 ce fp) (pos := py) (i := iy) hy hvy y1 y2).run pins s σ H (fun v H1 => v = .ref f ∧ H1 = H) I ⟨.ref f, hs, rfl, rfl⟩) fun uf s1 ⟨v, H1, I1, r1, q1⟩ => ?_)
 obtain ⟨rfl, rfl⟩ := q1
 obtain rfl : uf = Value.ref f := r1
 refine Calls.spliced_nil ⟨I1.kIn, ?_⟩
 have J1 := K0 I1
 have rc : codeAny (model X.prog X.w) X.A (.call (.ref g) ⟨[.ref f], []⟩) (CR C8.CX0 X.stack X.prog X.w H1 s1 Q C8.E0) s1 := by
  refine run_ofS (N := Ng) (ps := [ask]) (us := [.ref f]) (vs := [.ref f]) lk hcg Sg hr J1.env0 (hb s1 [.ref f] I1.kIn rfl) (.cons rfl .nil) rfl fun hr' => ?_
  obtain ⟨t', ht', hq'⟩ := hG f c' s1 H1 Q (fun E H' Q' => H' f = some (pinO f (l0Obj X params body scope pm' c' ctv')) ∧ tb j E (L2.wipe σ0 [iy]) H' Q') (fun W pn xe E p1 p2 tk hW => lk_act0 (i := 0) J1 L (hbind _ _ _ _ _) tk hW hr' (fun A outer s H hr2 => hbody j params body scope hGj A outer s H E f c' hr2) hNg hva n1 n2) hco hTT
  exact ⟨t', ht'.nox, hq'⟩
 refine wpAny_call (codeAny_mono rc fun r s2 hq => ?_)
 match r with
 | .error e => exact (show False from hq).elim
 | .ok (.ret w') => exact I1.after hq
 | .ok .next => exact False.elim hq
 | .ok .brk => exact False.elim hq
 | .ok .cont => exact False.elim hq
end
section
variable {T : Tb} {X : Cx} {Wx : WX} {p : Pg} {cal : Bool → Nat → List W → List OO → RC} {k : Nat} {c : Cf} {st : St} {σ σ2 σw : L2.St} {H : Hp}
theorem RSt.unwipe {vs : List Nat} (h : RSt T c st (L2.wipe σ vs) H) : RSt T c st σ H :=
 ⟨h.len.trans (L2.wipe_length _ _), fun i w e => let ⟨v, a, b⟩ := h.val i w e; ⟨v, (L2.wipe_some a).1, b⟩, fun i o e => let ⟨a, b, d, f⟩ := h.own i o e; ⟨a, b, (L2.wipe_some d).1, f⟩, h.back, h.inj, h.dis, h.ou, h.ouh, h.sto⟩
theorem lkR_tup {p : Pg} {x : Xn} {w : W} (h : lkR p x = some w) : ∃ xs, w = .tup xs := by
 unfold lkR at h
 split at h
 ·split at h
  ·obtain ⟨l, _, rfl⟩ := Option.map_eq_some_iff.mp h
   exact ⟨_, rfl⟩
  ·split at h
   ·obtain ⟨l, _, rfl⟩ := Option.map_eq_some_iff.mp h
    exact ⟨_, rfl⟩
   ·cases h
 ·cases h
theorem post_ref {r : R W} {Q : VK} (hs : ∀ {c' : Cf} {st' : St} {H' : Hp}, RSt T c' st' σw H' → RSt T c' st' σ2 H') (q : Post T Wx (relV T σ2) c σ2 H (refR p r) Q) : Post T Wx (relV T σw) c σw H (refR p r) Q := by
 have tup : ∀ {xs : List W} {st' : St}, Post T Wx (relV T σ2) c σ2 H (.ok (.tup xs) st') Q → Post T Wx (relV T σw) c σw H (.ok (.tup xs) st') Q := fun {xs st'} q v H' c' S h r => q v H' c' S (hs h) r
 have str : ∀ {z : Tx} {st' : St}, Post T Wx (relV T σ2) c σ2 H (.ok (.str z) st') Q → Post T Wx (relV T σw) c σw H (.ok (.str z) st') Q := fun {z st'} q v H' c' S h r => q v H' c' S (hs h) r
 revert q
 cases r with
 | ok w st' =>
  cases hrl : p.rl with
  | true =>
   rw [refR_okL hrl]; exact fun q => tup q
  | false =>
   cases hrc : p.rc with
   | true => rw [refR_ok1 hrl hrc]; exact fun q => str q
   | false => rw [refR_ok0 hrl hrc]; exact fun q => tup q
 | stk => exact fun q => q
 | exc x st' =>
  cases hrl : p.rl with
  | true =>
   rw [refR_excL hrl]
   cases hw : lkR p x with
   | none => exact fun q => q
   | some w =>
    obtain ⟨xs, rfl⟩ := lkR_tup hw
    exact fun q => tup q
  | false =>
   cases hrc : p.rc with
   | true =>
    rw [refR_exc1 hrl hrc]
    split
    ·exact fun q => q
    split
    ·exact fun q => str q
    ·exact fun q => q
   | false =>
    rw [refR_exc0 hrl hrc]
    split
    ·exact fun q => q
    split
    ·split
     ·split
      ·exact fun q => q
      ·exact fun q => tup q
     ·exact fun q => q
    ·exact fun q => q
theorem pe_rfxC {pins0 : List (Addr × Obj)} {σ0 : L2.St} {s3 : Shared} {H3 : Hp} {sc0 : Scope} {ce : Env} {fp : List Addr} {x y : Str} {g i : Nat} {bs : List E} {p1 py pos : Pos} {G G0 : Nat → Arguments → Expr → Scope → Prop} (F : RfdF T p X k x) (B : Back X pins0 σ0 (X.blk s3 H3 sc0 ce fp))
   (hgl : Gl (X.blk s3 H3 sc0 ce fp) x) (hdb : (x == ("__debug__" : Str)) = false) (hy : X.N[i]? = some y) (hvy : Vis ce.scope y) (y1 : (y == ("__debug__" : Str)) = false) (y2 : (y == ("__classdict__" : Str)) = false)
   (hlb : ∀ j o c' ts, T.lb T.cl j o c' ts → (∃ (b : E) (pm ctv : Value) (params : Arguments) (body : Expr) (scope : Scope), bs[j]? = some b ∧ G0 j params body scope ∧ o = l0Obj X params body scope pm c' ctv ∧ ts = []) ∨ ∃ (b : E) (t : Addr) (doc pm ctv u : Value) (params : Arguments) (body : Expr) (scope : Scope), bs[j]? = some b ∧ G j params body scope ∧ ts = [(t, PySem.W.kdv_tup [u])] ∧ o = ldObj X params body scope t doc pm c' ctv)
   (hL0 : ∀ j params body scope, G0 j params body scope → LamX.LamS X.env.scope scope ∧ ∀ (q : Str) (cl : List (Str × Addr)) (pm cv ctv : Value), bindArgs (PySem.W.kla_fn "<lambda>" q params body scope cl pm cv ctv) ⟨[], []⟩ = pure [])
   (hL : ∀ j params body scope, G j params body scope → ∃ a, LamD X.N a X.env.scope scope ∧ DefB params body scope a)
   (hbody : ∀ j b params body scope, (G0 j params body scope ∨ G j params body scope) → bs[j]? = some b → ∀ (A : Around) (outer : List Env) (s : Shared) (H : Hp) (E : XK) (f c' : Addr), Room (k + 1) (A.deeper (LamX.lamEnv X scope s.heap.objs.size f c')) → SE T (LamX.lamCx X A outer s H E scope f c') (fun cls d _ H => E cls d H) body (evE p cal b)) :
   PE (X.blk s3 H3 sc0 ce fp) (.Call (.Name x p1) [.Name y py] [] pos) (fun σ2 H2 Q2 => L2.wipe σ2 [i] = L2.wipe σ0 [i] ∧ rdE T F0 (evE p cal (.rfx g i bs)) σ2 H2 Q2) := by
 have hA : X.A.depth + 1 < recursionLimit := by have := F.room.dp; omega
 obtain ⟨ask, told, e, ga, CP, pg, bg, sg, dV, kV, doc, pm, cdv, ct, oc, an, od, osl, f1, f2, f3, f4, f5, f6, f7, n6, n7, hGv, hLk, hR⟩ := RfdG.use F.df hA
 have hG := lk_callC (X := X) (TT := TRefP T p X.K CP) (G := fun j params body scope => G j params body scope ∧ ∃ b, bs[j]? = some b) (tb := fun j E => rdE T (fun cls d _ H => E cls d H) (evE p cal ((bs[j]?).getD default))) (p := p1) (py := py) (pos := pos) B hgl f1 f2 f3 f4 f5 f6 rfl f7
   (hGv _) F.room hy hvy y1 y2 (fun j params body scope z => hL j params body scope z.1)
   (fun j params body scope ⟨z, b, hb⟩ A outer s H E f c' hr => by
     have := hbody j b params body scope (.inr z) hb A outer s H E f c' hr
     rw [hb]
     exact this) hdb n6 n7
 have hG0 := lk_callC0 (X := X) (TT := TRefP T p X.K CP) (G := fun j params body scope => G0 j params body scope ∧ ∃ b, bs[j]? = some b) (tb := fun j E => rdE T (fun cls d _ H => E cls d H) (evE p cal ((bs[j]?).getD default))) (p := p1) (py := py) (pos := pos) B hgl f1 f2 f3 f4 f5 f6 rfl f7
   (hGv _) F.room hy hvy y1 y2 (fun j params body scope z => hL0 j params body scope z.1)
   (fun j params body scope ⟨z, b, hb⟩ A outer s H E f c' hr => by
     have := hbody j b params body scope (.inl z) hb A outer s H E f c' hr
     rw [hb]
     exact this) hdb n6 n7
 refine PE.imp (pe_or hG hG0) fun σ2 H Q ⟨hw, c, st, h, q⟩ => ?_
 rw [evE] at q
 cases er : st.r[i]? with
 | none => rw [er] at q; exact (show False from q).elim
 | some sl =>
 cases sl with
 | un => rw [er] at q; exact (show False from q).elim
 | own o => rw [er] at q; exact (show False from q).elim
 | val w =>
 rw [er] at q
 cases w with
 | glo j =>
   replace q : Post T F0 (relV T σ2) c σ2 H (match st.s[0]? with
     | some OO.tab => refR p (evN p cal bs j ⟨Ev.wipe st.r [i], st.s⟩)
     | _ => .stk) Q := q
   cases e0 : st.s[0]? with
   | none => rw [e0] at q; exact (show False from q).elim
   | some o =>
   cases o with
   | lst _ => rw [e0] at q; exact (show False from q).elim
   | dct _ _ => rw [e0] at q; exact (show False from q).elim
   | ins _ _ _ => rw [e0] at q; exact (show False from q).elim
   | dnk _ _ => rw [e0] at q; exact (show False from q).elim
   | tab =>
   rw [e0] at q
   simp only at q
   obtain ⟨v, ev, rw_⟩ := h.val i _ er
   simp only [RW] at rw_
   obtain ⟨f, rfl, o, c', ts, h1, n1, n2, h2, h3, h4⟩ := rw_
   have no : noOwn st.r [i] = true := by simp only [noOwn, er, Bool.and_self]
   have hwp : RSt T c ⟨Ev.wipe st.r [i], st.s⟩ (L2.wipe σ0 [i]) H := by rw [← hw]; exact h.wipe no
   replace q : Post T F0 (relV T (L2.wipe σ0 [i])) c (L2.wipe σ0 [i]) H (refR p (evN p cal bs j ⟨Ev.wipe st.r [i], st.s⟩)) Q := post_ref (fun {c' st' H'} h' => by rw [← hw] at h'; exact h'.unwipe) q
   rcases hlb _ _ _ _ h1 with ⟨b, pm', ctv', params, body, scope, hb, hGj, rfl, _⟩ | ⟨b, t, doc', pm', ctv', u, params, body, scope, hb, hGj, rfl, rfl⟩
   · rw [evN_get hb] at q
     refine .inr ⟨hw, j, f, c', pm', ctv', params, body, scope, ev, ⟨hGj, b, hb⟩, by rw [F.q]; exact h3, h2, ?_⟩
     unfold TRefP
     cases hrl : p.rl with
     | true =>
       simp only []
       obtain ⟨C1, C2, z1, z2, i1, i2, hlk, _⟩ := id (hLk hrl)
       rw [hlk]
       refine fun p0 o0 ho0 hp0 => ⟨by rw [upd_ne (ne_of_none h2 hp0)]; exact h2, ?_⟩
       rw [hb]
       exact rfx_tailL hrl hlk hLk hR hwp q ho0 hp0
     | false =>
       simp only []
       cases hrc : p.rc with
       | true =>
         refine ⟨h2, ?_⟩
         rw [hb]
         exact rfx_tailC hrl hrc F hR hwp q
       | false =>
         refine fun p0 o0 ho0 hp0 => ⟨by rw [upd_ne (ne_of_none h2 hp0)]; exact h2, ?_⟩
         rw [hb]
         exact rfx_tail hrl hrc F hR hwp q ho0 hp0
   · have ht := h4 _ (List.mem_singleton.mpr rfl)
     rw [evN_get hb] at q
     refine .inl ⟨hw, j, f, t, c', doc', pm', ctv', u, params, body, scope, ev, ⟨hGj, b, hb⟩, by rw [F.q]; exact h3, h2, ht, ?_⟩
     unfold TRefP
     cases hrl : p.rl with
     | true =>
       simp only []
       obtain ⟨C1, C2, z1, z2, i1, i2, hlk, _⟩ := id (hLk hrl)
       rw [hlk]
       refine fun p0 o0 ho0 hp0 => ⟨by rw [upd_ne (ne_of_none h2 hp0)]; exact h2, by rw [upd_ne (ne_of_none ht hp0)]; exact ht, ?_⟩
       rw [hb]
       exact rfx_tailL hrl hlk hLk hR hwp q ho0 hp0
     | false =>
       simp only []
       cases hrc : p.rc with
       | true =>
         refine ⟨h2, ht, ?_⟩
         rw [hb]
         exact rfx_tailC hrl hrc F hR hwp q
       | false =>
         refine fun p0 o0 ho0 hp0 => ⟨by rw [upd_ne (ne_of_none h2 hp0)]; exact h2, by rw [upd_ne (ne_of_none ht hp0)]; exact ht, ?_⟩
         rw [hb]
         exact rfx_tail hrl hrc F hR hwp q ho0 hp0
 | _ => exact (show False from q).elim
end
end Ev
namespace Ev
open PySem PySem.Spec PyProof.Rows L2 Calls
section
variable {T : Tb} {X : Cx} {Wx : WX} {p : Pg} {cal : Bool → Nat → List W → List OO → RC} {c : Cf} {st : St} {σ : L2.St} {H : Hp} {a b : Expr} {ea eb : E} {pos p1 p2 p3 : Pos}
theorem rg_rel {i j : Int} : RWs T c.lv c.nf H ((List.range (j - i).toNat).map fun (k : Nat) => W.int (i + (k : Int))) (rgV i j) := by
 unfold rgV
 refine RWs.of_get (by simp) fun n w v h1 h2 => ?_
 rw [List.getElem?_map] at h1 h2
 cases e : (List.range (j - i).toNat)[n]? with
 | none => rw [e] at h1; cases h1
 | some z =>
  rw [e] at h1 h2
  cases h1
  cases h2
  simp only [RW]
theorem rgl_cases {t : Bool} {i : Int} {w : W} {Q : R W → Prop} (h : Q (rglW t i w st)) (hs : ¬ Q .stk) : ∃ j, w = .int j ∧ RgOk i j ∧ Q (.ok (if t then .tup ((List.range (j - i).toNat).map fun (k : Nat) => W.int (i + (k : Int))) else .lst ((List.range (j - i).toNat).map fun (k : Nat) => W.int (i + (k : Int)))) st) := by
 unfold rglW at h
 split at h
 ·rename_i j
  split at h
  ·rename_i hc
   exact ⟨j, rfl, ⟨hc.1, hc.2.1, hc.2.2.1, hc.2.2.2.1, hc.2.2.2.2⟩, h⟩
  ·exact (hs h).elim
 ·exact (hs h).elim
theorem sf_rgl1 (hc : X.calm = true) (hg : Gl X "list") (hm : X.mg "list" = none) (hg2 : Gl X "range") (hm2 : X.mg "range" = none) (hs : notStar b = true) (hb : SE T X Wx b (evE p cal eb)) :
  SF T X Wx (.Call (.Name "list" p1) [.Call (.Name "range" p2) [b] [] p3] [] pos) (evE p cal (.rgl false none eb)) :=
 PE.imp (pe_listRg hc hg hm (prg_1 hg2 hm2 hb (star_ok hs))) fun σ H Q ⟨c, st, h, q⟩ => by
  rw [evE, evO, bind_ok] at q
  refine ⟨c, st, h, (PostF.bind (rel := relV T σ) q).mono fun v H1 ⟨c1, st1, w, S, h1, r1, q1⟩ => ?_⟩
  obtain ⟨j, rfl, ok, q2⟩ := rgl_cases (Q := fun r => PostF T Wx c1 σ H1 r Q) q1 (fun z => z)
  exact ⟨j, r1, ok, fun q0 hq => new_lst h1 hq rg_rel (WantsF.of q2)⟩
theorem sf_rgl2 (hc : X.calm = true) (hg : Gl X "list") (hm : X.mg "list" = none) (hg2 : Gl X "range") (hm2 : X.mg "range" = none) (hs : notStar a = true) (hs2 : notStar b = true) (hp : (backTo p3 (starEach [b] X.env)).any (·.1) = false) (ha : SE T X Wx a (evE p cal ea)) (hb : SE T X Wx b (evE p cal eb)) :
  SF T X Wx (.Call (.Name "list" p1) [.Call (.Name "range" p2) [a, b] [] p3] [] pos) (evE p cal (.rgl false (some ea) eb)) :=
 PE.imp (pe_listRg hc hg hm (prg_2 hg2 hm2 ha hb (star_ok hs) (star_ok hs2) hp)) fun σ H Q ⟨c, st, h, q⟩ => by
  rw [evE, evO, bind_assoc'] at q
  refine ⟨c, st, h, (PostF.bind (rel := relV T σ) q).mono fun v H1 ⟨c1, st1, w, S, h1, r1, q1⟩ => ?_⟩
  cases w <;> first | exact (show False from q1).elim | skip
  rename_i i
  rw [bind_ok] at q1
  refine ⟨c1, st1, h1, (PostF.bind (rel := relV T σ) q1).mono fun u H2 ⟨c2, st2, w2, S2, h2, r2, q2⟩ => ?_⟩
  obtain ⟨j, rfl, ok, q3⟩ := rgl_cases (Q := fun r => PostF T Wx c2 σ H2 r Q) q2 (fun z => z)
  exact ⟨i, j, r1, r2, ok, fun q0 hq => new_lst h2 hq rg_rel (WantsF.of q3)⟩
def tTupRgC (te : (σ : L2.St) → Hp → (Int → Int → Hp → Prop) → Prop) : TE := fun σ H Q => te σ H fun i j H1 => RgOk i j ∧ ∀ (p : Addr) (o : Obj), o.dict = none → H1 p = none → Q (.ref p) (upd H1 p (.frz o (.tup (rgV i j))))
theorem pe_tupRgC {e : Expr} {te} (hc : X.calm = true) (hg : Gl X "tuple") (hm : X.mg "tuple" = none) (he : PRg X e te) (na : starEach [e] X.env = (false, eval e X.env) :: starEach [] X.env := by rfl) : PE X (.Call (.Name "tuple" p1) [e] [] pos) (tTupRgC te) := by
 constructor
 intro pins s σ H Q I h
 refine Call_ (ld_blt I hg hm boot_tuple (PyProof.Rows.callWith_type1 (args_cons (thn (he pins s σ H _ I h) fun x s1 ⟨r, i, j, t, u, v, H1, ex, hr, I1, ok, q⟩ => args_nil ?_) na) na))
 subst ex
 have hz : (rgV i j).length ≤ sizeLine := by rw [rgV_length, sizeLine_eq]; have := ok.2.2.2.2; omega
 refine call_tuple_range (n := (j - i).toNat) (I1.ok.hd hc) hr (small_one ok.1 ok.2.1 ok.2.2.1 ok.2.2.2.1) (rangeSize_nat i j) ok.2.2.2.2 fun h' tk acc hk hi => ?_
 have I2 : Inv X pins σ H1 { s1 with heap := h', toks := tk } := I1.kept hk
 exact ⟨.ref h'.objs.size, _, lay_tup (h' := h') (t' := tk) I2 (vals_rg hi) hz, rfl, q _ _ rfl (I2.hok.fresh (Nat.le_refl _))⟩
theorem se_rgl1 (hc : X.calm = true) (hg : Gl X "tuple") (hm : X.mg "tuple" = none) (hg2 : Gl X "range") (hm2 : X.mg "range" = none) (hs : notStar b = true) (hb : SE T X Wx b (evE p cal eb)) :
  SE T X Wx (.Call (.Name "tuple" p1) [.Call (.Name "range" p2) [b] [] p3] [] pos) (evE p cal (.rgl true none eb)) :=
 PE.imp (pe_tupRgC hc hg hm (prg_1 hg2 hm2 hb (star_ok hs))) fun σ H Q ⟨c, st, h, q⟩ => by
  rw [evE, evO, bind_ok] at q
  refine ⟨c, st, h, (Post.bind (rel := relV T σ) q).mono fun v H1 ⟨c1, st1, w, S, h1, r1, q1⟩ => ?_⟩
  obtain ⟨j, rfl, ok, q2⟩ := rgl_cases (Q := fun r => Post T Wx (relV T σ) c1 σ H1 r Q) q1 (fun z => z)
  exact ⟨j, r1, ok, fun q0 o ho hq => new_tup h1 hq ho rg_rel (Wants.of q2)⟩
theorem se_rgl2 (hc : X.calm = true) (hg : Gl X "tuple") (hm : X.mg "tuple" = none) (hg2 : Gl X "range") (hm2 : X.mg "range" = none) (hs : notStar a = true) (hs2 : notStar b = true) (hp : (backTo p3 (starEach [b] X.env)).any (·.1) = false) (ha : SE T X Wx a (evE p cal ea)) (hb : SE T X Wx b (evE p cal eb)) :
  SE T X Wx (.Call (.Name "tuple" p1) [.Call (.Name "range" p2) [a, b] [] p3] [] pos) (evE p cal (.rgl true (some ea) eb)) :=
 PE.imp (pe_tupRgC hc hg hm (prg_2 hg2 hm2 ha hb (star_ok hs) (star_ok hs2) hp)) fun σ H Q ⟨c, st, h, q⟩ => by
  rw [evE, evO, bind_assoc'] at q
  refine ⟨c, st, h, (Post.bind (rel := relV T σ) q).mono fun v H1 ⟨c1, st1, w, S, h1, r1, q1⟩ => ?_⟩
  cases w <;> first | exact (show False from q1).elim | skip
  rename_i i
  rw [bind_ok] at q1
  refine ⟨c1, st1, h1, (Post.bind (rel := relV T σ) q1).mono fun u H2 ⟨c2, st2, w2, S2, h2, r2, q2⟩ => ?_⟩
  obtain ⟨j, rfl, ok, q3⟩ := rgl_cases (Q := fun r => Post T Wx (relV T σ) c2 σ H2 r Q) q2 (fun z => z)
  exact ⟨i, j, r1, r2, ok, fun q0 o ho hq => new_tup h2 hq ho rg_rel (Wants.of q3)⟩
end
end Ev
namespace Ev
open PySem PySem.Spec PyProof.Rows L2 Calls
section
variable {prog : Program} {w : World} {A : Around} {E : Value → Shared → Prop} {s : Shared}
theorem tupIter_self {it t : Addr} {i : Nat} {Q : Value → Shared → Prop} (hit : IsTupIter s.heap it t i) (h : Q (.ref it) s) : wpAny (model prog w) A (pyIter (.ref it)) Q E s := by
 refine wpAny_pyIter_slot hit.typeIs PySem.F.slot_tuple_iterator_iter (wpAny_call_entry PySem.F.slot_tuple_iterator_iter hit.typeIs PySem.F.entry_tuple_iterator_iter ?_ (PySem.F.args_tuple_iterator_iter_1 _))
 show wpAny _ _ (ret (.ref it)) _ _ s
 exact wpAny_pure ⟨_, rfl, "tuple_iterator", _, hit.typeIs, slot_tupleiter_next.lookup, h⟩
theorem tupIter_at {h h' : Heap} {it t : Addr} {i : Nat} (x : IsTupIter h it t i) (e : ∀ o, h.get? it = some o → h'.get? it = some o) : IsTupIter h' it t i := let ⟨o, ho, r⟩ := x; ⟨o, e _ ho, r⟩
theorem isTup_at {h h' : Heap} {t : Addr} {items : Array Value} (x : IsTup h t items) (e : ∀ o, h.get? t = some o → h'.get? t = some o) : IsTup h' t items := let ⟨o, ho, r⟩ := x; ⟨o, e _ ho, r⟩
theorem walks_tupIter {it t : Addr} {items : Array Value} {k n : Nat} (hh : A.handled = none) (hne : t ≠ it) (hn : items.size = k + n) :
  WalksS prog w A it [it, t] [it] (fun a b => a = b) n (fun i v => items[k + i]? = some v) (fun i s => IsTupIter s.heap it t (k + i) ∧ IsTup s.heap t items) where
 sub := fun b hb => by simp at hb; simp [hb]
 grefl := fun _ => rfl
 gtrans := fun _ _ _ a b => a.trans b
 frame := fun i s h' tk st _ hk => ⟨tupIter_at st.1 fun o e => hk it (by simp) o e, isTup_at st.2 fun o e => hk t (by simp) o e⟩
 item := fun i s Q E hi st hQ => by
  have hlt : k + i < items.size := by omega
  refine next_tuple_item st.1 st.2 (x := items[k + i]) (by simp [hlt]) fun h' hit' sb => ?_
  refine hQ _ { s with heap := h' } (by simp [hlt]) ⟨hit', st.2.extBut sb.extBut hne⟩ ⟨fun b o hb e => sb.extBut b o (fun z => hb (by simp [z])) e, rfl, rfl, rfl, Nat.le_refl _⟩
 done := fun s Q E st hQ => next_tuple_end hh st.1 st.2 (by simp; omega) fun h' he => hQ { s with heap := h' } ⟨fun b o hb e => he b o (fun z => hb (by simp [z])) e, rfl, rfl, rfl, Nat.le_refl _⟩
 self := fun _ _ _ _ st hQ => tupIter_self st.1 hQ
theorem unpack_star1 {t : Addr} {items : Array Value} {Q : List Value → Shared → Prop} (hh : A.handled = none) (ht : IsTup s.heap t items) (h1 : 1 ≤ items.size) (hz : items.size ≤ sizeLine)
  (hQ : ∀ (h' : Heap) (tk : Nat), (∀ b o, s.heap.get? b = some o → h'.get? b = some o) → Q [items[0]'(by omega), .ref h'.objs.size] { s with heap := h'.push { cls := .type "list", data := .seq (items.toList.drop 1).toArray }, toks := tk }) :
  wpAny (model prog w) A (unpackItems (.ref t) 2 (some 1)) Q E s := by
 have hlt : t ≠ s.heap.objs.size := by obtain ⟨o, ho, _⟩ := ht; exact Nat.ne_of_lt (Heap.lt_size ho)
 unfold unpackItems
 refine wpAny_bind ?_
 unfold notIterableAtAll
 refine wpAny_bind (wpAny_specialOf ht.typeIs slot_tuple_iter.lookup ?_)
 refine wpAny_pure ?_
 simp only [Bool.false_eq_true, if_false]
 refine wpAny_bind (wpAny_holding (iter_tuple ht ?_))
 refine wpAny_bind (wpAny_holding (draw_tuple hlt 1 0 _ _ ⟨_, Heap.get?_push_size _ rfl, rfl, rfl⟩ (ht.push _) (by omega) fun h₁ hit₁ hs₁ => ?_))
 have hf : List.take 1 (List.drop 0 items.toList) = [items[0]'(by omega)] := by
  rw [List.drop_zero]
  obtain ⟨l⟩ := items
  match l, h1 with
  | x :: r, _ => rfl
 rw [hf]
 rw [if_neg (by simp)]
 have ht₁ : IsTup h₁ t items := (ht.push _).extBut hs₁.extBut hlt
 have hsz : h₁.objs.size = s.heap.objs.size + 1 := hs₁.1.trans (by simp [Heap.push])
 refine wpAny_bind (wpAny_holding (wpAny_collect_iter (T := "tuple_iterator") (.inr (.inr (.inr rfl))) (walks_tupIter (A := A.in1) (k := 1) (n := items.size - 1) hh hlt (by omega)) (fun i s st => st.1.typeIs) ⟨hit₁, ht₁⟩ (fun b hb => ?_) (by simp) (fun s' acc hm hacc => ?_) (by omega)))
 ·show b < h₁.objs.size
  rw [hsz]
  simp only [List.mem_cons, List.not_mem_nil, or_false] at hb
  rcases hb with rfl | rfl
  ·exact Nat.lt_succ_self _
  ·obtain ⟨o, ho, _⟩ := ht
   exact Nat.lt_succ_of_lt (Heap.lt_size ho)
 ·have el : acc.toList = items.toList.drop 1 := by
   apply List.ext_getElem?
   intro j
   rw [List.getElem?_drop]
   by_cases hj : j < acc.size
   ·have h2 := hacc.2 j acc[j] (by simp [hj])
    rw [Array.getElem?_toList, Array.getElem?_toList, h2]
    simp [hj]
   ·have h3 := hacc.1
    rw [List.getElem?_eq_none (by simpa using hj), List.getElem?_eq_none (by simp; omega)]
  rw [el]
  have hlen : ¬ (items.toList.drop 1).length < 2 - 1 - 1 := by omega
  rw [if_neg hlen]
  have e1 : (items.toList.drop 1).length - (2 - 1 - 1) = (items.toList.drop 1).length := by omega
  rw [e1, List.take_length, List.drop_length]
  obtain ⟨hp, g, d, tk, os⟩ := s'
  have hg : s.gens = g := hm.gens
  have hd : d = s.drawn := hm.drawn
  have ho : os = s.os := hm.os
  subst hg hd ho
  refine wpAny_bind (wpAny_newList ?_)
  refine wpAny_pure ?_
  have kp : ∀ b o, s.heap.get? b = some o → hp.get? b = some o := fun b o e => hm.heap b o (fun z => by
   simp only [List.mem_singleton] at z
   rw [z] at e
   exact Nat.lt_irrefl _ (Heap.lt_size e)) (by
   have hb : b ≠ s.heap.objs.size := fun z => by rw [z] at e; exact Nat.lt_irrefl _ (Heap.lt_size e)
   exact hs₁.extBut b o hb (Heap.get?_push_of_some _ e))
  exact hQ hp tk kp
theorem unpack_star1L {t : Addr} {items : Array Value} {Q : List Value → Shared → Prop} (hh : A.handled = none) (hl : s.heap.IsList t items) (h1 : 1 ≤ items.size) (hz : items.size ≤ sizeLine)
  (hQ : ∀ (h' : Heap) (tk : Nat), (∀ b o, s.heap.get? b = some o → h'.get? b = some o) → Q [items[0]'(by omega), .ref h'.objs.size] { s with heap := h'.push { cls := .type "list", data := .seq (items.toList.drop 1).toArray }, toks := tk }) :
  wpAny (model prog w) A (unpackItems (.ref t) 2 (some 1)) Q E s := by
 have hlt : t ≠ s.heap.objs.size := by obtain ⟨o, ho, _⟩ := hl; exact Nat.ne_of_lt (Heap.lt_size ho)
 unfold unpackItems
 refine wpAny_bind ?_
 unfold notIterableAtAll
 refine wpAny_bind (wpAny_specialOf hl.typeIs slot_list_iter.lookup ?_)
 refine wpAny_pure ?_
 simp only [Bool.false_eq_true, if_false]
 refine wpAny_bind (wpAny_holding (wpAny_pyIter_list hl ?_))
 refine wpAny_bind (wpAny_holding (PySem.W.kun_draw hlt 1 0 _ _ ⟨_, Heap.get?_push_size _ rfl, rfl, rfl⟩ (hl.push _) (by omega) fun h₁ hit₁ hs₁ => ?_))
 have hl₁ : h₁.IsList t items := (hl.push _).extBut hs₁.extBut hlt
 rw [Nat.zero_add] at hit₁
 have hit₁' := hit₁
 obtain ⟨oi, hoi, _⟩ := hit₁'
 have hl₁' := hl₁
 obtain ⟨ol, hol, _⟩ := hl₁'
 have hf : List.take 1 (List.drop 0 items.toList) = [items[0]'(by omega)] := by
  rw [List.drop_zero]
  obtain ⟨l⟩ := items
  match l, h1 with
  | x :: r, _ => rfl
 rw [hf]
 rw [if_neg (by simp)]
 refine wpAny_bind (wpAny_holding (PySem.W.kun_collect (s := { s with heap := h₁ }) (T := "list_iterator") (.inr (.inr (.inl rfl))) (Walks.list (A := A.in1) hh s.heap.objs.size t hlt items) (fun j u st => st.1.typeIs) (k := 1) (by omega) ⟨hit₁, hl₁⟩ (Heap.lt_size hoi) (Heap.lt_size hol) (fun h₂ tk hk => ?_) hz))
 have hlen : ¬ (items.toList.drop 1).length < 2 - 1 - 1 := by omega
 show wpAny _ _ (if (items.toList.drop 1).length < 2 - 1 - 1 then _ else _) _ _ _
 rw [if_neg hlen]
 have e1 : (items.toList.drop 1).length - (2 - 1 - 1) = (items.toList.drop 1).length := by omega
 show wpAny _ _ (newList ((items.toList.drop 1).take ((items.toList.drop 1).length - (2 - 1 - 1))) >>= fun d => pure ([items[0]'(by omega)] ++ [d] ++ (items.toList.drop 1).drop ((items.toList.drop 1).length - (2 - 1 - 1)))) _ _ _
 rw [e1, List.take_length, List.drop_length]
 refine wpAny_bind (wpAny_newList ?_)
 refine wpAny_pure ?_
 exact hQ h₂ tk fun b o e => by
  have hb : b ≠ s.heap.objs.size := fun z => by rw [z] at e; exact Nat.lt_irrefl _ (Heap.lt_size e)
  exact hk b o hb (hs₁.extBut b o hb (Heap.get?_push_of_some _ e))
end
section
variable {X : Cx} {T : Tb} {Wx : WX} {p : Pg} {cal : Bool → Nat → List W → List OO → RC} {wf : Nat}
def gStar (K : PySem.W.Frag) (t : TGs) : TG := fun v σ H Q => ∃ a y ys, v = .ref a ∧ (SqT K H a (y :: ys) ∨ SqL K H a (y :: ys)) ∧ ∀ q, H q = none → t [y, .ref q] σ (upd H q (.lst ys)) Q
theorem pg_star1 {x y : Str} {px py sp pos : Pos} {kk : Nat} {t : TGs} (hc : X.calm = true) (h : PGs X [.Name x px, .Name y py] t) : PG X (.Tuple [.Name x px, .Starred (.Name y py) sp] kk pos) (gStar X.K t) := by
 refine ⟨fun pins s σ H v u Q I r hw => ?_⟩
 obtain ⟨a, z, zs, e1, hq, hw⟩ := hw
 subst e1
 obtain rfl : u = Value.ref a := r
 have hq2 : ∃ its, Vals (z :: zs) its ∧ (z :: zs).length ≤ sizeLine ∧ ∀ {Q : List Value → Shared → Prop} (h1 : 1 ≤ its.toArray.size), (∀ (h' : Heap) (tk : Nat), (∀ b o, s.heap.get? b = some o → h'.get? b = some o) → Q [its.toArray[0]'(by omega), .ref h'.objs.size] { s with heap := h'.push { cls := .type "list", data := .seq (its.toArray.toList.drop 1).toArray }, toks := tk }) →
   wpAny (model X.prog X.w) X.A (unpackItems (.ref a) 2 (some 1)) Q X.xe s := by
  rcases hq with hq | hq
  ·obtain ⟨its, rv, ht, hz⟩ := I.tuple hq
   exact ⟨its, rv, hz, fun {Q} h1 hQ => unpack_star1 (I.ok.hd hc) ht h1 (by rw [List.size_toArray, ← rv.length]; exact hz) hQ⟩
  ·obtain ⟨its, rv, ht, hz⟩ := I.list hq
   exact ⟨its, rv, hz, fun {Q} h1 hQ => unpack_star1L (I.ok.hd hc) ht.isList h1 (by rw [List.size_toArray, ← rv.length]; exact hz) hQ⟩
 obtain ⟨its, rv, hz, hun⟩ := hq2
 rw [PyProof.Rows.assign_Tuple]
 refine wpAny_bind (wpAny_standAt ?_)
 unfold unpack
 show wpAny _ _ (holding [Value.ref a] (unpackItems (.ref a) 2 (some 1)) >>= fun us => assignInOrder ((assignEach [.Name x px, .Name y py] X.env).map (·.2)) us) _ _ _
 have hsz : its.toArray.size = zs.length + 1 := by
  have := rv.length
  simp at this ⊢
  omega
 refine wpAny_bind (wpAny_holding (hun (by omega) fun h' tk kp => ?_))
 have I1 : Inv X pins σ H { s with heap := h', toks := tk } := I.kept (t' := tk) kp
 cases rv with
 | @cons _ u0 _ us0 r1 r2 =>
  have I2 : Inv X pins σ (upd H h'.objs.size (.lst zs)) { s with heap := h'.push { cls := .type "list", data := .seq us0.toArray }, toks := tk } :=
   I1.laid (t' := tk) (fun b o e => Heap.get?_push_of_some _ e) (Nat.le_refl _) (show ObjOk X.prog X.w _ _ _ (.lst zs) from ⟨by have := hz; simp only [List.length_cons] at this; omega, us0, _, r2, Heap.get?_push_size _ rfl⟩)
  exact h.run pins _ σ _ [z, .ref h'.objs.size] [u0, .ref h'.objs.size] Q I2 (.cons r1 (.cons rfl .nil)) (hw _ (I1.hok.fresh (Nat.le_refl _)))
theorem ss_unq (hK : T.K = X.K) {a : Expr} {ea : E} {x y : Str} {px py sp tp pos : Pos} {kk i j : Nat} (hc : X.calm = true) (hg : SGs T X [.Name x px, .Name y py] [.nam i, .nam j]) (hs : swapsWithSole [.Tuple [.Name x px, .Starred (.Name y py) sp] kk tp] a pos.line X.env = pure false)
  (hw : swappedStores [.Tuple [.Name x px, .Starred (.Name y py) sp] kk tp] a X.env = pure none) (ha : SE T X Wx a (evE p cal ea)) : SS T X Wx (.Assign [.Tuple [.Name x px, .Starred (.Name y py) sp] kk tp] a pos) (exS p cal wf (.unq i j ea)) :=
 PS.imp (ps_asg ha (pg_star1 hc hg) hs hw) fun D σ H ⟨c, st, h, q⟩ => by
  rw [exS] at q
  refine ⟨c, st, h, (PostS.bind (rel := relV T σ) q).mono fun v H1 ⟨c1, st1, w, S, h1, r1, q1⟩ => ?_⟩
  have key : ∀ (w0 : W) (ws : List W), (∃ aa vs, v = .ref aa ∧ (SqT X.K H1 aa vs ∨ SqL X.K H1 aa vs) ∧ RWs T c1.lv c1.nf H1 (w0 :: ws) vs) → PostS T Wx c1 H1 (match tgW.tgWs [.nam i, .nam j] [w0, .lst ws] st1.r with | some r => .ok .nx ⟨r, st1.s⟩ | none => .stk) D → gStar X.K (rdGs T [.nam i, .nam j]) v σ H1 (fun σ' H' => D.nx σ' H') := fun w0 ws hr q1 => by
   cases e : tgW.tgWs [.nam i, .nam j] [w0, .lst ws] st1.r with
   | none => rw [e] at q1; exact (show False from q1).elim
   | some r' =>
    rw [e] at q1
    obtain ⟨aa, vs, rfl, g1, g2⟩ := hr
    simp only [RWs] at g2
    obtain ⟨v0, vr, rfl, k1, k2⟩ := g2
    refine ⟨aa, v0, vr, rfl, g1, fun q0 hq => ?_⟩
    refine ⟨c1, st1, [w0, .lst ws], h1.grow hq, RWs.cons (k1.grow hq) (RWs.cons ?_ RWs.nil), r', e, fun σ2 c2 S2 h2 _ _ => q1 σ2 _ c2 ((Stp.grow hq).trans S2) h2⟩
    simp only [RW]
    exact ⟨q0, vr, rfl, upd_same, h1.new hq, k2.grow hq⟩
  cases w <;> first | exact (show False from q1).elim | skip
  ·rename_i ws
   cases ws with
   | nil => exact (show False from q1).elim
   | cons w0 ws =>
    obtain ⟨aa, vs, e1, g1, g2⟩ : ∃ a vs, v = .ref a ∧ CT T.K c1.nf H1 a vs ∧ RWs T c1.lv c1.nf H1 (w0 :: ws) vs := by simpa [relV, RV, RW] using r1
    exact key w0 ws ⟨aa, vs, e1, .inl (CT.sq g1 hK), g2⟩ q1
  ·rename_i ws
   cases ws with
   | nil => exact (show False from q1).elim
   | cons w0 ws =>
    obtain ⟨aa, vs, e1, g1, _, g2⟩ : ∃ a vs, v = .ref a ∧ H1 a = some (.lst vs) ∧ ¬ c1.nf a ∧ RWs T c1.lv c1.nf H1 (w0 :: ws) vs := by simpa [relV, RV, RW] using r1
    exact key w0 ws ⟨aa, vs, e1, .inr (SqL.of g1), g2⟩ q1
end
end Ev
namespace Ev
open PySem PySem.Spec PyProof.Rows L2 Calls
def DctG (K : PySem.W.Frag) (w : World) (mg : Str → Option Value) (x : Str) (ks : List Tx) (ws : List W) : Prop :=
 ∃ d es n, mg x = some (.ref d) ∧ KDict K w d es n ∧ (∀ z : Tx, z ∉ ks → PySem.W.nsIn K d (tS z) = some none) ∧ (∀ z ∈ ks, ∃ u, PySem.W.nsIn K d (tS z) = some (some u)) ∧
  ∀ z y, dGet z ks ws = some y → ∃ v u, vC y = some v ∧ PySem.W.nsIn K d (tS z) = some (some u) ∧ RelV v u
section
variable {T : Tb} {X : Cx} {Wx : WX} {p : Pg} {cal : Bool → Nat → List W → List OO → RC} {c : Cf} {st : St} {σ : L2.St} {H : Hp} {a b : Expr} {ea eb : E} {pos p1 p2 p3 : Pos} {x : Str} {ks : List Tx} {ws : List W}
theorem ind_core {neg : Bool} {d : Addr} {es : Array DictEntry} {n : Nat} (D : KDict X.K X.w d es n) (hmiss : ∀ z : Tx, z ∉ ks → PySem.W.nsIn X.K d (tS z) = some none) (hhit : ∀ z ∈ ks, ∃ u, PySem.W.nsIn X.K d (tS z) = some (some u))
  {pins : List (Addr × Obj)} {s2 : Shared} {v u : Value} {x : V} {w : W} {Q : VK} (I2 : Inv X pins σ H s2) (rx : RelV x v) (ry : RelV (.ref d) u) (h : RSt T c st σ H) (r1 : RV T c σ H w x) (q : Post T Wx (relV T σ) c σ H (indR neg ks w st) Q) :
  wpAny (model X.prog X.w) X.A (compareOp (if neg then .NotIn else .In) v u) (EP X pins σ Q) X.xe s2 := by
 cases w <;> first | (exact (show False from q).elim) | skip
 rename_i z
 obtain ⟨ex, _⟩ : x = .str (tS z) ∧ tOk z = true := r1
 subst ex
 cases neg with
 | true =>
  refine op_notIn_kd D pins s2 σ H _ _ v u Q I2 rx ry ?_
  by_cases hz : z ∈ ks
  ·obtain ⟨u0, e⟩ := hhit z hz
   refine ⟨tS z, _, rfl, rfl, e, ?_⟩
   have q' : Post T Wx (relV T σ) c σ H (.ok (.bl false) st) Q := by
    have e1 : indR true ks (.str z) st = .ok (.bl false) st := by simp only [indR, if_true, decide_eq_true hz, Bool.not_true]
    rw [e1] at q; exact q
   exact Post.ret q' h (show RV T c σ H (.bl false) (.bl false) from rfl)
  ·refine ⟨tS z, _, rfl, rfl, hmiss z hz, ?_⟩
   have q' : Post T Wx (relV T σ) c σ H (.ok (.bl true) st) Q := by
    have e1 : indR true ks (.str z) st = .ok (.bl true) st := by simp only [indR, if_true, decide_eq_false hz, Bool.not_false]
    rw [e1] at q; exact q
   exact Post.ret q' h (show RV T c σ H (.bl true) (.bl true) from rfl)
 | false =>
  refine op_in_kd D pins s2 σ H _ _ v u Q I2 rx ry ?_
  by_cases hz : z ∈ ks
  ·obtain ⟨u0, e⟩ := hhit z hz
   refine ⟨tS z, _, rfl, rfl, e, ?_⟩
   have q' : Post T Wx (relV T σ) c σ H (.ok (.bl true) st) Q := by
    have e1 : indR false ks (.str z) st = .ok (.bl true) st := by simp [indR, hz]
    rw [e1] at q; exact q
   exact Post.ret q' h (show RV T c σ H (.bl true) (.bl true) from rfl)
  ·refine ⟨tS z, _, rfl, rfl, hmiss z hz, ?_⟩
   have q' : Post T Wx (relV T σ) c σ H (.ok (.bl false) st) Q := by
    have e1 : indR false ks (.str z) st = .ok (.bl false) st := by simp [indR, hz]
    rw [e1] at q; exact q
   exact Post.ret q' h (show RV T c σ H (.bl false) (.bl false) from rfl)
theorem se_ind {neg : Bool} (F : DctG X.K X.w X.mg x ks ws) (hg : Gl X x) (hd : (x == ("__debug__" : Str)) = false) (ha : SE T X Wx a (evE p cal ea)) :
  SE T X Wx (.Compare a [if neg then .NotIn else .In] [.Name x p1] pos) (evE p cal (.ind neg ks ea)) := by
 obtain ⟨d, es, n, hm, D, hmiss, hhit, hval⟩ := F
 refine ⟨fun pins s σ H Q I ⟨c, st, h, q⟩ => ?_⟩
 simp only [evE] at q
 have hb : PE X (.Name x p1) (tC (.ref d)) := pe_glob (u := .ref d) hg hm rfl hd
 refine wpAny_Compare1 (binT ha hb I (R := fun x y H2 => y = .ref d ∧ At1 T Wx (relV T σ) σ (indR neg ks) Q x H2) ?_ fun v u s2 x y H2 I2 rx ry ⟨ey, c, st, w, h, r1, q⟩ => ?_) (by cases neg <;> rfl)
 ·obtain ⟨c1, st1, h1, q1⟩ := one h q
  exact ⟨c1, st1, h1, q1.mono fun v H1 z => ⟨rfl, z⟩⟩
 ·subst ey
  exact ind_core D hmiss hhit I2 rx ry h r1 q
theorem st_ind {neg : Bool} (F : DctG X.K X.w X.mg x ks ws) (hg : Gl X x) (hd : (x == ("__debug__" : Str)) = false) (ha : SE T X Wx a (evE p cal ea)) :
  ST T X Wx (.Compare a [if neg then .NotIn else .In] [.Name x p1] pos) (tst p cal (.ind neg ks ea)) := by
 obtain ⟨d, es, n, hm, D, hmiss, hhit, hval⟩ := F
 refine ⟨fun pins s σ H Q I ⟨c, st, h, q⟩ => ?_⟩
 have hb : PE X (.Name x p1) (tC (.ref d)) := pe_glob (u := .ref d) hg hm rfl hd
 have q' : Post T Wx relB c σ H ((evE p cal ea st).bind fun x st1 => (indR neg ks x st1).bind fun w st3 => truR w st3) Q := by
  simp only [tst, evE] at q
  revert q
  cases evE p cal ea st <;> exact fun q => q
 refine wpAny_isTrue_Compare1 (thn (ha.run pins s σ H _ I (one h q')) ?_) (by cases neg <;> rfl)
 rintro v s1 ⟨x, H1, I1, rx, c, st, w, h, r1, q⟩
 refine thn (hb.run pins s1 σ H1 (fun y H2 => y = .ref d ∧ H2 = H1) I1 ⟨rfl, rfl⟩) ?_
 rintro u s2 ⟨y, H2, I2, ry, ey, eh⟩
 subst ey eh
 have q2 : Post T Wx (relV T σ) c σ H2 (indR neg ks w st) fun z H => ∃ kk, z = .bl kk ∧ Q kk H := by
  cases w <;> first | (exact (show False from q).elim) | skip
  rename_i z
  exact fun y H' c' s' h' r' => ⟨_, r', q _ H' c' s' h' rfl⟩
 refine thn (ind_core D hmiss hhit I2 rx ry h r1 q2) ?_
 rintro w s3 ⟨z, H3, I3, rz, kk, rfl, q3⟩
 cases rz
 exact wpAny_truthy_bool ⟨H3, I3, q3⟩
theorem se_ixd (F : DctG X.K X.w X.mg x ks ws) (hg : Gl X x) (hd : (x == ("__debug__" : Str)) = false) (ha : SE T X Wx a (evE p cal ea)) (hs : PlainIx a) :
  SE T X Wx (.Subscript (.Name x p1) a pos) (evE p cal (.ixd ks ws ea)) := by
 obtain ⟨d, es, n, hm, D, hmiss, hhit, hval⟩ := F
 refine ⟨fun pins s σ H Q I ⟨c, st, h, q⟩ => ?_⟩
 simp only [evE] at q
 have hb : PE X (.Name x p1) (tC (.ref d)) := pe_glob (u := .ref d) hg hm rfl hd
 refine Subscript_ (binT hb ha I (R := fun x y H2 => x = .ref d ∧ At1 T Wx (relV T σ) σ (ixdR ks ws) Q y H2) ?_ fun v u s2 x y H2 I2 rx ry ⟨ex, c, st, w, h, r1, q⟩ => ?_)
 ·obtain ⟨c1, st1, h1, q1⟩ := one h q
  exact ⟨c1, st1, h1, q1.mono fun v H1 z => ⟨rfl, z⟩⟩
 ·subst ex
  cases w <;> first | (exact (show False from q).elim) | skip
  rename_i z
  obtain ⟨ey, _⟩ : y = .str (tS z) ∧ tOk z = true := r1
  subst ey
  obtain ⟨g, e, q⟩ := lift_some (show Post T Wx (relV T σ) c σ H2 (.lift st (dGet z ks ws)) Q from q)
  obtain ⟨v1, u1, k1, k2, k3⟩ := hval z g e
  exact ix_kdict _ _ pins s2 σ H2 _ _ v u Q I2 rx ry ⟨d, tS z, v1, rfl, rfl, ⟨es, n, u1, D.at_, D.lit, k2, k3⟩, Post.ret q h (vC_ok k1).rv⟩ (hs _ _)
end
end Ev
namespace Ev
open PySem PySem.Spec PyProof.Rows L2 Calls
theorem spl_mem {S : Tx} {P : Nat → Prop} : ∀ (l : Tx) (k : Nat) (acc : Tx), (∀ c ∈ acc, P c) → (∀ c ∈ l, P c) → ∀ p ∈ TL.spl S k acc l, ∀ c ∈ p, P c
 | [], k, acc, ha, _ => fun p hp => by
  rw [TL.spl_nil] at hp
  rw [List.mem_singleton.mp hp]; exact ha
 | d :: r, 0, acc, ha, hl => fun p hp => by
  unfold TL.spl at hp
  split at hp
  ·rcases List.mem_cons.mp hp with rfl | hp
   ·exact ha
   ·exact spl_mem r _ [] (fun _ h => by cases h) (fun c h => hl c (List.mem_cons_of_mem _ h)) p hp
  ·exact spl_mem r 0 (acc ++ [d]) (fun c h => by
    rcases List.mem_append.mp h with h | h
    ·exact ha c h
    ·rw [List.mem_singleton.mp h]; exact hl d List.mem_cons_self) (fun c h => hl c (List.mem_cons_of_mem _ h)) p hp
 | d :: r, k + 1, acc, ha, hl => fun p hp => by
  unfold TL.spl at hp
  exact spl_mem r k acc ha (fun c h => hl c (List.mem_cons_of_mem _ h)) p hp
theorem par_mem {S : Tx} {P : Nat → Prop} : ∀ (l acc : Tx) (a b : Tx), (∀ c ∈ acc, P c) → (∀ c ∈ l, P c) → TL.par S acc l = some (a, b) → (∀ c ∈ a, P c) ∧ ∀ c ∈ b, P c
 | [], acc, a, b, _, _, h => by simp [TL.par] at h
 | d :: r, acc, a, b, ha, hl, h => by
  unfold TL.par at h
  split at h
  ·simp only [Option.some.injEq, Prod.mk.injEq] at h
   obtain ⟨rfl, rfl⟩ := h
   exact ⟨ha, fun c hc => hl c (List.mem_of_mem_drop hc)⟩
  ·exact par_mem r (acc ++ [d]) a b (fun c h => by
    rcases List.mem_append.mp h with h | h
    ·exact ha c h
    ·rw [List.mem_singleton.mp h]; exact hl d List.mem_cons_self) (fun c h => hl c (List.mem_cons_of_mem _ h)) h
theorem join_mem {S : Tx} {P : Nat → Prop} (hS : ∀ c ∈ S, P c) : ∀ l : List Tx, (∀ p ∈ l, ∀ c ∈ p, P c) → ∀ c ∈ TL.joinL S l, P c
 | [], _ => fun c h => by cases h
 | [p], hl => fun c h => hl p (by simp) c h
 | p :: q :: r, hl => fun c h => by
  unfold TL.joinL at h
  rcases List.mem_append.mp h with h | h
  ·exact hl p (by simp) c h
  ·rcases List.mem_append.mp h with h | h
   ·exact hS c h
   ·exact join_mem hS (q :: r) (fun p hp => hl p (List.mem_cons_of_mem _ hp)) c h
theorem tOk_iff {x : Tx} : tOk x = true ↔ ∀ c ∈ x, c < 1114112 := by
 unfold tOk
 rw [List.all_eq_true]
 exact ⟨fun h c hc => of_decide_eq_true (h c hc), fun h c hc => decide_eq_true (h c hc)⟩
section
variable {T : Tb} {X : Cx} {Wx : WX} {p : Pg} {cal : Bool → Nat → List W → List OO → RC} {c : Cf} {st : St} {σ : L2.St} {H : Hp} {a b : Expr} {ea eb : E} {pos apos p1 : Pos} {pins : List (Addr × Obj)} {s : Shared} {Q : VK}
theorem strs_rws {lv : List Addr} {nf : Addr → Prop} : ∀ (l : List Tx), (∀ z ∈ l, tOk z = true) → RWs T lv nf H (l.map .str) ((l.map tS).map V.str)
 | [], _ => RWs.nil
 | z :: l, h => RWs.cons (show V.str (tS z) = V.str (tS z) ∧ tOk z = true from ⟨rfl, h z (by simp)⟩) (strs_rws l fun y hy => h y (List.mem_cons_of_mem _ hy))
theorem rws_strs {lv : List Addr} {nf : Addr → Prop} : ∀ {ws : List W} {vs : List V} {zs : List Tx}, strsW ws = some zs → RWs T lv nf H ws vs → vs = (zs.map tS).map V.str ∧ ∀ z ∈ zs, tOk z = true
 | [], _, _, e, h => by
  simp only [strsW] at e; cases e
  simp only [RWs] at h
  exact ⟨h, fun z hz => by cases hz⟩
 | w :: ws, _, _, e, h => by
  simp only [RWs] at h
  obtain ⟨v, r, rfl, h1, h⟩ := h
  cases w with
  | str x =>
   simp only [strsW] at e
   obtain ⟨zs, e1, rfl⟩ := Option.map_eq_some_iff.mp e
   obtain ⟨rfl, hx⟩ : v = .str (tS x) ∧ tOk x = true := h1
   obtain ⟨rfl, h2⟩ := rws_strs e1 h
   exact ⟨rfl, fun z hz => by
    rcases List.mem_cons.mp hz with rfl | hz
    ·exact hx
    ·exact h2 z hz⟩
  | _ => simp [strsW] at e
def tPar (f : Str → Str → Str × Str × Str) : V → List V → Hp → VK → Prop := fun x xs H Q => ∃ a b, x = .str a ∧ xs = [.str b] ∧ (b.length == 0) = false ∧ a.length ≤ sizeLine ∧
  ∀ (p : Addr) (o : Obj), o.dict = none → H p = none → Q (.ref p) (upd H p (.frz o (.tup [.str (f a b).1, .str (f a b).2.1, .str (f a b).2.2])))
theorem laid_partsC {x y z : Str} {t u v : Tok} {k : Nat} (I : Inv X pins σ H s) (h : ∀ (p : Addr) (o : Obj), o.dict = none → H p = none → Q (.ref p) (upd H p (.frz o (.tup [.str x, .str y, .str z])))) :
  EP X pins σ Q (.ref s.heap.objs.size) { s with toks := k, heap := s.heap.push { cls := .type "tuple", data := .seq [Value.str x t, .str y u, .str z v].toArray } } := by
 refine ⟨.ref s.heap.objs.size, _, lay_tup (xs := [.str x, .str y, .str z]) (us := [Value.str x t, .str y u, .str z v]) (h' := s.heap) (t' := k) (I.tok k) (.cons ⟨t, rfl⟩ (.cons ⟨u, rfl⟩ (.cons ⟨v, rfl⟩ .nil))) (by show 3 ≤ sizeLine; decide), rfl, h _ _ rfl (I.hok.fresh (Nat.le_refl _))⟩
theorem mt_partitionC : MtR X "str.partition" (tPar Txt.partition) := by
 intro pins s σ H x xs v us Q I rx rs h
 obtain ⟨a, b, rfl, rfl, hb, hz, h⟩ := h
 obtain ⟨t, rfl⟩ := rx
 cases rs with
 | cons r1 rs =>
  cases rs
  obtain ⟨u, rfl⟩ := r1
  refine call_meets F.slot_str_partition (typeIs_str _ _ _) F.entry_str_partition (F.args_str_partition_2 _ _) (meets_str_partition a b t u hb hz) ?_
  unfold Txt.partition at h
  revert h
  cases Builtin.Str.occurrences a b 0 a.length 1 with
  | nil => intro h; exact laid_partsC I h
  | cons i r => intro h; exact laid_partsC I h
theorem len_tS {y : Tx} (h : y ≠ []) : ((tS y).length == 0) = false := by
 rw [SX.S_len, beq_eq_false_iff_ne]
 have := List.length_pos_iff.mpr h
 omega
theorem tx_ask {bb : Bmt} {r : V → List V → Hp → VK → Prop} (ha : rdE T Wx (evE p cal (.txm bb ea eb)) σ H Q)
  (hr : ∀ (c : Cf) (st : St) (x : Tx) (y : W) (u : V) (H : Hp) (w : W), RSt T c st σ H → RVV T c H y u → tOk x = true → txmW bb (.str x) y = some w → Post T Wx (relV T σ) c σ H (.ok w st) Q → r (.str (tS x)) [u] H Q) :
  tM1 r (rdE T Wx (evE p cal ea)) (rdE T Wx (evE p cal eb)) σ H Q := by
 obtain ⟨c, st, h, q⟩ := ha
 simp only [evE] at q
 refine ⟨c, st, h, (Post.bind (rel := relV T σ) q).mono fun v H1 ⟨c1, st1, w, S1, h1, r1, q1⟩ => ?_⟩
 cases w <;> first | (exact (show False from q1).elim) | skip
 rename_i x
 obtain ⟨e, hx⟩ : v = .str (tS x) ∧ tOk x = true := r1
 subst e
 have q1 : Post T Wx (relV T σ) c1 σ H1 ((evE p cal eb st1).bind fun y st2 => .lift st2 (txmW bb (.str x) (vw st2 y))) Q := q1
 refine ⟨⟨_, rfl⟩, c1, st1, h1, (Post.bind (rel := relV T σ) q1).mono fun u H2 ⟨c2, st2, y, S2, h2, r2, q2⟩ => ?_⟩
 obtain ⟨w, e, q3⟩ := lift_some q2
 exact hr c2 st2 x _ u H2 w h2 (rvv h2 r2) hx e q3
theorem se_spl (hsp : noSup a = true) (hs : notStar b = true) (hline : (apos.endLine == pos.line) = true) (ha : SE T X Wx a (evE p cal ea)) (hb : SE T X Wx b (evE p cal eb)) :
  SE T X Wx (.Call (.Attribute a "split" apos) [b] [] pos) (evE p cal (.txm .split ea eb)) := by
 refine PE.imp (pe_split ha hb (star_ok hs) (noSup_ok hsp) hline) fun σ H Q q => tx_ask q fun c st x y u H w h r hx e q => ?_
 cases y <;> first | (simp [txmW] at e; done) | skip
 rename_i y'
 ·simp only [txmW] at e
  split at e
  ·rename_i hc
   cases e
   obtain ⟨rfl, hy⟩ : u = .str (tS y') ∧ tOk y' = true := r
   refine ⟨_, _, rfl, rfl, len_tS hc.1, by rw [SX.S_len, ← line_eq]; exact hc.2.2, fun p hp => ?_⟩
   rw [SX.split_S hc.1 hc.2.1]
   have ok : ∀ z ∈ TL.spl y' 0 [] x, tOk z = true := fun z hz => tOk_iff.mpr (spl_mem x 0 [] (fun _ h => by cases h) (tOk_iff.mp hx) z hz)
   refine q _ _ _ (Stp.grow hp) (h.grow hp) ?_
   show RW T c.lv c.nf _ (.lst _) (.ref p)
   simp only [RW]
   exact ⟨p, _, rfl, upd_same, h.new hp, strs_rws _ ok⟩
  ·cases e
theorem se_prt (hsp : noSup a = true) (hs : notStar b = true) (hline : (apos.endLine == pos.line) = true) (ha : SE T X Wx a (evE p cal ea)) (hb : SE T X Wx b (evE p cal eb)) :
  SE T X Wx (.Call (.Attribute a "partition" apos) [b] [] pos) (evE p cal (.txm .partition ea eb)) := by
 refine PE.imp (pe_m1 F.slot_str_partition F.type_str_partition mt_partitionC ha hb (star_ok hs) (noSup_ok hsp) hline) fun σ H Q q => tx_ask q fun c st x y u H w h r hx e q => ?_
 cases y <;> first | (simp [txmW] at e; done) | skip
 rename_i y'
 ·simp only [txmW] at e
  split at e
  ·rename_i hc
   cases e
   obtain ⟨rfl, hy⟩ : u = .str (tS y') ∧ tOk y' = true := r
   refine ⟨_, _, rfl, rfl, len_tS hc.1, by rw [SX.S_len, ← line_eq]; exact hc.2, fun p o ho hp => ?_⟩
   have str : ∀ {H' : Hp} {z : Tx}, tOk z = true → RW T c.lv c.nf H' (.str z) (.str (tS z)) := fun hz => ⟨rfl, hz⟩
   cases hpar : TL.par y' [] x with
   | none =>
    rw [hpar] at q
    rw [SX.partition_none hc.1 hpar]
    refine q _ _ _ (Stp.grow hp) (h.grow hp) ?_
    show RW T c.lv c.nf _ (.tup _) (.ref p)
    simp only [RW]
    exact ⟨p, _, rfl, .inl ⟨⟨o, ho, upd_same⟩, h.new hp⟩, RWs.cons (str hx) (RWs.cons (str rfl) (RWs.cons (str rfl) RWs.nil))⟩
   | some ab =>
    obtain ⟨a', b'⟩ := ab
    rw [hpar] at q
    rw [SX.partition_some hc.1 hpar]
    obtain ⟨m1, m2⟩ := par_mem x [] a' b' (fun _ h => by cases h) (tOk_iff.mp hx) hpar
    refine q _ _ _ (Stp.grow hp) (h.grow hp) ?_
    show RW T c.lv c.nf _ (.tup _) (.ref p)
    simp only [RW]
    exact ⟨p, _, rfl, .inl ⟨⟨o, ho, upd_same⟩, h.new hp⟩, RWs.cons (str (tOk_iff.mpr m1)) (RWs.cons (str hy) (RWs.cons (str (tOk_iff.mpr m2)) RWs.nil))⟩
  ·cases e
theorem occ_ix {x : Tx} {c i : Nat} (h : x.findIdx? (fun d => d == c) = some i) : ∃ rest, Builtin.Str.occurrences (tS x) (tS [c]) 0 (tS x).length 1 = i :: rest := by
 have at1 : ∀ k, StrLaws.At (tS x) (tS [c]) (tS x).length k ↔ x[k]? = some c := fun k => StrLaws.subAt_one (tS x) c k
 rw [List.findIdx?_eq_some_iff_getElem] at h
 obtain ⟨hi, h1, h2⟩ := h
 have hx : x[i]? = some c := by rw [List.getElem?_eq_getElem hi, beq_iff_eq.mp h1]
 rcases StrLaws.occ_head (tS x) (tS [c]) 1 (Nat.le_refl _) with ⟨_, hn⟩ | ⟨j, r, e, hj, hk⟩
 ·exact absurd ((at1 i).mpr hx) (hn i)
 ·have hj' := (at1 j).mp hj
  have : j = i := by
   rcases Nat.lt_trichotomy j i with h | h | h
   ·have := h2 j h
    obtain ⟨l, e⟩ := List.getElem?_eq_some_iff.mp hj'
    rw [e] at this
    exact absurd (beq_self_eq_true c) (by simpa using this)
   ·exact h
   ·exact absurd ((at1 i).mpr hx) (hk i h)
  exact ⟨r, by rw [← this]; exact e⟩
theorem se_ixt (hsp : noSup a = true) (hs : notStar b = true) (hline : (apos.endLine == pos.line) = true) (ha : SE T X Wx a (evE p cal ea)) (hb : SE T X Wx b (evE p cal eb)) :
  SE T X Wx (.Call (.Attribute a "index" apos) [b] [] pos) (evE p cal (.txm .index ea eb)) := by
 refine PE.imp (pe_m1 F.slot_str_index F.type_str_index mt_sindex ha hb (star_ok hs) (noSup_ok hsp) hline) fun σ H Q q => tx_ask q fun c st x y u H w h r hx e q => ?_
 cases y <;> first | (simp [txmW] at e; done) | skip
 rename_i y'
 match y', e, r with
 | [d], e, r =>
  simp only [txmW] at e
  split at e
  ·obtain ⟨i, hi, rfl⟩ := Option.map_eq_some_iff.mp e
   obtain ⟨rfl, hy⟩ : u = .str (tS [d]) ∧ tOk [d] = true := r
   obtain ⟨rest, ho⟩ := occ_ix hi
   exact ⟨_, _, i, rest, rfl, rfl, ho, q _ _ _ Stp.refl h rfl⟩
  ·cases e
 | [], e, r => simp [txmW] at e
 | _ :: _ :: _, e, r => simp [txmW] at e
theorem se_joi (hsp : noSup a = true) (hs : notStar b = true) (hline : (apos.endLine == pos.line) = true) (ha : SE T X Wx a (evE p cal ea)) (hb : SE T X Wx b (evE p cal eb)) :
  SE T X Wx (.Call (.Attribute a "join" apos) [b] [] pos) (evE p cal (.txm .join ea eb)) := by
 refine PE.imp (pe_join ha hb (star_ok hs) (noSup_ok hsp) hline) fun σ H Q q => tx_ask q fun c st x y u H w h r hx e q => ?_
 cases y <;> first | (simp [txmW] at e; done) | skip
 rename_i ys
 ·simp only [txmW] at e
  obtain ⟨zs, e1, e2⟩ := Option.bind_eq_some_iff.mp e
  split at e2
  ·rename_i hc
   cases e2
   obtain ⟨l, vs, rfl, g1, g2⟩ := r
   obtain ⟨rfl, hz⟩ := rws_strs e1 g2
   refine ⟨_, l, zs.map tS, rfl, rfl, .inl (SqL.of g1), ?_, ?_⟩
   ·rw [SX.lens, List.length_map, SX.S_len]; exact hc
   ·rw [SX.join_S]
    exact Post.ret q h (show V.str (tS (TL.joinL x zs)) = V.str (tS (TL.joinL x zs)) ∧ tOk (TL.joinL x zs) = true from ⟨rfl, tOk_iff.mpr (join_mem (tOk_iff.mp hx) zs fun z hz' => tOk_iff.mp (hz z hz'))⟩)
  ·cases e2
theorem se_itx (hg : Gl X "int") (hm : X.mg "int" = none) (hs : notStar a = true) (ha : SE T X Wx a (evE p cal ea)) : SE T X Wx (.Call (.Name "int" p1) [a] [] pos) (evE p cal (.itx ea)) :=
 ⟨fun pins s σ H Q I ⟨c, st, h, q⟩ => by
  simp only [evE] at q
  refine wpAny_Call_Name_kw (ld_blt I hg hm (bf_boot .int) ?_ (bf_nn .int).1 (bf_nn .int).2)
  refine PyProof.Rows.callWith_type1 ?_ (star_ok hs) rfl
  rw [star_ok hs]
  show wpAny _ _ (spliced ((false, eval a X.env) :: backTo pos (starEach [] X.env))) _ _ s
  refine Calls.spliced_cons (thn (ha.run pins s σ H _ I (one h q)) ?_)
  rintro u s1 ⟨v, H1, I1, rv, c, st, w, h, r, q⟩
  refine Calls.spliced_nil ?_
  obtain ⟨w', e, q⟩ := lift_some q
  cases w <;> first | (cases e; done) | skip
  rename_i x
  obtain ⟨rfl, hx⟩ : v = .str (tS x) ∧ tOk x = true := r
  unfold itxW at e
  simp only at e
  split at e
  ·rename_i hc
   cases e
   have hd : PySem.NumText.AllDigits (tS x).cps.toList := fun c hcx => by
    have := List.all_eq_true.mp hc.2.1 c (by simpa using hcx)
    simpa using this
   have hi := PySem.intText_digits (x := tS x) hd (by simpa using hc.1) (by rw [SX.S_len]; omega)
   refine call_int_str pins s1 σ H1 _ [u] Q I1 (.cons rv .nil) ⟨tS x, _, rfl, hi, by rw [SX.S_len]; exact hc.2.2, ?_⟩
   exact Post.ret q h (show RV T c σ H1 (.int _) (.int _) from by simp [RV, RW, PySem.NumText.digitsVal])
  ·cases e⟩
end
end Ev
set_option maxHeartbeats 2000000
namespace Ev
open PySem PySem.Spec PyProof.Rows L2 Calls ClX RZ
def spG (T : Tb) (np : Nat) (r : List W → List OO → RC) : SpG := fun vs H Q E => vs.length = np ∧ ∃ c ws s, CalSt T c H s ∧ RWs T c.lv c.nf H ws vs ∧ (match r ws s with
 | .ok w s' => ∃ outs, w = .lst outs ∧ ∀ ys H' lv', Stp c H (c.at lv') H' → RSto T lv' (c.at lv').nf H' s' → RWs T lv' (c.at lv').nf H' outs ys → Q ys H'
 | .exc x s' => ∀ cls d H' lv', Stp c H (c.at lv') H' → RSto T lv' (c.at lv').nf H' s' → RX T (c.at lv') H' x cls d → E cls d H'
 | .stk => False)
def GenF (T : Tb) (X : Cx) (k : Nat) (cal : Bool → Nat → List W → List OO → RC) (f np : Nat) : Prop :=
 ∃ fd ps, ps.length = np ∧ GFn X.prog X.w X.K X.mg X.base k (T.fa f) fd ps (spG T np (cal false f)) ∧ ∀ (s : Shared) (us : List Value), X.K.In s.heap → us.length = np → BindsTo s fd ⟨us, []⟩ (ps.zip us)
def EN (Wx : WX) (K : PySem.W.Frag) : XK := fun cls d H => (∀ σ, Wx cls d σ H) ∧ PySem.W.subIn K cls (.type "StopIteration") = some false
def PostL (T : Tb) (Wx : WX) (c : Cf) (σ : L2.St) (H : Hp) (r : R W) (cont : List V → Hp → Prop) : Prop := match r with
 | .ok w st' => ∃ outs, w = .lst outs ∧ ∀ ys H' c', Stp c H c' H' → RSt T c' st' σ H' → RWs T c'.lv c'.nf H' outs ys → cont ys H'
 | .exc x st' => ∀ cls d H' c', Stp c H c' H' → RSt T c' st' σ H' → RX T c' H' x cls d → Wx cls d σ H'
 | .stk => False
section
variable {α β : Type} {T : Tb} {X : Cx} {Wx : WX} {p : Pg} {cal : Bool → Nat → List W → List OO → RC} {c c1 : Cf} {st : St} {σ : L2.St} {H H1 : Hp} {k : Nat} {cont : List V → Hp → Prop}
theorem PostL.from {r : R W} (h : PostL T Wx c σ H r cont) (s : Stp c H c1 H1) : PostL T Wx c1 σ H1 r cont := by
 cases r with
 | ok a st =>
  obtain ⟨outs, e, q⟩ := h
  exact ⟨outs, e, fun ys H' c' s' h1 h2 => q ys H' c' (s.trans s') h1 h2⟩
 | exc x st => exact fun cls d H' c' s' h1 h2 => h cls d H' c' (s.trans s') h1 h2
 | stk => exact h
theorem PostL.bind {rel : Cf → Hp → α → β → Prop} {m : R α} {f : α → St → R W} (h : PostL T Wx c σ H (m.bind f) cont) :
  Post T Wx rel c σ H m fun b H1 => ∃ c1 st1 a, Stp c H c1 H1 ∧ RSt T c1 st1 σ H1 ∧ rel c1 H1 a b ∧ PostL T Wx c1 σ H1 (f a st1) cont := by
 cases m with
 | ok a st => exact fun b H' c' s h1 h2 => ⟨c', st, a, s, h1, h2, h.from s⟩
 | exc x st => exact h
 | stk => exact h
theorem pgen_lsg (O : XO T p X Wx k cal) (wσ : ∀ cls d σ σ' H, Wx cls d σ H → Wx cls d σ' H) (hnst : ∀ C, C ∈ p.nst → PySem.W.subIn X.K (.ref (T.ca C)) (.type "StopIteration") = some false) {C f m k2 : Nat} {x : Str} {a b : Expr} {ea eb : E} {apos pos : Pos}
  (hx : x = T.sy m) (hsp : noSup a = true) (hs : notStar b = true) (hline : (apos.endLine == pos.line) = true) (Cf : Cls X.K (T.ca C)) (me : Meth X.K (T.ca C) (T.sy m) (T.fa f)) (F : GenF T X k2 cal f 2) (hr : Room k2 X.A)
  (ho : SE T X Wx a (evE p cal ea)) (hb : SE T X Wx b (evE p cal eb)) :
  PGen X k2 (.Call (.Attribute a x apos) [b] [] pos) (fun σ H cont => ∃ c st, RSt T c st σ H ∧ PostL T Wx c σ H (evE p cal (.lsg C f m ea eb) st) cont) (EN Wx X.K) := by
 refine ⟨fun pins s σ H cont I ⟨c, st, h, q⟩ => ?_⟩
 subst hx
 rw [evE] at q
 have hst : starEach [b] X.env = (false, eval b X.env) :: starEach [] X.env := by
  cases b <;> first | rfl | cases hs
 refine meth_of hsp (by simp [hs]) (by simp) hline (thn (ho.run pins s σ H _ I ⟨c, st, h, PostL.bind (rel := relV T σ) q⟩) ?_)
 rintro u s1 ⟨v, H1, I1, rx, c1, st1, w, S1, h1, r1, q1⟩ pl
 cases e : look st1 w with
 | none => simp only [e] at q1; exact (show False from q1).elim
 | some o =>
 cases o with
 | lst _ => simp only [e] at q1; exact (show False from q1).elim
 | dct _ _ => simp only [e] at q1; exact (show False from q1).elim
 | tab => simp only [e] at q1; exact (show False from q1).elim
 | dnk _ _ => simp only [e] at q1; exact (show False from q1).elim
 | ins C' ns fs =>
 simp only [e] at q1
 cases hc : (decide (C' = C) && !ns.contains m) with
 | false =>
  rw [Bool.and_eq_false_iff] at hc
  rw [if_neg (by rw [Bool.and_eq_false_iff.mpr hc]; simp)] at q1
  exact (show False from q1).elim
 | true =>
 simp only [Bool.and_eq_true, decide_eq_true_eq, Bool.not_eq_true'] at hc
 obtain ⟨rfl, hc⟩ := hc
 rw [if_pos (by rw [hc]; simp)] at q1
 obtain ⟨aa, e1, dx, vs, g1, g2, g3⟩ := look_ok h1 r1 e
 subst e1
 cases rx
 have nl := fget_ok (f := m) O.G.inj g2 g3
 rw [fget_none hc] at nl
 refine getmeth_ok I1 g1 Cf me nl ?_
 refine PySem.W.callWith_K (first := [.ref aa]) (h₀ := X.base) I1.ok.mod.kin me.kp ?_ hst rfl
 rw [hst]
 show wpAny _ _ (spliced ((false, eval b X.env) :: backTo pos (starEach [] X.env))) _ _ s1
 refine Calls.spliced_cons (thn (hb.run pins s1 σ H1 _ I1 ⟨c1, st1, h1, PostL.bind (rel := relV T σ) q1⟩) fun u2 s2 ⟨v2, H2, I2, rv2, c2, st2, w2, S2, h2, rr2, q2⟩ => ?_)
 refine Calls.spliced_nil ⟨I2.kIn, ?_⟩
 obtain ⟨fd, ps, hl2, F, hbd⟩ := F
 refine run_gfn (us := [.ref aa, u2]) (vs := [.ref aa, v2]) (dvs := []) (ds := []) F hr (fun s us hk hl => by
  rw [List.append_nil] at hl ⊢
  exact hbd s us hk (by rw [hl, hl2])) .nil I2 (.cons rfl (.cons rv2 .nil)) ?_
 have ra : relA T σ c2 H2 [w, w2] [.ref aa, v2] := relA_cons (RV.mono S2 r1) (relA_cons rr2 relA_nil')
 unfold callR at q2
 cases oo : okvs [w, w2] with
 | false => rw [oo] at q2; exact (show False from q2).elim
 | true =>
 simp only [oo, if_true] at q2
 refine ⟨rfl, c2.out, [w, w2], st2.s, calSt_of h2, ?_, ?_⟩
 ·rw [nf_out']; exact okv_rw oo ra
 ·cases hc2 : cal false f [w, w2] st2.s with
  | ok w' s' =>
   simp only [hc2, RC.at, lsgR] at q2 ⊢
   split at q2
   ·obtain ⟨outs, eo, q3⟩ := q2
    refine ⟨outs, eo, fun ys H' lv' S so rw' => ?_⟩
    obtain ⟨S3, h3⟩ := back_ok h2 S so
    refine q3 ys H' _ S3 h3 ?_
    have e := nf_out c2 lv'
    rw [← e]; exact rw'
   ·exact (show False from q2).elim
  | exc x s' =>
   simp only [hc2, RC.at, lsgR] at q2 ⊢
   split at q2
   ·rename_i hn
    intro cls d H' lv' S so rx
    obtain ⟨S3, h3⟩ := back_ok h2 S so
    have rx2 := rx
    obtain ⟨e1, dx, fs, e2, e3, e4, e5⟩ := rx
    have e := nf_out c2 lv'
    refine ⟨fun σ' => wσ _ _ σ _ _ (q2 cls d H' _ S3 h3 ⟨e1, dx, fs, e2, e3, by rw [← e]; exact e4, fun i n w a b => by
     obtain ⟨v, g1, g2⟩ := e5 i n w a b
     exact ⟨v, g1, by rw [← e]; exact g2⟩⟩), ?_⟩
    rw [e1]
    exact hnst _ (by simpa using hn)
   ·exact (show False from q2).elim
  | stk => rw [hc2] at q2; exact (show False from q2).elim
theorem sf_lsg (O : XO T p X Wx k cal) (wσ : ∀ cls d σ σ' H, Wx cls d σ H → Wx cls d σ' H) (hnst : ∀ C, C ∈ p.nst → PySem.W.subIn X.K (.ref (T.ca C)) (.type "StopIteration") = some false) {C f m k2 : Nat} {x : Str} {a b : Expr} {ea eb : E} {apos pos pos2 np : Pos}
   (hg : Gl X "list") (hm : X.mg "list" = none) (hx : x = T.sy m) (hsp : noSup a = true) (hs : notStar b = true) (hline : (apos.endLine == pos.line) = true) (Cf : Cls X.K (T.ca C)) (me : Meth X.K (T.ca C) (T.sy m) (T.fa f)) (F : GenF T X k2 cal f 2) (hr : Room (k2 + 3) X.A)
   (ho : SE T X Wx a (evE p cal ea)) (hb : SE T X Wx b (evE p cal eb)) : SF T X Wx (.Call (.Name "list" np) [.Call (.Attribute a x apos) [b] [] pos] [] pos2) (evE p cal (.lsg C f m ea eb)) := by
 have hp : Passes (L2.CX X.prog X.w) X (EN Wx X.K) := fun pins σ H s e s' I z => passes_call (E := EN Wx X.K) O.tk (fun cls d σ H z => z.1 σ) pins σ H s e s' I z
 refine PE.imp (pe_listG (pgen_lsg O wσ hnst hx hsp hs hline Cf me F (hr.mono (by omega)) ho hb) hp (fun cls d H z => z.2) hr hg hm (by kernel_rfl)) fun σ H Q ⟨c, st, h, q⟩ => ⟨c, st, h, ?_⟩
 cases hq : evE p cal (.lsg C f m ea eb) st with
 | stk => rw [hq] at q; exact q
 | exc x st' => rw [hq] at q; exact q
 | ok w st' =>
   rw [hq] at q
   have hw : ∃ outs, w = .lst outs := by
     rw [evE] at hq
     cases e1 : evE p cal ea st with
     | stk => rw [e1] at hq; cases hq
     | exc x st' => rw [e1] at hq; cases hq
     | ok w1 st1 =>
       rw [e1] at hq
       simp only [bind_ok] at hq
       split at hq
       · split at hq
         · cases e2 : evE p cal eb st1 with
           | stk => rw [e2] at hq; cases hq
           | exc x st' => rw [e2] at hq; cases hq
           | ok w2 st2 =>
             rw [e2] at hq
             simp only [bind_ok] at hq
             cases e3 : callR cal false f [w1, w2] st2 with
             | stk => rw [e3] at hq; cases hq
             | exc x st' => rw [e3] at hq; simp only [lsgR] at hq; split at hq <;> cases hq
             | ok w3 st3 =>
               rw [e3] at hq
               simp only [lsgR] at hq
               cases w3 <;> first | (simp at hq; done) | (simp at hq; exact ⟨_, hq.1.symm⟩)
         · cases hq
       · cases hq
   obtain ⟨outs, rfl⟩ := hw
   refine ⟨outs, rfl, fun ys H' c' S h' rw' => ?_⟩
   intro pp hpp
   exact new_lst h' hpp rw' (WantsF.of (PostF.from (show PostF T Wx c σ H (.ok (.lst outs) st') Q from q) S))
end
end Ev
set_option maxHeartbeats 2000000
namespace Ev
open PySem PySem.Spec PyProof.Rows L2 Calls ClX RZ
def rkT (h : Heap) (v : Value) : Int := match v with
 | .ref a => (match h.get? a with
  | some o => (match o.data with
   | .seq xs _ => (match xs[0]? with
    | some (Value.int n _) => n
    | _ => 0)
   | _ => 0)
  | none => 0)
 | _ => 0
def TNo (h : Heap) (v : Value) : Prop := ∃ (a e : Addr) (o oe : Obj) (t : Tok) (k ke : Nat), v = .ref a ∧ h.get? a = some o ∧ o.cls = .type "tuple" ∧ o.data = .seq #[.int (rkT h v) t, .ref e] k ∧ h.get? e = some oe ∧ oe.cls = .type "tuple" ∧ oe.data = .seq #[] ke
def ltT (h : Heap) (v u : Value) : Bool := decide (rkT h v < rkT h u)
theorem swo_T (h : Heap) : SrtO.Swo (ltT h) := ⟨fun x y z => by
  have := of_decide_eq_true z
  exact decide_eq_false (by omega), fun x y z a b => by
  have a := of_decide_eq_false a
  have b := of_decide_eq_false b
  exact decide_eq_false (by omega)⟩
theorem TNo.keep {h h' : Heap} {v : Value} (x : TNo h v) (k : ∀ b o, h.get? b = some o → h'.get? b = some o) : TNo h' v ∧ rkT h' v = rkT h v := by
 obtain ⟨a, e, o, oe, t, i, j, rfl, h1, h2, h3, h4, h5, h6⟩ := x
 have r : rkT h' (.ref a) = rkT h (.ref a) := by
  unfold rkT
  simp only [h1, k a o h1]
 exact ⟨⟨a, e, o, oe, t, i, j, rfl, k a o h1, h2, by rw [r]; exact h3, k e oe h4, h5, h6⟩, r⟩
section
variable {prog : Program} {w : World} {A : Around} {s : Shared}
theorem tn_firsts {h : Heap} : ∀ vs : List Value, (∀ v ∈ vs, TNo h v) → ∃ fs, PySem.W.KatTups h vs fs ∧ fs.length = vs.length ∧ ∀ f ∈ fs, ∃ n t, f = Value.int n t
 | [], _ => ⟨[], PySem.W.KatTups.nil, rfl, fun f hf => by simp at hf⟩
 | v :: vs, x => by
  obtain ⟨fs, k, hl, hi⟩ := tn_firsts vs fun u hu => x u (List.mem_cons_of_mem _ hu)
  obtain ⟨a, e, o, oe, t, i, j, rfl, h1, h2, h3, _⟩ := x v (List.mem_cons_self ..)
  refine ⟨.int (rkT h (.ref a)) t :: fs, PySem.W.KatTups.cons h1 h2 h3 rfl k, by simp [hl], fun f hf => ?_⟩
  rcases List.mem_cons.mp hf with rfl | hf
  ·exact ⟨_, _, rfl⟩
  ·exact hi f hf
theorem tn_cmp {h : Heap} {vs : List Value} {b : Bool} (hu : A.units < cLine) (x : ∀ v ∈ vs, TNo s.heap v) (hr : ∀ v ∈ vs, rkT s.heap v = rkT h v) : SrtO.Cmp prog w A s (tuples' b) (fun p => p.1 ∈ vs) (SrtO.lt2 (ltT h)) := by
 intro p q hp hq
 have e1 := hr _ hp
 have e2 := hr _ hq
 obtain ⟨a, e, o, oe, t, i, j, v1, h1, h2, h3, h4, h5, h6⟩ := x _ hp
 obtain ⟨a', e', o', oe', t', i', j', v1', h1', h2', h3', h4', h5', h6'⟩ := x _ hq
 have key : SrtO.lt2 (ltT h) p q = decide (rkT s.heap p.1 < rkT s.heap q.1) := by rw [e1, e2]; rfl
 rw [key]
 rw [v1] at h3 ⊢
 rw [v1'] at h3' ⊢
 refine PySem.W.kat_lt h1 h3 h1' h3' ?_
 show PySem.W.KatLex prog w A b (decide (2 < 2)) _ [(.int (rkT s.heap (.ref a)) t, .int (rkT s.heap (.ref a')) t'), (.ref e, .ref e')] 0 s
 refine PySem.W.kat_cons (wpAny_eqBool_int ?_)
 by_cases z : rkT s.heap (.ref a) = rkT s.heap (.ref a')
 ·rw [z, beq_self_eq_true]
  refine PySem.W.kat_yes ?_
  refine PySem.W.kat_cons (wpAny_eqBool_tuple (knd := intKind prog w) (x := []) (y := []) hu ⟨oe, #[], j, h4, h5, h6, .nil⟩ ⟨oe', #[], j', h4', h5', h6', .nil⟩ ?_)
  refine PySem.W.kat_yes (PySem.W.kat_nil ⟨rfl, ?_⟩)
  simp
 ·rw [show (rkT s.heap (.ref a) == rkT s.heap (.ref a')) = false from beq_eq_false_iff_ne.mpr z]
  exact PySem.W.kat_no (TS.oneLt_ints _ ⟨rfl, rfl⟩)
theorem tn_sortable {a : Addr} {vs : List Value} {h : Heap} (h2 : 2 ≤ vs.length) (hu : A.units < cLine) (x : ∀ v ∈ vs, TNo s.heap v) (hr : ∀ v ∈ vs, rkT s.heap v = rkT h v) (hk : ∀ h' : Heap, (∀ b o, b ≠ a → s.heap.get? b = some o → h'.get? b = some o) → ∀ v ∈ vs, TNo h' v ∧ rkT h' v = rkT s.heap v) : SrtO.SortableO prog w A s a vs (ltT h) := by
 intro h' kp
 have x' := hk h' kp
 obtain ⟨fs, k, hl, hi⟩ := tn_firsts (h := h') vs fun v hv => (x' v hv).1
 refine ⟨tuples' (Value.type "int" != Value.type "tuple"), fun Q E hq => ?_, tn_cmp (s := { s with heap := h' }) hu (fun v hv => (x' v hv).1) fun v hv => (x' v hv).2.trans (hr v hv)⟩
 refine PySem.W.kat_kind (s := { s with heap := h' }) (T := Value.type "int") k (by omega) (fun f hf => ?_) rfl hq
 obtain ⟨n, t, rfl⟩ := hi f hf
 exact PySem.W.Looks.of_pure rfl
end
theorem tn_of {T : Tb} {X : Cx} {σ : L2.St} {H : Hp} {pins : List (Addr × Obj)} {s : Shared} {lv : List Addr} {nf : Addr → Prop} {n : Int} {v : V} {u : Value} (hK : T.K = X.K) (I : Inv X pins σ H s) (r : RW T lv nf H (.tup [.int n, .tup []]) v) (ru : RelV v u) : TNo s.heap u ∧ rkT s.heap u = n ∧ ∃ a, v = .ref a ∧ u = .ref a := by
 simp only [RW] at r
 obtain ⟨a, vs, rfl, h1, h2⟩ := r
 simp only [RWs] at h2
 obtain ⟨v1, r1, rfl, hv1, v2, r2, rfl, hv2, rfl⟩ := h2
 simp only [RW] at hv1 hv2
 subst hv1
 obtain ⟨e, vs2, rfl, g1, g3⟩ := hv2
 simp only [RWs] at g3
 subst g3
 obtain ⟨its, rv, ⟨⟨cc, od, dt, ow⟩, ho, hc, k, hd⟩, hz⟩ := I.tuple (h1.sq hK)
 obtain ⟨its2, rv2, ⟨⟨cc2, od2, dt2, ow2⟩, ho2, hc2, k2, hd2⟩, hz2⟩ := I.tuple (g1.sq hK)
 cases rv2
 cases rv with
 | cons q1 rr =>
  cases rr with
  | cons q2 rr =>
   cases rr
   obtain ⟨t, rfl⟩ := q1
   have q2 : _ = Value.ref e := q2
   subst q2
   have ru : u = Value.ref a := ru
   subst ru
   have er : rkT s.heap (.ref a) = n := by
    have hd : dt = Data.seq #[Value.int n t, Value.ref e] k := hd
    unfold rkT
    simp only [ho, hd]
    rfl
   refine ⟨⟨a, e, _, _, t, k, k2, rfl, ho, hc, ?_, ho2, hc2, hd2⟩, er, a, rfl, rfl⟩
   rw [er]; exact hd
def tT (n : Int) : W := .tup [.int n, .tup []]
section
variable {T : Tb} {X : Cx} {Wx : WX} {p : Pg} {cal : Bool → Nat → List W → List OO → RC} {c : Cf} {st : St} {σ : L2.St} {H : Hp} {pins : List (Addr × Obj)} {s : Shared} {k : Nat}
def toV : Value → V
 | .ref a => .ref a
 | _ => .non
theorem srt_vals (hK : T.K = X.K) {lv : List Addr} {nf : Addr → Prop} (I : Inv X pins σ H s) : ∀ {ns : List Int} {vs : List V} {us : List Value}, RWs T lv nf H (ns.map tT) vs → Vals vs us → (∀ u ∈ us, TNo s.heap u ∧ RW T lv nf H (tT (rkT s.heap u)) (toV u) ∧ RelV (toV u) u) ∧ us.map (rkT s.heap) = ns
 | [], _, _, h, r => by
  simp only [List.map_nil, RWs] at h
  subst h
  cases r
  exact ⟨fun u hu => by simp at hu, rfl⟩
 | n :: ns, _, _, h, r => by
  simp only [List.map_cons, RWs] at h
  obtain ⟨v, vs, rfl, h1, h2⟩ := h
  cases r with
  | cons ru rr =>
   obtain ⟨g1, g2⟩ := srt_vals hK I h2 rr
   obtain ⟨t1, t2, a, rfl, rfl⟩ := tn_of hK I h1 ru
   refine ⟨fun u hu => ?_, by rw [List.map_cons, t2, g2]⟩
   rcases List.mem_cons.mp hu with e | hu
   ·rw [e]
    exact ⟨t1, by rw [t2]; exact h1, rfl⟩
   ·exact g1 u hu
theorem toV_rws {lv : List Addr} {nf : Addr → Prop} {h : Heap} : ∀ {us : List Value}, (∀ u ∈ us, RW T lv nf H (tT (rkT h u)) (toV u) ∧ RelV (toV u) u) → RWs T lv nf H ((us.map (rkT h)).map tT) (us.map toV) ∧ Vals (us.map toV) us
 | [], _ => ⟨RWs.nil, .nil⟩
 | u :: us, x => by
  obtain ⟨g1, g2⟩ := toV_rws fun y hy => x y (List.mem_cons_of_mem _ hy)
  obtain ⟨x1, x2⟩ := x u (List.mem_cons_self ..)
  exact ⟨RWs.cons x1 g1, .cons x2 g2⟩
theorem srt_ok (hK : T.K = X.K) (hc : X.calm = true) (hu : X.A.units + 8 < cLine) (h : RSt T c st σ H) (I : Inv X pins σ H s) {ns : List Int} {v : V} {u : Value} {Q : VK} (r : RVV T c H (.lst (ns.map tT)) v) (ru : RelV v u)
  (q : Wants T c st σ H (.lst ((sortI ns).map tT)) Q) : wpAny (model X.prog X.w) X.A (call (.builtin "sorted") [u]) (EP X pins σ Q) X.xe s := by
 obtain ⟨a, vs, rfl, h1, h2⟩ := r
 have ru : u = Value.ref a := ru
 subst ru
 obtain ⟨its, rv, hl, hz⟩ := I.list (SqL.of h1)
 obtain ⟨g1, g2⟩ := srt_vals hK I h2 rv
 refine SrtO.sorted_ord (swo_T s.heap) hl.isList (by rw [← rv.length]; exact hz) (fun h2 h₁ a' _ kp => ?_) fun out k1 k2 => ?_
 ·have tk : ∀ v ∈ its, TNo h₁ v ∧ rkT h₁ v = rkT s.heap v := fun v hv => (g1 v hv).1.keep fun b o e => (kp b o e).2
  refine tn_sortable (s := { s with heap := h₁ }) h2 ?_ (fun v hv => (tk v hv).1) (fun v hv => (tk v hv).2) fun h' kp' v hv => ?_
  ·show X.A.units + 1 + 1 < cLine
   omega
  ·have := (g1 v hv).1.keep (h' := h') fun b o e => kp' b o (kp b o e).1 (kp b o e).2
   exact ⟨this.1, this.2.trans (tk v hv).2.symm⟩
 ·have perm := k2.perm
  have hm : ∀ u ∈ out, RW T c.lv c.nf H (tT (rkT s.heap u)) (toV u) ∧ RelV (toV u) u := fun u hu => (g1 u (perm.mem_iff.mp hu)).2
  obtain ⟨w1, w2⟩ := toV_rws hm
  have es : out.map (rkT s.heap) = sortI ns := by
   refine sort_uniq (((perm.map _).trans (List.Perm.of_eq g2)).trans (sortI_perm ns).symm) ?_ (sortI_sorted ns)
   exact List.pairwise_map.mpr (k1.imp fun {x y} z => Int.not_lt.mp (of_decide_eq_false (p := rkT s.heap y < rkT s.heap x) z))
  rw [es] at w1
  obtain ⟨ep, he'⟩ := PyProof.Rows.sortedAll_at s.heap its out.toArray
  have hlen : (out.map toV).length ≤ sizeLine := by
   rw [List.length_map, perm.length_eq, ← rv.length]; exact hz
  have hp : H (s.heap.objs.size + 1) = none := I.hok.fresh (Nat.le_succ _)
  exact ⟨.ref _, upd H (s.heap.objs.size + 1) (.lst (out.map toV)), I.laid (t' := s.toks) (fun _ _ => PyProof.Rows.sortedAll_old) (Nat.le_succ _) ⟨hlen, out, ep, w2, he'⟩, rfl, new_lst h hp w1 q⟩
theorem keysT_eq : ∀ {xs : List W} {ns : List Int}, keysT xs = some ns → xs = ns.map tT
 | [], _, h => by
  simp only [keysT, Option.some.injEq] at h
  subst h; rfl
 | x :: xs, ns, h => by
  unfold keysT at h
  split at h
  ·obtain ⟨ms, h1, rfl⟩ := Option.map_eq_some_iff.mp h
   rw [keysT_eq h1]; rfl
  ·cases h
theorem sf_srt (O : XO T p X Wx k cal) {np pos : Pos} {a : Expr} {ea : E} (hg : Gl X "sorted") (hm : X.mg "sorted" = none) (hs : notStar a = true) (ha : SE T X Wx a (evE p cal ea)) : SF T X Wx (.Call (.Name "sorted" np) [a] [] pos) (evE p cal (.srt ea)) :=
 ⟨fun pins s σ H Q I ⟨c, st, h, q⟩ => by
  simp only [evE] at q
  refine wpAny_Call_Name_kw (ld_blt I hg hm (bf_boot .sorted) ?_ (bf_nn .sorted).1 (bf_nn .sorted).2)
  have hst : starEach [a] X.env = (false, eval a X.env) :: starEach [] X.env := by
   cases a <;> first | rfl | cases hs
  refine PyProof.Rows.callWith_builtin1 ?_ hst rfl
  rw [hst]
  show wpAny _ _ (spliced ((false, eval a X.env) :: backTo pos (starEach [] X.env))) _ _ s
  refine Calls.spliced_cons (thn (ha.run pins s σ H _ I ⟨c, st, h, PostF.bind (rel := relV T σ) q⟩) fun u s1 ⟨v, H1, I1, ru, c1, st1, w, S1, h1, r1, q1⟩ => ?_)
  refine Calls.spliced_nil ?_
  obtain ⟨w', ew, q2⟩ := liftF_some q1
  have rr := rvv h1 r1
  generalize vw st1 w = ww at ew rr
  unfold srtW at ew
  split at ew
  ·obtain ⟨ns, e1, e2⟩ := Option.map_eq_some_iff.mp ew
   subst e2
   rw [keysT_eq e1] at rr
   have hd : X.A.units + 140 < cLine := O.deep
   exact srt_ok O.G.hK O.calm (by omega) h1 I1 rr ru (WantsF.of q2)
  ·cases ew⟩
end
end Ev
namespace Ev
open PySem PySem.Spec PyProof.Rows L2 Calls ClX RZ
theorem wipeS_at (r : List Sl) (j : Nat) (is : List Nat) : (Ev.wipe r is)[j]? = if j ∈ is then (r[j]?).map fun _ => Sl.un else r[j]? := by
 by_cases hm : j ∈ is
 ·rw [if_pos hm]
  by_cases hl : j < r.length
  ·have h1 : j < (Ev.wipe r is).length := by rw [wipeS_len]; exact hl
   rw [List.getElem?_eq_getElem hl, List.getElem?_eq_getElem h1]
   exact congrArg some ((wipeS_get r j is).2 hm _ (List.getElem?_eq_getElem h1))
  ·rw [List.getElem?_eq_none (by rw [wipeS_len]; omega), List.getElem?_eq_none (by omega)]; rfl
 ·rw [if_neg hm]
  exact (wipeS_get r j is).1 hm
theorem wipeS_sub {r : List Sl} {js is : List Nat} (h : ∀ j ∈ js, j ∈ is) : Ev.wipe (Ev.wipe r js) is = Ev.wipe r is := by
 apply List.ext_getElem?
 intro j
 rw [wipeS_at, wipeS_at, wipeS_at]
 by_cases hm : j ∈ is
 ·rw [if_pos hm, if_pos hm]
  split <;> cases r[j]? <;> rfl
 ·rw [if_neg hm, if_neg hm, if_neg fun z => hm (h j z)]
theorem noOwn_of {r : List Sl} : ∀ {is : List Nat}, (∀ i ∈ is, i < r.length) → (∀ i ∈ is, ∀ o, r[i]? ≠ some (.own o)) → noOwn r is = true
 | [], _, _ => rfl
 | i :: is, h1, h2 => by
  have ih := noOwn_of (is := is) (fun j z => h1 j (List.mem_cons_of_mem _ z)) fun j z => h2 j (List.mem_cons_of_mem _ z)
  simp only [noOwn, ih, Bool.and_true]
  have l := h1 i (by simp)
  have n := h2 i (by simp)
  cases e : r[i]? with
  | none => rw [List.getElem?_eq_getElem l] at e; cases e
  | some x => cases x <;> first | rfl | exact (n _ e).elim
theorem noOwn_sub {r : List Sl} {js is : List Nat} (h : ∀ j ∈ js, j ∈ is) (n : noOwn r is = true) : noOwn r js = true :=
 noOwn_of (fun i z => noOwn_lt n i (h i z)) fun i z => noOwn_at n i (h i z)
theorem noOwn_wipe {r : List Sl} {js is : List Nat} (n : noOwn r is = true) : noOwn (Ev.wipe r js) is = true :=
 noOwn_of (fun i z => by rw [wipeS_len]; exact noOwn_lt n i z) fun i z o e => by
  rw [wipeS_at] at e
  split at e
  ·cases e1 : r[i]? <;> rw [e1] at e <;> simp at e
  ·exact noOwn_at n i z o e
theorem wipe_sub {σ σ2 : L2.St} {js is : List Nat} (h : ∀ j ∈ js, j ∈ is) (e : L2.wipe σ2 is = L2.wipe σ is) : L2.wipe (L2.wipe σ2 js) is = L2.wipe σ is := by
 rw [← e]
 refine wipe_eq (by rw [L2.wipe_length, L2.wipe_length]) fun i hi => ?_
 rw [wipe_get, wipe_get, if_neg hi, if_neg fun z => hi (h i z)]
section
variable {f : W → List W → St → R (List W)} {q : Src} {m i : Nat} {w : W} {acc : List W} {st : St}
theorem foldR_step (e : q.at st i = some (some w)) : foldR f q (m + 1) i acc st = (f w acc st).bind fun acc1 st1 => foldR f q m (i + 1) acc1 st1 := by
 rw [foldR.eq_def]; simp only [e]
 all_goals rfl
theorem foldR_none (e : q.at st i = some none) : foldR f q m i acc st = .ok acc st := by
 rw [foldR.eq_def]; simp only [e]
theorem foldR_stk (e : q.at st i = none) : foldR f q m i acc st = .stk := by
 rw [foldR.eq_def]; simp only [e]
theorem foldR_zero (e : q.at st i = some (some w)) : foldR f q 0 i acc st = .stk := by
 rw [foldR.eq_def]; simp only [e]
theorem calm_bind {α β : Type} {r : R α} {f : α → St → R β} : (r.bind f).calm = r.calm.bind fun a st => (f a st).calm := by
 cases r <;> rfl
theorem calm_calm {α : Type} {r : R α} : r.calm.calm = r.calm := by cases r <;> rfl
end
section
variable {T : Tb} {X : Cx} {Wx : WX} {p : Pg} {cal : Bool → Nat → List W → List OO → RC} {c c1 c2 : Cf} {st : St} {σ σ2 : L2.St} {H H0 H1 H2 : Hp} {pins : List (Addr × Obj)} {s : Shared} {k : Nat} {D : Addr}
def cpIn (p : Pg) (cal : Bool → Nat → List W → List OO → RC) (e : E) (t2 : Tg) (y : W) (acc : List W) (st : St) : R (List W) := match (if noOwn st.r (tgIx t2) then tgW t2 y (wipe st.r (tgIx t2)) else none) with
 | none => .stk
 | some r => R.calm ((evE p cal e ⟨r, st.s⟩).bind fun z st5 => if okv z && decide (acc.length < lineMax) then .ok (acc ++ [z]) st5 else .stk)
def cpOut (p : Pg) (cal : Bool → Nat → List W → List OO → RC) (e : E) (t t2 : Tg) (it2 : I) (x : W) (acc : List W) (st : St) : R (List W) := match (if noOwn st.r (tgIx t ++ tgIx t2) then tgW t x (wipe st.r (tgIx t ++ tgIx t2)) else none) with
 | none => .stk
 | some r => R.calm ((evI p cal it2 ⟨r, st.s⟩).bind fun q2 st3 => if noOwn st3.r (tgIx t2) then foldR (cpIn p cal e t2) q2 (q2.len st3) 0 acc st3 else .stk)
def cpEnd (is : List Nat) (r0 : List Sl) (ys : List W) (st5 : St) : R W := if noOwn st5.r is then .ok (.lst ys) ⟨backS is r0 st5.r, st5.s⟩ else .stk
theorem cpIn_at {e : E} {t2 : Tg} {y : W} {acc : List W} {r' : List Sl} (no : noOwn st.r (tgIx t2) = true) (et : tgW t2 y (Ev.wipe st.r (tgIx t2)) = some r') : cpIn p cal e t2 y acc st = R.calm ((evE p cal e ⟨r', st.s⟩).bind fun z st5 => if okv z && decide (acc.length < lineMax) then .ok (acc ++ [z]) st5 else .stk) := by
 unfold cpIn
 rw [if_pos no, et]
theorem cpIn_stk {e : E} {t2 : Tg} {y : W} {acc : List W} (no : noOwn st.r (tgIx t2) = true) (et : tgW t2 y (Ev.wipe st.r (tgIx t2)) = none) : cpIn p cal e t2 y acc st = .stk := by
 unfold cpIn
 rw [if_pos no, et]
theorem cpOut_at {e : E} {t t2 : Tg} {it2 : I} {x : W} {acc : List W} {r' : List Sl} (no : noOwn st.r (tgIx t ++ tgIx t2) = true) (et : tgW t x (Ev.wipe st.r (tgIx t ++ tgIx t2)) = some r') : cpOut p cal e t t2 it2 x acc st = R.calm ((evI p cal it2 ⟨r', st.s⟩).bind fun q2 st3 => if noOwn st3.r (tgIx t2) then foldR (cpIn p cal e t2) q2 (q2.len st3) 0 acc st3 else .stk) := by
 unfold cpOut
 rw [if_pos no, et]
theorem cpOut_stk {e : E} {t t2 : Tg} {it2 : I} {x : W} {acc : List W} (no : noOwn st.r (tgIx t ++ tgIx t2) = true) (et : tgW t x (Ev.wipe st.r (tgIx t ++ tgIx t2)) = none) : cpOut p cal e t t2 it2 x acc st = .stk := by
 unfold cpOut
 rw [if_pos no, et]
theorem evE_cp2 {e : E} {t t2 : Tg} {it it2 : I} : evE p cal (.cp2 e t it t2 it2) st = (evI p cal it st).bind fun q st1 => if noOwn st1.r (tgIx t ++ tgIx t2) then (foldR (cpOut p cal e t t2 it2) q (q.len st1) 0 [] st1).bind (cpEnd (tgIx t ++ tgIx t2) st1.r) else .stk := by
 rw [evE]
 rfl
theorem fold_noOwn {e : E} {t t2 : Tg} {it2 : I} {q : Src} {m i : Nat} {acc : List W} {r0 : List Sl} {Q : VK} (h : PostF T Wx c σ H ((foldR (cpOut p cal e t t2 it2) q m i acc st).bind (cpEnd (tgIx t ++ tgIx t2) r0)) Q) : noOwn st.r (tgIx t ++ tgIx t2) = true := by
 cases n : noOwn st.r (tgIx t ++ tgIx t2) with
 | true => rfl
 | false =>
  exfalso
  cases e1 : q.at st i with
  | none => rw [foldR_stk e1] at h; exact h
  | some o =>
   cases o with
   | none =>
    rw [foldR_none e1, bind_ok] at h
    unfold cpEnd at h
    rw [n] at h
    exact h
   | some w =>
    cases m with
    | zero => rw [foldR_zero e1] at h; exact h
    | succ m =>
     rw [foldR_step e1] at h
     unfold cpOut at h
     rw [n] at h
     exact h
def LW2 (T : Tb) (p : Pg) (cal : Bool → Nat → List W → List OO → RC) (e : E) (t t2 : Tg) (it2 : I) (q : Src) (r0 : List Sl) (σ : L2.St) (c1 : Cf) (H1 : Hp) (Wx : WX) (Q : VK) (D : Addr) (i m : Nat) (H : Hp) : Prop :=
 ∃ (c : Cf) (st : St) (ws : List W) (acc : List V), Stp c1 H1 (c.shut c1.ou) H ∧ (c.ou = fun a => c1.ou a ∨ a = D) ∧ RSt T c ⟨Ev.wipe st.r (tgIx t ++ tgIx t2), st.s⟩ (L2.wipe σ (tgIx t ++ tgIx t2)) H ∧ H D = some (.lst acc) ∧ RWs T c.lv c.nf H ws acc ∧
  PostF T Wx c1 σ H1 ((foldR (cpOut p cal e t t2 it2) q m i ws st).bind (cpEnd (tgIx t ++ tgIx t2) r0)) Q
def LI2 (T : Tb) (p : Pg) (cal : Bool → Nat → List W → List OO → RC) (e : E) (t t2 : Tg) (it2 : I) (q : Src) (r0 : List Sl) (σ : L2.St) (c1 : Cf) (H1 : Hp) (Wx : WX) (Q : VK) (D : Addr) (i m : Nat) (q2 : Src) (c4 : Cf) (H4 : Hp) (σ2 : L2.St) (j k : Nat) (H : Hp) : Prop :=
 ∃ (c : Cf) (st : St) (ws : List W) (acc : List V), Stp c1 H1 (c.shut c1.ou) H ∧ (c.ou = fun a => c1.ou a ∨ a = D) ∧ Mn c4.lv c4.nf H4 c.lv c.nf H ∧ RSt T c ⟨Ev.wipe st.r (tgIx t2), st.s⟩ (L2.wipe σ2 (tgIx t2)) H ∧ H D = some (.lst acc) ∧ RWs T c.lv c.nf H ws acc ∧
  PostF T Wx c1 σ H1 (((foldR (cpIn p cal e t2) q2 k j ws st).calm.bind fun a s => foldR (cpOut p cal e t t2 it2) q m i a s).bind (cpEnd (tgIx t ++ tgIx t2) r0)) Q
theorem in_noOwn {e : E} {t t2 : Tg} {it2 : I} {q q2 : Src} {m i k j : Nat} {acc : List W} {r0 : List Sl} {Q : VK} (h : PostF T Wx c σ H (((foldR (cpIn p cal e t2) q2 k j acc st).calm.bind fun a s => foldR (cpOut p cal e t t2 it2) q m i a s).bind (cpEnd (tgIx t ++ tgIx t2) r0)) Q) : noOwn st.r (tgIx t2) = true := by
 cases n : noOwn st.r (tgIx t2) with
 | true => rfl
 | false =>
  exfalso
  cases e1 : q2.at st j with
  | none => rw [foldR_stk e1] at h; exact h
  | some o =>
   cases o with
   | none =>
    rw [foldR_none e1, calmOk, bind_ok] at h
    have := noOwn_sub (js := tgIx t2) (fun j z => List.mem_append_right _ z) (fold_noOwn h)
    rw [n] at this
    cases this
   | some w =>
    cases k with
    | zero => rw [foldR_zero e1] at h; exact h
    | succ k =>
     rw [foldR_step e1] at h
     unfold cpIn at h
     rw [n] at h
     exact h
theorem mn_wrt (h : RSt T c st σ H) (hD : c.ou D) {o : HO} (hkd : ∀ u, H D = some u → isIns D o = isIns D u) : Mn c.lv c.nf H c.lv c.nf (upd H D o) := ⟨fun a u e _ n => by
  have z : a ≠ D := fun z => by subst z; exact n (.inr hD)
  rw [upd_ne z]; exact e, fun _ q => .inl q, fun _ _ e => e, fun b f nd e => by
  by_cases hb : b = D
  ·subst hb
   rw [upd_same, isIns_ext (hkd _ e) nd]
  ·rw [upd_ne hb]; exact e⟩
theorem mn_trans {l0 l1 l2 : List Addr} {n0 n1 n2 : Addr → Prop} {G0 G1 G2 : Hp} (a : Mn l0 n0 G0 l1 n1 G1) (b : Mn l1 n1 G1 l2 n2 G2) : Mn l0 n0 G0 l2 n2 G2 where
 fr := fun x o e t n => b.fr x o (a.fr x o e t n) t (a.nn e t n)
 nw := fun x q => by
  rcases b.nw x q with z | z
  ·exact a.nw x z
  ·by_cases n : n0 x
   ·exact .inl n
   ·refine .inr fun u e => ?_
    cases t : noTb u with
    | false => rfl
    | true =>
     have := z u (a.fr x u e t n)
     rw [t] at this; cases this
 lv := fun n x e => b.lv n x (a.lv n x e)
 ex := fun x f nd e => b.ex x f nd (a.ex x f nd e)
theorem lc2_inner {e : E} {t t2 : Tg} {it2 : I} {q q2 : Src} {J1 : It} {r0 : List Sl} {Q : VK} {c4 : Cf} {H4 : Hp} {i m : Nat}
   (hk : Wk T c4 H4 q2 J1) (hpr : q2.pr = true → t2.isT = true) (hD : H1 D = none) (hw : L2.wipe σ2 (tgIx t ++ tgIx t2) = L2.wipe σ (tgIx t ++ tgIx t2)) (j k : Nat) (H : Hp) (w : LI2 T p cal e t t2 it2 q r0 σ c1 H1 Wx Q D i m q2 c4 H4 σ2 j k H) :
   (J1.stop j H ∧ LW2 T p cal e t t2 it2 q r0 σ c1 H1 Wx Q D i m H) ∨ (J1.go j H ∧ ∃ Nx : Hp → Prop, (∀ H', Nx H' → ∃ k', k' < k ∧ LI2 T p cal e t t2 it2 q r0 σ c1 H1 Wx Q D i m q2 c4 H4 σ2 (j + 1) k' H') ∧ ∀ x H', J1.yld j H x H' → rdG T t2 x (L2.wipe σ2 (tgIx t2)) H' fun σ3 H2 => L2.wipe σ3 (tgIx t2) = L2.wipe σ2 (tgIx t2) ∧ rdT T F0 (evT p cal none) σ3 H2 fun b H3 =>
     if b = true then rdE T F0 (evE p cal e) σ3 H3 fun y H4 => ∃ acc, H4 D = some (.lst acc) ∧ acc.length < sizeLine ∧ Nx (upd H4 D (.lst (acc ++ [y]))) else Nx H3) := by
 obtain ⟨c, st, ws, acc, S, hou, mn, h, hd, ra, P⟩ := w
 have hcD : c.ou D := by rw [hou]; exact .inr rfl
 have no : noOwn st.r (tgIx t2) = true := in_noOwn P
 have sat : ∀ j, q2.at ⟨Ev.wipe st.r (tgIx t2), st.s⟩ j = q2.at st j := fun j => at_s (st := ⟨Ev.wipe st.r (tgIx t2), st.s⟩) (st' := st) rfl j q2
 obtain ⟨k1, k2⟩ := hk c ⟨Ev.wipe st.r (tgIx t2), st.s⟩ (L2.wipe σ2 (tgIx t2)) H j mn h
 rw [sat] at k1 k2
 cases ea : q2.at st j with
 | none => rw [foldR_stk ea] at P; exact (show False from P).elim
 | some o =>
 cases o with
 | none =>
   refine .inl ⟨k1 ea, ?_⟩
   rw [foldR_none ea, calmOk, bind_ok] at P
   have n := fold_noOwn P
   refine ⟨c, st, ws, acc, S, hou, ?_, hd, ra, P⟩
   have hh := h.wipe (is := tgIx t ++ tgIx t2) (noOwn_wipe n)
   simp only at hh
   rw [wipeS_sub (fun j z => List.mem_append_right _ z), wipe_sub (fun j z => List.mem_append_right _ z) hw] at hh
   exact hh
 | some x =>
   cases k with
   | zero => rw [foldR_zero ea] at P; exact (show False from P).elim
   | succ k =>
   obtain ⟨go, yl⟩ := k2 x ea
   refine .inr ⟨go, fun H' => LI2 T p cal e t t2 it2 q r0 σ c1 H1 Wx Q D i m q2 c4 H4 σ2 (j + 1) k H', fun H' z => ⟨k, Nat.lt_succ_self _, z⟩, fun v H' y => ?_⟩
   obtain ⟨S1, h1, rx⟩ := yl v H' y
   rw [foldR_step ea, calm_bind, bind_assoc'] at P
   cases et : tgW t2 x (Ev.wipe st.r (tgIx t2)) with
   | none => rw [cpIn_stk no et] at P; exact (show False from P).elim
   | some r' =>
   rw [cpIn_at no et, calm_calm] at P
   refine ⟨c, ⟨Ev.wipe st.r (tgIx t2), st.s⟩, x, h1, RWq.g hpr rx, r', et, fun σ3 c2 S2 h2 hl hag => ?_⟩
   have wq : L2.wipe σ3 (tgIx t2) = L2.wipe σ2 (tgIx t2) := wipe_eq hl hag
   refine ⟨wq, c2, ⟨r', st.s⟩, h2, ?_⟩
   rw [evT]
   intro b H3 c3 S3 h3 hb
   cases hb
   simp only [if_true]
   refine ⟨c3, ⟨r', st.s⟩, h3, ?_⟩
   cases e2 : evE p cal e ⟨r', st.s⟩ with
   | exc x1 s1 => rw [e2] at P; exact (show False from P).elim
   | stk => rw [e2] at P; exact (show False from P).elim
   | ok y st4 =>
   rw [e2, bind_ok] at P
   intro u H5 c5 S4 h4 ru
   have S' : Stp c H c5 H5 := S1.trans (S2.trans (S3.trans S4))
   have ou4 : c5.ou = c.ou := S'.ou
   have hd4 : H5 D = some (.lst acc) := S'.fr D _ hd rfl (h.ou D hcD)
   cases oy : okv y && decide (ws.length < lineMax) with
   | false => rw [oy] at P; exact (show False from P).elim
   | true =>
   rw [oy] at P
   rw [Bool.and_eq_true, decide_eq_true_eq] at oy
   simp only [if_true, calmOk, bind_ok] at P
   rw [← bind_assoc'] at P
   have n4 : noOwn st4.r (tgIx t2) = true := in_noOwn P
   refine ⟨acc, hd4, by rw [← ra.len, ← line_eq]; exact oy.2, ?_⟩
   have D4 : c5.ou D := by rw [ou4]; exact hcD
   have K4 : ∀ ys u, H5 D = some u → isIns D (.lst ys) = isIns D u := fun ys u e => by rw [hd4] at e; cases e; rfl
   refine ⟨c5, st4, ws ++ [y], acc ++ [u], stp_next S S' hD rfl, by rw [ou4, hou], mn_trans (mn_trans mn S'.mn) (mn_wrt h4 D4 (K4 _)), ?_, upd_same, RWs.snoc (RWs.wrt h4 D4 (K4 _) (ra.mono S'.mn)) ?_, P⟩
   · rw [← wq]
     exact (h4.wrt D4 (K4 _)).wipe n4
   · have r1 : RWs T c5.lv c5.nf H5 [y] [u] := RWs.cons (RV.rw ru oy.1) RWs.nil
     have r2 := RWs.wrt (o := .lst (acc ++ [u])) h4 D4 (K4 _) r1
     simp only [RWs] at r2
     obtain ⟨_, _, e5, r5, _⟩ := r2
     cases e5
     exact r5
theorem lc2_turn {e : E} {t t2 : Tg} {it2 : I} {tg1 : Expr} {q : Src} {J : It} {st1 : St} {Q : VK} (hpt1 : isTpE tg1 = true → t2.isT = true)
   (hk : Wk T c1 H1 q J) (hpr : q.pr = true → t.isT = true) (hR : RSt T c1 st1 σ H1) (hD : H1 D = none) (hn : noOwn st1.r (tgIx t ++ tgIx t2) = true) (i m : Nat) (H : Hp) (w : LW2 T p cal e t t2 it2 q st1.r σ c1 H1 Wx Q D i m H) :
   (J.stop i H ∧ Q (.ref D) H) ∨ (J.go i H ∧ ∃ Nx : Hp → Prop, (∀ H', Nx H' → ∃ m', m' < m ∧ LW2 T p cal e t t2 it2 q st1.r σ c1 H1 Wx Q D (i + 1) m' H') ∧ ∀ x H', J.yld i H x H' → rdG T t x (L2.wipe σ (tgIx t ++ tgIx t2)) H' fun σ2 H2 => L2.wipe σ2 (tgIx t ++ tgIx t2) = L2.wipe σ (tgIx t ++ tgIx t2) ∧ rdT T F0 (evT p cal none) σ2 H2 fun b H3 =>
     if b = true then rdI T tg1 F0 (evI p cal it2) σ2 H3 fun J1 H4 => ∃ W1 : Nat → Nat → Hp → Prop, (∃ m, W1 0 m H4) ∧ ∀ j k H, W1 j k H →
       (J1.stop j H ∧ Nx H) ∨ (J1.go j H ∧ ∃ Nx1 : Hp → Prop, (∀ H', Nx1 H' → ∃ k', k' < k ∧ W1 (j + 1) k' H') ∧ ∀ x H', J1.yld j H x H' → rdG T t2 x (L2.wipe σ2 (tgIx t2)) H' fun σ3 H5 => L2.wipe σ3 (tgIx t2) = L2.wipe σ2 (tgIx t2) ∧ rdT T F0 (evT p cal none) σ3 H5 fun b H6 =>
         if b = true then rdE T F0 (evE p cal e) σ3 H6 fun y H7 => ∃ acc, H7 D = some (.lst acc) ∧ acc.length < sizeLine ∧ Nx1 (upd H7 D (.lst (acc ++ [y]))) else Nx1 H6)
     else Nx H3) := by
 obtain ⟨c, st, ws, acc, S, hou, h, hd, ra, P⟩ := w
 have hcD : c.ou D := by rw [hou]; exact .inr rfl
 have mn := mn_open S hou hD
 have sh := RSt.shut h (ou := c1.ou) fun a z => by rw [hou]; exact .inl z
 have no : noOwn st.r (tgIx t ++ tgIx t2) = true := fold_noOwn P
 have sat : ∀ j, q.at ⟨Ev.wipe st.r (tgIx t ++ tgIx t2), st.s⟩ j = q.at st j := fun j => at_s (st := ⟨Ev.wipe st.r (tgIx t ++ tgIx t2), st.s⟩) (st' := st) rfl j q
 obtain ⟨k1, k2⟩ := hk c ⟨Ev.wipe st.r (tgIx t ++ tgIx t2), st.s⟩ (L2.wipe σ (tgIx t ++ tgIx t2)) H i mn h
 rw [sat] at k1 k2
 cases ea : q.at st i with
 | none => rw [foldR_stk ea] at P; exact (show False from P).elim
 | some o =>
 cases o with
 | none =>
   refine .inl ⟨k1 ea, ?_⟩
   rw [foldR_none ea, bind_ok] at P
   unfold cpEnd at P
   rw [no] at P
   simp only [if_true] at P
   have hb : RSt T (c.shut c1.ou) ⟨backS (tgIx t ++ tgIx t2) st1.r st.r, st.s⟩ σ H := RSt.backw (st := st1) hR S.mn hn sh
   have hb2 : RSt T c ⟨backS (tgIx t ++ tgIx t2) st1.r st.r, st.s⟩ σ H := RSt.backw (st := st1) hR mn hn h
   refine P (.ref D) H _ S hb ?_ (fun _ a e => by cases e; exact ⟨tn_none hD, opn_shut hou ▸ hb2, opn_shut hou ▸ ⟨acc, hd, ra⟩⟩)
   show RW T _ _ H (.lst ws) (.ref D)
   simp only [RW]
   refine ⟨D, acc, rfl, hd, fun z => ?_, ra.mono (mn_shut fun a z => by rw [hou]; exact .inl z)⟩
   rcases z with z | z
   · exact h.ou D hcD z
   · obtain ⟨u, eu, _⟩ := hR.ouh D z
     rw [hD] at eu; cases eu
 | some x =>
   cases m with
   | zero => rw [foldR_zero ea] at P; exact (show False from P).elim
   | succ m =>
   obtain ⟨go, yl⟩ := k2 x ea
   refine .inr ⟨go, fun H' => LW2 T p cal e t t2 it2 q st1.r σ c1 H1 Wx Q D (i + 1) m H', fun H' z => ⟨m, Nat.lt_succ_self _, z⟩, fun v H' y => ?_⟩
   obtain ⟨S1, h1, rx⟩ := yl v H' y
   rw [foldR_step ea, bind_assoc'] at P
   cases et : tgW t x (Ev.wipe st.r (tgIx t ++ tgIx t2)) with
   | none => rw [cpOut_stk no et] at P; exact (show False from P).elim
   | some r' =>
   rw [cpOut_at no et] at P
   refine ⟨c, ⟨Ev.wipe st.r (tgIx t ++ tgIx t2), st.s⟩, x, h1, RWq.g hpr rx, r', et, fun σ2 c2 S2 h2 hl hag => ?_⟩
   have hw : L2.wipe σ2 (tgIx t ++ tgIx t2) = L2.wipe σ (tgIx t ++ tgIx t2) := wipe_eq hl fun i hi => hag i fun z => hi (List.mem_append_left _ z)
   refine ⟨hw, c2, ⟨r', st.s⟩, h2, ?_⟩
   rw [evT]
   intro b H3 c3 S3 h3 hb
   cases hb
   simp only [if_true]
   refine ⟨c3, ⟨r', st.s⟩, h3, ?_⟩
   cases e2 : evI p cal it2 ⟨r', st.s⟩ with
   | exc x1 s1 => rw [e2] at P; exact (show False from P).elim
   | stk => rw [e2] at P; exact (show False from P).elim
   | ok q2 st4 =>
   rw [e2, bind_ok] at P
   intro J1 H4 c4 S4 h4 ⟨hk1, hpr1⟩
   have S' : Stp c H c4 H4 := S1.trans (S2.trans (S3.trans S4))
   have ou4 : c4.ou = c.ou := S'.ou
   have hd4 : H4 D = some (.lst acc) := S'.fr D _ hd rfl (h.ou D hcD)
   cases n4 : noOwn st4.r (tgIx t2) with
   | false => rw [n4] at P; exact (show False from P).elim
   | true =>
   rw [n4] at P
   simp only [if_true] at P
   rw [← bind_assoc'] at P
   refine ⟨LI2 T p cal e t t2 it2 q st1.r σ c1 H1 Wx Q D (i + 1) m q2 c4 H4 σ2, ⟨q2.len st4, c4, st4, ws, acc, stp_next0 S S', by rw [ou4, hou], ⟨fun _ _ e _ _ => e, fun _ q => .inl q, fun _ _ e => e, fun _ _ _ e => e⟩, h4.wipe n4, hd4, ra.mono S'.mn, P⟩, fun j k H w => lc2_inner hk1 (fun z => hpt1 (hpr1 z)) hD hw j k H w⟩
theorem lc2_read {tg tg1 : Expr} {e : E} {t t2 : Tg} {it it2 : I} {Q : VK} {vs vs1 : List Nat} (hpt : isTpE tg = true → t.isT = true) (hpt1 : isTpE tg1 = true → t2.isT = true) (ho : vs = tgIx t ++ tgIx t2) (ho1 : vs1 = tgIx t2) (h : RSt T c st σ H) (q : PostF T Wx c σ H (evE p cal (.cp2 e t it t2 it2) st) Q) :
  tLc2 (rdI T tg Wx (evI p cal it)) (rdG T t) (rdT T F0 (evT p cal none)) (rdI T tg1 F0 (evI p cal it2)) (rdG T t2) (rdT T F0 (evT p cal none)) (rdE T F0 (evE p cal e)) vs vs1 σ H Q := by
 subst ho ho1
 rw [evE_cp2] at q
 refine ⟨c, st, h, (PostF.bind (rel := relI T tg) q).mono fun J H1 ⟨c1, st1, src, S1, h1, ⟨hk, hpr⟩, q1⟩ D hD => ?_⟩
 cases hn : noOwn st1.r (tgIx t ++ tgIx t2) with
 | false => rw [hn] at q1; exact (show False from q1).elim
 | true =>
 rw [hn] at q1
 simp only [if_true] at q1
 refine ⟨LW2 T p cal e t t2 it2 src st1.r σ c1 H1 Wx Q D, ⟨src.len st1, c1.opn D, st1, [], [], stp_open hD, rfl, ?_, upd_same, RWs.nil, q1⟩, fun i m H w => lc2_turn hpt1 hk (fun z => hpt (hpr z)) h1 hD hn i m H w⟩
 exact (h1.opn hD).wipe hn
theorem sf_cp2 {tg iter tg1 iter1 elt : Expr} {scope : Scope} {own : List (Str × Nat)} {pos : Pos} {t t2 : Tg} {it it2 : I} {e : E} (hc : X.calm = true) (hN : X.N.Nodup) (hi : SI T X Wx tg iter (evI p cal it)) (hpt : isTpE tg = true → t.isT = true) (hpt1 : isTpE tg1 = true → t2.isT = true) (ok : BlkOk X.N X.env.scope scope own) (ho : own.map (·.2) = tgIx t ++ tgIx t2)
  (hg : ∀ (s : Shared) (H : Hp) (C : Addr) (cl : List (Str × Addr)) (fp : List Addr), SG T (X.blk s H scope (compEnvC scope cl C X.env) fp) tg t)
  (hi1 : ∀ (s : Shared) (H : Hp) (C : Addr) (cl : List (Str × Addr)) (fp : List Addr), SI T (X.blk s H scope (compEnvC scope cl C X.env) fp) F0 tg1 iter1 (evI p cal it2))
  (hg1 : ∀ (s : Shared) (H : Hp) (C : Addr) (cl : List (Str × Addr)) (fp : List Addr), SG T (X.blk s H scope (compEnvC scope cl C X.env) fp) tg1 t2)
  (ht : ∀ (s : Shared) (H : Hp) (C : Addr) (cl : List (Str × Addr)) (fp : List Addr), PTs (X.blk s H scope (compEnvC scope cl C X.env) fp) [] (rdT T F0 (evT p cal none)))
  (he : ∀ (s : Shared) (H : Hp) (C : Addr) (cl : List (Str × Addr)) (fp : List Addr), SE T (X.blk s H scope (compEnvC scope cl C X.env) fp) F0 elt (evE p cal e)) (hs : ∀ x, foldedSetIterable iter X.env x = pure x) (hs1 : ∀ env x, foldedSetIterable iter1 env x = pure x) :
  SF T X Wx (.ListComp elt [⟨tg, iter, [], 0⟩, ⟨tg1, iter1, [], 0⟩] scope pos) (evE p cal (.cp2 e t it t2 it2)) := by
 refine PE.imp (pe_lc2 (vs1 := tgIx t2) hc hN hi ok (fun i hi => by rw [ho]; exact List.mem_append_right _ hi) hg ht hi1 hg1 ht he hs hs1) ?_
 rintro σ H Q ⟨c, st, h, q⟩
 exact lc2_read hpt hpt1 ho rfl h q
end
end Ev
namespace Ev
open PySem PySem.Spec PyProof.Rows L2 Calls ClX RZ HT
theorem adj_rev (n : Nat) : Builtin.Slice.sliceAdjust none none (-1) (n : Int) = ((n : Int) - 1, -1) := by
 unfold Builtin.Slice.sliceAdjust
 simp
theorem plc_rev (n : Nat) : Builtin.Slice.slicePlaces ((n : Int) - 1) (-1) (-1) = n := by
 unfold Builtin.Slice.slicePlaces
 simp
 split <;> omega
theorem fm_cong {α β : Type} {f g : α → Option β} : ∀ {l : List α}, (∀ a ∈ l, f a = g a) → l.filterMap f = l.filterMap g
 | [], _ => rfl
 | a :: l, h => by rw [List.filterMap_cons, List.filterMap_cons, h a (by simp), fm_cong fun b hb => h b (by simp [hb])]
theorem pick_rev (xs : Array Value) : ((List.range xs.size).filterMap fun (m : Nat) => xs[(((xs.size : Int) - 1) + (m : Int) * (-1)).toNat]?).toArray = xs.toList.reverse.toArray := by
 congr 1
 have e1 : (List.range xs.size).filterMap (fun (m : Nat) => xs[(((xs.size : Int) - 1) + (m : Int) * (-1)).toNat]?) = ((List.range xs.size).map fun k => xs.size - 1 - k).filterMap (xs[·]?) := by
  rw [List.filterMap_map]
  refine fm_cong fun m hm => ?_
  have := List.mem_range.mp hm
  show xs[_]? = xs[_]?
  congr 1
  show _ = xs.size - 1 - m
  omega
 rw [e1, PySem.W.krv_range, List.filterMap_reverse, PySem.W.krv_all]
section
variable {prog : Program} {w : World} {A : Around} {s : Shared} {E : Value → Shared → Prop}
theorem appl_rev {sl : Addr} {vk : Value} {n : Nat} {R : Int × Int × Nat → Shared → Prop} (hsl : s.heap.IsSliceOf sl .none .none vk) (pk : IsPart vk (some (-1))) (q : R ((n : Int) - 1, -1, n) s) : wpAny (model prog w) A (Builtin.Slice.sliceApplied (.ref sl) (pure (n : Int))) R E s := by
 obtain ⟨ob, h1, h2, h3⟩ := id hsl
 unfold Builtin.Slice.sliceApplied Builtin.Slice.sliceFields
 refine wpAny_bind (wpAny_bind (wpAny_field h1 h3 (x := .none) rfl (wpAny_bind (wpAny_field h1 h3 (x := .none) rfl (wpAny_bind (wpAny_field h1 h3 (x := vk) rfl (wpAny_pure ?_)))))))
 refine wpAny_bind (slicePart_ pk ?_)
 show wpAny _ _ (if ((-1 : Int) == 0) = true then _ else _) _ _ s
 rw [if_neg (by decide)]
 refine wpAny_bind (slicePart_none (wpAny_bind (slicePart_none (wpAny_bind (wpAny_pure ?_)))))
 show wpAny _ _ (match Builtin.Slice.sliceAdjust none none (-1) (n : Int) with | (a, b) => pure (a, (-1 : Int), Builtin.Slice.slicePlaces a b (-1))) _ _ s
 rw [adj_rev]
 show wpAny _ _ (pure ((n : Int) - 1, (-1 : Int), Builtin.Slice.slicePlaces ((n : Int) - 1) (-1) (-1))) _ _ s
 rw [plc_rev]
 exact wpAny_pure q
theorem item_rev {t sl : Addr} {its : Array Value} {vk : Value} {R : Value → Shared → Prop} (ht : IsTup s.heap t its) (hsl : s.heap.IsSliceOf sl .none .none vk) (pk : IsPart vk (some (-1)))
  (q : R (.ref s.heap.objs.size) { s with heap := s.heap.push { cls := .type "tuple", data := .seq its.toList.reverse.toArray } }) (hz : its.size ≤ sizeLine) : wpAny (model prog w) A (getItem (.ref t) (.ref sl)) R E s := by
 have fits : sizeOk (.seq its.toList.reverse.toArray) := by
  show its.toList.reverse.toArray.size ≤ sizeLine
  rw [List.size_toArray, List.length_reverse, Array.length_toList]; exact hz
 obtain ⟨ob, h1, h2, h3⟩ := id hsl
 have ty : s.TypeIs (.ref sl) "slice" := ⟨ob, h1, h2⟩
 unfold getItem
 try with_reducible refine wpAny_holding ?_
 first | refine wpAny_bind (wpAny_pure ?_) | skip
 refine wpAny_bind (wpAny_sequenceKey ht.typeIs (by decide) ?_)
 refine wpAny_bind (wpAny_callSpecial?_slot (name := Str.ofString "__getitem__") ht.typeIs slot_tuple_getitem (wpAny_call_entry slot_tuple_getitem ht.typeIs entry_tuple_getitem ?_ (args_tuple_getitem _ _)))
 show wpAny _ _ (Builtin.Tuple.tupleItemsOf (.ref t) >>= _) _ _ s
 refine wpAny_bind (tupleItemsOf_ ht (wpAny_bind (wpAny_typeOf ty ?_)))
 rw [if_pos (by decide)]
 refine wpAny_bind (appl_rev hsl pk ?_)
 have no : ¬ ((((its.size : Int) - 1) == 0 && (-1 : Int) == 1 && its.size == its.size) = true) := by simp
 show wpAny _ _ (if (((its.size : Int) - 1) == 0 && (-1 : Int) == 1 && its.size == its.size) = true then _ else _) _ _ s
 rw [if_neg no, pick_rev]
 first
  | exact wpAny_bind (m := Builtin.Tuple.tupleExact _) (wpAny_newObj_type (wpAny_pure ⟨_, rfl, wpAny_pure q⟩) fits)
  | exact wpAny_bind (wpAny_bind (m := Builtin.Tuple.tupleExact _) (wpAny_newObj_type (wpAny_pure (wpAny_pure ⟨_, rfl, wpAny_pure q⟩)) fits))
  | exact wpAny_bind (wpAny_bind (m := Builtin.Tuple.tupleExact _) (wpAny_newObj_type (wpAny_pure ⟨_, rfl, wpAny_pure q⟩) fits))
end
end Ev
namespace Ev
open PySem PySem.Spec PyProof.Rows L2 Calls ClX RZ
section
variable {T : Tb} {X : Cx} {Wx : WX} {p : Pg} {cal : Bool → Nat → List W → List OO → RC} {c : Cf} {st : St} {σ : L2.St} {H : Hp} {pins : List (Addr × Obj)} {s : Shared}
variable {a ek : Expr} {ea eb : E} {pos p2 : Pos}
theorem revE : evE p cal (.rev ea eb) st = (evE p cal ea st).bind fun x st1 => (evO p cal (some eb) st1).bind fun l st2 => if l = some (-1) then (match vw st2 x with
   | .lst xs => .ok (.lst xs.reverse) st2
   | .tup xs => .ok (.tup xs.reverse) st2
   | _ => .stk) else .stk := by
 rw [evE]
 refine congrArg _ (funext fun x => funext fun st1 => ?_)
 rw [evO]
 cases evE p cal eb st1 with
 | stk => rfl
 | exc _ _ => rfl
 | ok w st2 =>
  cases w <;> try rfl
  rename_i i
  by_cases hi : i = -1
  ·subst hi; rfl
  ·simp only [R.bind, Option.some.injEq, if_neg hi]
theorem rev_ok {xs : List W} {v : V} {vv vk : Value} {sl : Addr} {Q : VK} (I : Inv X pins σ H s) (hK : T.K = X.K) (h : RSt T c st σ H) (rx : RVV T c H (.lst xs) v) (qv : RelV v vv)
  (hs : s.heap.IsSliceOf sl .none .none vk) (pk : IsPart vk (some (-1))) (q : Wants T c st σ H (.lst xs.reverse) Q) :
  ∃ T id, typeLookup (.type T) "__getitem__" = pure (some (.builtin id)) ∧ s.TypeIs vv T ∧ wpAny (model X.prog X.w) X.A (getItem vv (.ref sl)) (EP X pins σ Q) X.xe s := by
 obtain ⟨a, vs, rfl, h1, h2⟩ := rx
 cases qv
 obtain ⟨its, r, ht, hz⟩ := I.list (SqL.of h1)
 have hlen := r.length
 refine ⟨"list", _, slot_list_getitem.lookup, ht.isList.typeIs, ?_⟩
 refine wpAny_getItem_list_slice ht.isList hs .none .none pk (by decide) ?_ (by rw [List.size_toArray] <;> omega)
 rw [PySem.W.krv_pick]
 refine ⟨.ref s.heap.objs.size, _, I.laid (t' := s.toks) (o := .lst vs.reverse) (fun b ob q => Heap.get?_push_of_some _ q) (Nat.le_refl _) ?_, rfl, new_lst h (I.hok.fresh (Nat.le_refl _)) h2.reverse q⟩
 exact ⟨by rw [List.length_reverse]; exact hz, _, 0, r.reverse, Heap.get?_push_size _ rfl⟩
theorem rev_okT (hK : T.K = X.K) {xs : List W} {v : V} {vv vk : Value} {sl : Addr} {Q : VK} (I : Inv X pins σ H s) (h : RSt T c st σ H) (rx : RVV T c H (.tup xs) v) (qv : RelV v vv)
  (hs : s.heap.IsSliceOf sl .none .none vk) (pk : IsPart vk (some (-1))) (q : Wants T c st σ H (.tup xs.reverse) Q) :
  ∃ T id, typeLookup (.type T) "__getitem__" = pure (some (.builtin id)) ∧ s.TypeIs vv T ∧ wpAny (model X.prog X.w) X.A (getItem vv (.ref sl)) (EP X pins σ Q) X.xe s := by
 obtain ⟨a, vs, rfl, h1, r1⟩ := tup_at rx
 cases qv
 obtain ⟨its, r, ht, hz⟩ := I.tuple (h1.sq hK)
 have hlen := r.length
 refine ⟨"tuple", _, slot_tuple_getitem.lookup, ht.typeIs, item_rev ht hs pk ?_ (by rw [List.size_toArray] <;> omega)⟩
 have e : its.toArray.toList = its := by simp
 rw [e]
 exact ⟨.ref s.heap.objs.size, _, lay_tup (h' := s.heap) (t' := s.toks) I r.reverse (by rw [List.length_reverse]; exact hz), rfl, new_tup h (I.hok.fresh (Nat.le_refl _)) rfl r1.reverse q⟩
theorem sf_rev (hK : T.K = X.K) (ha : SE T X Wx a (evE p cal ea)) (hk : SE T X Wx ek (evE p cal eb)) : SF T X Wx (.Subscript a (.Slice none none (some ek) p2) pos) (evE p cal (.rev ea eb)) :=
 ⟨fun pins s σ H Q I ⟨c, st, h, q⟩ => by
  rw [revE] at q
  refine Subscript_ (thn (ha.run pins s σ H _ I ⟨c, st, h, PostF.bind (rel := relV T σ) q⟩) ?_)
  rintro v s1 ⟨x, H1, I1, r1, c1, st1, w1, S1, h1, rw1, q1⟩
  refine wpAny_Slice ?_
  rw [evalPart_none]
  refine wpAny_pure (wpAny_pure ?_)
  refine thn ((so_some hk).run pins s1 σ H1 _ I1 ⟨c1, st1, h1, PostF.bind (rel := relO) q1⟩) ?_
  rintro vk s2 ⟨l', H2, I2, pk, c2, st2, w2, S2, h2, rw2, q2⟩
  cases rw2
  by_cases e1 : l' = some (-1)
  ·subst e1
   simp only [if_true] at q2
   have rx := rvv h2 (RV.mono S2 rw1)
   have I4 : Inv X pins σ H2 { s2 with heap := s2.heap.push { cls := .type "slice", data := .fields #[.none, .none, vk] } } := I2.kept (t' := s2.toks) fun b ob q => Heap.get?_push_of_some _ q
   show wpAny (model X.prog X.w) X.A (subscriptTail a (.Slice none none (some ek) p2) v (.ref s2.heap.objs.size)) (EP X pins σ Q) X.xe { s2 with heap := s2.heap.push { cls := .type "slice", data := .fields #[.none, .none, vk] } }
   cases e2 : vw st2 w1 <;> rw [e2] at q2 rx <;> first | exact (show False from q2).elim | skip
   ·obtain ⟨T', id, hT, ht, hg⟩ := rev_okT hK (s := { s2 with heap := s2.heap.push { cls := .type "slice", data := .fields #[.none, .none, vk] } }) I4 h2 rx r1 (Heap.IsSliceOf.new ..) pk (WantsF.of q2)
    exact tail_any (ops := [v, .ref s2.heap.objs.size]) ht hT hg (by with_unfolding_all rfl)
   ·obtain ⟨T', id, hT, ht, hg⟩ := rev_ok (s := { s2 with heap := s2.heap.push { cls := .type "slice", data := .fields #[.none, .none, vk] } }) I4 hK h2 rx r1 (Heap.IsSliceOf.new ..) pk (WantsF.of q2)
    exact tail_any (ops := [v, .ref s2.heap.objs.size]) ht hT hg (by with_unfolding_all rfl)
  ·rw [if_neg e1] at q2
   exact (show False from q2).elim⟩
end
end Ev
namespace Ev
open PySem PySem.Spec PyProof.Rows L2 Calls ClX RZ
section
variable {T : Tb} {X : Cx} {Wx : WX} {p : Pg} {cal : Bool → Nat → List W → List OO → RC} {c : Cf} {σ : L2.St} {H : Hp}
variable {a b d tg : Expr} {ea eb ed : E} {pos : Pos}
theorem evEs_lenR : ∀ {es : List E} {st st1 : St} {ws : List W}, evEs p cal es st = .ok ws st1 → ws.length = es.length
 | [], st, st1, ws, e => by
  simp only [evEs] at e
  cases e; rfl
 | x :: es, st, st1, ws, e => by
  simp only [evEs] at e
  cases e1 : evE p cal x st with
  | exc _ _ => simp only [e1, Ev.R.bind] at e; cases e
  | stk => simp only [e1, Ev.R.bind] at e; cases e
  | ok w st2 =>
   simp only [e1, Ev.R.bind] at e
   cases e2 : evEs p cal es st2 with
   | exc _ _ => simp only [e2] at e; cases e
   | stk => simp only [e2] at e; cases e
   | ok vs st3 =>
    simp only [e2] at e
    cases e
    simp only [List.length_cons, evEs_lenR e2]
theorem relA_3r {w w2 w3 : W} {vs : List V} (h : relA T σ c H [w, w2, w3] vs) : ∃ v v2 v3, vs = [v, v2, v3] ∧ RV T c σ H w v ∧ RV T c σ H w2 v2 ∧ RV T c σ H w3 v3 := by
 obtain ⟨l, g⟩ := h
 match vs, l with
 | [v, v2, v3], _ => exact ⟨v, v2, v3, rfl, g 0 w v rfl rfl, g 1 w2 v2 rfl rfl, g 2 w3 v3 rfl rfl⟩
theorem wk_rngD {lo : Int} {n : Nat} : Wk T c H (.fix ((List.range n).map fun (k : Nat) => W.int (lo - (k : Int)))) (Itc lo (-1) n) := fun c1 st1 σ1 H1 i S h1 => by
 refine ⟨fun e => ?_, fun w' e => ?_⟩
 ·simp only [Src.at, Option.some.injEq, List.getElem?_map, Option.map_eq_none_iff, List.getElem?_eq_none_iff, List.length_range] at e
  exact e
 ·simp only [Src.at, Option.some.injEq, List.getElem?_map, Option.map_eq_some_iff] at e
  obtain ⟨j, e1, e2⟩ := e
  have hi : i < n := by simpa using (List.getElem?_eq_some_iff.mp e1).1
  have hj : j = i := by
   rw [List.getElem?_range hi] at e1
   exact (Option.some.inj e1).symm
  subst hj
  subst e2
  refine ⟨hi, fun v H' ⟨g1, g2⟩ => ?_⟩
  subst g1
  refine ⟨Stp.refl, h1, ?_⟩
  show v = V.int _
  rw [g2]
  congr 1
  omega
theorem si_rng3 {np : Pos} (hg : Gl X "range") (hm : X.mg "range" = none) (hs : notStar a = true) (hs2 : notStar b = true) (hs3 : notStar d = true) (ha : SE T X Wx a (evE p cal ea)) (hb : SE T X Wx b (evE p cal eb)) (hd : SE T X Wx d (evE p cal ed)) :
  SI T X Wx tg (.Call (.Name "range" np) [a, b, d] [] pos) (evI p cal (.rng [ea, eb, ed])) :=
 PI.imp (pi_range3 hg hm (sa_cons ha (sa_cons hb (sa_cons hd sa_nil (star_ok hs3)) (star_ok hs2)) (star_ok hs)) (star_ok hs) (by rw [star_ok hs2, star_ok hs3]; rfl)) fun σ H R ⟨c, st, h, q⟩ => by
  simp only [evI] at q
  obtain ⟨c0, st0, h0, q0⟩ := oneA' h q
  refine ⟨c0, st0, h0, q0.mono fun vs H1 ⟨c, st, ws, e0, h, ra, q⟩ => ?_⟩
  have hl := evEs_lenR e0
  match ws, hl with
  | [w, w2, w3], hl =>
  clear hl
  obtain ⟨v, v2, v3, rfl, r, r2, r3⟩ := relA_3r ra
  obtain ⟨q1, e, q⟩ := lift_some q
  cases w <;> cases w2 <;> cases w3 <;> first | (simp [rngW] at e; done) | skip
  rename_i i j k
  by_cases hk : k = -1
  ·subst hk
   cases r
   cases r2
   cases r3
   simp only [rngW] at e
   by_cases hj : -(2 ^ 62) ≤ i ∧ i < 2 ^ 62 ∧ -(2 ^ 62) ≤ j ∧ j < 2 ^ 62
   ·rw [if_pos hj] at e
    cases e
    exact ⟨i, j, -1, _, rfl, RgC.neg hj.1 hj.2.1 hj.2.2.1 hj.2.2.2, Post.ret q h ⟨wk_rngD (T := T) (c := c) (H := H1) (lo := i) (n := (i - j).toNat), fun z => nomatch z⟩⟩
   ·rw [if_neg hj] at e; cases e
  ·exfalso
   have : rngW [.int i, .int j, .int k] = none := by
    unfold rngW
    split
    ·rename_i h; cases h
    ·rename_i h; cases h
    ·rename_i h; cases h; exact absurd rfl hk
    ·rfl
   rw [this] at e; cases e
end
end Ev
namespace Ev
open PySem PySem.Spec PyProof.Rows L2 Calls ClX RZ
structure Inf where
 fnN : List (Str × Nat)
 clN : List (Str × Nat)
 cons : List (Str × W)
 free : List Str
 sites : List (Nat × Nat × List Str × List W)
 makes : List (Nat × Nat × List Str × List W)
 sy : List Str
 rais : List Nat := []
 rf : Option Str := none
 dcs : List (Str × List Tx × List W) := []
 rfb : Option Str := none
 lams : List E := []
 lamN : List Str := []
 lamNm : List (Str × NameKind) := []
 ask : Str := "law"
 asites : List (Nat × Nat × List Str × List W) := []
 gens : List (Nat × Nat × Nat) := []
 gok : Bool := false
 stts : List (Nat × Nat × Nat) := []
def Inf.sub (i : Inf) : Inf := { i with rf := none, rfb := none }
def Inf.lam (i : Inf) : Inf := { i with rf := none, rfb := none, gok := true }
def Inf.out (i : Inf) : Inf := { i with rf := none, rfb := none, gok := false }
def Inf.at (i : Inf) (q : Str) : Inf := if q = i.ask then { i with rfb := i.rf, gok := i.rf.isSome } else if q = ("law" : Str) then { i with rf := none, rfb := none, gok := i.rf.isSome, sites := i.sites ++ i.asites } else i.out
def beqC : W → W → Bool
 | .non, .non => true
 | .bl a, .bl b => a == b
 | .int i, .int j => decide (i = j)
 | .str x, .str y => decide (x = y)
 | .tup [], .tup [] => true
 | _, _ => false
theorem beqC_eq {a b : W} (h : beqC a b = true) : a = b := by
 cases a with
 | tup xs =>
  cases b with
  | tup ys => cases xs <;> cases ys <;> simp [beqC] at h <;> rfl
  | _ => cases xs <;> simp [beqC] at h
 | _ => cases b <;> simp [beqC] at h <;> simp [h]
def beqCs : List W → List W → Bool
 | [], [] => true
 | a :: as, b :: bs => beqC a b && beqCs as bs
 | _, _ => false
theorem beqCs_eq : ∀ {a b : List W}, beqCs a b = true → a = b
 | [], [], _ => rfl
 | [], _ :: _, h => by simp [beqCs] at h
 | _ :: _, [], h => by simp [beqCs] at h
 | a :: as, b :: bs, h => by
  simp only [beqCs, Bool.and_eq_true] at h
  rw [beqC_eq h.1, beqCs_eq h.2]
def csts : List E → Option (List W)
 | [] => some []
 | x :: r => match x with
  | .cst w => (csts r).map (w :: ·)
  | _ => none
theorem csts_eq : ∀ {zs : List E} {ds : List W}, csts zs = some ds → zs = ds.map .cst
 | [], ds, h => by
  simp [csts] at h
  subst h; rfl
 | x :: r, ds, h => by
  unfold csts at h
  split at h
  ·obtain ⟨ds', e1, e2⟩ := Option.map_eq_some_iff.mp h
   subst e2
   rw [csts_eq e1]; rfl
  ·cases h
def siteB (l : List (Nat × Nat × List Str × List W)) (f n : Nat) (ks : List Str) (ds : List W) : Bool := l.any fun q => decide (q.1 = f) && decide (q.2.1 = n) && decide (q.2.2.1 = ks) && beqCs q.2.2.2 ds
theorem siteB_ok {l : List (Nat × Nat × List Str × List W)} {f n : Nat} {ks : List Str} {ds : List W} (h : siteB l f n ks ds = true) : (f, n, ks, ds) ∈ l := by
 unfold siteB at h
 obtain ⟨q, hq, h⟩ := List.any_eq_true.mp h
 simp only [Bool.and_eq_true, decide_eq_true_eq] at h
 obtain ⟨⟨⟨h1, h2⟩, h3⟩, h4⟩ := h
 have h5 := beqCs_eq h4
 obtain ⟨q1, q2, q3, q4⟩ := q
 simp only at h1 h2 h3 h5
 subst h1 h2 h3 h5
 exact hq
def noIfN : Nat → Expr → Bool
 | 0, .IfExp .. => false
 | n + 1, .IfExp c a b _ => noIfN n c && noIfN n a && noIfN n b
 | 0, .BoolOp .. => false
 | n + 1, .BoolOp _ es _ => (match es.getLast? with
  | some e => noIfN n e
  | none => true)
 | _, _ => true
def noIf (e : Expr) : Bool := noIfN 8 e
theorem noIfN_up : ∀ {n : Nat} {e : Expr}, noIfN n e = true → noIfN (n + 1) e = true
 | 0, e, h => by
  cases e <;> first | (simp [noIfN] at h; done) | rfl
 | n + 1, .IfExp c a b pos, h => by
  simp only [noIfN, Bool.and_eq_true] at h
  rw [noIfN, noIfN_up h.1.1, noIfN_up h.1.2, noIfN_up h.2]; rfl
 | n + 1, .BoolOp op es pos, h => by
  simp only [noIfN] at h ⊢
  split at h
  ·rename_i e he
   exact noIfN_up h
  ·rfl
 | n + 1, e, h => by
  cases e <;> first | rfl | skip
  ·rename_i op es pos
   simp only [noIfN] at h ⊢
   split at h
   ·rename_i e he
    exact noIfN_up h
   ·rfl
  ·rename_i c a b pos
   simp only [noIfN, Bool.and_eq_true] at h
   rw [noIfN, noIfN_up h.1.1, noIfN_up h.1.2, noIfN_up h.2]; rfl
def lastNoIf (es : List Expr) : Bool := match es.getLast? with
 | some e => noIf e
 | none => true
theorem noIf_ite {c a b : Expr} {pos : Pos} (h : noIf (.IfExp c a b pos) = true) : noIf a = true ∧ noIf b = true := by
 unfold noIf at h
 simp only [noIfN, Bool.and_eq_true] at h
 exact ⟨noIfN_up h.1.2, noIfN_up h.2⟩
theorem noIf_last {op : BoolOp} {es : List Expr} {pos : Pos} (h : noIf (.BoolOp op es pos) = true) : lastNoIf es = true := by
 unfold noIf at h
 simp only [noIfN] at h
 unfold lastNoIf
 split at h
 ·rename_i e he
  exact noIfN_up h
 ·rfl
def frs : E → Bool
 | .lst _ => true
 | .cpr .. => true
 | .cp2 .. => true
 | .rev .. => true
 | .dcp .. => true
 | .dic .. => true
 | .slc .. => true
 | .bin .. => true
 | .bif .list _ => true
 | .bif .sorted _ => true
 | .rgl t _ _ => !t
 | .lsg .. => true
 | .srt _ => true
 | .srs _ => true
 | _ => false
def glB (nm : List (Str × NameKind)) (x : Str) : Bool := decide (nm.lookup x = some .globalImplicit) && !(x == ("__debug__" : Str))
def visB (N : List Str) (nm : List (Str × NameKind)) (i : Nat) (x : Str) : Bool := decide (N[i]? = some x) && (match nm.lookup x with
 | some .local => true
 | some .cell => true
 | some .free => true
 | _ => false) && !(x == ("__debug__" : Str)) && !(x == ("__classdict__" : Str))
def locB (top : Bool) (N : List Str) (nm : List (Str × NameKind)) (i : Nat) (x : Str) : Bool := decide (N[i]? = some x) && (match nm.lookup x with
 | some .local => true
 | some .cell => top
 | _ => false)
def chkL (f : Expr → E → Bool) : List Expr → List E → Bool
 | [], [] => true
 | e :: es, x :: xs => notStar e && f e x && chkL f es xs
 | _, _ => false
def chkK (f : Expr → E → Bool) : List Keyword → List E → Bool
 | [], [] => true
 | q :: qs, x :: xs => q.arg.isSome && f q.value x && chkK f qs xs
 | _, _ => false
def chkB (f : Expr → E → Bool) (an : Bool) : List Expr → E → Bool
 | [], _ => false
 | [e], x => f e x
 | e :: e2 :: es, x => match x with
  | .bnd a b => an && f e a && noIf e && chkB f an (e2 :: es) b
  | .bor a b => !an && f e a && noIf e && chkB f an (e2 :: es) b
  | _ => false
def chkO (f : Expr → E → Bool) : Option Expr → Option E → Bool
 | none, none => true
 | some e, some x => f e x
 | _, _ => false
def chkJ (f : Expr → E → Bool) : List Expr → List E → Bool
 | [], [] => true
 | e :: es, x :: xs => (match e with
  | .Constant (.str z) _ _ => (match x with
   | .cst (.str y) => decide (z = tS y) && tOk y
   | _ => false)
  | .FormattedValue a c none _ => decide (c = -1) && f a x
  | _ => false) && chkJ f es xs
 | _, _ => false
def isTupE : Expr → Bool
 | .Tuple .. => true
 | _ => false
mutual
def chkTg (top : Bool) (N : List Str) (nm : List (Str × NameKind)) : Tg → Expr → Bool
 | .nam i, e => match e with
  | .Name x _ => locB top N nm i x
  | _ => false
 | .tup ts, e => match e with
  | .Tuple es _ _ => chkTgs top N nm ts es
  | _ => false
def chkTgs (top : Bool) (N : List Str) (nm : List (Str × NameKind)) : List Tg → List Expr → Bool
 | [], es => es.isEmpty
 | t :: ts, es => match es with
  | e :: es => notStar e && chkTg top N nm t e && chkTgs top N nm ts es
  | [] => false
end
def freeB (inf : Inf) (x : Str) : Bool := inf.free.any fun y => decide (y = x)
theorem freeB_ok {inf : Inf} {x : Str} (h : freeB inf x = true) : x ∈ inf.free := by
 unfold freeB at h
 obtain ⟨y, hy, e⟩ := List.any_eq_true.mp h
 rw [← of_decide_eq_true e]; exact hy
def chkI (inf : Inf) (f : Expr → E → Bool) (nm : List (Str × NameKind)) (tg : Expr) (e : Expr) : I → Bool
 | .val x => f e x
 | .rng xs => (match e with
  | .Call (.Name y _) args [] _ => decide (y = "range") && glB nm y && freeB inf y && chkL f args xs && (decide (xs.length = 1) || decide (xs.length = 2) || decide (xs.length = 3))
  | _ => false)
 | .enu x none => isTupE tg && (match e with
  | .Call (.Name y _) [a] [] _ => decide (y = "enumerate") && glB nm y && freeB inf y && notStar a && f a x
  | _ => false)
 | .enu x (some k) => isTupE tg && (match e, k with
  | .Call (.Name y _) [a] [⟨some z, .Constant (.int j) _ _, _⟩] _, .cst (.int j2) => decide (y = "enumerate") && decide (z = "start") && decide (j = j2) && glB nm y && freeB inf y && notStar a && f a x
  | _, _ => false)
 | .zip x y => isTupE tg && (match e with
  | .Call (.Name z _) [a, b] [] _ => decide (z = "zip") && glB nm z && freeB inf z && notStar a && notStar b && f a x && f b y
  | _ => false)
 | .itm _ => false
def cstB : Const → W → Bool
 | .none, w => (match w with | .non => true | _ => false)
 | .bool b, w => (match w with | .bl c => b == c | _ => false)
 | .int i, w => (match w with | .int j => decide (i = j) | _ => false)
 | .str z, w => (match w with | .str y => decide (z = tS y) && tOk y | _ => false)
 | _, _ => false
def kdB (inf : Inf) (nm : List (Str × NameKind)) (q : Kd) (e : Expr) : Bool := match e with
 | .Name x _ => glB nm x && (match q with
  | .cls C => decide (inf.clN.lookup x = some C)
  | .none => false
  | .bool => freeB inf x && decide (x = "bool")
  | .int => freeB inf x && decide (x = "int")
  | .str => freeB inf x && decide (x = "str")
  | .list => freeB inf x && decide (x = "list")
  | .tuple => freeB inf x && decide (x = "tuple"))
 | _ => false
def notSetE : Expr → Bool
 | .Set .. => false
 | _ => true
def blkNm (nm names : List (Str × NameKind)) : List (Str × NameKind) := names.map fun (n, k) => if (k == NameKind.free && nm.lookup n == some NameKind.cell) then (n, NameKind.cell) else (n, k)
def ownL (N : List Str) (t : Tg) : List (Str × Nat) := (tgIx t).map fun i => (N.getD i Str.empty, i)
def argsB (inf : Inf) (f : Expr → E → Bool) (l : List (Nat × Nat × List Str × List W)) (g : Nat) (args : List Expr) (kws : List Keyword) (es : List E) : Bool :=
 (match csts (es.drop (args.length + kws.length)) with
   | some ds => siteB l g args.length (kws.filterMap (·.arg)) ds
   | none => false) && chkL f args (es.take args.length) && chkK f kws ((es.drop args.length).take kws.length)
def compB (N : List Str) (nm : List (Str × NameKind)) (scope : Scope) (t : Tg) : Bool := blkC N ⟨.function, nm, false, false, []⟩ scope (ownL N t)
def compB2 (N : List Str) (nm : List (Str × NameKind)) (scope : Scope) (t t2 : Tg) : Bool := blkC N ⟨.function, nm, false, false, []⟩ scope (ownL N t ++ ownL N t2)
def compP (inf : Inf) (f : Expr → E → Bool) (N : List Str) (nm : List (Str × NameKind)) (scope : Scope) (tg iter : Expr) (t : Tg) (it : I) : Bool :=
 notSetE iter && chkI inf f nm tg iter it && compB N nm scope t && chkTg false N (blkNm nm scope.names) t tg
def ifsB (g : Expr → E → Bool) : List Expr → Option E → Bool
 | [], none => true
 | [e], some x => g e x && noIf e
 | _, _ => false
def noPar : Arguments → Bool
 | ⟨[], [], none, [], [], none, []⟩ => true
 | _ => false
def lamB (N : List Str) (nm : List (Str × NameKind)) (params : Arguments) (scope : Scope) : Bool := match onePar params with
 | some a => lamDB N a ⟨.function, nm, false, false, []⟩ scope
 | none => noPar params && LamX.lamSB ⟨.function, nm, false, false, []⟩ scope
def rglB (f : Expr → E → Bool) (lo : Option E) (b : E) (args : List Expr) : Bool := match lo, args with
 | none, [eb] => notStar eb && f eb b
 | some a, [ea, eb] => notStar ea && notStar eb && f ea a && f eb b
 | _, _ => false
mutual
def eqE : E → E → Bool
 | .var i, y => (match y with | .var j => i == j | _ => false)
 | .cst v, y => (match y with | .cst w => beqC v w | _ => false)
 | .tup es, y => (match y with | .tup fs => eqEs es fs | _ => false)
 | .lst es, y => (match y with | .lst fs => eqEs es fs | _ => false)
 | .alc e, y => (match y with | .alc f => eqE e f | _ => false)
 | .new C es, y => (match y with | .new D fs => C == D && eqEs es fs | _ => false)
 | .cal C es, y => (match y with | .cal D fs => C == D && eqEs es fs | _ => false)
 | .mth a m es, y => (match y with | .mth b n fs => eqE a b && m == n && eqEs es fs | _ => false)
 | .att a m, y => (match y with | .att b n => eqE a b && m == n | _ => false)
 | .kon a m, y => (match y with | .kon b n => a == b && m == n | _ => false)
 | .bin o a b, y => (match y with | .bin p c d => decide (o = p) && eqE a c && eqE b d | _ => false)
 | .sub a b, y => (match y with | .sub c d => eqE a c && eqE b d | _ => false)
 | .glo g v, y => (match y with | .glo h w => g == h && beqC v w | _ => false)
 | _, _ => false
def eqEs : List E → List E → Bool
 | [], fs => fs.isEmpty
 | e :: es, fs => (match fs with | f :: fs => eqE e f && eqEs es fs | [] => false)
end
mutual
theorem eqE_ok : ∀ (a b : E), eqE a b = true → a = b
 | .var i, y, h => by
  unfold eqE at h
  split at h
  ·rw [beq_iff_eq] at h; rw [h]
  ·cases h
 | .cst v, y, h => by
  unfold eqE at h
  split at h
  ·rw [beqC_eq h]
  ·cases h
 | .tup es, y, h => by
  unfold eqE at h
  split at h
  ·rw [eqEs_ok es _ h]
  ·cases h
 | .lst es, y, h => by
  unfold eqE at h
  split at h
  ·rw [eqEs_ok es _ h]
  ·cases h
 | .alc e, y, h => by
  unfold eqE at h
  split at h
  ·rw [eqE_ok e _ h]
  ·cases h
 | .new C es, y, h => by
  unfold eqE at h
  split at h
  ·rw [Bool.and_eq_true, beq_iff_eq] at h
   rw [h.1, eqEs_ok es _ h.2]
  ·cases h
 | .cal C es, y, h => by
  unfold eqE at h
  split at h
  ·rw [Bool.and_eq_true, beq_iff_eq] at h
   rw [h.1, eqEs_ok es _ h.2]
  ·cases h
 | .mth a m es, y, h => by
  unfold eqE at h
  split at h
  ·simp only [Bool.and_eq_true, beq_iff_eq] at h
   rw [eqE_ok a _ h.1.1, h.1.2, eqEs_ok es _ h.2]
  ·cases h
 | .mtv .., y, h => by simp [eqE] at h
 | .att a m, y, h => by
  unfold eqE at h
  split at h
  ·simp only [Bool.and_eq_true, beq_iff_eq] at h
   rw [eqE_ok a _ h.1, h.2]
  ·cases h
 | .kon a m, y, h => by
  unfold eqE at h
  split at h
  ·simp only [Bool.and_eq_true, beq_iff_eq] at h
   rw [h.1, h.2]
  ·cases h
 | .bin o a b, y, h => by
  unfold eqE at h
  split at h
  ·simp only [Bool.and_eq_true, decide_eq_true_eq] at h
   rw [h.1.1, eqE_ok a _ h.1.2, eqE_ok b _ h.2]
  ·cases h
 | .sub a b, y, h => by
  unfold eqE at h
  split at h
  ·simp only [Bool.and_eq_true] at h
   rw [eqE_ok a _ h.1, eqE_ok b _ h.2]
  ·cases h
 | .glo g v, y, h => by
  unfold eqE at h
  split at h
  ·simp only [Bool.and_eq_true, beq_iff_eq] at h
   rw [h.1, beqC_eq h.2]
  ·cases h
 | .neg .., y, h => by simp [eqE] at h
 | .cmp .., y, h => by simp [eqE] at h
 | .chn .., y, h => by simp [eqE] at h
 | .chn3 .., y, h => by simp [eqE] at h
 | .bnd .., y, h => by simp [eqE] at h
 | .bor .., y, h => by simp [eqE] at h
 | .bnt .., y, h => by simp [eqE] at h
 | .ite .., y, h => by simp [eqE] at h
 | .dic .., y, h => by simp [eqE] at h
 | .frz .., y, h => by simp [eqE] at h
 | .slc .., y, h => by simp [eqE] at h
 | .bif .., y, h => by simp [eqE] at h
 | .isi .., y, h => by simp [eqE] at h
 | .bmt .., y, h => by simp [eqE] at h
 | .cmt .., y, h => by simp [eqE] at h
 | .cpr .., y, h => by simp [eqE] at h
 | .cp2 .., y, h => by simp [eqE] at h
 | .rev .., y, h => by simp [eqE] at h
 | .dcp .., y, h => by simp [eqE] at h
 | .fst .., y, h => by simp [eqE] at h
 | .rfd .., y, h => by simp [eqE] at h
 | .rgl .., y, h => by simp [eqE] at h
 | .ind .., y, h => by simp [eqE] at h
 | .ixd .., y, h => by simp [eqE] at h
 | .txm .., y, h => by simp [eqE] at h
 | .itx .., y, h => by simp [eqE] at h
 | .exn .., y, h => by simp [eqE] at h
 | .dkn, y, h => by simp [eqE] at h
 | .dki .., y, h => by simp [eqE] at h
 | .dkg .., y, h => by simp [eqE] at h
 | .isx .., y, h => by simp [eqE] at h
 | .xat .., y, h => by simp [eqE] at h
 | .alf .., y, h => by simp [eqE] at h
 | .rfx .., y, h => by simp [eqE] at h
 | .rfe .., y, h => by simp [eqE] at h
 | .lsg .., y, h => by simp [eqE] at h
 | .srt .., y, h => by simp [eqE] at h
 | .srs .., y, h => by simp [eqE] at h
 | .lns .., y, h => by simp [eqE] at h
 | .lss .., y, h => by simp [eqE] at h
 | .nvr, y, h => by simp [eqE] at h
theorem eqEs_ok : ∀ (a b : List E), eqEs a b = true → a = b
 | [], fs, h => by
  simp only [eqEs, List.isEmpty_iff] at h
  exact h.symm
 | e :: es, fs, h => by
  unfold eqEs at h
  split at h
  ·rw [Bool.and_eq_true] at h
   rw [eqE_ok e _ h.1, eqEs_ok es _ h.2]
  ·cases h
end
def lamK (N : List Str) (nm : List (Str × NameKind)) (l : List E) (ck : List (Str × NameKind) → Expr → E → Bool) (j : Nat) (params : Arguments) (body : Expr) (scope : Scope) : Bool :=
 lamB N nm params scope && (match l[j]? with
  | some b => ck scope.names body b
  | none => false)
def staB (inf : Inf) (y z : Str) (q : Nat) : Bool := inf.stts.any fun t => decide (inf.clN.lookup y = some t.1) && (decide (inf.sy[t.2.1]? = some z) && decide (t.2.2 = q))
theorem staB_ok {inf : Inf} {y z : Str} {q : Nat} (h : staB inf y z q = true) : ∃ C m, (C, m, q) ∈ inf.stts ∧ inf.clN.lookup y = some C ∧ inf.sy[m]? = some z := by
 unfold staB at h
 obtain ⟨⟨C, m, g⟩, hm, h⟩ := List.any_eq_true.mp h
 simp only [Bool.and_eq_true, decide_eq_true_eq] at h
 obtain ⟨h1, h2, h3⟩ := h
 subst h3
 exact ⟨C, m, hm, h1, h2⟩
def isNam (v : Nat) : Tg → Bool
 | .nam w => decide (w = v)
 | _ => false
theorem isNam_ok {v : Nat} {t : Tg} (h : isNam v t = true) : t = .nam v := by
 cases t with
 | nam w => simp [isNam] at h; rw [h]
 | tup _ => simp [isNam] at h
def cprB (inf : Inf) (f : Expr → E → Bool) (g : List (Str × NameKind) → Expr → E → Bool) (N : List Str) (nm : List (Str × NameKind)) (e : Expr) (x : E) (t : Tg) (it : I) (co : Option E) : Bool := match e with
 | .ListComp elt [⟨tg, iter, ifs, asy⟩] scope _ => decide (asy = 0) && compP inf f N nm scope tg iter t it && ifsB (g (blkNm nm scope.names)) ifs co && g (blkNm nm scope.names) elt x
 | _ => false
def bS : Nat → Str
 | 0 => "ValueError" | 1 => "LookupError" | _ => "IndexError"
def kxB (inf : Inf) (nm : List (Str × NameKind)) (k : Sum Nat Nat) (e : Expr) : Bool := match e with
 | .Name y _ => glB nm y && (match k with
  | .inl D => decide (inf.clN.lookup y = some D)
  | .inr n => decide (y = bS n) && freeB inf y)
 | _ => false
def chkE1 (inf : Inf) (f : Expr → E → Bool) (g gl : List (Str × NameKind) → Expr → E → Bool) (N : List Str) (nm : List (Str × NameKind)) (e : Expr) : E → Bool
 | .nvr => true
 | .var i => (match e with | .Name y _ => visB N nm i y | _ => false)
 | .frz i => (match e with | .Name y _ => visB N nm i y | _ => false)
 | .cst w => (match e with | .Constant c _ _ => cstB c w | _ => false)
 | .glo _ w => (match e with | .Name y _ => glB nm y && (match inf.cons.lookup y with | some w' => beqC w w' | none => false) | _ => false)
 | .bin op a b => (match e with | .BinOp ea o eb _ => decide (o = opOf op) && f ea a && f eb b | _ => false)
 | .neg a => (match e with | .UnaryOp .USub ea _ => f ea a | _ => false)
 | .bnt a => (match e with | .UnaryOp .Not ea _ => f ea a && noIf ea | _ => false)
 | .cmp op a b => (match e with | .Compare ea [o] [eb] _ => decide (o = cpOf op) && notSet eb && f ea a && f eb b | _ => false)
 | .chn3 o1 o2 o3 a b c d => (match e with | .Compare ea [p1, p2, p3] [eb, ec, ed] _ => decide (p1 = cpOf o1) && decide (p2 = cpOf o2) && decide (p3 = cpOf o3) && notSet ed && f ea a && f eb b && f ec c && f ed d | _ => false)
 | .chn o1 o2 a b c => (match e with | .Compare ea [p1, p2] [eb, ec] _ => decide (p1 = cpOf o1) && decide (p2 = cpOf o2) && notSet ec && f ea a && f eb b && f ec c | _ => false)
 | .bnd a b => (match e with | .BoolOp .And es _ => chkB f true es (.bnd a b) | _ => false)
 | .bor a b => (match e with | .BoolOp .Or es _ => chkB f false es (.bor a b) | _ => false)
 | .ite c a b => (match e with | .IfExp ec ea eb _ => f ec c && noIf ec && f ea a && f eb b | _ => false)
 | .tup es => (match e with | .Tuple xs _ _ => chkL f xs es | _ => false)
 | .lst es => (match e with | .List xs _ => chkL f xs es | _ => false)
 | .sub a i => (match e with | .Subscript ea ei _ => notSlice ei && f ea a && f ei i | _ => false)
 | .slc a lo hi => (match e with | .Subscript ea (.Slice l h none _) _ => f ea a && chkO f l lo && chkO f h hi | _ => false)
 | .att a m => (match e with | .Attribute ea y _ => decide (inf.sy[m]? = some y) && noSup ea && f ea a | _ => false)
 | .kon C m => (match e with | .Attribute (.Name y _) z _ => decide (inf.sy[m]? = some z) && glB nm y && decide (inf.clN.lookup y = some C) | _ => false)
 | .cal q es => (match e with | .Call (.Name y _) args kws _ => glB nm y && decide (inf.fnN.lookup y = some q) && argsB inf f inf.sites q args kws es | .Call (.Attribute (.Name y _) z apos) args [] pos => glB nm y && staB inf y z q && decide (args.length < 29) && (apos.endLine == pos.line) && argsB inf f inf.sites q args [] es | _ => false)
 | .new C es => (match e with | .Call (.Name y _) args kws _ => glB nm y && decide (inf.clN.lookup y = some C) && argsB inf f inf.makes C args kws es | _ => false)
 | .mtv a m _ es => (match e with | .Call (.Attribute ea y apos) args [] pos => decide (inf.sy[m]? = some y) && noSup ea && decide (args.length < 29) && (apos.endLine == pos.line) && f ea a && chkL f args es | _ => false)
 | .mth a m es => (match e with | .Call (.Attribute ea y apos) args [] pos => decide (inf.sy[m]? = some y) && noSup ea && decide (args.length < 29) && (apos.endLine == pos.line) && f ea a && chkL f args es | _ => false)
 | .bif b es => (match e with | .Call (.Name y _) (a :: args) [] _ => decide (y = bfNm b) && glB nm y && freeB inf y && chkL f (a :: args) es | _ => false)
 | .isi a qs => (match qs with
  | [q] => (match e with | .Call (.Name y _) [ea, ce] [] _ => decide (y = "isinstance") && glB nm y && freeB inf y && notStar ea && notStar ce && kdB inf nm q ce && f ea a | _ => false)
  | _ => false)
 | .bmt b a es => (match e with | .Call (.Attribute ea y apos) args [] pos => decide (y = bmNm b) && (decide (b = .count) || decide (b = .index) || decide (b = .get)) && noSup ea && decide (args.length < 29) && (apos.endLine == pos.line) && f ea a && chkL f args es | _ => false)
 | .cmt b a es => (match e with | .Call (.Attribute ea y apos) args [] pos => decide (y = cmNm b) && decide (b ≠ .setdefault) && noSup ea && decide (args.length < 29) && (apos.endLine == pos.line) && f ea a && chkL f args es | _ => false)
 | .cpr (.rfx _ v bs) t it co => (match e with | .ListComp (.Call (.Name y _) [.Name z _] [] _) [⟨tg, iter, ifs, asy⟩] scope _ => decide (asy = 0) && compP inf f N nm scope tg iter t it && ifsB (g (blkNm nm scope.names)) ifs co && isNam v t && glB (blkNm nm scope.names) y && decide (inf.rfb = some y) && visB N (blkNm nm scope.names) v z && decide (N = inf.lamN) && decide (nm = inf.lamNm) && eqEs bs inf.lams | _ => false)
 | .cpr x t it co => cprB inf f g N nm e x t it co
 | .rfe _ a bs => (match e with | .Call (.Name y _) [ea] [] _ => glB nm y && decide (inf.rfb = some y) && notStar ea && f ea a && decide (N = inf.lamN) && decide (nm = inf.lamNm) && eqEs bs inf.lams | _ => false)
 | .dcp k v t it => (match e with | .DictComp ek ev [⟨tg, iter, [], asy⟩] scope _ => decide (asy = 0) && compP inf f N nm scope tg iter t it && g (blkNm nm scope.names) ek k && g (blkNm nm scope.names) ev v | _ => false)
 | .fst es => (match e with | .JoinedStr (v1 :: v2 :: vs) _ => chkJ f (v1 :: v2 :: vs) es | _ => false)
 | .alc a => frs a && plainT e && f e a
 | .rfd _ b => (match e with | .Call (.Name y _) [.Lambda params body scope _] [] _ => glB nm y && decide (inf.rf = some y) && lamB N nm params scope && gl scope.names body b | _ => false)
 | .rgl t lo b => (match e with | .Call (.Name y _) [.Call (.Name z _) args [] _] [] _ => decide (y = (if t then ("tuple" : Str) else "list")) && glB nm y && freeB inf y && decide (z = ("range" : Str)) && glB nm z && freeB inf z && rglB f lo b args | _ => false)
 | .ind neg ks a => (match e with | .Compare ea [o] [.Name y _] _ => decide (o = (if neg then .NotIn else .In)) && glB nm y && (match inf.dcs.lookup y with | some (ks', _) => decide (ks = ks') | none => false) && f ea a | _ => false)
 | .ixd ks ws a => (match e with | .Subscript (.Name y _) ei _ => notSlice ei && glB nm y && (match inf.dcs.lookup y with | some (ks', ws') => decide (ks = ks') && beqCs ws ws' | none => false) && f ei a | _ => false)
 | .txm b a x => (match e with | .Call (.Attribute ea y apos) [eb] [] pos => decide (y = bmNm b) && (decide (b = .split) || decide (b = .partition) || decide (b = .join) || decide (b = .index)) && noSup ea && notStar eb && (apos.endLine == pos.line) && f ea a && f eb x | _ => false)
 | .lss x => (match e with | .Call (.Name y _) [ea] [] _ => decide (y = ("list" : Str)) && glB nm y && freeB inf y && notStar ea && f ea x | _ => false)
 | .srs x => (match e with | .Call (.Name y _) [ea] [] _ => decide (y = ("sorted" : Str)) && glB nm y && freeB inf y && notStar ea && f ea x | _ => false)
 | .lns x => (match e with | .Call (.Name y _) [.Call (.Name z _) [ea] [] _] [] _ => decide (y = ("len" : Str)) && decide (z = ("set" : Str)) && glB nm y && freeB inf y && glB nm z && freeB inf z && notStar ea && f ea x | _ => false)
 | .srt x => (match e with | .Call (.Name y _) [ea] [] _ => decide (y = ("sorted" : Str)) && glB nm y && freeB inf y && notStar ea && f ea x | _ => false)
 | .lsg C g m a x => (match e with | .Call (.Name y _) [.Call (.Attribute ea z apos) [eb] [] pos] [] _ => inf.gok && inf.gens.contains (C, m, g) && decide (y = ("list" : Str)) && glB nm y && freeB inf y && decide (inf.sy[m]? = some z) && noSup ea && (apos.endLine == pos.line) && notStar eb && f ea a && f eb x | _ => false)
 | .alf j => (match e with | .Lambda params body scope _ => inf.rfb.isSome && decide (N = inf.lamN) && decide (nm = inf.lamNm) && lamK N nm inf.lams gl j params body scope | _ => false)
 | .rfx .. => false
 | .dkn => (match e with | .Dict [] [] _ => true | _ => false)
 | .dki neg a b => (match e with | .Compare ea [o] [eb] _ => decide (o = (if neg then .NotIn else .In)) && notSet eb && f ea a && f eb b | _ => false)
 | .dkg a i => (match e with | .Subscript ea ei _ => notSlice ei && f ea a && f ei i | _ => false)
 | .exn C es => (match e with | .Call (.Name y _) args [] _ => glB nm y && decide (inf.clN.lookup y = some C) && decide (C ∈ inf.rais) && chkL f args es | _ => false)
 | .isx a q => (match e with | .Call (.Name y _) [ea, ce] [] _ => decide (y = "isinstance") && glB nm y && freeB inf y && notStar ea && notStar ce && kxB inf nm q ce && f ea a | _ => false)
 | .xat a m => (match e with | .Attribute ea y _ => decide (inf.sy[m]? = some y) && noSup ea && f ea a | _ => false)
 | .itx a => (match e with | .Call (.Name y _) [ea] [] _ => decide (y = ("int" : Str)) && glB nm y && freeB inf y && notStar ea && f ea a | _ => false)
 | .dic ks vs => (match e with
  | .Dict [] [] _ => ks.isEmpty && vs.isEmpty
  | .Dict [some ek] [ev] _ => (match ks, vs with
   | [x], [y] => f ek x && f ev y
   | _, _ => false)
  | _ => false)
 | .cp2 x t it t2 it2 => (match e with | .ListComp elt [⟨tg, iter, [], asy⟩, ⟨tg1, iter1, [], asy1⟩] scope _ => decide (asy = 0) && decide (asy1 = 0) && notSetE iter && notSetE iter1 && chkI inf f nm tg iter it && chkI inf.sub (g (blkNm nm scope.names)) (blkNm nm scope.names) tg1 iter1 it2 && compB2 N nm scope t t2 && chkTg false N (blkNm nm scope.names) t tg && chkTg false N (blkNm nm scope.names) t2 tg1 && g (blkNm nm scope.names) elt x | _ => false)
 | .rev a q => (match e with | .Subscript ea (.Slice none none (some eq) _) _ => f ea a && f eq q | _ => false)
def chkE (inf : Inf) : Nat → List Str → List (Str × NameKind) → Expr → E → Bool
 | 0, _, _, _, _ => false
 | n + 1, N, nm, e, x => chkE1 inf (chkE inf n N nm) (chkE inf.sub n N) (chkE inf.lam n N) N nm e x
def LbP (tq : Str) (inf : Inf) (cl : List (Str × Addr)) (j : Nat) (o : Obj) (c' : Addr) (ts : List (Addr × Obj)) : Prop :=
 ∃ (n : Nat) (params : Arguments) (body : Expr) (scope : Scope), lamK inf.lamN inf.lamNm inf.lams (chkE inf.lam n inf.lamN) j params body scope = true ∧
   ((∃ pm ctv, noPar params = true ∧ ts = [] ∧ o = PySem.W.kla_obj "<lambda>" tq params body scope (cloFrom cl scope.names []) pm c' ctv) ∨
     ∃ a t doc pm ctv u, onePar params = some a ∧ ts = [(t, PySem.W.kdv_tup [u])] ∧ o = PySem.W.kdv_obj "<lambda>" tq params (.expr body) scope (cloFrom cl scope.names []) (.ref t) doc pm c' ctv)
end Ev
namespace Ev
open PySem PySem.Spec PyProof.Rows L2 Calls ClX
structure StaF (K : PySem.W.Frag) (C : Addr) (m : Str) (g : Addr) : Prop where
 rd : CRead K C (.type "type")
 at_ : ∃ p rest, PySem.W.findCls K (.ref C) (.type "type") m = some (.get (.builtin "staticmethod.__get__") (.ref p) .none (.ref C)) ∧ PySem.W.recIn K p "staticmethod" = some (.ref g :: rest)
 kp : PySem.W.keepIn K (.ref g) = true
section
variable {T : Tb} {X : Cx} {Wx : WX} {p : Pg} {cal : Bool → Nat → List W → List OO → RC} {c : Cf} {st : St} {σ : L2.St} {H : Hp} {pins : List (Addr × Obj)} {s : Shared} {k : Nat}
theorem getmethsm_ok {C g : Addr} {m : Str} {A : Around} {E : Value → Shared → Prop} {pl : Sem Bool} {Q : Value × List Value → Shared → Prop} (I : Inv X pins σ H s) (F : StaF X.K C m g)
  (h : ∀ s', Inv X pins σ H s' → Q (.ref g, []) s') : wpAny (model X.prog X.w) A (getMethod (.ref C) m pl) Q E s := by
 obtain ⟨q, rest, h1, h2⟩ := F.at_
 refine PySem.W.method_cls I.kIn F.rd.ga (PySem.W.cls_bind I.kIn F.rd.rd h1 ?_)
 exact wpAny_call (PySem.W.sm_get (s := { s with toks := s.toks + 1 }) I.kIn h2 (PySem.W.handed_on rfl (h _ (I.tok _))))
theorem se_sta (O : XO T p X Wx k cal) {f n : Nat} {C : Addr} {y x : Str} {np apos pos : Pos} {args : List Expr} {xs : List E} {ds : List W} (hg : Gl X y) (hm : X.mg y = some (.ref C)) (hd : (y == ("__debug__" : Str)) = false)
  (F : StaF X.K C x (T.fa f)) (S : SiteF T X k cal f n [] ds) (hn : xs.length = n) (hz : args = [] → xs = []) (hs : args.all notStar = true) (hfew : args.length < 29) (hline : (apos.endLine == pos.line) = true)
  (ha : SA T X Wx args (evEs p cal xs)) : SE T X Wx (.Call (.Attribute (.Name y np) x apos) args [] pos) (evE p cal (.cal f (xs ++ [] ++ ds.map .cst))) :=
 ⟨fun pins s σ H Q I ⟨c, st, h, q⟩ => by
  simp only [evE] at q
  obtain ⟨fd, ps, np', dvs, dus, Ff, hnp, hdv, rd, hb⟩ := S
  refine meth_of rfl hs hfew hline (thn ((pe_glob (v := .ref C) hg hm rfl hd).run pins s σ H (fun v H' => v = .ref C ∧ H' = H) I ⟨rfl, rfl⟩) ?_)
  rintro u s1 ⟨v, H1, I1, rx, rfl, rfl⟩ pl
  cases rx
  refine getmethsm_ok I1 F fun s2 I2 => ?_
  refine argsKW (first := []) (kws := []) (ks := []) (ys := []) F.kp hz hs rfl rfl ha sk_nil O.G.hK hdv I2 h q ?_
  rintro us1 us2 vs1 vs2 ws s H c st S' I h r1 r2 l2 l1 ra q
  have e1 : us1.length = n := by rw [← r1.length, l1, hn]
  have e2 : us2.length = ([] : List Str).length := by rw [← r2.length, l2]; rfl
  refine wpAny_call (codeAny_mono (call_run (args := ⟨us1, ([] : List Str).zip us2⟩) (us := us1 ++ us2 ++ dus) rfl (O.M.room.mono (Nat.le_succ _)) O.tk Ff (hb s us1 us2 I.kIn e1 e2) ?_ I h ra ((r1.append r2).append rd) q) fun r s' z => ?_)
  ·have l3 : dvs.length = ds.length := (relA_cst (T := T) (σ := σ) (c := c) (H := H) O.G.hK hdv).1.symm
   simp only [List.length_append]
   rw [l1, l2, hn, l3, hnp]
   rfl
  ·cases r with
   | error e => exact z
   | ok fl => cases fl <;> first | exact z | exact z.elim⟩
end
end Ev
namespace Ev
open PySem PySem.Spec PyProof.Rows L2 Calls ClX RZ
section
variable {T : Tb} {X : Cx} {Wx : WX} {p : Pg} {cal : Bool → Nat → List W → List OO → RC} {c : Cf} {st : St} {σ : L2.St} {H : Hp} {pins : List (Addr × Obj)} {s : Shared} {wf : Nat}
variable {a : Expr} {ea : E} {pos : Pos}
theorem gi_list {xs : List W} {i : Int} {w : W} {v : V} {vv uu : Value} {Q : VK} (e : subW (.lst xs) (.int i) = some w) (I : Inv X pins σ H s) (h : RSt T c st σ H) (rx : RVV T c H (.lst xs) v) (qv : RelV v vv) (qu : RelV (.int i) uu) (q : WantsP T c st σ H w Q) :
  wpAny (model X.prog X.w) X.A (getItem vv uu) (EP X pins σ Q) X.xe s := by
 obtain ⟨j, e1, e2⟩ := Option.bind_eq_some_iff.mp (show (Ev.ixN xs.length i).bind (fun j => xs[j]?) = some w from e)
 obtain ⟨p, vs, rfl, k1, k2⟩ := rx
 obtain ⟨z, g1, g2⟩ := k2.get e2
 have he : atI vs i = some z := by rw [L2.atI, ← k2.len]; exact Option.bind_eq_some_iff.mpr ⟨j, e1, g1⟩
 cases qv
 obtain ⟨t, rfl⟩ := qu
 obtain ⟨its, r, pl, hz⟩ := I.list (SqL.of k1)
 obtain ⟨j, h1, h2, h3, h4, h5⟩ := atI_get he
 obtain ⟨w', ew, rw'⟩ := r.get h2
 have hl := r.length
 have hn := line63
 have fin : EP X pins σ Q w' s := ⟨z, H, I, rw', q.same h g2⟩
 by_cases h0 : 0 ≤ i
 ·have hj : i.toNat = j := by
   rw [seqIndex_of h0 h5] at h1
   exact Option.some.inj h1
  exact wpAny_getItem_list pl.isList h0 (by omega) (by rw [hj]; simpa using ew) fin
 ·have hj : (i + (its.toArray.size : Int)).toNat = j := by
   rw [seqIndex_neg (by omega) h4] at h1
   rw [List.size_toArray, ← hl]
   exact Option.some.inj h1
  exact wpAny_getItem_list_neg pl.isList (by omega) (by rw [List.size_toArray] <;> omega) (by omega) (by rw [hj]; simpa using ew) fin
theorem ss_agi (hu : Deep X) {o i : Expr} {eo ei : E} {pos' : Pos} {op : Bop} (hop : op = .add ∨ op = .sub) (ho : SE T X Wx o (evE p cal eo)) (hi : SE T X Wx i (evE p cal ei)) (ha : SE T X Wx a (evE p cal ea)) (hns : notSlice i = true) :
  SS T X Wx (.AugAssign (.Subscript o i pos') (opOf op) a pos) (exS p cal wf (.agi eo ei op ea)) := by
 have pip : ∃ f : Int → Int → Int, PIp X (opOf op) (ipI f) ∧ ∀ w y k, binW op w y = some (.int k) → ∃ m n, w = .int m ∧ y = .int n ∧ k = f m n := by
  rcases hop with e | e <;> subst e
  ·refine ⟨_, ip_add, fun w y k e => ?_⟩
   unfold binW at e
   split at e <;> first | contradiction | (cases e; exact ⟨_, _, rfl, rfl, rfl⟩) | (cases e; done) | (split at e <;> cases e)
  ·refine ⟨_, ip_sub, fun w y k e => ?_⟩
   unfold binW at e
   split at e <;> first | contradiction | (cases e; exact ⟨_, _, rfl, rfl, rfl⟩) | (cases e; done) | (split at e <;> cases e)
 obtain ⟨f, hp, hb⟩ := pip
 refine ⟨fun pins s σ H D I ⟨c, st, h, q⟩ => ?_⟩
 rw [exS] at q
 refine wpAny_AugAssign_SubscriptAny (thn (ho.run pins s σ H _ I ⟨c, st, h, PostS.bind (rel := relV T σ) q⟩) ?_) (fun ov iv new => by cases i <;> first | rfl | cases hns)
 rintro ov s1 ⟨x1, H1, I1, r1, c1, st1, w1, S1, h1, rw1, q1⟩
 refine thn (hi.run pins s1 σ H1 _ I1 ⟨c1, st1, h1, PostS.bind (rel := relV T σ) q1⟩) ?_
 rintro iv s2 ⟨x2, H2, I2, r2, c2, st2, w2, S2, h2, rw2, q2⟩
 have rx := rvv h2 (RV.mono S2 rw1)
 cases ex : vw st2 w1 <;> rw [ex] at q2 rx <;> first | exact (show False from q2).elim | skip
 rename_i xs
 simp only at q2
 cases es : subW (.lst xs) w2 with
 | none => rw [es] at q2; exact (show False from q2).elim
 | some old =>
 rw [es] at q2
 simp only at q2
 cases w2 <;> first | (simp [subW] at es; done) | skip
 rename_i k
 cases rw2
 refine thn (gi_list (Q := fun z H' => ∃ c', Stp c2 H2 c' H' ∧ RSt T c' st2 σ H' ∧ RV T c' σ H' old z) es I2 h2 rx r1 r2 ?_) ?_
 ·exact fun z H' S' h' r' => ⟨c2, S', h', r'.rv⟩
 rintro ol s3 ⟨z3, H3, I3, r3, c3, S3, h3, rv3⟩
 refine thn (ha.run pins s3 σ H3 _ I3 ⟨c3, st2, h3, PostS.bind (rel := relV T σ) (q2.from S3)⟩) ?_
 rintro v s4 ⟨x4, H4, I4, r4, c4, st4, y, S4, h4, rv4, q4⟩
 cases e2 : binW op old y with
 | none => rw [e2] at q4; exact (show False from q4).elim
 | some z =>
 rw [e2] at q4
 cases z <;> first | exact (show False from q4).elim | skip
 rename_i kk
 simp only at q4
 obtain ⟨m, n, eo', ey, ek⟩ := hb _ _ _ e2
 subst eo' ey ek
 cases rv3
 cases rv4
 refine thn (hp pins s4 σ H4 (.int m) (.int n) ol v (fun z H' => z = .int (f m n) ∧ H' = H4) I4 r3 r4 ⟨m, n, rfl, rfl, rfl, rfl⟩) ?_
 rintro new s5 ⟨x5, H5, I5, r5, e5, e6⟩
 subst e5 e6
 cases el : look st4 w1 with
 | none => rw [el] at q4; exact (show False from q4).elim
 | some ob =>
 rw [el, Option.bind_some] at q4
 cases es2 : stiW ob (.int k) (.int (f m n)) with
 | none => rw [es2] at q4; exact (show False from q4).elim
 | some ob' =>
 rw [es2, Option.bind_some] at q4
 cases ep : Ev.put st4 ob' w1 with
 | none => rw [ep] at q4; exact (show False from q4).elim
 | some st5 =>
 rw [ep] at q4
 refine thn (set_any hu pins s5 σ _ _ _ _ ov iv new _ I5 r1 r2 r5 (sti_fin h4 (RV.mono (S2.trans (S3.trans S4)) rw1) (kk := .int k) (by rfl) (v := .int (f m n)) rfl el es2 ep (fun q z => by simp [nkOf] at z) fun H' S5 h5 => q4 σ H' c4 S5 h5)) ?_
 rintro _ s6 ⟨H6, I6, q6⟩
 exact ⟨σ, H6, I6, q6⟩
end
end Ev
namespace Ev
open PySem PySem.Spec PyProof.Rows L2 Calls ClX RZ
section
variable {T : Tb} {X : Cx} {Wx : WX} {p : Pg} {cal : Bool → Nat → List W → List OO → RC} {wf : Nat}
variable {i : Nat} {y : Str} {py pos spos : Pos} {tg iter tg1 iter1 elt : Expr} {scope : Scope} {own : List (Str × Nat)} {t t2 : Tg} {it it2 : I} {x : E}
theorem ss_setLc2 (fresh : Bool) (hc : X.calm = true) (hN : X.N.Nodup) (hy : X.N[i]? = some y) (hyl : X.env.scope.names.lookup y = some .local) (hsw : swapsWith (.ListComp elt [⟨tg, iter, [], 0⟩, ⟨tg1, iter1, [], 0⟩] scope pos) (some (.Name y py)) spos.line X.env = pure true)
  (hi : SI T X Wx tg iter (evI p cal it)) (hpt : isTpE tg = true → t.isT = true) (hpt1 : isTpE tg1 = true → t2.isT = true) (ok : BlkOk X.N X.env.scope scope own) (ho : own.map (·.2) = tgIx t ++ tgIx t2)
  (hg : ∀ (s : Shared) (H : Hp) (C : Addr) (cl : List (Str × Addr)) (fp : List Addr), SG T (X.blk s H scope (compEnvC scope cl C X.env) fp) tg t)
  (hi1 : ∀ (s : Shared) (H : Hp) (C : Addr) (cl : List (Str × Addr)) (fp : List Addr), SI T (X.blk s H scope (compEnvC scope cl C X.env) fp) F0 tg1 iter1 (evI p cal it2))
  (hg1 : ∀ (s : Shared) (H : Hp) (C : Addr) (cl : List (Str × Addr)) (fp : List Addr), SG T (X.blk s H scope (compEnvC scope cl C X.env) fp) tg1 t2)
  (he : ∀ (s : Shared) (H : Hp) (C : Addr) (cl : List (Str × Addr)) (fp : List Addr), SE T (X.blk s H scope (compEnvC scope cl C X.env) fp) F0 elt (evE p cal x)) (hs : ∀ x, foldedSetIterable iter X.env x = pure x) (hs1 : ∀ env x, foldedSetIterable iter1 env x = pure x) :
  SS T X Wx (.Assign [.Name y py] (.ListComp elt [⟨tg, iter, [], 0⟩, ⟨tg1, iter1, [], 0⟩] scope pos) spos) (exS p cal wf (if fresh then .own i (.cp2 x t it t2 it2) else .set i (.cp2 x t it t2 it2))) :=
 PS.imp (ps_setLc2 (vs1 := tgIx t2) (tt := rdT T F0 (evT p cal none)) (tt1 := rdT T F0 (evT p cal none)) hc hN hy hyl hsw hi ok (fun i hi => by rw [ho]; exact List.mem_append_right _ hi) hg (fun s H C cl fp => pts_none) hi1 hg1 (fun s H C cl fp => pts_none) he hs hs1) fun D σ H ⟨c, st, h, q⟩ => by
  cases fresh
  ·exact lc2_read hpt hpt1 ho rfl h (set_read (σ := σ) q)
  ·exact lc2_read hpt hpt1 ho rfl h (own_read (σ := σ) q)
end
end Ev
namespace Ev
open PySem PySem.Spec PyProof.Rows L2 Calls ClX RZ
section
variable {T : Tb} {X : Cx} {Wx : WX} {p : Pg} {cal : Bool → Nat → List W → List OO → RC} {c : Cf} {st : St} {σ : L2.St} {H : Hp} {pins : List (Addr × Obj)} {s : Shared} {wf k : Nat}
variable {a b d : Expr} {ea eb ed : E} {pos : Pos}
theorem st_ite (hd : ST T X Wx d (tst p cal ed)) (ha : ST T X Wx a (tst p cal ea)) (hb : ST T X Wx b (tst p cal eb)) : ST T X Wx (.IfExp d a b pos) (tst p cal (.ite ed ea eb)) :=
 ⟨fun pins s σ H Q I ⟨c, st, h, q⟩ => by
  have e : tst p cal (.ite ed ea eb) st = (tst p cal ed st).bind fun k st2 => if k then tst p cal ea st2 else tst p cal eb st2 := by
   simp only [evE, tst]
   cases evE p cal ed st with
   | ok w st1 =>
    simp only [R.bind]
    cases truR w st1 with
    | ok k st2 => cases k <;> rfl
    | exc x st2 => rfl
    | stk => rfl
   | exc x st1 => rfl
   | stk => rfl
  rw [e] at q
  rw [arm_isTrue_IfExp]
  refine wpAny_bind (thn (hd.run pins s σ H _ I (oneT h q)) ?_)
  rintro k s1 ⟨H1, I1, c1, st1, h1, q1⟩
  cases k with
  | true => exact ha.run pins s1 σ H1 Q I1 ⟨c1, st1, h1, q1⟩
  | false => exact hb.run pins s1 σ H1 Q I1 ⟨c1, st1, h1, q1⟩⟩
theorem ss_aga (O : XO T p X Wx k cal) {o : Expr} {eo : E} {f : Nat} {x : Str} {pos' : Pos} {op : Bop} (hop : op = .add ∨ op = .sub) (hx : x = T.sy f) (ho : SE T X Wx o (evE p cal eo)) (ha : SE T X Wx a (evE p cal ea)) :
  SS T X Wx (.AugAssign (.Attribute o x pos') (opOf op) a pos) (exS p cal wf (.aga eo f op ea)) := by
 subst hx
 obtain ⟨rd, hin, hrd⟩ : ∃ rd : V → V → Hp → VK → Prop, InOp X (opOf op) rd ∧ ∀ w y k H Q, binW op w y = some (.int k) → ∃ m n, w = .int m ∧ y = .int n ∧ (Q (.int k) H → rd (.int m) (.int n) H Q) := by
  rcases hop with e | e <;> subst e
  ·refine ⟨_, in_add, fun w y k H Q e => ?_⟩
   unfold binW at e
   split at e <;> first | contradiction | (cases e; exact ⟨_, _, rfl, rfl, fun q => ⟨_, _, rfl, rfl, q⟩⟩) | (cases e; done) | (split at e <;> cases e)
  ·refine ⟨_, in_sub, fun w y k H Q e => ?_⟩
   unfold binW at e
   split at e <;> first | contradiction | (cases e; exact ⟨_, _, rfl, rfl, fun q => ⟨_, _, rfl, rfl, q⟩⟩) | (cases e; done) | (split at e <;> cases e)
 refine PS.imp (ps_fldaug ho ha hin) fun D σ H ⟨c, st, h, q⟩ => ?_
 rw [exS] at q
 refine ⟨c, st, h, (PostS.bind (rel := relV T σ) q).mono fun u H1 ⟨c1, st1, w, S, h1, r1, q1⟩ => ?_⟩
 cases el : look st1 w with
 | none => rw [el] at q1; exact (show False from q1).elim
 | some ob =>
 rw [el] at q1
 cases ob with
 | lst _ => exact (show False from q1).elim
 | dct _ _ => exact (show False from q1).elim
 | tab => exact (show False from q1).elim
 | dnk _ _ => exact (show False from q1).elim
 | ins C ns xs =>
 simp only at q1
 cases ef : fget f ns xs with
 | none => rw [ef] at q1; exact (show False from q1).elim
 | some old =>
 rw [ef] at q1
 simp only at q1
 cases hc0 : fldOk p C f with
 | false => rw [hc0] at q1; exact (show False from q1).elim
 | true =>
 rw [hc0] at q1
 simp only [if_true] at q1
 obtain ⟨cc, hcc, hf⟩ := clsG_flds hc0
 have cf := O.G.cls C cc hcc
 obtain ⟨aa, e1, dx, vs, g1, g2, g3⟩ := look_ok h1 r1 el
 have fo := fget_ok (f := f) O.G.inj g2 g3
 rw [ef] at fo
 obtain ⟨v', l1, l2⟩ := fo
 refine ⟨aa, T.ca C, dx, _, v', e1, g1, cf.cl, cf.na f hf, l1, c1, st1, h1, (PostS.bind (rel := relV T σ) q1).mono fun y H2 ⟨c2, st2, wy, S2, h2, r2, q2⟩ => ?_⟩
 cases e2 : binW op old wy with
 | none => rw [e2] at q2; exact (show False from q2).elim
 | some z =>
 rw [e2] at q2
 cases z <;> first | exact (show False from q2).elim | skip
 rename_i kk
 simp only at q2
 cases el2 : look st2 w with
 | none => rw [el2] at q2; exact (show False from q2).elim
 | some ob2 =>
 rw [el2] at q2
 cases ob2 with
 | lst _ => exact (show False from q2).elim
 | dct _ _ => exact (show False from q2).elim
 | tab => exact (show False from q2).elim
 | dnk _ _ => exact (show False from q2).elim
 | ins C2 ns2 xs2 =>
 simp only at q2
 cases hc2 : (decide (C2 = C) && decide (ns2.length < 900)) with
 | false => rw [hc2] at q2; exact (show False from q2).elim
 | true =>
 rw [hc2] at q2
 simp only [if_true] at q2
 rw [Bool.and_eq_true, decide_eq_true_eq, decide_eq_true_eq] at hc2
 obtain ⟨hCC, hn9⟩ := hc2
 subst hCC
 cases ep : Ev.put st2 (.ins C2 (fput f (.int kk) ns2 xs2).1 (fput f (.int kk) ns2 xs2).2) w with
 | none => rw [ep] at q2; exact (show False from q2).elim
 | some st3 =>
 rw [ep] at q2
 have r1' : RV T c2 σ H2 w u := RV.mono S2 r1
 obtain ⟨aa', e1', dx', vs2, k1, k2, k3⟩ := look_ok h2 r1' el2
 have : aa' = aa := by rw [e1] at e1'; cases e1'; rfl
 subst this
 have nf := put_nf h2 r1' ep e1
 obtain ⟨m, n, em, en, hr⟩ := hrd old wy kk H2 (fun z H3 => ∃ dx' fs', H3 aa' = some (.ins (T.ca C2) dx' fs') ∧ fs'.length < 1000 ∧ D.nx σ (upd H3 aa' (.ins (T.ca C2) dx' (putF (T.sy f) z fs')))) e2
 subst em en
 have rm : v' = .int m := by simpa [RW] using l2
 have rn : y = .int n := r2
 rw [rm, rn]
 have rw1 : RW T c2.lv c2.nf H2 (.int kk) (.int kk) := by simp [RW]
 obtain ⟨vs', z1, z2, z3⟩ := fput_ok (T := T) O.G.inj (f := f) rw1 k2 k3
 refine hr ⟨dx', _, k1, ?_, ?_⟩
 ·rw [List.length_zip, List.length_map, k2, Nat.min_self, ← k2]; omega
 ·rw [z1]
  obtain ⟨_, S3, h3⟩ := h2.put (ho := .ins (T.ca C2) dx' (((fput f (.int kk) ns2 xs2).1.map T.sy).zip vs')) r1' el2 ep e1 ⟨dx', vs', upd_same, z2, z3.mono (mn_put nf fun u eu => by rw [k1] at eu; cases eu; rfl)⟩ (fun u eu => by rw [k1] at eu; cases eu; rfl)
  exact q2 σ _ c2 S3 h3
theorem sf_dic0 : SF T X Wx (.Dict [] [] pos) (evE p cal (.dic [] [])) := by
 refine PE.imp pe_dnewK fun σ H Q ⟨c, st, h, q⟩ D hD => ?_
 have e : evE p cal (.dic [] []) st = .ok (.dct [] []) st := by simp only [evE, evEs, bind_ok, okvs]; rfl
 rw [e] at q
 refine q (.ref D) _ c (Stp.grow hD) (h.grow hD) ?_ fun _ a e => ?_
 ·show RW T _ _ _ (.dct [] []) (.ref D)
  simp only [RW]
  exact ⟨D, [], rfl, upd_same, h.new hD, rfl, RWs.nil⟩
 ·cases e
  exact ⟨tn_none hD, h.opn hD, ⟨[], upd_same, rfl, RWs.nil⟩⟩
theorem sf_dic1 (ha : SE T X Wx a (evE p cal ea)) (hb : SE T X Wx b (evE p cal eb)) : SF T X Wx (.Dict [some a] [b] pos) (evE p cal (.dic [ea] [eb])) := by
 refine PE.imp (pe_disp (pps_cons ha hb pps_nil) rfl rfl (by simp) (by simp)) ?_
 rintro σ H Q ⟨c, st, h, q⟩ D hD
 have h0 := h.opn hD (o := .dK [])
 refine ⟨c.opn D, st, h0, ?_⟩
 have e : evE p cal (.dic [ea] [eb]) st = R.calm ((evE p cal ea st).bind fun y st1 => (evE p cal eb st1).bind fun z st2 => if okv z then (match kyOf y with
   | some k => .ok (.dct [k] [z]) st2
   | none => .stk) else .stk) := by
  simp only [evE, evEs]
  cases evE p cal ea st with
  | exc x st1 => rfl
  | stk => rfl
  | ok y st1 =>
   simp only [bind_ok]
   cases evE p cal eb st1 with
   | exc x st1 => rfl
   | stk => rfl
   | ok z st2 =>
    simp only [bind_ok, okvs, List.all_cons, List.all_nil, Bool.and_true, List.mapM_cons, List.mapM_nil]
    cases okv z with
    | false => rfl
    | true => cases kyOf y <;> rfl
 rw [e] at q
 cases e1 : evE p cal ea st with
 | exc x st1 => rw [e1] at q; exact (show False from q).elim
 | stk => rw [e1] at q; exact (show False from q).elim
 | ok y st1 =>
 rw [e1] at q
 intro u H1 c1 S1 h1 ru
 refine ⟨c1, st1, h1, ?_⟩
 cases e2 : evE p cal eb st1 with
 | exc x st2 => rw [bind_ok, e2] at q; exact (show False from q).elim
 | stk => rw [bind_ok, e2] at q; exact (show False from q).elim
 | ok z st2 =>
 rw [bind_ok, e2, bind_ok] at q
 cases oz : okv z with
 | false => rw [oz] at q; exact (show False from q).elim
 | true =>
 cases ek : kyOf y with
 | none => rw [oz, ek] at q; exact (show False from q).elim
 | some kq =>
 rw [oz, ek] at q
 have q : PostF T Wx c σ H (.ok (.dct [kq] [z]) st2) Q := q
 intro zz H2 c2 S2 h2 rz
 have S' := S1.trans S2
 have hou : c2.ou = (c.opn D).ou := S'.ou
 have hcD : (c.opn D).ou D := .inr rfl
 have hd2 : H2 D = some (.dK []) := S'.fr D _ upd_same rfl (h0.ou D hcD)
 have D2 : c2.ou D := by rw [hou]; exact hcD
 have ek' : kyOf (vw st1 y) = some kq := by
  unfold kyOf at ek
  split at ek <;> first | (cases ek; done) | exact ek
 have rkey := key_of ek' (rvv h1 ru)
 refine ⟨hd2, [(kS kq, zz)], by rw [rkey]; rfl, by simp, ?_⟩
 have K2 : ∀ ys u, H2 D = some u → isIns D (.dK ys) = isIns D u := fun ys u e => by rw [hd2] at e; cases e; rfl
 have e3 : mergeK [] [(kS kq, zz)] = [(kS kq, zz)] := rfl
 rw [e3]
 have hb : RSt T c2 st2 σ (upd H2 D (.dK [(kS kq, zz)])) := h2.wrt D2 (K2 _)
 have hs : RSt T (c2.shut c.ou) st2 σ (upd H2 D (.dK [(kS kq, zz)])) := RSt.shut hb (ou := c.ou) fun a z => by rw [hou]; exact .inl z
 have ra : RWs T c2.lv c2.nf (upd H2 D (.dK [(kS kq, zz)])) [z] [zz] := RWs.wrt h2 D2 (K2 _) (RWs.cons (RV.rw rz oz) RWs.nil)
 refine q (.ref D) _ (c2.shut c.ou) (stp_next (stp_open hD) S' hD rfl) hs ?_ fun _ a e => ?_
 ·show RW T _ _ _ (.dct [kq] [z]) (.ref D)
  simp only [RW]
  refine ⟨D, [zz], rfl, upd_same, fun z => ?_, rfl, ra.mono (mn_shut fun a z => by rw [hou]; exact .inl z)⟩
  rcases z with z | z
  ·exact hb.ou D D2 z
  ·obtain ⟨u, eu, _⟩ := h.ouh D z
   rw [hD] at eu; cases eu
 ·cases e
  exact ⟨tn_none hD, opn_shut hou ▸ hb, opn_shut hou ▸ ⟨[zz], upd_same, rfl, ra⟩⟩
end
end Ev
namespace L2
open PySem PySem.Spec PyProof.Rows
section
variable {X : Cx} {a : Expr} {ta : TE}
def kLstS (x : V) (H : Hp) (Q : VK) : Prop := ∃ a : Str, x = .str a ∧ a.cps.size ≤ sizeLine ∧ ∀ q, H q = none → Q (.ref q) (upd H q (.lst (a.cps.toList.map fun c => V.str ⟨#[c]⟩)))
theorem rl_listS (hc : X.calm = true) (pins : List (Addr × Obj)) (s : Shared) (σ : St) (H : Hp) (x : V) (v : Value) (Q : VK) (I : Inv X pins σ H s) (r : RelV x v) (h : kLstS x H Q) :
  wpAny (model X.prog X.w) X.A (call (.type "list") [v]) (EP X pins σ Q) X.xe s := by
 obtain ⟨b, rfl, hz, q⟩ := h
 obtain ⟨t, rfl⟩ := r
 refine call_list_str (I.ok.hd hc) b t (fun h' tk acc c' hk e hi => ?_) hz
 refine ⟨.ref s.heap.objs.size, upd H s.heap.objs.size (.lst (b.cps.toList.map fun c => V.str ⟨#[c]⟩)), I.laid hk (Nat.le_refl _) ⟨by rw [List.length_map, Array.length_toList]; exact hz, acc.toList, c', ?_, by rw [Array.toArray_toList]; exact e⟩, rfl, q _ (I.hok.fresh (Nat.le_refl _))⟩
 refine vals_of_idx _ _ (by rw [List.length_map, Array.length_toList, Array.length_toList]; exact hi.1) fun j u hj => ?_
 obtain ⟨c, t', hc, rfl⟩ := hi.2 j u (by rw [← Array.getElem?_toList]; exact hj)
 exact ⟨.str ⟨#[c]⟩, by simp [hc], ⟨_, rfl⟩⟩
theorem pe_listOfS {p pos : Pos} (hc : X.calm = true) (hg : Gl X "list") (hm : X.mg "list" = none) (ha : PE X a ta) (na : starEach [a] X.env = (false, eval a X.env) :: starEach [] X.env := by rfl) :
  PE X (.Call (.Name "list" p) [a] [] pos) (tThenZ ta kLstS) := pe_callTy (call_r1 (rl_listS hc)) hg hm (by decide +kernel) (pa_cons ha pa_nil na) (he := na)
end
end L2
namespace Ev
open PySem PySem.Spec PyProof.Rows L2 Calls
section
variable {T : Tb} {X : Cx} {Wx : WX} {p : Pg} {cal : Bool → Nat → List W → List OO → RC} {k : Nat}
theorem se_lss (O : XO T p X Wx k cal) {np pos : Pos} {a : Expr} {ea : E} (hg : Gl X "list") (hm : X.mg "list" = none) (hs : notStar a = true) (ha : SE T X Wx a (evE p cal ea)) : SE T X Wx (.Call (.Name "list" np) [a] [] pos) (evE p cal (.lss ea)) := by
 have hst : starEach [a] X.env = (false, eval a X.env) :: starEach [] X.env := by
  cases a <;> first | rfl | cases hs
 refine PE.imp (pe_listOfS O.calm hg hm ha hst) fun σ H Q ⟨c, st, h, q⟩ => ?_
 simp only [evE] at q
 refine ⟨c, st, h, (Post.bind (rel := relV T σ) q).mono fun v H1 ⟨c1, st1, w, S1, h1, r1, q1⟩ => ?_⟩
 obtain ⟨w', e, q3⟩ := lift_some q1
 cases w <;> first | (simp [lssW] at e; done) | skip
 rename_i x
 obtain ⟨ev, hx⟩ : v = .str (tS x) ∧ tOk x = true := r1
 subst ev
 simp only [lssW] at e
 split at e
 ·rename_i hl
  cases e
  refine ⟨tS x, rfl, ?_, fun q hq => ?_⟩
  ·show (tS x).length ≤ _
   rw [SX.S_len, ← line_eq]; exact hl
  ·have ok : ∀ z ∈ x.map fun c => [c], tOk z = true := fun z hz => by
    obtain ⟨c, hc, rfl⟩ := List.mem_map.mp hz
    exact tOk_iff.mpr fun d hd => by rw [List.mem_singleton.mp hd]; exact tOk_iff.mp hx c hc
   refine q3 _ _ _ (Stp.grow hq) (h1.grow hq) ?_
   show RW T c1.lv c1.nf _ (.lst _) (.ref q)
   simp only [RW]
   refine ⟨q, _, rfl, upd_same, h1.new hq, ?_⟩
   have := strs_rws (T := T) (lv := c1.lv) (nf := c1.nf) (H := upd H1 q (.lst ((tS x).cps.toList.map fun c => V.str ⟨#[c]⟩))) (x.map fun c => [c]) ok
   have e1 : ((x.map fun c => [c]).map tS).map V.str = (tS x).cps.toList.map fun c => V.str ⟨#[c]⟩ := by
    rw [List.map_map, List.map_map]; rfl
   rw [e1] at this
   exact this
 ·cases e
end
end Ev
namespace Ev
open PySem PySem.Spec PyProof.Rows L2 Calls ClX RZ
theorem callWith_typeK {M : Model} {A : Around} {E : Value → Shared → Prop} {s : Shared} {env : Env} {pos : Pos} {T : String} {e : Expr} {rest : List Expr} {kws : List Keyword} {Q : Value → Shared → Prop}
   (h : wpAny M A (spliced (backTo pos (starEach (e :: rest) env))) (fun vs s₁ => wpAny M A (evalAll ((backToKw pos (keywordEach kws env)).map (·.2)))
     (fun kvs s₂ => wpAny M A (call (.type T) vs (((backToKw pos (keywordEach kws env)).filterMap (·.1)).zip kvs)) Q E s₂) E s₁) E s)
   (he : starEach (e :: rest) env = (false, eval e env) :: starEach rest env)
   (hplain : (backTo pos (starEach rest env)).any (·.1) = false)
   (hall : (backToKw pos (keywordEach kws env)).all (·.1.isSome) = true)
   (hkw : (backToKw pos (keywordEach kws env)).any (·.1.isNone) = false) :
   wpAny M A (callWith pos (.type T) [] (backTo pos (starEach (e :: rest) env)) (backToKw pos (keywordEach kws env))) Q E s := by
 have he2 : backTo pos (starEach (e :: rest) env) = (false, eval e env) :: backTo pos (starEach rest env) := by rw [he]; rfl
 rw [he2] at h ⊢
 have hp : ((false, eval e env) :: backTo pos (starEach rest env)).any (·.1) = false := by
   show (false || (backTo pos (starEach rest env)).any (·.1)) = false
   rw [hplain]; rfl
 unfold callWith
 refine wpAny_bind (wpAny_holding (wpAny_mono (evalArgs_kwB (Q := fun a s₁ => wpAny M A (call (.type T) ([] ++ a.pos) a.kw) Q E s₁) hall h) (fun a s₁ h₁ => wpAny_bind (wpAny_standAt ?_)) fun _ _ x => x))
 simp only [hp, hkw, Bool.or_false]
 refine wpAny_bind (wpAny_pure ?_)
 exact wpAny_bind (wpAny_mono h₁ (fun r s₂ hr => wpAny_bind (wpAny_holding (wpAny_point (wpAny_pure hr)))) fun _ _ x => x)
def IteK (K : PySem.W.Frag) (tp : Bool) (k : Int) (a : Addr) : It :=
 ⟨fun i H => ∃ (xs : List V) (x : V), (if tp then SqT K H a xs else SqL K H a xs) ∧ xs[i]? = some x, fun i H v H' => ∃ T x, v = .ref T ∧ H T = none ∧ H' = upd H T (.tup [.int (k + (i : Nat)), x]) ∧ ∀ xs, (if tp then SqT K H a xs else SqL K H a xs) → xs[i]? = some x, fun i H => ∃ xs : List V, (if tp then SqT K H a xs else SqL K H a xs) ∧ xs.length ≤ i⟩
theorem turn_enumKT {P : Program} {w : World} {K : PySem.W.Frag} {elts : List Expr} {kk : Nat} {tpos : Pos} (k0 : Int) (a e it : Addr) (hai : a ≠ it) (hae : a ≠ e) :
  Turn P w K (.Tuple elts kk tpos) (IteK K true k0 a) [e, it] e (fun i h => (∃ old, IsEnum h e it (k0 + ((i : Nat) : Int)) old) ∧ h.IsTupleIter it a i ∧ e ≠ it) where
 mem := by simp
 obj := fun i h st b hb => by
  obtain ⟨⟨old, he⟩, ⟨o, ho, hc, hd⟩, _⟩ := st
  have e' : b = e ∨ b = it := by simpa using hb
  rcases e' with z | z
  ·rw [z]; exact ⟨_, he, fun v q => nomatch q⟩
  ·rw [z]; exact ⟨o, ho, fun v q => by rw [hd] at q; cases q⟩
 keep := fun i h h' st k => let ⟨⟨old, he⟩, hi, hne⟩ := st; ⟨⟨old, k e (by simp) _ he⟩, hi.at fun o q => k it (by simp) o q, hne⟩
 item := by
  intro X hP hw hK hc i pins s σ H E I hf st hg
  subst hP hw hK
  obtain ⟨⟨old, he⟩, hit, hne⟩ := st
  obtain ⟨xs, x, hq, hx⟩ := hg
  have hq : SqT X.K H a xs := hq
  obtain ⟨its, rv, p, hz⟩ := I.tuple hq
  obtain ⟨u, hu, ru⟩ := rv.get hx
  have hel : e < s.heap.objs.size := Heap.lt_size he
  have hil : it < s.heap.objs.size := by obtain ⟨_, q, _⟩ := hit; exact Heap.lt_size q
  have hlt : i < its.toArray.size := by
   have := (List.getElem?_eq_some_iff.mp hu).1
   simpa using this
  refine wpAny_pyNext_enum_itemC (draws_tuple (A := X.A.in1) (I.ok.hd hc) it a hai its.toArray) he ⟨hit, (show s.heap.IsTuple a its.toArray from p)⟩ hlt hne (by simp; exact ⟨hne, Ne.symm hae⟩) fun u' h' tk hu' ho hit' hT hsz hk => ?_
  obtain rfl : u = u' := by
   have : its[i]? = some u' := by simpa using hu'
   rw [hu] at this; exact Option.some.inj this
  refine ⟨_, rfl, wpAny_letOwnedTupleGo_enum (s := { s with heap := h', toks := tk + 1 }) ho fun h'' he' sb => ?_⟩
  have hT2 : h''.get? s.heap.objs.size = some { cls := .type "tuple", data := .seq #[.int (k0 + (i : Nat)) tk, u] } := (sb.2 _ (Nat.ne_of_gt hel)).trans hT
  have new : ObjOk X.prog X.w (upd H s.heap.objs.size (.tup [.int (k0 + (i : Nat)), x])) h'' s.heap.objs.size (.tup [.int (k0 + (i : Nat)), x]) :=
   ⟨by show 2 ≤ sizeLine; decide, [.int (k0 + (i : Nat)) tk, u], .cons ⟨_, rfl⟩ (.cons ru .nil), ⟨_, hT2, rfl, _, rfl⟩⟩
  have I1 : Inv X pins σ (upd H s.heap.objs.size (.tup [.int (k0 + (i : Nat)), x])) { s with heap := h'', toks := tk + 1 } :=
   I.turnedNew (ch := [e, it]) (fun b ob hb q => (sb.2 b (fun z => hb (by simp [z]))).trans (hk b ob (fun z => hb (by simp [z])) (fun z => hb (by simp [z])) q)) hf (Nat.le_refl _) new
  refine ⟨.ref s.heap.objs.size, _, I1, rfl, ⟨_, x, rfl, I.hok.fresh (Nat.le_refl _), rfl, fun ys hy => by rw [I.tuple_inj (show SqT X.K H a ys from hy) hq]; exact hx⟩, ⟨⟨u, ?_⟩, hit'.1.at fun o q => (sb.2 it (Ne.symm hne)).trans q, hne⟩, fun b hb => ?_⟩
  ·have e1 : k0 + ((i + 1 : Nat) : Int) = k0 + (i : Int) + 1 := by omega
   rw [e1]; exact he'
  ·have hb' : b < s.heap.objs.size := by
    have e' : b = e ∨ b = it := by simpa using hb
    rcases e' with z | z
    ·rw [z]; exact hel
    ·rw [z]; exact hil
   rw [upd_ne (Nat.ne_of_lt hb')]
   exact (hf b hb).1
 done := by
  intro X hP hw hK hc i pins s σ H E I hf st hg
  subst hP hw hK
  obtain ⟨⟨old, he⟩, hit, hne⟩ := st
  obtain ⟨xs, hq, hx⟩ := hg
  obtain ⟨its, rv, p, hz⟩ := I.tuple (show SqT X.K H a xs from hq)
  obtain ⟨f0, f1, f2, f3, f4, f5⟩ := hf it (by simp)
  have hl := rv.length
  exact pyNext_enum_endT (I.ok.hd hc) he hit (show s.heap.IsTuple a its.toArray from p) (by simp; omega) fun h' eb => ⟨rfl, I.turned (t' := s.toks) (fun b o hb q => eb b o hb q) f0 f1 f3 f4 f5⟩
 self := fun A i s Q E st h => let ⟨⟨_, he⟩, _⟩ := st; wpAny_pyIter_enum he h
theorem draws_listE {prog : Program} {w : World} {A : Around} (hh : A.handled = none) (it l : Addr) (hne : l ≠ it) (items : Array Value) :
  Draws prog w A it [it, l] items.size (fun i x => items[i]? = some x) (fun i h => h.IsListIter it l i ∧ h.IsList l items) where
 live := fun i h st => let ⟨⟨o, ho, _⟩, _⟩ := st; ⟨o, ho⟩
 frame := fun i h h' st k => ⟨st.1.at fun o q => k it (by simp) o q, by
  obtain ⟨o, ho, hc, hd⟩ := st.2
  exact ⟨o, k l (by simp) o ho, hc, hd⟩⟩
 item := fun i s Q E hi st hQ => by
  have hx : items[i]? = some items[i] := by simp [hi]
  refine wpAny_nextOf_list_item st.1 st.2 hx fun h' hit' sb => hQ _ h' s.toks hx ⟨hit', ?_⟩ sb
  obtain ⟨o, ho, hc, hd⟩ := st.2
  exact ⟨o, (sb.2 l hne).trans ho, hc, hd⟩
 done := fun s Q E st hE => wpAny_nextOf_list_end hh st.1 st.2 (by simp) hE
theorem pyNext_enum_endL {prog : Program} {w : World} {A : Around} {E : Value → Shared → Prop} {s : Shared} {e it l : Addr} {items : Array Value} {k : Nat} {i : Int} {old : Value} {Q : Option Value → Shared → Prop} (hh : A.handled = none)
  (he : IsEnum s.heap e it i old) (hit : s.heap.IsListIter it l k) (hl : s.heap.IsList l items) (hx : items[k]? = none)
  (hQ : ∀ h', Heap.ExtBut it s.heap h' → Q none { s with heap := h' }) : wpAny (model prog w) A (pyNext (.ref e)) Q E s := by
 have hT : s.TypeIs (.ref e) "enumerate" := ⟨_, he, rfl⟩
 unfold pyNext
 refine wpAny_bind (wpAny_attempt (wpAny_callSpecial?_slot (name := Str.ofString "__next__") hT F.slot_enumerate_next
  (wpAny_call_entry F.slot_enumerate_next hT F.entry_enumerate_next ?_ (F.args_enumerate_next_1 _))))
 show wpAny _ _ (field (.ref e) 2 >>= _) _ _ _
 refine wpAny_bind (wpAny_field he rfl (x := .ref it) rfl ?_)
 refine wpAny_bind (wpAny_nextOf_list_end (A := A.in1) hh hit hl hx fun h' x he' hx' => ?_)
 obtain ⟨o, ho, hc⟩ := hx'
 refine wpAny_bind (wpAny_isInstance (T := "StopIteration") (b := true) ⟨o, ho, hc⟩ isSubtype_stop ?_)
 exact wpAny_pure (hQ _ he')
theorem turn_enumKL {P : Program} {w : World} {K : PySem.W.Frag} {elts : List Expr} {kk : Nat} {tpos : Pos} (k0 : Int) (a e it : Addr) (hai : a ≠ it) (hae : a ≠ e) :
  Turn P w K (.Tuple elts kk tpos) (IteK K false k0 a) [e, it] e (fun i h => (∃ old, IsEnum h e it (k0 + ((i : Nat) : Int)) old) ∧ h.IsListIter it a i ∧ e ≠ it) where
 mem := by simp
 obj := fun i h st b hb => by
  obtain ⟨⟨old, he⟩, ⟨o, ho, hc, hd⟩, _⟩ := st
  have e' : b = e ∨ b = it := by simpa using hb
  rcases e' with z | z
  ·rw [z]; exact ⟨_, he, fun v q => nomatch q⟩
  ·rw [z]; exact ⟨o, ho, fun v q => by rw [hd] at q; cases q⟩
 keep := fun i h h' st k => let ⟨⟨old, he⟩, hi, hne⟩ := st; ⟨⟨old, k e (by simp) _ he⟩, hi.at fun o q => k it (by simp) o q, hne⟩
 item := by
  intro X hP hw hK hc i pins s σ H E I hf st hg
  subst hP hw hK
  obtain ⟨⟨old, he⟩, hit, hne⟩ := st
  obtain ⟨xs, x, hq, hx⟩ := hg
  have hq : SqL X.K H a xs := hq
  obtain ⟨its, rv, p, hz⟩ := I.list hq
  obtain ⟨u, hu, ru⟩ := rv.get hx
  have hel : e < s.heap.objs.size := Heap.lt_size he
  have hil : it < s.heap.objs.size := by obtain ⟨_, q, _⟩ := hit; exact Heap.lt_size q
  have hlt : i < its.toArray.size := by
   have := (List.getElem?_eq_some_iff.mp hu).1
   simpa using this
  refine wpAny_pyNext_enum_itemC (draws_listE (A := X.A.in1) (I.ok.hd hc) it a hai its.toArray) he ⟨hit, (show s.heap.IsList a its.toArray from p.isList)⟩ hlt hne (by simp; exact ⟨hne, Ne.symm hae⟩) fun u' h' tk hu' ho hit' hT hsz hk => ?_
  obtain rfl : u = u' := by
   have : its[i]? = some u' := by simpa using hu'
   rw [hu] at this; exact Option.some.inj this
  refine ⟨_, rfl, wpAny_letOwnedTupleGo_enum (s := { s with heap := h', toks := tk + 1 }) ho fun h'' he' sb => ?_⟩
  have hT2 : h''.get? s.heap.objs.size = some { cls := .type "tuple", data := .seq #[.int (k0 + (i : Nat)) tk, u] } := (sb.2 _ (Nat.ne_of_gt hel)).trans hT
  have new : ObjOk X.prog X.w (upd H s.heap.objs.size (.tup [.int (k0 + (i : Nat)), x])) h'' s.heap.objs.size (.tup [.int (k0 + (i : Nat)), x]) :=
   ⟨by show 2 ≤ sizeLine; decide, [.int (k0 + (i : Nat)) tk, u], .cons ⟨_, rfl⟩ (.cons ru .nil), ⟨_, hT2, rfl, _, rfl⟩⟩
  have I1 : Inv X pins σ (upd H s.heap.objs.size (.tup [.int (k0 + (i : Nat)), x])) { s with heap := h'', toks := tk + 1 } :=
   I.turnedNew (ch := [e, it]) (fun b ob hb q => (sb.2 b (fun z => hb (by simp [z]))).trans (hk b ob (fun z => hb (by simp [z])) (fun z => hb (by simp [z])) q)) hf (Nat.le_refl _) new
  refine ⟨.ref s.heap.objs.size, _, I1, rfl, ⟨_, x, rfl, I.hok.fresh (Nat.le_refl _), rfl, fun ys hy => by rw [I.list_inj (show SqL X.K H a ys from hy) hq]; exact hx⟩, ⟨⟨u, ?_⟩, hit'.1.at fun o q => (sb.2 it (Ne.symm hne)).trans q, hne⟩, fun b hb => ?_⟩
  ·have e1 : k0 + ((i + 1 : Nat) : Int) = k0 + (i : Int) + 1 := by omega
   rw [e1]; exact he'
  ·have hb' : b < s.heap.objs.size := by
    have e' : b = e ∨ b = it := by simpa using hb
    rcases e' with z | z
    ·rw [z]; exact hel
    ·rw [z]; exact hil
   rw [upd_ne (Nat.ne_of_lt hb')]
   exact (hf b hb).1
 done := by
  intro X hP hw hK hc i pins s σ H E I hf st hg
  subst hP hw hK
  obtain ⟨⟨old, he⟩, hit, hne⟩ := st
  obtain ⟨xs, hq, hx⟩ := hg
  obtain ⟨its, rv, p, hz⟩ := I.list (show SqL X.K H a xs from hq)
  obtain ⟨f0, f1, f2, f3, f4, f5⟩ := hf it (by simp)
  have hl := rv.length
  exact pyNext_enum_endL (I.ok.hd hc) he hit (show s.heap.IsList a its.toArray from p.isList) (by simp; omega) fun h' eb => ⟨rfl, I.turned (t' := s.toks) (fun b o hb q => eb b o hb q) f0 f1 f3 f4 f5⟩
 self := fun A i s Q E st h => let ⟨⟨_, he⟩, _⟩ := st; wpAny_pyIter_enum he h
section
variable {T : Tb} {X : Cx} {Wx : WX} {p : Pg} {cal : Bool → Nat → List W → List OO → RC} {c : Cf} {st : St} {σ : L2.St} {H : Hp} {pins : List (Addr × Obj)} {s : Shared} {k wf : Nat}
variable {a b d e tg : Expr} {ea eb ed : E} {pos : Pos}
theorem wk_enukT (hK : T.K = X.K) {xs : List W} {aa : Addr} {k0 : Int} (r : RW T c.lv c.nf H (.tup xs) (.ref aa)) : Wk T c H (.enk k0 (.tup xs)) (IteK X.K true k0 aa) := fun c1 st1 σ1 H1 i S h1 => by
 have r1 := r.mono S
 obtain ⟨_, vs, e1, g1, g2⟩ : ∃ a vs, V.ref aa = .ref a ∧ CT T.K c1.nf H1 a vs ∧ RWs T c1.lv c1.nf H1 xs vs := by simpa [RW] using r1
 cases e1
 refine ⟨fun e => ?_, fun w' e => ?_⟩
 ·have e2 : xs[i]? = none := by simpa [Src.at, wkOf, seqOf, okv] using e
  exact ⟨vs, CT.sq g1 hK, by rw [← g2.len]; exact List.getElem?_eq_none_iff.mp e2⟩
 ·have e2 : ∃ x, xs[i]? = some x ∧ W.tup [.int (k0 + (i : Int)), x] = w' := by
   simp only [Src.at, wkOf, okv, if_true, seqOf, Option.map_some, Option.some.injEq, Option.map_eq_some_iff] at e
   exact e
  obtain ⟨x, e2, rfl⟩ := e2
  obtain ⟨v, g3, g4⟩ := g2.get e2
  refine ⟨⟨vs, v, CT.sq g1 hK, g3⟩, ?_⟩
  rintro v' H' ⟨q, x', rfl, hq, rfl, hy⟩
  have := hy vs (CT.sq g1 hK)
  rw [g3] at this; cases this
  exact new_pair (x := .int (k0 + (i : Int))) h1 hq rfl g4
theorem wk_enukL {w : W} {aa : Addr} {k0 : Int} (r : RW T c.lv c.nf H w (.ref aa)) (ht : ∀ xs, w ≠ .tup xs) : Wk T c H (.enk k0 w) (IteK X.K false k0 aa) := fun c1 st1 σ1 H1 i S h1 => by
 have r1 := r.mono S
 have get : ∀ xs, wkOf st1 w = some xs → ∃ vs, H1 aa = some (.lst vs) ∧ RWs T c1.lv c1.nf H1 xs vs := fun xs e => by
  obtain ⟨a', vs, e1, e2, e3⟩ := wk_ok h1 r1 e
  cases e1
  rcases e2 with ⟨e2, _⟩ | ⟨_, e2⟩
  ·exact ⟨vs, e2, e3⟩
  ·exact (ht xs e2).elim
 refine ⟨fun e => ?_, fun w' e => ?_⟩
 ·simp only [Src.at, Option.map_eq_some_iff, Option.map_eq_none_iff] at e
  obtain ⟨xs, e1, e2⟩ := e
  obtain ⟨vs, g1, g2⟩ := get xs e1
  exact ⟨vs, SqL.of g1, by rw [← g2.len]; exact List.getElem?_eq_none_iff.mp e2⟩
 ·simp only [Src.at, Option.map_eq_some_iff] at e
  obtain ⟨xs, e1, x, e2, e3⟩ := e
  subst e3
  obtain ⟨vs, g1, g2⟩ := get xs e1
  obtain ⟨v, g3, g4⟩ := g2.get e2
  refine ⟨⟨vs, v, SqL.of g1, g3⟩, ?_⟩
  rintro v' H' ⟨q, x', rfl, hq, rfl, hy⟩
  have := hy vs (SqL.of g1)
  rw [g3] at this; cases this
  exact new_pair (x := .int (k0 + (i : Int))) h1 hq rfl g4
theorem si_enuk (hK : T.K = X.K) {elts : List Expr} {kk j2 : Nat} {tpos np kp cp : Pos} {j : Int} (hg : Gl X "enumerate") (hm : X.mg "enumerate" = none) (hs : notStar a = true) (ha : SE T X Wx a (evE p cal ea)) :
  SI T X Wx (.Tuple elts kk tpos) (.Call (.Name "enumerate" np) [a] [⟨some "start", .Constant (.int j) j2 cp, kp⟩] pos) (evI p cal (.enu ea (some (.cst (.int j))))) :=
 ⟨fun pins s σ H R I ⟨c, st, h, q⟩ => by
  simp only [evI] at q
  have hA : SA T X Wx [a] (evEs p cal [ea]) := sa_cons ha sa_nil (star_ok hs)
  have q' : Post T Wx (relI T (.Tuple elts kk tpos)) c σ H ((evEs p cal [ea] st).bind fun ws st1 => match ws with
   | [w] => if (wkOf st1 w).isSome && (decide (-(2 ^ 62) ≤ j) && decide (j < 2 ^ 62)) then .ok (.enk j w) st1 else .stk
   | _ => .stk) R := by
   simp only [evEs]
   revert q
   cases evE p cal ea st <;> exact fun q => q
  refine wpAny_Call_Name_kw (ld_blt I hg hm boot_enumerate (callWith_typeK (thn (hA.run pos pins s σ H _ I (oneA h q')) ?_) (star_ok hs) rfl rfl rfl))
  rintro us s0 ⟨vs, H1, I0, rv, c, st, ws, h, ra, q⟩
  refine kws_cons (thn ((pe_int (X := X) (i := j) (j := j2) (pos := cp)).run pins s0 σ H1 (fun v H' => v = .int j ∧ H1 = H') I0 ⟨rfl, rfl⟩) ?_)
  rintro uk s1 ⟨vk, Hk, I1, rk, rfl, rfl⟩
  obtain ⟨tk, rfl⟩ := (show ∃ t, uk = Value.int j t from rk)
  refine kws_nil ?_
  match ws, ra, q with
  | [w], ra, q =>
   obtain ⟨v, rfl, r⟩ := relA_one ra
   obtain ⟨u, rfl, ru⟩ := Vals.one rv
   cases e : wkOf st w with
   | none => simp only [e] at q; exact (show False from q).elim
   | some xs =>
   cases ej : (decide (-(2 ^ 62) ≤ j) && decide (j < 2 ^ 62)) with
   | false => simp only [e, ej] at q; exact (show False from q).elim
   | true =>
   simp only [e, ej, Option.isSome_some, Bool.and_true, if_true] at q
   simp only [Bool.and_eq_true, decide_eq_true_eq] at ej
   have ho : okv w = true := by
    cases hk : okv w with
    | true => rfl
    | false => simp [wkOf, hk] at e
   have r' := r.rw ho
   obtain ⟨aa, ys, e1, e2, e3⟩ := wk_ok h r' e
   subst e1
   cases ru
   have fp : ∀ b, b ∈ [s1.heap.objs.size + 1, s1.heap.objs.size] → FpOk X pins H1 b := fun b hb => by
    have e' : b = s1.heap.objs.size + 1 ∨ b = s1.heap.objs.size := by simpa using hb
    have hle : s1.heap.objs.size ≤ b := by rcases e' with z | z <;> omega
    exact I1.fpOk hle (I1.hok.fresh hle)
   rcases e2 with ⟨e2, e4⟩ | ⟨e2, e4⟩
   ·obtain ⟨its, rv', p', hz⟩ := I1.list (SqL.of e2)
    have la : aa < s1.heap.objs.size := by
     obtain ⟨o, ho, _⟩ := p'.isList
     exact Heap.lt_size ho
    refine enum_begins_start (begins_list aa its.toArray) (H := fun h => h.IsList aa its.toArray) p'.isList (by omega) (by omega) fun h' he hit hsz hk => wpAny_pyIter_enum he ?_
    have I2 : Inv X pins σ H1 { s1 with heap := h' } := I1.kept (t' := _) hk
    refine ⟨s1.heap.objs.size + 1, [s1.heap.objs.size + 1, s1.heap.objs.size], _, _, H1, rfl, I2, turn_enumKL j aa (s1.heap.objs.size + 1) s1.heap.objs.size (Nat.ne_of_lt la) (Nat.ne_of_lt (Nat.lt_succ_of_lt la)), ⟨⟨.none, by simpa using he⟩, ⟨_, hit, rfl, rfl⟩, Nat.succ_ne_self _⟩, fp, Post.ret q h ⟨wk_enukL r' fun ys hy => ?_, fun _ => rfl⟩⟩
    subst hy
    simp [lstOf, look] at e4
   ·subst e4
    obtain ⟨its, rv', p', hz⟩ := I1.tuple (CT.sq e2 hK)
    have la : aa < s1.heap.objs.size := by
     obtain ⟨o, ho, _⟩ := (show s1.heap.IsTuple aa its.toArray from p')
     exact Heap.lt_size ho
    refine enum_begins_start (begins_tuple aa its.toArray) (H := fun h => h.IsTuple aa its.toArray) (show s1.heap.IsTuple aa its.toArray from p') (by omega) (by omega) fun h' he hit hsz hk => wpAny_pyIter_enum he ?_
    have I2 : Inv X pins σ H1 { s1 with heap := h' } := I1.kept (t' := _) hk
    exact ⟨s1.heap.objs.size + 1, [s1.heap.objs.size + 1, s1.heap.objs.size], _, _, H1, rfl, I2, turn_enumKT j aa (s1.heap.objs.size + 1) s1.heap.objs.size (Nat.ne_of_lt la) (Nat.ne_of_lt (Nat.lt_succ_of_lt la)), ⟨⟨.none, by simpa using he⟩, ⟨_, hit, rfl, rfl⟩, Nat.succ_ne_self _⟩, fp, Post.ret q h ⟨wk_enukT hK r', fun _ => rfl⟩⟩
  | [], ra, q => exact (show False from q).elim
  | _ :: _ :: _, ra, q => exact (show False from q).elim⟩
theorem ss_tri {body : List Stmt} {h0 : ExceptHandler} {hs : List ExceptHandler} {us : List S} (hb : SSs T X.nox F0 body (exSs p cal wf us)) : SS T X Wx (.Try body (h0 :: hs) [] [] pos) (exS p cal wf (.tri us)) := by
 refine PS.imp (ps_try_thru0 hb) fun D σ H ⟨c, st, h, q⟩ => ⟨c, st, h, ?_⟩
 rw [exS] at q
 cases e : exSs p cal wf us st with
 | ok f st1 =>
  rw [e] at q
  cases f <;> exact q
 | exc x st1 => rw [e] at q; exact (show False from q).elim
 | stk => rw [e] at q; exact (show False from q).elim
end
end Ev
namespace Ev
open PySem PySem.Spec PyProof.Rows L2 Calls
section
variable {α : Type} [DecidableEq α]
theorem ded_mem {y : α} : ∀ (xs acc : List α), y ∈ xs.foldl (fun acc x => if x ∈ acc then acc else acc ++ [x]) acc ↔ y ∈ acc ∨ y ∈ xs
 | [], acc => by simp
 | x :: xs, acc => by
  rw [List.foldl_cons, ded_mem xs]
  by_cases h : x ∈ acc
  ·rw [if_pos h]
   constructor
   ·exact fun z => z.imp id (List.mem_cons_of_mem _)
   ·rintro (z | z)
    ·exact .inl z
    ·rcases List.mem_cons.mp z with rfl | z
     ·exact .inl h
     ·exact .inr z
  ·rw [if_neg h, List.mem_append, List.mem_singleton, List.mem_cons]
   constructor
   ·rintro ((z | z) | z)
    ·exact .inl z
    ·exact .inr (.inl z)
    ·exact .inr (.inr z)
   ·rintro (z | z | z)
    ·exact .inl (.inl z)
    ·exact .inl (.inr z)
    ·exact .inr z
theorem ded_snoc {xs : List α} {x : α} : dedL (xs ++ [x]) = if x ∈ xs then dedL xs else dedL xs ++ [x] := by
 unfold dedL
 rw [List.foldl_append, List.foldl_cons, List.foldl_nil]
 have m := ded_mem (y := x) xs []
 by_cases h : x ∈ xs
 ·rw [if_pos h, if_pos (m.mpr (.inr h))]
 ·rw [if_neg h, if_neg fun z => by simpa [h] using m.mp z]
theorem ded_le : ∀ (xs acc : List α), (xs.foldl (fun acc x => if x ∈ acc then acc else acc ++ [x]) acc).length ≤ acc.length + xs.length
 | [], acc => by simp
 | x :: xs, acc => by
  rw [List.foldl_cons]
  have h := ded_le xs (if x ∈ acc then acc else acc ++ [x])
  have : (if x ∈ acc then acc else acc ++ [x]).length ≤ acc.length + 1 := by
   split
   ·omega
   ·simp
  rw [List.length_cons]
  omega
end
theorem ded_map {α β : Type} [DecidableEq α] [DecidableEq β] {f : α → β} (inj : ∀ a b, f a = f b → a = b) : ∀ (xs acc : List α), (xs.map f).foldl (fun acc x => if x ∈ acc then acc else acc ++ [x]) (acc.map f) = (xs.foldl (fun acc x => if x ∈ acc then acc else acc ++ [x]) acc).map f
 | [], acc => rfl
 | x :: xs, acc => by
  rw [List.map_cons, List.foldl_cons, List.foldl_cons, ← ded_map inj xs]
  have e : f x ∈ acc.map f ↔ x ∈ acc := ⟨fun h => by
   obtain ⟨y, hy, z⟩ := List.mem_map.mp h
   rw [← inj _ _ z]; exact hy, List.mem_map_of_mem⟩
  by_cases h : x ∈ acc
  ·rw [if_pos h, if_pos (e.mpr h)]
  ·rw [if_neg h, if_neg fun z => h (e.mp z), List.map_append]; rfl
section
variable {prog : Program} {w : World} {A : Around} {R : Result → Shared → Prop} {I : Addr} {fp wr : List Addr} {G : Array GenState → Array GenState → Prop} {n : Nat} {P : Nat → Value → Prop} {St : Nat → Shared → Prop}
abbrev HasT (prog : Program) (w : World) (xs : List Str) (S : Addr) (i : Nat) (h : Heap) : Prop := h.SetOf (PySem.strKind prog w) S (fun k => (xs.take i).any (· == k)) (dedL (xs.take i)).length
theorem hasT_keep {xs : List Str} {S : Addr} {i : Nat} {h h' : Heap} (z : HasT prog w xs S i h) (k : ∀ o, h.get? S = some o → h'.get? S = some o) : HasT prog w xs S i h' := by
 obtain ⟨o, es, ep, t, ho, rest⟩ := z
 exact ⟨o, es, ep, t, k _ ho, rest⟩
theorem hasT_next {xs : List Str} {S : Addr} {i : Nat} {h : Heap} {x : Str} (hx : xs[i]? = some x) (z : h.SetOf (PySem.strKind prog w) S (fun k => (xs.take i).any (· == k) || decide (k = x)) (if (xs.take i).any (· == x) then (dedL (xs.take i)).length else (dedL (xs.take i)).length + 1)) : HasT prog w xs S (i + 1) h := by
 have et : xs.take (i + 1) = xs.take i ++ [x] := by rw [List.take_succ, hx]; rfl
 have em : (xs.take i).any (· == x) = decide (x ∈ xs.take i) := by
  rw [Bool.eq_iff_iff, List.any_eq_true, decide_eq_true_eq]
  constructor
  ·rintro ⟨y, hy, e⟩
   have : y = x := by simpa using e
   rw [← this]; exact hy
  ·exact fun hy => ⟨x, hy, by simp⟩
 refine SetOf_congr z (fun k => ?_) ?_
 ·rw [et, List.any_append, List.any_cons, List.any_nil, Bool.or_false]
  congr 1
  by_cases e : k = x
  ·subst e; simp
  ·have : (x == k) = false := by simpa [beq_iff_eq] using fun h' : x = k => e h'.symm
   rw [this]; simp [e]
 ·rw [et, ded_snoc, em]
  by_cases h : x ∈ xs.take i
  ·rw [if_pos h]; simp [h]
  ·rw [if_neg h]; simp [h]
theorem loopT (W : WalksS prog w A.in1 I fp wr G n P St) {S : Addr} (hSf : S ∉ fp) {xs : List Str} (hsz : xs.length = n) (hn1 : n ≤ 4000) (hval : ∀ i v, P i v → ∃ x t, xs[i]? = some x ∧ v = .str x t) (k : Nat) :
  ∀ (i : Nat) (s : Shared), n - i = k → i ≤ n → St i s → HasT prog w xs S i s.heap → (∀ s', Moved (S :: wr) G s s' → HasT prog w xs S n s'.heap → R (.ok (.ret .none)) s') →
   codeAny (model prog w) A (.builtin "set.update.loop" ⟨[.ref S, .ref I], []⟩) R s := by
 have hSw : S ∉ wr := fun h => hSf (W.sub _ h)
 induction k with
 | zero =>
  intro i s hk hi hst hS hR
  obtain rfl : i = n := by omega
  refine codeAny_builtin PyProof.Rows.F.entry_set_update_loop ?_
  rw [Around.under_plainId PyProof.Rows.F.plain_set_update_loop _]
  show wpAny _ A.in1 (pyNext (.ref I) >>= fun r => _) _ _ s
  exact wpAny_bind (W.done s _ _ hst fun s' hm => wpAny_pure (hR s' (hm.mono fun b hb => List.mem_cons_of_mem _ hb) (hasT_keep hS (hm.heap S · hSw))))
 | succ k ih =>
  intro i s hk hi hst hS hR
  have hlt : i < n := by omega
  refine codeAny_builtin PyProof.Rows.F.entry_set_update_loop ?_
  rw [Around.under_plainId PyProof.Rows.F.plain_set_update_loop _]
  show wpAny _ A.in1 (pyNext (.ref I) >>= fun r => _) _ _ s
  refine wpAny_bind (W.item i s _ _ hlt hst fun v s1 hP st1 hm => ?_)
  obtain ⟨x, t, hx, rfl⟩ := hval i v hP
  have hS1 : HasT prog w xs S i s1.heap := hasT_keep hS (hm.heap S · hSw)
  have room : (dedL (xs.take i)).length + 1 < scanBound := by
   have := ded_le (xs.take i) []
   have e : (xs.take i).length ≤ n := by rw [List.length_take]; omega
   unfold dedL scanBound
   simp only [List.length_nil] at this
   omega
  show wpAny _ A.in1 (holding [Value.str x t] (setAdd S (.str x t)) >>= fun r => _) _ _ s1
  refine wpAny_bind (wpAny_holding ?_)
  unfold setAdd
  refine wpAny_holding (wpAny_bind ((PySem.strKind prog w).pyHash (k := x) (strKind_is ..) ?_))
  refine wpAny_setAddHashed_of (knd := PySem.strKind prog w) (s := { s1 with toks := s1.toks + 1 }) (strKind_is ..) rfl hS1 room fun h' hsb hS2 => ?_
  have fr : ∀ b o, b ≠ S → s1.heap.get? b = some o → h'.get? b = some o := fun b o hb e => (hsb.2 b hb).trans e
  refine wpAny_pure ⟨plainId_quiet PyProof.Rows.F.plain_set_update_loop _, ih (i + 1) _ (by omega) hlt (W.frame _ s1 _ _ st1 (Nat.le_succ _) fun b hb o e => fr b o (fun z => hSf (z ▸ hb)) e) (hasT_next hx hS2) fun s2 hm2 hS3 => ?_⟩
  exact hR s2 (Moved.trans W.gtrans ((hm.mono fun b hb => List.mem_cons_of_mem _ hb).then_heap (Nat.le_succ _) fun b o hb e => fr b o (fun z => hb (by rw [z]; exact List.mem_cons_self)) e) hm2) hS3
end
section
variable {prog : Program} {w : World} {A : Around} {E : Value → Shared → Prop} {s : Shared}
def newSet (b : Bool) : Obj := { cls := .type "set", dict := none, data := .set #[] 0 (.fresh 0 0 b) }
abbrev withSet (s : Shared) (b : Bool) : Shared := { s with heap := s.heap.push (newSet b) }
theorem new_at {b : Bool} : (withSet s b).heap.get? s.heap.objs.size = some (newSet b) := Heap.get?_push_size _ rfl
theorem fill_ok {l : Addr} {items : Array Value} {xs : List Str} {b : Bool} {A' : Around} {R : Result → Shared → Prop} (hh : A'.in1.handled = none) (hl : s.heap.IsList l items) (hi : StrsAre items.toList xs) (hn : xs.length ≤ 4000)
  (hR : ∀ h' tk, HasT prog w xs s.heap.objs.size items.size h' → (∀ c o, c < s.heap.objs.size → s.heap.get? c = some o → h'.get? c = some o) → R (.ok (.ret .none)) { s with heap := h', toks := tk }) :
  codeAny (model prog w) A' (.builtin "set.update.loop" ⟨[.ref s.heap.objs.size, .ref (withSet s b).heap.objs.size], []⟩) R { withSet s b with heap := (withSet s b).heap.push { cls := .type "list_iterator", data := .fields #[.ref l, .int 0 0] } } := by
 have zI : (withSet s b).heap.objs.size = s.heap.objs.size + 1 := Heap.size_push ..
 obtain ⟨ol, hol, _⟩ := id hl
 have ll := Heap.lt_size hol
 have hl1 : (withSet s b).heap.IsList l items := hl.push _
 have ne : l ≠ (withSet s b).heap.objs.size := by rw [zI]; exact Nat.ne_of_lt (Nat.lt_succ_of_lt ll)
 have hSf : s.heap.objs.size ∉ [(withSet s b).heap.objs.size, l] := by
  rw [zI]
  simp only [List.mem_cons, List.not_mem_nil, or_false, not_or]
  exact ⟨Nat.ne_of_lt (Nat.lt_succ_self _), Nat.ne_of_gt ll⟩
 have hsz : xs.length = items.size := by rw [← StrsAre.len_eq hi, Array.length_toList]
 have hval : ∀ (i : Nat) (v : Value), items[i]? = some v → ∃ x t, xs[i]? = some x ∧ v = .str x t := fun i v hv => by
  obtain ⟨t, e⟩ := SS.strs_at hi i v (by rw [Array.getElem?_toList]; exact hv)
  have hlt : i < xs.length := by rw [hsz]; exact (Array.getElem?_eq_some_iff.mp hv).1
  refine ⟨xs[i], t, List.getElem?_eq_getElem hlt, ?_⟩
  rw [e, List.getD_eq_getElem?_getD, List.getElem?_eq_getElem hlt]
  rfl
 refine loopT ((Walks.list hh _ l ne items).toS) hSf hsz (by omega) hval (items.size - 0) 0 _ (by omega) (Nat.zero_le _) ⟨⟨_, Heap.get?_push_size _ rfl, rfl, rfl⟩, hl1.push _⟩ ?_ fun s' hm hS => ?_
 ·exact SetOf_congr ((setObjOf_fresh (knd := PySem.strKind prog w) b).setOf (Heap.get?_push_of_some _ new_at) (by unfold scanBound; omega)) (fun _ => rfl) rfl
 ·obtain ⟨h', g', d', tk', os'⟩ := s'
  obtain rfl : g' = s.gens := hm.gens
  obtain rfl : d' = s.drawn := hm.drawn
  obtain rfl : os' = s.os := hm.os
  refine hR h' tk' hS fun c o hc e => hm.heap c o ?_ (Heap.get?_push_of_some _ (Heap.get?_push_of_some _ e))
  rw [zI]
  simp only [List.mem_cons, List.not_mem_nil, or_false, not_or]
  exact ⟨Nat.ne_of_lt hc, Nat.ne_of_lt (Nat.lt_succ_of_lt hc)⟩
set_option maxHeartbeats 3200000 in
theorem call_setT {l : Addr} {items : Array Value} {xs : List Str} {Q : Value → Shared → Prop} (hh : A.handled = none) (hl : s.heap.IsList l items) (hi : StrsAre items.toList xs) (hn : xs.length ≤ 4000)
  (h : ∀ h' tk, HasT prog w xs s.heap.objs.size items.size h' → (∀ c o, c < s.heap.objs.size → s.heap.get? c = some o → h'.get? c = some o) → Q (.ref s.heap.objs.size) { s with heap := h', toks := tk }) :
  wpAny (model prog w) A (call (.type "set") [.ref l]) Q E s := by
 have F := PySem.F.called_set
 obtain ⟨c, tl, hmro⟩ := F.mro
 refine wpAny_call (codeAny_of_tree ?_)
 show wpAny _ _ (callAny (.type "set") _) _ _ _
 refine wpAny_pure ⟨Code.quiet_builtin _ (by decide +kernel), codeAny_builtin PySem.F.entry_type_call ?_⟩
 rw [Around.under_plain (weight_type_call_type "set" [.ref l] []) rfl]
 have q1 := F.made
 have q2 := F.sub
 have q3 := F.notType
 have q4 := F.canCreate
 have q5 := PySem.F.typeCall_set_1 (.ref l)
 repeat (any_goals (first | assumption | wp_step))
 refine codeAny_mono (code_set_new_1 (.ref l) (E := E) (Q₁ := fun obj s₁ => ∃ b : Bool, obj = .ref s.heap.objs.size ∧ s₁ = withSet s b) fun b => ⟨b, rfl, rfl⟩) fun r s₁ hr => ?_
 rcases r with e | fl
 ·exact hr
 cases fl <;> first | exact hr.elim | skip
 obtain ⟨b, rfl, rfl⟩ := hr
 have hT : (withSet s b).TypeIs (.ref s.heap.objs.size) "set" := ⟨_, new_at, rfl⟩
 have q6 := F.init.lookup
 have q7 := F.init.bind (.ref s.heap.objs.size)
 repeat (any_goals (first | assumption | wp_step))
 refine codeAny_mono (codeAny_call_builtin (R := wants (fun r s₂ => r = .none ∧ ∃ h' tk, s₂ = { s with heap := h', toks := tk } ∧ HasT prog w xs s.heap.objs.size items.size h' ∧ ∀ c o, c < s.heap.objs.size → s.heap.get? c = some o → h'.get? c = some o) E) F.init.plain PySem.F.entry_set_init (check_set_init_1 hT ?_)) fun r s₂ hr => ?_
 ·obtain ⟨⟨oc, od, odt, osl⟩, hol, hcl, nl, hdl⟩ := id hl
  replace hcl : oc = .type "list" := hcl
  replace hdl : odt = .seq items nl := hdl
  subst hcl hdl
  have hol' : (s.heap.push (newSet b)).get? l = some { cls := .type "list", dict := od, data := .seq items nl, slots := osl } := Heap.get?_push_of_some _ hol
  have q8 := PySem.F.sub_list_set
  have q9 := PySem.F.sub_list_frozenset
  have q10 : (Value.type "list" == Value.type "dict") = false := by decide
  unfold Builtin.«set.__init__» noKeywords Builtin.Frozenset.updateFrom
  generalize hPI : pyIter = PI
  wp_walk
  subst hPI
  refine wpAny_pyIter_list (hl.push _) (wpAny_bind (wpAny_runValue (fill_ok (b := b) (by simp [hh]) hl hi hn fun h' tk hS kp => ?_)))
  show wpAny _ _ _ _ _ _
  refine wpAny_pure ?_
  show wpAny _ _ (ret Value.none) _ _ _
  exact wpAny_pure ⟨rfl, h', tk, rfl, hS, kp⟩
 ·rcases r with e | fl
  ·exact hr
  cases fl <;> first | exact hr.elim | skip
  obtain ⟨rfl, h', tk, rfl, hS, kp⟩ := hr
  repeat (any_goals (first | assumption | wp_step))
  exact h _ _ hS kp
end
theorem lt_tot : ∀ (a b : List Nat), ltCps a b = false → ltCps b a = false → a = b
 | [], [], _, _ => rfl
 | [], _ :: _, h, _ => by simp [ltCps] at h
 | _ :: _, [], _, h => by simp [ltCps] at h
 | a :: x, b :: y, h1, h2 => by
  rw [ltCps, Bool.or_eq_false_iff] at h1 h2
  have e : a = b := by
   have h3 := of_decide_eq_false h1.1
   have h4 := of_decide_eq_false h2.1
   omega
  subst e
  have h5 := h1.2
  have h6 := h2.2
  rw [beq_self_eq_true, Bool.true_and] at h5 h6
  rw [lt_tot x y h5 h6]
theorem lt_asym : ∀ (a b : List Nat), ltCps a b = true → ltCps b a = false
 | [], [], h => by simp [ltCps] at h
 | [], _ :: _, _ => rfl
 | _ :: _, [], h => by simp [ltCps] at h
 | a :: x, b :: y, h => by
  rw [ltCps, Bool.or_eq_true] at h
  rw [ltCps, Bool.or_eq_false_iff]
  rcases h with h | h
  ·have h := of_decide_eq_true h
   exact ⟨decide_eq_false (by omega), by rw [show (b == a) = false from by rw [beq_eq_false_iff_ne]; omega]; rfl⟩
  ·rw [Bool.and_eq_true, beq_iff_eq] at h
   obtain ⟨rfl, h⟩ := h
   exact ⟨decide_eq_false (by omega), by rw [lt_asym x y h, Bool.and_false]⟩
theorem le_trans' : ∀ (a b c : List Nat), ltCps b a = false → ltCps c b = false → ltCps c a = false
 | [], _, c, _, _ => by cases c <;> rfl
 | _ :: _, [], _, h, _ => by simp [ltCps] at h
 | _ :: _, _ :: _, [], _, h => by simp [ltCps] at h
 | a :: x, b :: y, c :: z, h1, h2 => by
  rw [ltCps, Bool.or_eq_false_iff] at h1 h2
  rw [ltCps, Bool.or_eq_false_iff]
  have h3 := of_decide_eq_false h1.1
  have h4 := of_decide_eq_false h2.1
  refine ⟨decide_eq_false (by omega), ?_⟩
  cases e : c == a with
  | false => rfl
  | true =>
   have e : c = a := by simpa using e
   have e1 : b = a := by omega
   subst e e1
   have h5 := h1.2
   have h6 := h2.2
   rw [beq_self_eq_true, Bool.true_and] at h5 h6
   rw [Bool.true_and]
   exact le_trans' x y z h5 h6
def leX (a b : Tx) : Prop := ltCps b a = false
theorem rising_pw : ∀ (p : Str) (l : List Str), risingS p l = true → (p :: l).Pairwise fun a b => ltCps b.cps.toList a.cps.toList = false
 | p, [], _ => List.pairwise_singleton _ _
 | p, x :: r, h => by
  have h : (!ltCps x.cps.toList p.cps.toList && risingS x r) = true := h
  rw [Bool.and_eq_true, Bool.not_eq_true'] at h
  have ih := rising_pw x r h.2
  refine List.pairwise_cons.mpr ⟨fun y hy => ?_, ih⟩
  rcases List.mem_cons.mp hy with rfl | hy
  ·exact h.1
  ·exact le_trans' _ _ _ h.1 ((List.pairwise_cons.mp ih).1 y hy)
theorem sorted_pw {l : List Str} (h : sortedS l = true) : l.Pairwise fun a b => ltCps b.cps.toList a.cps.toList = false := by
 cases l with
 | nil => exact List.Pairwise.nil
 | cons x r => exact rising_pw x r h
theorem insX_perm (x : Tx) : ∀ l : List Tx, (insX x l).Perm (x :: l)
 | [] => List.Perm.refl _
 | y :: r => by
  unfold insX
  split
  ·exact ((insX_perm x r).cons y).trans (List.Perm.swap x y r)
  ·exact List.Perm.refl _
theorem srtX_perm : ∀ l : List Tx, (srtX l).Perm l
 | [] => List.Perm.refl _
 | x :: r => (insX_perm x (srtX r)).trans ((srtX_perm r).cons x)
theorem insX_pw {x : Tx} : ∀ {l : List Tx}, l.Pairwise leX → (insX x l).Pairwise leX
 | [], _ => List.pairwise_singleton _ _
 | y :: r, h => by
  obtain ⟨h1, h2⟩ := List.pairwise_cons.mp h
  unfold insX
  split
  ·rename_i hl
   refine List.pairwise_cons.mpr ⟨fun z hz => ?_, insX_pw h2⟩
   rcases List.mem_cons.mp ((insX_perm x r).mem_iff.mp hz) with rfl | hz
   ·exact lt_asym _ _ hl
   ·exact h1 z hz
  ·rename_i hl
   have hl : ltCps y x = false := by simpa using hl
   refine List.pairwise_cons.mpr ⟨fun z hz => ?_, h⟩
   rcases List.mem_cons.mp hz with rfl | hz
   ·exact hl
   ·exact le_trans' _ _ _ hl (h1 z hz)
theorem srtX_pw : ∀ l : List Tx, (srtX l).Pairwise leX
 | [] => List.Pairwise.nil
 | x :: r => insX_pw (srtX_pw r)
theorem srt_eq {ys : List Str} {zs : List Tx} (p : ys.Perm (zs.map tS)) (h : sortedS ys = true) : ys = (srtX zs).map tS := by
 refine (p.trans ((srtX_perm zs).symm.map tS)).eq_of_pairwise (fun x y _ _ h1 h2 => ?_) (sorted_pw h) (List.pairwise_map.mpr (srtX_pw zs))
 have e := lt_tot _ _ h2 h1
 obtain ⟨⟨x⟩⟩ := x
 obtain ⟨⟨y⟩⟩ := y
 have e : x = y := e
 rw [e]
section
variable {T : Tb} {X : Cx} {Wx : WX} {p : Pg} {cal : Bool → Nat → List W → List OO → RC} {k : Nat}
theorem sf_srs (O : XO T p X Wx k cal) {np pos : Pos} {a : Expr} {ea : E} (hg : Gl X "sorted") (hm : X.mg "sorted" = none) (hs : notStar a = true) (ha : SE T X Wx a (evE p cal ea)) : SF T X Wx (.Call (.Name "sorted" np) [a] [] pos) (evE p cal (.srs ea)) :=
 ⟨fun pins s σ H Q I ⟨c, st, h, q⟩ => by
  simp only [evE] at q
  refine wpAny_Call_Name_kw (ld_blt I hg hm (bf_boot .sorted) ?_ (bf_nn .sorted).1 (bf_nn .sorted).2)
  have hst : starEach [a] X.env = (false, eval a X.env) :: starEach [] X.env := by
   cases a <;> first | rfl | cases hs
  refine PyProof.Rows.callWith_builtin1 ?_ hst rfl
  rw [hst]
  show wpAny _ _ (spliced ((false, eval a X.env) :: backTo pos (starEach [] X.env))) _ _ s
  refine Calls.spliced_cons (thn (ha.run pins s σ H _ I ⟨c, st, h, PostF.bind (rel := relV T σ) q⟩) fun u s1 ⟨v, H1, I1, ru, c1, st1, w, S1, h1, r1, q1⟩ => ?_)
  refine Calls.spliced_nil ?_
  obtain ⟨w', ew, q2⟩ := liftF_some q1
  have rr := rvv h1 r1
  generalize vw st1 w = ww at ew rr
  cases ww <;> first | (simp [srsW] at ew; done) | skip
  rename_i xs
  simp only [srsW] at ew
  obtain ⟨zs, e1, e2⟩ := Option.bind_eq_some_iff.mp ew
  split at e2
  ·rename_i hl
   cases e2
   obtain ⟨l, vs, rfl, g1, g2⟩ := rr
   obtain ⟨rfl, hz⟩ := rws_strs e1 g2
   refine cr_sortedS (X := X) pins s1 σ H1 [.ref l] [u] Q I1 (.cons ru .nil) ⟨l, zs.map tS, rfl, SqL.of g1, by rw [List.length_map]; exact hl, fun ys pp hp hsd hpp => ?_⟩
   rw [srt_eq hp hsd]
   exact new_lst h1 hpp (strs_rws (srtX zs) fun z hz' => hz z ((srtX_perm zs).mem_iff.mp hz')) (WantsF.of q2)
  ·cases e2⟩
theorem se_lns (O : XO T p X Wx k cal) {np np2 pos pos2 : Pos} {a : Expr} {ea : E} (hg : Gl X "len") (hm : X.mg "len" = none) (hg2 : Gl X "set") (hm2 : X.mg "set" = none) (hs : notStar a = true) (ha : SE T X Wx a (evE p cal ea)) :
  SE T X Wx (.Call (.Name "len" np) [.Call (.Name "set" np2) [a] [] pos2] [] pos) (evE p cal (.lns ea)) :=
 ⟨fun pins s σ H Q I ⟨c, st, h, q⟩ => by
  simp only [evE] at q
  have hst : starEach [a] X.env = (false, eval a X.env) :: starEach [] X.env := by
   cases a <;> first | rfl | cases hs
  refine Call_ (ld_blt I hg hm PySem.boot_len (PyProof.Rows.callWith_builtin1 (PyProof.Rows.args_cons ?_ rfl) rfl rfl))
  refine Call_ (ld_blt I hg2 hm2 PyProof.Rows.boot_set (PyProof.Rows.callWith_type1 (PyProof.Rows.args_cons (thn (ha.run pins s σ H _ I (one h q)) ?_) hst) hst rfl))
  rintro u s1 ⟨v, H1, I1, rv, c, st, w, h, r, q⟩
  refine PyProof.Rows.args_nil ?_
  obtain ⟨w', e, q⟩ := lift_some q
  have rr := rvv h r
  generalize vw st w = ww at e rr
  cases ww <;> first | (simp [lnsW] at e; done) | skip
  rename_i xs
  simp only [lnsW] at e
  obtain ⟨zs, e1, e2⟩ := Option.bind_eq_some_iff.mp e
  split at e2
  ·rename_i hl
   cases e2
   obtain ⟨l, vs, rfl, g1, g2⟩ := rr
   obtain ⟨rfl, hz⟩ := rws_strs e1 g2
   obtain rfl : u = Value.ref l := rv
   obtain ⟨its, rv, pl, hzz⟩ := I1.list (SqL.of g1)
   have hi : StrsAre its.toArray.toList (zs.map tS) := by simpa using rv.strs
   have hlen : its.toArray.size = (zs.map tS).length := by rw [List.size_toArray, ← rv.length, List.length_map]
   refine call_setT (I1.ok.hd O.calm) pl.isList hi (by rw [List.length_map]; exact hl) fun h' tk hS kp => ?_
   unfold HasT at hS
   rw [hlen, List.take_length] at hS
   have ed : (dedL (zs.map tS)).length = (dedL zs).length := by
    have := ded_map (f := tS) (fun a b e => SX.S_inj e) zs []
    unfold dedL
    rw [List.map_nil] at this
    rw [this, List.length_map]
   rw [ed] at hS
   refine PyProof.Rows.args_nil ?_
   obtain ⟨o, es, ep, t, ho, hex, hd, _, _, _, hf, hn⟩ := hS
   have I2 : Inv X pins σ H1 { s1 with heap := h', toks := tk } := I1.kept fun b o e => kp b o (Heap.lt_size e) e
   have d4 : (dedL zs).length ≤ 4000 := by
    have := ded_le zs []
    unfold dedL
    simp only [List.length_nil] at this
    omega
   exact call_len_set ho hex hd hf (by rw [hn] <;> omega) ⟨.int ((dedL zs).length : Nat), H1, I2.tok _, ⟨_, by rw [hn]⟩, Post.ret q h (show RV T c σ H1 (.int _) (.int _) from rfl)⟩
  ·cases e2⟩
end
end Ev
namespace Ev
open PySem PySem.Spec PyProof.Rows L2 Calls ClX RZ
def VEx (H : Hp) (a C d : Addr) (fs : List (Str × V)) : Prop := H a = some (exo a C (some d)) ∧ H d = some (exd d fs)
section
variable {X : Cx} {es : List Expr} {ta : TA} {te : TE} {e : Expr} {p pos : Pos} {x n : Str} {C fI : Addr} {fd : FuncData} {ps : List Str} {items : List (Str × FI)} {np : Nat}
def tMkV (C : Addr) (np : Nat) (items : List (Str × FI)) (ta : TA) : TE := fun σ H Q => ta σ H fun vs H1 => vs.length + 1 = np ∧ vs.length ≤ 1000 ∧ ∀ a d, H1 a = none → H1 d = none → d ≠ a →
 Q (.ref a) (upd (upd H1 d (exd d (fldV (.ref a :: vs) items []))) a (exo a C (some d)))
theorem pe_mkv (T : OexB X.K C) (iC : PySem.W.findIn X.K (.ref C) "__init__" = some (some (.ref fI))) (tI : PySem.W.typeIn X.K (.ref fI) = some (.type "function"))
  (F1 : FnOk X.prog X.w X.K X.mg X.base (L2.CX X.prog X.w) 0 fI fd ps (spE C np items)) (hr : Room 1 X.A) (hb : ∀ (s : Shared) (us : List Value), us.length = np → BindsTo s fd ⟨us, []⟩ (ps.zip us)) (hx : Takes X fun _ _ _ _ => False) (hg : Gl X x) (hm : X.mg x = some (.ref C)) (ha : PA X es ta) (hs : es.all notStar = true)
  (hz : es = [] → ∀ σ H R, ta σ H R → R [] H) (hdb : (x == ("__debug__" : Str)) = false) : PE X (.Call (.Name x p) es [] pos) (tMkV C np items ta) := by
 refine ⟨fun pins s σ H Q I h => ?_⟩
 obtain ⟨B, newId, initId, bmB, nm, q, N, bs, bm, sn, sub, ab, col, dd, k0, k1, k2, k3, k5, bx, rt, hC⟩ := T.cls
 have fin : ∀ (us : List Value) (vs : List V) (H1 : Hp) (s1 : Shared), Inv X pins σ H1 s1 → Vals vs us → vs.length + 1 = np → vs.length ≤ 1000 → (∀ a d, H1 a = none → H1 d = none → d ≠ a → Q (.ref a) (upd (upd H1 d (exd d (fldV (.ref a :: vs) items []))) a (exo a C (some d)))) → wpAny (model X.prog X.w) X.A (call (.ref C) us) (EP X pins σ Q) X.xe s1 := by
  intro us vs H1 s1 I1 r1 hnp hvz q1
  obtain ⟨hp, g, dr, tk, os⟩ := s1
  have hsz : hp.objs.size ≤ hp.objs.size + 1 := Nat.le_succ _
  have hn : H1 (hp.objs.size + 1) = none := I1.hok.fresh hsz
  have kk : ∀ b o, hp.get? b = some o → ((hp.push (PySem.W.kdv_tup us)).push (PySem.HandSPX.excO C hp.objs.size)).get? b = some o := fun b o e => Heap.get?_push_of_some _ (Heap.get?_push_of_some _ e)
  have hget : ((hp.push (PySem.W.kdv_tup us)).push (PySem.HandSPX.excO C hp.objs.size)).get? (hp.objs.size + 1) = some (PySem.HandSPX.excO C hp.objs.size) := by heap_get
  have I2 : Inv X pins σ (upd H1 (hp.objs.size + 1) (exo (hp.objs.size + 1) C none)) ⟨(hp.push (PySem.W.kdv_tup us)).push (PySem.HandSPX.excO C hp.objs.size), g, dr, tk, os⟩ :=
   I1.laid (t' := tk) (a := hp.objs.size + 1) (o := exo (hp.objs.size + 1) C none) (h' := (hp.push (PySem.W.kdv_tup us)).push (PySem.HandSPX.excO C hp.objs.size)) kk hsz (exo_ok hget)
  have r2 : Vals (V.ref (hp.objs.size + 1) :: vs) (Value.ref (hp.objs.size + 1) :: us) := .cons rfl r1
  have hul : us.length = vs.length := (Paired.length r1).symm
  have hus : us.length ≤ sizeLine := by
   rw [hul, sizeLine_eq]; omega
  have hsp : spE C np items (.ref (hp.objs.size + 1) :: vs) (upd H1 (hp.objs.size + 1) (exo (hp.objs.size + 1) C none)) (fun v H2 => v = .non ∧ Q (.ref (hp.objs.size + 1)) H2) (fun _ _ _ => False) := by
   refine ⟨by rw [List.length_cons]; exact hnp, _, rfl, upd_same, fun dx n ne => ⟨rfl, ?_⟩⟩
   rw [upd_ne ne] at n
   have e : upd (upd (upd H1 (hp.objs.size + 1) (exo (hp.objs.size + 1) C none)) dx (exd dx (fldV (.ref (hp.objs.size + 1) :: vs) items []))) (hp.objs.size + 1) (exo (hp.objs.size + 1) C (some dx)) =
     upd (upd H1 dx (exd dx (fldV (.ref (hp.objs.size + 1) :: vs) items []))) (hp.objs.size + 1) (exo (hp.objs.size + 1) C (some dx)) := by
    funext b
    by_cases hb : b = hp.objs.size + 1
    ·rw [hb, upd_same, upd_same]
    ·by_cases hd : b = dx
     ·rw [upd_ne hb, upd_ne hb, hd, upd_same, upd_same]
     ·rw [upd_ne hb, upd_ne hb, upd_ne hd, upd_ne hd, upd_ne hb]
   rw [e]
   exact q1 _ _ hn n ne
  refine wpAny_call (PySem.HandSPX.call_own bx.F rt.has (I1.kIn _ _ hC) (PySem.W.looks_findIn I1.kIn iC) (fun me => PySem.W.bind_fn I1.kIn me tI) hus
   (codeAny_mono (F1.run _ X.stack _ _ ⟨Value.ref (hp.objs.size + 1) :: us, []⟩ (Value.ref (hp.objs.size + 1) :: us) _ _ (fun _ _ _ => False) (hr.make C us []) (I2.env0.make C us []) (hb _ (Value.ref (hp.objs.size + 1) :: us) (by rw [List.length_cons, hul]; exact hnp)) r2 hsp) fun r s' hq' => ?_))
  cases r with
  | error er => exact passes_call hx (fun _ _ _ _ z => z.elim) pins σ _ _ er s' I2 hq'
  | ok fl =>
   cases fl with
   | ret u =>
    obtain ⟨v, H2, I3, rv, ev, q2⟩ := I2.after hq'
    subst ev
    exact ⟨rv, .ref (hp.objs.size + 1), H2, I3, rfl, q2⟩
   | next => exact False.elim hq'
   | brk => exact False.elim hq'
   | cont => exact False.elim hq'
 refine wpAny_Call_Name_kw (ld_glob I hg hm ?_ hdb)
 cases es with
 | nil =>
  have h := hz rfl _ _ _ h
  exact PySem.W.callWith_K0 I.kIn T.kC (fin [] [] H s I .nil h.1 h.2.1 h.2.2)
 | cons e es =>
  simp only [List.all_cons, Bool.and_eq_true] at hs
  refine PySem.W.callWith_K (h₀ := X.base) I.ok.mod.kin T.kC (thn (ha.run pos pins s σ H _ I h) fun us s1 ⟨vs, H1, I1, r1, hz1, hz2, q1⟩ => ⟨I1.kIn, ?_⟩) (star_ok hs.1) (star_any hs.2)
  exact fin us vs H1 s1 I1 r1 hz1 hz2 q1
def tXv (K : PySem.W.Frag) (n : Str) (te : TE) : TE := fun σ H Q => te σ H fun x H1 => ∃ a C d fs v, x = .ref a ∧ XfC K C ∧ PySem.W.findIn K (.ref C) n = some none ∧ VEx H1 a C d fs ∧ fs.lookup n = some v ∧ Q v H1
theorem pe_xv (he : PE X e te) (hb : attributeBase e n X.env (eval e X.env) = eval e X.env) : PE X (.Attribute e n pos) (tXv X.K n te) := by
 refine ⟨fun pins s σ H Q I h => attr_of hb (thn (he.run pins s σ H _ I h) fun u s1 hh => ?_)⟩
 obtain ⟨x, H1, I1, rx, a, C, d, fs, v, ex, T, hno, ⟨h1, h2⟩, l, q⟩ := hh
 subst ex
 obtain rfl : u = Value.ref a := rx
 obtain ⟨t1, hget⟩ := exo_at I1.hok h1
 obtain ⟨mA, hns, hr⟩ := exd_at I1.hok h2
 obtain ⟨od, ho, hl⟩ := lookIn_ns hns
 have hrel := hr n
 rw [l] at hrel
 obtain ⟨u, hu, ru⟩ := RelO.some_of (v := v) (o := mA n) hrel
 have J : PySem.W.InstAt s1.heap a _ C (some od) := ⟨hget, rfl, rfl, ho⟩
 exact HandSPX.exc_get I1.kIn J T.ga T.gg T.exC (PySem.W.findObj_own T.hdC hno rfl (by rw [hl, hu])) (handed_of ru) ⟨v, H1, I1.tok _, ru, q⟩
def rIsV (K : PySem.W.Frag) : List V → Hp → VK → Prop := fun xs H Q => ∃ (a C d : Addr) (fs : List (Str × V)) (c : V) (cv : Value) (b : Bool), xs = [.ref a, c] ∧ VEx H a C d fs ∧ ExcC K C ∧ (∀ u, RelV c u → u = cv) ∧ PySem.W.kitOne K (.ref C) cv = some b ∧ Q (.bl b) H
theorem call_isV : CallR X (.builtin "isinstance") (rIsV X.K) := by
 intro pins s σ H xs us Q I r h
 obtain ⟨a, C, d, fs, c, cv, b, rfl, ⟨h1, h2⟩, E, hcv, e, q⟩ := h
 cases r with
 | cons rx rr =>
  cases rr with
  | cons rt rr =>
   cases rr
   cases rx
   have ec := hcv _ rt
   subst ec
   obtain ⟨t1, hget⟩ := exo_at I.hok h1
   obtain ⟨mA, hns, hr⟩ := exd_at I.hok h2
   obtain ⟨od, ho, hl⟩ := lookIn_ns hns
   have J : PySem.W.InstAt s.heap a _ C (some od) := ⟨hget, rfl, rfl, ho⟩
   obtain ⟨cd, hcd, _⟩ := PySem.W.any_some E.hd
   exact PySem.W.kia_one (PySem.W.kitx_exc (by rw [hcd]; rfl) E.hg E.hk E.hs E.ha E.hn E.ht E.hm) I.kIn J e (fun z => nomatch z) fun tk => ⟨.bl b, H, I.kept (t' := tk) fun _ _ z => z, rfl, q⟩
end
end Ev
namespace Ev
open PySem PySem.Spec PyProof.Rows L2 Calls ClX RZ
def kxV (T : Tb) : Sum Nat Nat → V
 | .inl D => .ref (T.ca D)
 | .inr n => .ty (bB n)
def kxU (T : Tb) : Sum Nat Nat → Value
 | .inl D => .ref (T.ca D)
 | .inr n => .type (bB n)
theorem kx_one (T : Tb) (k : Sum Nat Nat) (u : Value) (h : RelV (kxV T k) u) : u = kxU T k := by cases k <;> exact h
structure XcF (T : Tb) (p : Pg) (K : PySem.W.Frag) : Prop where
 exc : ∀ C, p.xcl.contains C = true → ExcC K (T.ca C) ∧ XfC K (T.ca C)
 fld : ∀ C, p.xcl.contains C = true → ∀ f, p.xfs.contains f = true → PySem.W.findIn K (.ref (T.ca C)) (T.sy f) = some none
 kit : ∀ C, p.xcl.contains C = true → ∀ k, p.xk.contains k = true → PySem.W.kitOne K (.ref (T.ca C)) (kxU T k) = some (isxB p C k)
section
variable {T : Tb} {X : Cx} {Wx : WX} {p : Pg} {cal : Bool → Nat → List W → List OO → RC} {k C np : Nat} {pl ns : List Nat} {code : Tx} {c : Cl} {a : Expr} {ea : E} {pos : Pos}
theorem se_exn (O : XO T p X Wx k cal) (hr : Room 1 X.A) (hc : p.cls[C]? = some c) (hx : c.exn = some (pl, ns, code)) (F : ExnF T X C pl.length ns code) {x : Str} {es : List Expr} {xs : List E} {q1 : Pos} (hg : Gl X x) (hm : X.mg x = some (.ref (T.ca C))) (hdb : (x == ("__debug__" : Str)) = false)
  (ha : SA T X Wx es (evEs p cal xs)) (hs : es.all notStar = true) (hz : es = [] → xs = []) : SE T X Wx (.Call (.Name x q1) es [] pos) (evE p cal (.exn C xs)) := by
 obtain ⟨fI, fd, ps, T0, iC, tI, F1, hb, nd, nl, ok, npz⟩ := F
 refine PE.imp (pe_mkv (ta := rdA T Wx (evEs p cal xs)) T0 iC tI F1 hr hb LamX.takes0 hg hm ha hs (fun z σ H R ⟨c, st, h, q⟩ => ?_) hdb) fun σ H Q ⟨c, st, h, q⟩ => ?_
 ·rw [hz z] at q
  have q2 : Post T Wx (relA T σ) c σ H (.ok [] st) R := by
   have e : evEs p cal [] st = .ok [] st := by rw [evEs]
   rw [e] at q; exact q
  exact q2.ret h ⟨rfl, fun i w v e => by simp at e⟩
 ·rw [evE] at q
  refine ⟨c, st, h, (Post.bind (rel := relA T σ) q).mono fun vs H1 ⟨c1, st1, ws, S, h1, r1, q1⟩ => ?_⟩
  simp only [hc, hx] at q1
  cases o : decide (pl.length = ws.length) && okvs ws with
  | false => rw [if_neg (by simpa using o)] at q1; exact (show False from q1).elim
  | true =>
   rw [if_pos (by simpa using o)] at q1
   simp only [Bool.and_eq_true, decide_eq_true_eq] at o
   obtain ⟨o1, o2⟩ := o
   refine ⟨by rw [← r1.1, o1], by rw [← r1.1, ← o1]; exact npz, fun a d ha hd hn => ?_⟩
   have ha2 : upd H1 d (exd d (fldV (.ref a :: vs) (itemsX T.sy ns pl.length code) [])) a = none := by rw [upd_ne (Ne.symm hn)]; exact ha
   have S2 : Stp c1 H1 c1 (upd (upd H1 d (exd d (fldV (.ref a :: vs) (itemsX T.sy ns pl.length code) []))) a (exo a (T.ca C) (some d))) := (Stp.grow hd).trans (Stp.grow ha2)
   have h2 := (h1.grow (o := exd d (fldV (.ref a :: vs) (itemsX T.sy ns pl.length code) [])) hd).grow (o := exo a (T.ca C) (some d)) ha2
   have rws := (okv_rw o2 r1).mono S2.mn
   refine q1 _ _ c1 S2 h2 (RW.rv ?_)
   refine ⟨a, d, _, vs ++ [.str (tS code)], rfl, upd_same, by rw [upd_ne hn]; exact upd_same, ?_, fun i n u e1 e2 => ?_, ?_, rws.append ⟨.str (tS code), [], rfl, ⟨rfl, ok⟩, rfl⟩⟩
   ·rw [nl, List.length_append, ← r1.1, o1] <;> rfl
   ·have e3 : fiV (V.ref a :: vs) (if i < pl.length then FI.par (i + 1) else .txt (tS code)) = u := by
     by_cases hi : i < pl.length
     ·rw [if_pos hi]
      have hv : i < vs.length := by rw [← r1.1]; omega
      rw [List.getElem?_append_left hv, List.getElem?_eq_getElem hv] at e2
      cases e2
      simp [fiV, List.getD_eq_getElem?_getD, hv]
     ·rw [if_neg hi]
      have hil : i < ns.length := (List.getElem?_eq_some_iff.mp e1).1
      have : i = vs.length := by rw [← r1.1]; omega
      rw [this, List.getElem?_append_right (Nat.le_refl _)] at e2
      simp at e2
      exact e2
    rw [← e3]
    exact fldV_look (items_nd O.G.inj nd) (items_get e1)
   ·have h0 : pl.length < ns.length := by omega
    exact ⟨_, _, fldV_look (items_nd O.G.inj nd) (items_get (List.getElem?_eq_getElem h0))⟩
theorem exn_at {st : St} {cc : Cf} {σ : L2.St} {H : Hp} {w : W} {v : V} {C : Nat} {ns : List Nat} {ws : List W} (r : RV T cc σ H (.exn C ns ws) v) : ∃ a d fs vs, v = .ref a ∧ VEx H a (T.ca C) d fs ∧ ns.length = vs.length ∧ (∀ (i : Nat) n u, ns[i]? = some n → vs[i]? = some u → fs.lookup (T.sy n) = some u) ∧ RWs T cc.lv cc.nf H ws vs := by
 obtain ⟨a, d, fs, vs, e1, e2, e3, e4, e5, _, e6⟩ := (show RW T cc.lv cc.nf H (.exn C ns ws) v from r)
 exact ⟨a, d, fs, vs, e1, ⟨e2, e3⟩, e4, e5, e6⟩
theorem se_xat (O : XO T p X Wx k cal) (F : XcF T p X.K) {f : Nat} {x : Str} (hx : x = T.sy f) (ha : SE T X Wx a (evE p cal ea)) (hs : noSup a = true) : SE T X Wx (.Attribute a x pos) (evE p cal (.xat ea f)) := by
 subst hx
 refine PE.imp (pe_xv ha (noSup_ok hs)) fun σ H Q ⟨c, st, h, q⟩ => ?_
 simp only [evE] at q
 obtain ⟨c0, st0, h0, q0⟩ := one h q
 refine ⟨c0, st0, h0, q0.mono fun v H1 ⟨c, st, w, h, r, q⟩ => ?_⟩
 obtain ⟨w', e, q2⟩ := lift_some q
 cases w with
 | exn C ns xs =>
  simp only [xatW] at e
  split at e
  ·rename_i hb
   rw [Bool.and_eq_true] at hb
   obtain ⟨i, g1, g2⟩ := fget_ix e
   obtain ⟨a, d, fs, vs, e1, e2, e4, e5, e6⟩ := exn_at (st := st) (w := w') r
   obtain ⟨u, g3, g4⟩ := e6.get g2
   exact ⟨a, T.ca C, d, fs, u, e1, (F.exc C hb.1).2, F.fld C hb.1 f hb.2, e2, e5 i f u g1 g3, Post.ret q2 h (show relV T σ c H1 w' u from g4.rv)⟩
  ·cases e
 | _ => simp [xatW] at e
theorem se_isx (O : XO T p X Wx k cal) (F : XcF T p X.K) {q0 : Sum Nat Nat} {np : Pos} {ce : Expr} (hg : Gl X "isinstance") (hm : X.mg "isinstance" = none) (hs : notStar a = true) (hs2 : notStar ce = true) (ha : SE T X Wx a (evE p cal ea)) (hc : PE X ce (tC (kxV T q0))) :
  SE T X Wx (.Call (.Name "isinstance" np) [a, ce] [] pos) (evE p cal (.isx ea q0)) :=
 PE.imp (pe_callB call_isV hg hm (by kernel_rfl) (pa_cons ha (pa_cons hc pa_nil (star_ok hs2)) (star_ok hs)) (by decide) (by decide) (star_ok hs) (star_any (by simp [hs2]))) fun σ H Q ⟨c, st, h, q⟩ => by
  simp only [evE] at q
  obtain ⟨c0, st0, h0, q0'⟩ := one h q
  refine ⟨c0, st0, h0, q0'.mono fun v H1 ⟨c, st, w, h, r, q⟩ => ?_⟩
  cases w with
  | exn C ns xs =>
   obtain ⟨w', e, q⟩ := lift_some q
   simp only [isxW] at e
   split at e
   ·rename_i hb
    rw [Bool.and_eq_true] at hb
    cases e
    obtain ⟨a, d, fs, vs, e1, e2, e4, e5, e6⟩ := exn_at (st := st) (w := .non) r
    refine ⟨a, T.ca C, d, fs, kxV T q0, kxU T q0, _, by rw [e1], e2, (F.exc C hb.1).1, kx_one T q0, F.kit C hb.1 q0 hb.2, Post.ret q h (show RV T c σ H1 (.bl _) (.bl _) from rfl)⟩
   ·cases e
  | _ => exact (show False from q).elim
end
end Ev
namespace Ev
open PySem PySem.Spec PyProof.Rows L2 Calls ClX RZ
theorem dn_empty {w : World} {h : Heap} (hb : sysModules < h.objs.size) : dnP (hsW w) h.objs.size [] (h.push { cls := .type "dict", data := .dict #[] }) :=
 ⟨Nat.zero_le _, beq_eq_false_iff_ne.mpr (Ne.symm (Nat.ne_of_lt hb)), [], .nil, _, #[], 0, Heap.get?_push_size _ rfl, ⟨rfl, rfl, rfl⟩, rfl, rfl, List.nodup_nil⟩
theorem dn_obj {P : Program} {w : World} {H : Hp} {h : Heap} {a : Addr} {L : DL} (x : dnP (hsW w) a L h) : ObjOk P w H h a (DN (hsW w) a L) := by
 have y := x
 obtain ⟨_, _, _, _, o, _, _, g1, _⟩ := y
 refine ⟨x, ⟨o, g1⟩, fun h1 h2 p k => ?_⟩
 obtain ⟨p1, p2, ys, p3, o, es, ep, g1, g2⟩ := p
 exact ⟨p1, p2, ys, p3, o, es, ep, k _ g1, g2⟩
def tDNewN (w : World) : TE := fun _ H Q => ∀ p, H p = none → (∃ h0, dnP (hsW w) p [] h0) → Q (.ref p) (upd H p (DN (hsW w) p []))
section
variable {T : Tb} {X : Cx} {Wx : WX} {p : Pg} {cal : Bool → Nat → List W → List OO → RC} {c : Cf} {st : St} {σ : L2.St} {H : Hp} {pins : List (Addr × Obj)} {s : Shared} {a b : Expr} {ea eb : E} {pos : Pos}
theorem pe_dnewN : PE X (.Dict [] [] pos) (tDNewN X.w) := ⟨fun pins s σ H Q I h =>
 wpAny_Dict_empty ⟨.ref s.heap.objs.size, _, I.laid (a := s.heap.objs.size) (o := DN (hsW X.w) s.heap.objs.size []) (t' := s.toks) (fun _ _ q => Heap.get?_push_of_some _ q) (Nat.le_refl _) (dn_obj (dn_empty I.big)), rfl, h _ (I.hok.fresh (Nat.le_refl _)) ⟨_, dn_empty I.big⟩⟩⟩
theorem se_dkn (hhs : T.hs = hsW X.w) : SE T X Wx (.Dict [] [] pos) (evE p cal .dkn) := by
 refine PE.imp pe_dnewN fun σ H Q ⟨c, st, h, q⟩ D hD new => ?_
 have e : evE p cal .dkn st = .ok (.loc st.s.length) ⟨st.r, st.s ++ [.dnk [] []]⟩ := by rw [evE]
 rw [e] at q
 have h2 := h.opn (o := DN (hsW X.w) D []) hD
 have ro : RO T (c.opn D).lv (c.opn D).nf (upd H D (DN (hsW X.w) D [])) (.dnk [] []) D := ⟨[], by rw [hhs]; exact upd_same, by rw [hhs]; exact new, rfl, RWs.nil, RWs.nil⟩
 have nou : ¬ c.ou D := fun z => h.new hD (.inr z)
 refine q (.ref D) _ (c.add D) ((Stp.grow hD).add (tn_none hD)) (h2.add nou ro) ?_
 show RW T (c.add D).lv (c.add D).nf (upd H D (DN (hsW X.w) D [])) (.loc st.s.length) (.ref D)
 simp only [RW]
 refine ⟨D, rfl, ?_⟩
 show (c.lv ++ [D])[st.s.length]? = some D
 rw [show st.s.length = c.lv.length from h.sto.len]
 simp
theorem dki_core {neg : Bool} (hK : T.K = X.K) (hhs : T.hs = hsW X.w) (hu : Deep X) {x y : V} {v u : Value} {wk wd : W} {Q : VK} (I : Inv X pins σ H s) (rx : L2.RelV x v) (ry : L2.RelV y u) (h : RSt T c st σ H) (r1 : RV T c σ H wk x) (r2 : RV T c σ H wd y)
  (q : Post T Wx (relV T σ) c σ H (match look st wd with
  | some (.dnk ks xs) => (match nkOf wk with
   | some q => .ok (.bl (neg != (nget q ks xs).isSome)) st
   | none => .stk)
  | _ => .stk) Q) : wpAny (model X.prog X.w) X.A (compareOp (if neg then .NotIn else .In) v u) (EP X pins σ Q) X.xe s := by
 cases el : look st wd with
 | none => rw [el] at q; exact (show False from q).elim
 | some ob =>
 cases ob <;> first | (rw [el] at q; exact (show False from q).elim) | skip
 rename_i ks xs
 rw [el] at q
 cases ek : nkOf wk with
 | none => simp only [ek] at q; exact (show False from q).elim
 | some kq =>
 simp only [ek] at q
 obtain ⟨aa, e1, L, g1, g2, g3, g4, g5⟩ := look_ok h r2 el
 subst e1
 obtain rfl := (show u = Value.ref aa from ry)
 have ew := nkOf_eq ek
 subst ew
 have r1 : RW T c.lv c.nf H (kW kq) x := r1
 obtain ⟨ka, rfl⟩ := key_ref r1
 obtain rfl := (show v = Value.ref ka from rx)
 rw [hhs] at g1
 have ng := nget_ok (q := kq) g3 g5
 have ei : (dget L (nkK kq)).isSome = (nget kq ks xs).isSome := by
  cases cn : nget kq ks xs with
  | none => rw [cn] at ng; simp only at ng; rw [ng]; rfl
  | some w => rw [cn] at ng; obtain ⟨z, z1, _⟩ := ng; rw [z1]; rfl
 refine in_dn hu I g1 (by rw [← hK]; exact keys_ok g3 g4) (by rw [← hK]; exact keyH_of r1) fun s' I' => ?_
 rw [ei]
 exact ⟨.bl _, H, I', rfl, Post.ret q h (show RV T c σ H (.bl _) (.bl _) from rfl)⟩
theorem se_dki {neg : Bool} (hK : T.K = X.K) (hhs : T.hs = hsW X.w) (hu : Deep X) (ha : SE T X Wx a (evE p cal ea)) (hb : SE T X Wx b (evE p cal eb)) (hm : notSet b = true) : SE T X Wx (.Compare a [if neg then .NotIn else .In] [b] pos) (evE p cal (.dki neg ea eb)) :=
 ⟨fun pins s σ H Q I ⟨c, st, h, q⟩ => by
  simp only [evE] at q
  refine wpAny_Compare1 (binT ha hb I (two h q) fun v u s2 x y H2 I2 rx ry ⟨c, st, wa, wb, h, r1, r2, q⟩ => dki_core hK hhs hu I2 rx ry h r1 r2 q) ?_
  cases neg <;> first | exact behind_ok hm | exact behind_ok (op := .NotIn) hm⟩
theorem se_dkg (hK : T.K = X.K) (hhs : T.hs = hsW X.w) (hu : Deep X) (ha : SE T X Wx a (evE p cal ea)) (hb : SE T X Wx b (evE p cal eb)) (hs : PlainIx b) : SE T X Wx (.Subscript a b pos) (evE p cal (.dkg ea eb)) :=
 ⟨fun pins s σ H Q I ⟨c, st, h, q⟩ => by
  simp only [evE] at q
  refine Subscript_ (binT ha hb I (two h q) fun v u s2 x y H2 I2 rx ry ⟨c, st, wa, wb, h, r1, r2, q⟩ => ?_)
  simp only at q
  cases el : look st wa with
  | none => rw [el] at q; exact (show False from q).elim
  | some ob =>
  cases ob <;> first | (rw [el] at q; exact (show False from q).elim) | skip
  rename_i ks xs
  rw [el] at q
  cases ek : nkOf wb with
  | none => simp only [ek, Option.bind_none] at q; exact (show False from q).elim
  | some kq =>
  simp only [ek, Option.bind_some] at q
  cases en : nget kq ks xs with
  | none => simp only [en] at q; exact (show False from q).elim
  | some w =>
  simp only [en] at q
  obtain ⟨aa, e1, L, g1, g2, g3, g4, g5⟩ := look_ok h r1 el
  subst e1
  obtain rfl := (show v = Value.ref aa from rx)
  have ew := nkOf_eq ek
  subst ew
  have r2 : RW T c.lv c.nf H2 (kW kq) y := r2
  obtain ⟨ka, rfl⟩ := key_ref r2
  obtain rfl := (show u = Value.ref ka from ry)
  rw [hhs] at g1
  have ng := nget_ok (q := kq) g3 g5
  rw [en] at ng
  obtain ⟨z, z1, z2⟩ := ng
  obtain ⟨_, _, xs', _, dd⟩ := dn_at I2 g1 (by rw [← hK]; exact keys_ok g3 g4)
  exact tail_any dd.typeIs PySem.F.slot_dict_getitem.lookup (get_dn hu I2 g1 (by rw [← hK]; exact keys_ok g3 g4) (by rw [← hK]; exact keyH_of r2) z1 fun u s' ru I' => ⟨z, H2, I', ru, Post.ret q h z2.rv⟩) (hs _ _)⟩
def dkiR (neg : Bool) (w x : W) (st : St) : R W := match look st x with
 | some (.dnk ks xs) => (match nkOf w with
  | some q => .ok (.bl (neg != (nget q ks xs).isSome)) st
  | none => .stk)
 | _ => .stk
theorem st_dki {neg : Bool} (hK : T.K = X.K) (hhs : T.hs = hsW X.w) (hu : Deep X) (ha : SE T X Wx a (evE p cal ea)) (hb : SE T X Wx b (evE p cal eb)) (hm : notSet b = true) : ST T X Wx (.Compare a [if neg then .NotIn else .In] [b] pos) (tst p cal (.dki neg ea eb)) :=
 ⟨fun pins s σ H Q I ⟨c, st, h, q⟩ => by
  have q' : Post T Wx relB c σ H ((evE p cal ea st).bind fun x st1 => (evE p cal eb st1).bind fun y st2 => (dkiR neg x y st2).bind fun w st3 => truR w st3) Q := by
   simp only [tst, evE] at q
   revert q
   cases evE p cal ea st with
   | ok x st1 =>
    simp only [R.bind]
    cases evE p cal eb st1 <;> exact fun q => q
   | exc x st1 => exact fun q => q
   | stk => exact fun q => q
  refine wpAny_isTrue_Compare1 (thn (ha.run pins s σ H _ I (two h q')) ?_) (by cases neg <;> first | exact behind_ok hm | exact behind_ok (op := .NotIn) hm)
  rintro v s1 ⟨x, H1, I1, rx, z1⟩
  refine thn (hb.run pins s1 σ H1 _ I1 z1) ?_
  rintro u s2 ⟨y, H2, I2, ry, c, st, wa, wb, h, r1, r2, q⟩
  have q2 : Post T Wx (relV T σ) c σ H2 (dkiR neg wa wb st) fun z H => ∃ kk, z = .bl kk ∧ Q kk H := by
   unfold dkiR at q ⊢
   split
   ·rename_i ks xs el
    simp only [el] at q
    split
    ·rename_i kq ek
     simp only [ek, R.bind, truR, truW, vw, R.lift] at q
     exact fun z H' c' s' h' r' => ⟨_, r', q _ H' c' s' h' rfl⟩
    ·rename_i ek
     simp only [ek, R.bind] at q
     exact (show False from q).elim
   ·rename_i el
    exfalso
    cases e0 : look st wb with
    | none => simp only [e0, R.bind] at q; exact q
    | some ob =>
     cases ob with
     | dnk ks xs => exact el _ _ e0
     | lst _ => simp only [e0, R.bind] at q; exact q
     | dct _ _ => simp only [e0, R.bind] at q; exact q
     | ins _ _ _ => simp only [e0, R.bind] at q; exact q
     | tab => simp only [e0, R.bind] at q; exact q
  refine thn (dki_core hK hhs hu I2 rx ry h r1 r2 q2) ?_
  rintro w s3 ⟨z, H3, I3, rz, kk, rfl, q3⟩
  cases rz
  exact wpAny_truthy_bool ⟨H3, I3, q3⟩⟩
end
end Ev
namespace Ev
open PySem PySem.Spec PyProof.Rows L2 Calls ClX RZ
structure FnB (P : Program) (w : World) (K : PySem.W.Frag) (mg : Str → Option Value) (base : Heap) (CX : CXT) (k : Nat) (f : Addr) (fd : FuncData) (ps : List Str) (sp : Sp) : Prop where
 len : ∀ vs H Q E, sp vs H Q E → vs.length = ps.length
 run : ∀ (A : Around) (outer : List Env) (s0 s : Shared) (H : Hp) (args : Args) (us : List Value) (vs : List V) (Q : VK) (E : XK), Room k A → K.In s0.heap → Env0 P w K mg base A outer s H → (∀ (M : Model) (A : Around) (E : Value → Shared → Prop) (Q : List (Str × Value) → Shared → Prop), Q (ps.zip us) s → wpAny M A (bindArgs fd args) Q E s0) → Vals vs us → sp vs H Q E →
  codeAny (model P w) A (.call (.ref f) args) (CR CX outer P w H s Q E) s0
theorem fnB_of {CX : CXT} {P : Program} {w : World} {K : PySem.W.Frag} {mg : Str → Option Value} {base : Heap} {k : Nat} {f : Addr} {name qual : Str} {params : Arguments} {body : List Stmt} {scope : Scope} {dV kV doc pm cdv ct oc : Value} {an od : Option Addr}
   {osl : Array (Option Value)} {N ps : List Str} {sp : Sp} (lk : K.lookup f = some ⟨oc, od, .func (PySem.W.fnOf name qual params body scope dV kV doc pm an cdv ct), osl⟩) (hcd : PySem.W.codeIn K cdv qual = true) (S : FnScope N ps scope)
   (len : ∀ vs H Q E, sp vs H Q E → vs.length = ps.length)
   (hbody : ∀ (A : Around) (outer : List Env) (s : Shared) (H : Hp) (vs : List V) (Q : VK) (E : XK), Room k (A.deeper (envOfC qual scope s.heap.objs.size f cdv)) → sp vs H Q E →
     ∃ t, PSs (cxOf CX P w K mg base N qual scope f cdv A outer s H E) body t ∧ t { nx := fun _ H' => Q .non H', rt := Q } (L2.start N vs) H) :
   FnB P w K mg base CX (k + 1) f (PySem.W.fnOf name qual params body scope dV kV doc pm an cdv ct) ps sp := by
 refine ⟨len, fun A outer s0 s H args us vs Q E hr KX0 e0 hb r hsp => ?_⟩
 have hl := len _ _ _ _ hsp
 have lim : s.heap.NoLimit := e0.mod.nolimit.keeps fun b o e => (e0.bs b o e).1
 have hkind : ∀ y ∈ ps.zip us, scope.names.lookup y.1 = some .local ∨ (scope.names.lookup y.1 = some .cell ∧ ((cellsFrom (s.heap.objs.size + 1) scope.names []).lookup y.1).isSome = true) := fun ⟨n, v⟩ hy => by
   rcases S.par n (List.of_mem_zip hy).1 with q | q
   · exact .inl q
   · exact .inr ⟨q, PySem.W.cellsFrom_some _ _ _ (.inl q)⟩
 refine codeAny_call_function hr.depth (KX0 _ _ lk) rfl S.co S.gen rfl (PySem.W.codeRec_of KX0 hcd) (hb _ _ _ _ ?_)
 refine wpAny_newFunctionEnv_cells S.kind hkind fun env he s1 x => ?_
 subst he
 refine ⟨lim.keeps x.toInCall.keep, codeAny_func ?_⟩
 obtain ⟨t, ht, hq⟩ := hbody A outer s H vs Q E (hr.deeper _) hsp
 have I : Inv (cxOf CX P w K mg base N qual scope f cdv A outer s H E) [] (L2.start N vs) H s1 := inv_start S hr.hd e0 hl r x
 refine wpAny_mono (ht.run [] s1 (L2.start N vs) H _ I hq) (fun fl s' hs => ?_) fun e s' hs => hs
 have fin : ∀ {σ' : L2.St} {H' : Hp} {v : V} {u : Value}, Inv (cxOf CX P w K mg base N qual scope f cdv A outer s H E) [] σ' H' s' → RelV v u → Q v H' → CE outer P w H s Q u s' :=
   fun {σ' H' v u} J rv q => ⟨v, H', J.os, J.bare, J.base, J.hok, rv, q⟩
 cases fl with
 | ret u =>
   obtain ⟨v, σ', H', J, rv, q⟩ := hs
   exact fin J rv q
 | next =>
   obtain ⟨σ', H', J, q⟩ := hs
   exact fin (v := V.non) (u := Value.none) J rfl q
 | brk =>
   obtain ⟨_, _, _, q⟩ := hs
   exact False.elim q
 | cont =>
   obtain ⟨_, _, _, q⟩ := hs
   exact False.elim q
def VBd (fd : FuncData) (ps : List Str) (np : Nat) : Prop := ∀ (us es : List Value), us.length + 1 = np → es.length ≤ 3 → bindArgs fd ⟨us ++ es, []⟩ = (newTuple es >>= fun t => pure (ps.zip (us ++ [t])))
def FullV (T : Tb) (X : Cx) (k : Nat) (cal : Bool → Nat → List W → List OO → RC) (f np : Nat) : Prop :=
 ∃ fd ps, FnB X.prog X.w X.K X.mg X.base (L2.CX X.prog X.w) k (T.fa f) fd ps (spF T np (cal false f)) ∧ VBd fd ps np
section
variable {T : Tb} {X : Cx} {Wx : WX} {p : Pg} {cal : Bool → Nat → List W → List OO → RC} {c : Cf} {st : St} {σ : L2.St} {H : Hp} {pins : List (Addr × Obj)} {s : Shared} {k f np : Nat} {A : Around} {Q : VK}
theorem call_runB {fd : FuncData} {ps : List Str} {fi : Nat} {fa : Addr} {args : Args} {us : List Value} {vs : List V} {ws : List W} {s0 : Shared} (hA : A.frames = X.A.frames) (hr : Room k A) (tk : Takes X Wx) (F : FnB X.prog X.w X.K X.mg X.base (L2.CX X.prog X.w) k fa fd ps (spF T np (cal false fi))) (k0 : X.K.In s0.heap)
  (hb : ∀ (M : Model) (A : Around) (E : Value → Shared → Prop) (Q : List (Str × Value) → Shared → Prop), Q (ps.zip us) s → wpAny M A (bindArgs fd args) Q E s0) (ol : vs.length = np)
  (I : Inv X pins σ H s) (h : RSt T c st σ H) (ra : relA T σ c H ws vs) (qa : Vals vs us) (q : Post T Wx (relV T σ) c σ H (callR cal false fi ws st) Q) :
  codeAny (model X.prog X.w) A (.call (.ref fa) args) (fun r s' => match r with | .ok (.ret v) => EP X pins σ Q v s' | .ok _ => False | .error e => X.xe e s') s0 := by
 have hsp : spF T np (cal false fi) vs H Q (WE Wx σ) := by
  refine ⟨ol, c.out, ws, st.s, calSt_of h, ?_, ?_⟩
  ·unfold callR at q
   cases ho : okvs ws with
   | false => rw [ho] at q; exact (show False from q).elim
   | true => rw [nf_out']; exact okv_rw ho ra
  ·unfold callR at q
   cases ho : okvs ws with
   | false => rw [ho] at q; exact (show False from q).elim
   | true =>
    simp only [ho, if_true] at q
    cases hc : cal false fi ws st.s with
    | ok w s' =>
     simp only [hc, RC.at] at q ⊢
     intro v H' lv' S so rw'
     obtain ⟨S2, h2⟩ := back_ok h S so
     refine q v H' _ S2 h2 (RW.rv ?_)
     have e := nf_out c lv'
     rw [← e]; exact rw'
    | exc x s' =>
     simp only [hc, RC.at] at q ⊢
     intro cls d H' lv' S so rx
     obtain ⟨S2, h2⟩ := back_ok h S so
     refine q cls d H' _ S2 h2 ?_
     obtain ⟨e1, dx, fs, e2, e3, e4, e5⟩ := rx
     have e := nf_out c lv'
     exact ⟨e1, dx, fs, e2, e3, by rw [← e]; exact e4, fun i n w a b => by
      obtain ⟨v, g1, g2⟩ := e5 i n w a b
      exact ⟨v, g1, by rw [← e]; exact g2⟩⟩
    | stk => rw [hc] at q; exact (show False from q).elim
 have e0 : Env0 X.prog X.w X.K X.mg X.base A X.stack s H := by
  have e := I.env0
  exact ⟨by rw [hA]; exact e.frames, e.mod, e.bs, e.bsz, e.funs, e.frf, e.hok, e.bare⟩
 refine codeAny_mono (F.run A X.stack s0 s H args us vs Q (WE Wx σ) hr k0 e0 hb qa hsp) fun r s' hq => ?_
 cases r with
 | error e => exact passAt tk σ pins H s e s' I hq
 | ok fl =>
  cases fl with
  | ret w =>
   obtain ⟨z, H', I', rz, ez⟩ := I.after hq
   exact ⟨z, H', I', rz, ez⟩
  | next => exact False.elim hq
  | brk => exact False.elim hq
  | cont => exact False.elim hq
theorem own_runV (F : FullV T X k cal f np) (hA : A.frames = X.A.frames) (hr : Room k A) (tk : Takes X Wx) {ws es : List W} {vs ves : List V} {us ues : List Value} (I : Inv X pins σ H s) (h : RSt T c st σ H) (ra : relA T σ c H ws vs) (qa : Vals vs us) (re : relA T σ c H es ves) (qe : Vals ves ues) (oe : okvs es = true) (hn : ws.length + 1 = np) (he : es.length ≤ 3)
  (q : Post T Wx (relV T σ) c σ H (callR cal false f (ws ++ [.tup es]) st) Q) : wpAny (model X.prog X.w) A (call (.ref (T.fa f)) (us ++ ues)) (EP X pins σ Q) X.xe s := by
 obtain ⟨fd, ps, F1, hb⟩ := F
 have lu : us.length + 1 = np := by rw [← qa.length, ← ra.1]; exact hn
 have le : ues.length ≤ 3 := by rw [← qe.length, ← re.1]; exact he
 have lz : ues.length ≤ sizeLine := by rw [sizeLine_eq]; omega
 have lv : ves.length ≤ sizeLine := by rw [qe.length]; exact lz
 have nt : H s.heap.objs.size = none := I.hok.fresh (Nat.le_refl _)
 have I2 := lay_tup (h' := s.heap) (t' := s.toks) I qe lv
 have S2 : Stp c H c (upd H s.heap.objs.size (.frz (nxT ues) (.tup ves))) := Stp.grow nt
 have h2 : RSt T c st σ (upd H s.heap.objs.size (.frz (nxT ues) (.tup ves))) := h.grow nt
 have rt : RV T c σ (upd H s.heap.objs.size (.frz (nxT ues) (.tup ves))) (.tup es) (.ref s.heap.objs.size) := by
  show RW T c.lv c.nf _ (.tup es) (.ref s.heap.objs.size)
  simp only [RW]
  exact ⟨_, ves, rfl, .inl ⟨⟨nxT ues, rfl, upd_same⟩, h.new nt⟩, (okv_rw oe re).mono S2.mn⟩
 have ra2 : relA T σ c (upd H s.heap.objs.size (.frz (nxT ues) (.tup ves))) (ws ++ [.tup es]) (vs ++ [.ref s.heap.objs.size]) := by
  refine ⟨by simp [ra.1], fun i w v e1 e2 => ?_⟩
  by_cases hi : i < ws.length
  ·rw [List.getElem?_append_left hi] at e1
   rw [List.getElem?_append_left (by rw [← ra.1]; exact hi)] at e2
   exact RV.mono S2 (ra.2 i w v e1 e2)
  ·rw [List.getElem?_append_right (by omega)] at e1
   rw [List.getElem?_append_right (by rw [← ra.1]; omega), ← ra.1] at e2
   cases hj : i - ws.length with
   | zero =>
    rw [hj] at e1 e2
    simp at e1 e2
    subst e1 e2
    exact rt
   | succ j => rw [hj] at e1; simp at e1
 refine wpAny_call (codeAny_mono (call_runB (s0 := s) (args := ⟨us ++ ues, []⟩) (us := us ++ [.ref s.heap.objs.size]) hA hr tk F1 I.kIn (fun M A E Q hq => ?_) (by rw [List.length_append, ← ra.1]; exact hn) I2 h2 ra2 (Vals.append qa (.cons (show L2.RelV (V.ref s.heap.objs.size) (Value.ref s.heap.objs.size) from rfl) .nil)) (q.from S2)) fun r s' z => ?_)
 ·rw [hb us ues lu le]
  exact wpAny_bind (wpAny_newTuple (wpAny_pure hq) lz)
 ·cases r with
  | error e => exact z
  | ok fl => cases fl <;> first | exact z | exact z.elim
def VmsF (T : Tb) (p : Pg) (X : Cx) (k : Nat) (cal : Bool → Nat → List W → List OO → RC) : Prop := ∀ C m f, (C, m, f) ∈ p.vms → ∃ np, FullV T X k cal f np ∧ (∀ ws s, ws.length ≠ np → cal false f ws s = .stk) ∧ Meth X.K (T.ca C) (T.sy m) (T.fa f) ∧ PySem.W.keepIn X.K (.ref (T.fa f)) = true ∧ Cls X.K (T.ca C)
theorem relA_take {ws : List W} {vs : List V} (n : Nat) (r : relA T σ c H ws vs) : relA T σ c H (ws.take n) (vs.take n) := ⟨by simp [r.1], fun i w v e1 e2 => by
 rw [List.getElem?_take] at e1 e2
 split at e1
 ·rename_i hi
  rw [if_pos hi] at e2
  exact r.2 i w v e1 e2
 ·cases e1⟩
theorem relA_drop {ws : List W} {vs : List V} (n : Nat) (r : relA T σ c H ws vs) : relA T σ c H (ws.drop n) (vs.drop n) := ⟨by simp [r.1], fun i w v e1 e2 => by
 rw [List.getElem?_drop] at e1 e2
 exact r.2 _ w v e1 e2⟩
theorem se_mtv (O : XO T p X Wx k cal) (V0 : VmsF T p X k cal) {a : Expr} {ea : E} {pos apos : Pos} {m j : Nat} {x : Str} {args : List Expr} {xs : List E} (hx : x = T.sy m) (hsp : noSup a = true) (hs : args.all notStar = true) (hz : args = [] → xs = []) (hfew : args.length < 29) (hline : (apos.endLine == pos.line) = true)
  (ho : SE T X Wx a (evE p cal ea)) (ha : SA T X Wx args (evEs p cal xs)) : SE T X Wx (.Call (.Attribute a x apos) args [] pos) (evE p cal (.mtv ea m j xs)) :=
 ⟨fun pins s σ H Q I ⟨c, st, h, q⟩ => by
  subst hx
  simp only [evE] at q
  refine meth_of hsp hs hfew hline (thn (ho.run pins s σ H _ I ⟨c, st, h, Post.bind (rel := relV T σ) q⟩) ?_)
  rintro u s1 ⟨v, H1, I1, rx, c1, st1, w, S1, h1, r1, q1⟩ pl
  cases em : vmF p m w st1 with
  | none => simp only [em] at q1; exact (show False from q1).elim
  | some f =>
  simp only [em] at q1
  unfold vmF at em
  cases e : look st1 w with
  | none => simp only [e] at em; cases em
  | some o =>
  cases o with
  | lst _ => simp only [e] at em; cases em
  | dct _ _ => simp only [e] at em; cases em
  | tab => simp only [e] at em; cases em
  | dnk _ _ => simp only [e] at em; cases em
  | ins C ns fs =>
  simp only [e] at em
  cases hc : ns.contains m with
  | true => rw [if_pos hc] at em; cases em
  | false =>
  rw [if_neg (by rw [hc]; simp)] at em
  obtain ⟨q0, hq0, rfl⟩ := Option.map_eq_some_iff.mp em
  have hm0 := List.mem_of_find?_eq_some hq0
  have hp0 := List.find?_some hq0
  simp only [Bool.and_eq_true, beq_iff_eq] at hp0
  obtain ⟨C', m', f⟩ := q0
  obtain ⟨e1, e2⟩ := hp0
  simp only at e1 e2
  subst e1 e2
  obtain ⟨np, Fv, ar, me, kp, cl⟩ := V0 _ _ _ hm0
  obtain ⟨aa, e1, dx, vs, g1, g2, g3⟩ := look_ok h1 r1 e
  subst e1
  cases rx
  have nl := fget_ok (f := m') O.G.inj g2 g3
  rw [fget_none hc] at nl
  refine getmeth_ok I1 g1 cl me nl ?_
  refine argsKW (first := [.ref aa]) (ks := []) (ys := []) (ds := []) (dvs := []) (F := fun ws st2 => if okvs ws && (decide (j ≤ ws.length) && decide (ws.length ≤ j + 3)) then callR cal false f (w :: (ws.take j ++ [.tup (ws.drop j)])) st2 else .stk) kp hz hs rfl rfl ha sk_nil O.G.hK rfl I1 h1 (by simpa using q1) ?_
  rintro us1 us2 vs1 vs2 ws s H c st S' I h rv1 rv2 l2 l1 ra q
  have hS : RV T c σ H w (.ref aa) := RV.mono S' r1
  have l3 : vs2 = [] := List.eq_nil_of_length_eq_zero l2
  subst l3
  cases rv2
  have ra : relA T σ c H ws vs1 := by simpa using ra
  cases o3 : okvs ws && (decide (j ≤ ws.length) && decide (ws.length ≤ j + 3)) with
  | false => rw [o3] at q; exact (show False from q).elim
  | true =>
  rw [o3, if_pos rfl] at q
  simp only [Bool.and_eq_true, decide_eq_true_eq] at o3
  obtain ⟨o3, o4, o5⟩ := o3
  have od : okvs (ws.drop j) = true := by
   rw [okvs, List.all_eq_true] at o3 ⊢
   exact fun y hy => o3 y (List.mem_of_mem_drop hy)
  by_cases hn : j + 2 = np
  ·have key := own_runV (us := .ref aa :: us1.take j) (ues := us1.drop j) (vs := .ref aa :: vs1.take j) (ves := vs1.drop j) (ws := w :: ws.take j) (es := ws.drop j) Fv rfl (O.M.room.mono (Nat.le_succ _)) O.tk I h (relA_cons hS (relA_take j ra)) (.cons rfl (rv1.take j)) (relA_drop j ra) (rv1.drop j) od
    (by rw [List.length_cons, List.length_take]; omega) (by rw [List.length_drop]; omega) q
   have e5 : (Value.ref aa :: us1.take j) ++ us1.drop j = [.ref aa] ++ us1 := by rw [List.cons_append, List.take_append_drop]; rfl
   rw [e5] at key
   exact key
  ·exfalso
   unfold callR at q
   rw [ar _ _ (by simp only [List.length_cons, List.length_append, List.length_take, List.length_nil]; omega)] at q
   split at q <;> exact q⟩
end
end Ev
set_option maxHeartbeats 2000000
namespace Ev
open PySem PySem.Spec PyProof.Rows L2 Calls LamX
section
variable {X : Cx} {a : Str} {scope : Scope} {pins : List (Addr × Obj)} {σ : L2.St} {H HZ : Hp} {s s1 : Shared}
theorem lk_callD {ta : TE} {ae : Expr} {TT : (XK → Hp → VK → Prop) → Hp → VK → Prop} {x ask : Str} {g : Addr} {k : Nat} {pg : Arguments} {bg : List Stmt} {sg : Scope} {dV kV doc pm cdv ct oc : Value} {an od : Option Addr} {osl : Array (Option Value)} {Ng : List Str}
  {G G0 : Nat → Arguments → Expr → Scope → Prop} {tb : Nat → XK → TE} {p pos : Pos} (hA : PE X ae ta) (hst : notStar ae = true) (hg : Gl X x) (hm : X.mg x = some (.ref g)) (hk : PySem.W.keepIn X.K (.ref g) = true)
  (lk : X.K.lookup g = some ⟨oc, od, .func (PySem.W.fnOf x x pg bg sg dV kV doc pm an cdv ct), osl⟩) (hcg : PySem.W.codeIn X.K cdv x = true) (hb : L2.Binds X.K (PySem.W.fnOf x x pg bg sg dV kV doc pm an cdv ct) [ask] []) (Sg : FnScope Ng [ask] sg) (hNg : Ng[0]? = some ask) (hva : Vis sg ask)
  (hG : GivesTo X Ng x sg g cdv bg ask (X.env.qual ++ "<lambda>") TT) (hr : Room (k + 2) X.A)
  (hL : ∀ j params body scope, G j params body scope → ∃ a, LamD X.N a X.env.scope scope ∧ DefB params body scope a)
  (hL0 : ∀ j params body scope, G0 j params body scope → LamX.LamS X.env.scope scope ∧ ∀ (q : Str) (cl : List (Str × Addr)) (pm cv ctv : Value), bindArgs (PySem.W.kla_fn "<lambda>" q params body scope cl pm cv ctv) ⟨[], []⟩ = pure [])
  (hbody : ∀ j params body scope, G j params body scope → ∀ (A : Around) (outer : List Env) (s : Shared) (H : Hp) (E : XK) (f c' : Addr), Room k (A.deeper (lamEnv X scope s.heap.objs.size f c')) → PE (lamCx X A outer s H E scope f c') body (tb j E))
  (hbody0 : ∀ j params body scope, G0 j params body scope → ∀ (A : Around) (outer : List Env) (s : Shared) (H : Hp) (E : XK) (f c' : Addr), Room k (A.deeper (lamEnv X scope s.heap.objs.size f c')) → PE (lamCx X A outer s H E scope f c') body (tb j E))
  (hdb : (x == ("__debug__" : Str)) = false) (n1 : (ask == ("__debug__" : Str)) = false) (n2 : (ask == ("__classdict__" : Str)) = false) :
  PE X (.Call (.Name x p) [ae] [] pos) (fun σ H Q => ta σ H fun v H =>
   (∃ (j : Nat) (f t c' : Addr) (doc pm ctv u : Value) (params : Arguments) (body : Expr) (scope : Scope), v = .ref f ∧ G j params body scope ∧ H c' = some (CodeO c' (X.env.qual ++ "<lambda>")) ∧
   H f = some (pinO f (ldObj X params body scope t doc pm c' ctv)) ∧ H t = some (pinO t (PySem.W.kdv_tup [u])) ∧
   TT (fun E H' Q' => H' f = some (pinO f (ldObj X params body scope t doc pm c' ctv)) ∧ H' t = some (pinO t (PySem.W.kdv_tup [u])) ∧ tb j E σ H' Q') H Q) ∨
   ∃ (j : Nat) (f c' : Addr) (pm ctv : Value) (params : Arguments) (body : Expr) (scope : Scope), v = .ref f ∧ G0 j params body scope ∧ H c' = some (CodeO c' (X.env.qual ++ "<lambda>")) ∧
   H f = some (pinO f (l0Obj X params body scope pm c' ctv)) ∧
   TT (fun E H' Q' => H' f = some (pinO f (l0Obj X params body scope pm c' ctv)) ∧ tb j E σ H' Q') H Q) := by
 constructor
 intro pins s σ H Q I h
 refine wpAny_Call_Name_kw (ld_glob I hg hm ?_ hdb)
 refine PySem.W.callWith_K (h₀ := X.base) I.ok.mod.kin hk ?_ (star_ok hst) (by rfl)
 rw [star_ok hst]
 show wpAny _ _ (spliced ((false, eval ae X.env) :: backTo pos (starEach [] X.env))) _ _ s
 refine Calls.spliced_cons (thn (hA.run pins s σ H _ I h) fun uf s1 ⟨v, H1, I1, r1, q1⟩ => ?_)
 rcases q1 with q1 | q1
 ·obtain ⟨j, f, t, c', doc', pm', ctv', u, params, body, scope, rfl, hGj, hco, hf, ht, hTT⟩ := q1
  obtain ⟨a, L, hbind⟩ := hL j params body scope hGj
  obtain rfl : uf = Value.ref f := r1
  refine Calls.spliced_nil ⟨I1.kIn, ?_⟩
  have rc : codeAny (model X.prog X.w) X.A (.call (.ref g) ⟨[.ref f], []⟩) (CR C8.CX0 X.stack X.prog X.w H1 s1 Q C8.E0) s1 := by
   refine run_ofS (N := Ng) (ps := [ask]) (us := [.ref f]) (vs := [.ref f]) lk hcg Sg hr I1.env0 (hb s1 [.ref f] I1.kIn rfl) (.cons rfl .nil) rfl fun hr' => ?_
   obtain ⟨t', ht', hq'⟩ := hG f c' s1 H1 Q (fun E H' Q' => H' f = some (pinO f (ldObj X params body scope t doc' pm' c' ctv')) ∧ H' t = some (pinO t (PySem.W.kdv_tup [u])) ∧ tb j E σ H' Q') (fun W pn xe E p1 p2 tk hW => lk_act (i := 0) I1 L hbind tk hW hr' (fun A outer s H hr2 => hbody j params body scope hGj A outer s H E f c' hr2) hNg hva n1 n2) hco hTT
   exact ⟨t', ht'.nox, hq'⟩
  refine wpAny_call (codeAny_mono rc fun r s2 hq => ?_)
  match r with
  | .error e => exact (show False from hq).elim
  | .ok (.ret w') => exact I1.after hq
  | .ok .next => exact False.elim hq
  | .ok .brk => exact False.elim hq
  | .ok .cont => exact False.elim hq
 ·obtain ⟨j, f, c', pm', ctv', params, body, scope, rfl, hGj, hco, hf, hTT⟩ := q1
  obtain ⟨L, hbind⟩ := hL0 j params body scope hGj
  obtain rfl : uf = Value.ref f := r1
  refine Calls.spliced_nil ⟨I1.kIn, ?_⟩
  have rc : codeAny (model X.prog X.w) X.A (.call (.ref g) ⟨[.ref f], []⟩) (CR C8.CX0 X.stack X.prog X.w H1 s1 Q C8.E0) s1 := by
   refine run_ofS (N := Ng) (ps := [ask]) (us := [.ref f]) (vs := [.ref f]) lk hcg Sg hr I1.env0 (hb s1 [.ref f] I1.kIn rfl) (.cons rfl .nil) rfl fun hr' => ?_
   obtain ⟨t', ht', hq'⟩ := hG f c' s1 H1 Q (fun E H' Q' => H' f = some (pinO f (l0Obj X params body scope pm' c' ctv')) ∧ tb j E σ H' Q') (fun W pn xe E p1 p2 tk hW => lk_act0 (i := 0) I1 L (hbind _ _ _ _ _) tk hW hr' (fun A outer s H hr2 => hbody0 j params body scope hGj A outer s H E f c' hr2) hNg hva n1 n2) hco hTT
   exact ⟨t', ht'.nox, hq'⟩
  refine wpAny_call (codeAny_mono rc fun r s2 hq => ?_)
  match r with
  | .error e => exact (show False from hq).elim
  | .ok (.ret w') => exact I1.after hq
  | .ok .next => exact False.elim hq
  | .ok .brk => exact False.elim hq
  | .ok .cont => exact False.elim hq
 end
section
variable {T : Tb} {X : Cx} {Wx : WX} {p : Pg} {cal : Bool → Nat → List W → List OO → RC} {k : Nat} {c : Cf} {st : St} {σ σ2 σw : L2.St} {H : Hp}
theorem se_rfe {x : Str} {g : Nat} {bs : List E} {ae : Expr} {a : E} {p1 pos : Pos} {G G0 : Nat → Arguments → Expr → Scope → Prop} (F : RfdF T p X k x)
   (hgl : Gl X x) (hdb : (x == ("__debug__" : Str)) = false) (hst : notStar ae = true) (ha : SE T X Wx ae (evE p cal a))
   (hlb : ∀ j o c' ts, T.lb T.cl j o c' ts → (∃ (b : E) (pm ctv : Value) (params : Arguments) (body : Expr) (scope : Scope), bs[j]? = some b ∧ G0 j params body scope ∧ o = l0Obj X params body scope pm c' ctv ∧ ts = []) ∨ ∃ (b : E) (t : Addr) (doc pm ctv u : Value) (params : Arguments) (body : Expr) (scope : Scope), bs[j]? = some b ∧ G j params body scope ∧ ts = [(t, PySem.W.kdv_tup [u])] ∧ o = ldObj X params body scope t doc pm c' ctv)
   (hL0 : ∀ j params body scope, G0 j params body scope → LamX.LamS X.env.scope scope ∧ ∀ (q : Str) (cl : List (Str × Addr)) (pm cv ctv : Value), bindArgs (PySem.W.kla_fn "<lambda>" q params body scope cl pm cv ctv) ⟨[], []⟩ = pure [])
   (hL : ∀ j params body scope, G j params body scope → ∃ a, LamD X.N a X.env.scope scope ∧ DefB params body scope a)
   (hbody : ∀ j b params body scope, (G0 j params body scope ∨ G j params body scope) → bs[j]? = some b → ∀ (A : Around) (outer : List Env) (s : Shared) (H : Hp) (E : XK) (f c' : Addr), Room (k + 1) (A.deeper (LamX.lamEnv X scope s.heap.objs.size f c')) → SE T (LamX.lamCx X A outer s H E scope f c') (fun cls d _ H => E cls d H) body (evE p cal b)) :
   SE T X Wx (.Call (.Name x p1) [ae] [] pos) (evE p cal (.rfe g a bs)) := by
 have hA : X.A.depth + 1 < recursionLimit := by have := F.room.dp; omega
 obtain ⟨ask, told, e, ga, CP, pg, bg, sg, dV, kV, doc, pm, cdv, ct, oc, an, od, osl, f1, f2, f3, f4, f5, f6, f7, n6, n7, hGv, hLk, hR⟩ := RfdG.use F.df hA
 have hG := lk_callD (X := X) (TT := TRefP T p X.K CP) (G := fun j params body scope => G j params body scope ∧ ∃ b, bs[j]? = some b) (G0 := fun j params body scope => G0 j params body scope ∧ ∃ b, bs[j]? = some b) (tb := fun j E => rdE T (fun cls d _ H => E cls d H) (evE p cal ((bs[j]?).getD default))) (p := p1) (pos := pos) ha hst hgl f1 f2 f3 f4 f5 f6 rfl f7
   (hGv _) F.room (fun j params body scope z => hL j params body scope z.1) (fun j params body scope z => hL0 j params body scope z.1)
   (fun j params body scope ⟨z, b, hb⟩ A outer s H E f c' hr => by
     have := hbody j b params body scope (.inr z) hb A outer s H E f c' hr
     rw [hb]
     exact this)
   (fun j params body scope ⟨z, b, hb⟩ A outer s H E f c' hr => by
     have := hbody j b params body scope (.inl z) hb A outer s H E f c' hr
     rw [hb]
     exact this) hdb n6 n7
 refine PE.imp hG fun σ H0 Q ⟨c0, st0, h0, q0⟩ => ?_
 rw [evE] at q0
 obtain ⟨c1, st1, h1', q1⟩ := one h0 q0
 refine ⟨c1, st1, h1', q1.mono fun v H ⟨c, st, w, h, rw_, q⟩ => ?_⟩
 cases w with
 | glo j =>
   replace q : Post T Wx (relV T σ) c σ H (match st.s[0]? with
     | some OO.tab => refR p (evN p cal bs j st)
     | _ => .stk) Q := q
   cases e0 : st.s[0]? with
   | none => rw [e0] at q; exact (show False from q).elim
   | some o =>
   cases o with
   | lst _ => rw [e0] at q; exact (show False from q).elim
   | dct _ _ => rw [e0] at q; exact (show False from q).elim
   | ins _ _ _ => rw [e0] at q; exact (show False from q).elim
   | dnk _ _ => rw [e0] at q; exact (show False from q).elim
   | tab =>
   rw [e0] at q
   simp only at q
   replace rw_ : RW T c.lv c.nf H (.glo j) v := rw_
   simp only [RW] at rw_
   obtain ⟨f, rfl, o, c', ts, h1, n1, n2, h2, h3, h4⟩ := rw_
   rcases hlb _ _ _ _ h1 with ⟨b, pm', ctv', params, body, scope, hb, hGj, rfl, _⟩ | ⟨b, t, doc', pm', ctv', u, params, body, scope, hb, hGj, rfl, rfl⟩
   · rw [evN_get hb] at q
     refine .inr ⟨j, f, c', pm', ctv', params, body, scope, rfl, ⟨hGj, b, hb⟩, by rw [F.q]; exact h3, h2, ?_⟩
     unfold TRefP
     cases hrl : p.rl with
     | true =>
       simp only []
       obtain ⟨C1, C2, z1, z2, i1, i2, hlk, _⟩ := id (hLk hrl)
       rw [hlk]
       refine fun p0 o0 ho0 hp0 => ⟨by rw [upd_ne (ne_of_none h2 hp0)]; exact h2, ?_⟩
       rw [hb]
       exact rfx_tailL hrl hlk hLk hR h q ho0 hp0
     | false =>
       simp only []
       cases hrc : p.rc with
       | true =>
         refine ⟨h2, ?_⟩
         rw [hb]
         exact rfx_tailC hrl hrc F hR h q
       | false =>
         refine fun p0 o0 ho0 hp0 => ⟨by rw [upd_ne (ne_of_none h2 hp0)]; exact h2, ?_⟩
         rw [hb]
         exact rfx_tail hrl hrc F hR h q ho0 hp0
   · have ht := h4 _ (List.mem_singleton.mpr rfl)
     rw [evN_get hb] at q
     refine .inl ⟨j, f, t, c', doc', pm', ctv', u, params, body, scope, rfl, ⟨hGj, b, hb⟩, by rw [F.q]; exact h3, h2, ht, ?_⟩
     unfold TRefP
     cases hrl : p.rl with
     | true =>
       simp only []
       obtain ⟨C1, C2, z1, z2, i1, i2, hlk, _⟩ := id (hLk hrl)
       rw [hlk]
       refine fun p0 o0 ho0 hp0 => ⟨by rw [upd_ne (ne_of_none h2 hp0)]; exact h2, by rw [upd_ne (ne_of_none ht hp0)]; exact ht, ?_⟩
       rw [hb]
       exact rfx_tailL hrl hlk hLk hR h q ho0 hp0
     | false =>
       simp only []
       cases hrc : p.rc with
       | true =>
         refine ⟨h2, ht, ?_⟩
         rw [hb]
         exact rfx_tailC hrl hrc F hR h q
       | false =>
         refine fun p0 o0 ho0 hp0 => ⟨by rw [upd_ne (ne_of_none h2 hp0)]; exact h2, by rw [upd_ne (ne_of_none ht hp0)]; exact ht, ?_⟩
         rw [hb]
         exact rfx_tail hrl hrc F hR h q ho0 hp0
 | _ => exact (show False from q).elim
end
end Ev
namespace Ev
open PySem PySem.Spec PyProof.Rows L2 Calls ClX RZ
end Ev
namespace Ev
open PySem PySem.Spec PyProof.Rows L2 Calls ClX RZ
end Ev
namespace Ev
open PySem PySem.Spec PyProof.Rows L2 Calls ClX RZ
end Ev
namespace Ev
open PySem PySem.Spec PyProof.Rows L2 Calls ClX RZ
section
variable {T : Tb} {p : Pg} {X : Cx} {Wx : WX} {k : Nat} {cal : Bool → Nat → List W → List OO → RC} {inf : Inf} {top : Bool} {N : List Str} {nm : List (Str × NameKind)} {f : Expr → E → Bool} {g gl : List (Str × NameKind) → Expr → E → Bool}
variable {e a b : Expr} {x y z : E} {pos : Pos}
set_option maxHeartbeats 1000000
end
end Ev
namespace Ev
open PySem PySem.Spec PyProof.Rows L2 Calls ClX RZ
def noSwap (nm : List (Str × NameKind)) (ts vs : List Expr) : Bool := !(ts.length == 2 || ts.length == 3) || vs.all (foldedForSure 8) || ts.any fun
 | .Name x _ => !decide (nm.lookup x = some .local)
 | _ => true
def swVs (vs : List Expr) : Bool := vs.all notStar && !vs.all (foldedForSure 8) && !vs.all (constantsAlone 8)
end Ev
namespace Ev
open PySem PySem.Spec PyProof.Rows L2 Calls ClX RZ
def swF (nm : List (Str × NameKind)) (y : Str) (py : Pos) (e : Expr) : Bool := !isCmp e || decide (nm.lookup y = some .cell) || !(py.line == e.pos.line)
def shB (nm : List (Str × NameKind)) (y : Str) (py : Pos) : Expr → Bool
 | .ListComp _ _ scope pos => decide (nm.lookup y = some .local) && (py.line == pos.line) && !(scope.names.any fun (n, k) => n == y && (k == .local || k == .cell))
 | .DictComp _ _ _ scope pos => decide (nm.lookup y = some .local) && (py.line == pos.line) && !(scope.names.any fun (n, k) => n == y && (k == .local || k == .cell))
 | _ => false
def chkSl (h : Stmt → S → Bool) : List Stmt → List S → Bool
 | [], [] => true
 | s :: ss, x :: xs => h s x && chkSl h ss xs
 | _, _ => false
def isCpr : E → Bool
 | .cpr (.rfx ..) _ _ _ => false
 | .cpr .. => true
 | .cp2 .. => true
 | .dcp .. => true
 | _ => false
def setB (inf : Inf) (m : Nat) (N : List Str) (nm : List (Str × NameKind)) (y : Str) (py : Pos) (e : Expr) (i : Nat) (x : E) : Bool :=
 locB true N nm i y && ((swF nm y py e && chkE inf m N nm e x) || (shB nm y py e && isCpr x && chkE inf m N nm e x))
def locL (nm : List (Str × NameKind)) (N : List Str) (i : Nat) (x : Str) : Bool := decide (N[i]? = some x) && decide (nm.lookup x = some .local)
def nsB (nm : List (Str × NameKind)) (tg e : Expr) : Bool := match tg, e with
 | .Tuple ts _ _, .Tuple vs _ _ => noSwap nm ts vs
 | _, _ => !isTupE e
def parB (inf : Inf) (m : Nat) (N : List Str) (nm : List (Str × NameKind)) (s : Stmt) (is : List Nat) (es : List E) : Bool := match s with
 | .Assign [.Tuple [.Name x px, .Name y py] _ _] (.Tuple [a, b] _ _) _ => (match is, es with
  | [i, j], [xa, xb] => locL nm N i x && locL nm N j y && decide (i ≠ j) && !decide (x = y) && (py.line == px.line) && swVs [a, b] && chkL (chkE inf m N nm) [a, b] [xa, xb]
  | _, _ => false)
 | .Assign [.Tuple [.Name x px, .Name y py, .Name z pz] _ _] (.Tuple [a, b, d] _ _) _ => (match is, es with
  | [i, j, l], [xa, xb, xd] => locL nm N i x && locL nm N j y && locL nm N l z && decide (i ≠ j) && decide (i ≠ l) && decide (j ≠ l) && !decide (x = y) && !decide (x = z) && !decide (y = z) && (py.line == px.line) && (pz.line == px.line) && swVs [a, b, d] && chkL (chkE inf m N nm) [a, b, d] [xa, xb, xd]
  | _, _ => false)
 | _ => false
def chkS1 (inf : Inf) (m : Nat) (h : Stmt → S → Bool) (N : List Str) (nm : List (Str × NameKind)) (s : Stmt) : S → Bool
 | .nvr => true
 | .pas => (match s with | .Pass _ => true | .Expr (.Constant (.str _) _ _) _ => true | _ => false)
 | .brk => (match s with | .Break _ => true | _ => false)
 | .cnt => (match s with | .Continue _ => true | _ => false)
 | .ex x => (match s with | .Expr e _ => !isCmp e && chkE inf m N nm e x | _ => false)
 | .ret x => (match s with | .Return (some e) _ => chkE inf m N nm e x | _ => false)
 | .rtn => (match s with | .Return none _ => true | _ => false)
 | .ife c a b => (match s with | .If ec sa sb _ => chkE inf m N nm ec c && noIf ec && chkSl h sa a && chkSl h sb b | _ => false)
 | .set i x => (match s with | .Assign [.Name y py] e _ => setB inf m N nm y py e i x | _ => false)
 | .own i x => (match s with | .Assign [.Name y py] e _ => frs x && setB inf m N nm y py e i x | _ => false)
 | .unp t x => (match s with | .Assign [tg] e _ => isTupE tg && nsB nm tg e && chkTg true N nm t tg && chkE inf m N nm e x | _ => false)
 | .unq i j x => (match s with | .Assign [.Tuple [.Name y py, .Starred (.Name z pz) _] _ _] e _ => !isTupE e && chkTgs true N nm [.nam i, .nam j] [.Name y py, .Name z pz] && chkE inf m N nm e x | _ => false)
 | .sti o i x => (match s with | .Assign [.Subscript eo ei _] e _ => notSlice ei && chkE inf m N nm eo o && chkE inf m N nm ei i && chkE inf m N nm e x | _ => false)
 | .sta o q x => (match s with | .Assign [.Attribute eo y _] e _ => decide (inf.sy[q]? = some y) && chkE inf m N nm eo o && chkE inf m N nm e x | _ => false)
 | .aug i op x => (match s with | .AugAssign (.Name y _) o e _ => locB true N nm i y && decide (o = opOf op) && (decide (op = .add) || decide (op = .sub)) && chkE inf m N nm e x | _ => false)
 | .for t it b => (match s with | .For tg iter body [] _ => notSetE iter && chkI inf (chkE inf m N nm) nm tg iter it && chkTg true N nm t tg && chkSl h body b | _ => false)
 | .whl c b => (match s with | .While ec body [] _ => chkE inf m N nm ec c && noIf ec && chkSl h body b | _ => false)
 | .agi o i op x => (match s with | .AugAssign (.Subscript eo ei _) oo e _ => decide (oo = opOf op) && (decide (op = .add) || decide (op = .sub)) && notSlice ei && chkE inf m N nm eo o && chkE inf m N nm ei i && chkE inf m N nm e x | _ => false)
 | .aga o q op x => (match s with | .AugAssign (.Attribute eo y _) oo e _ => decide (inf.sy[q]? = some y) && decide (oo = opOf op) && (decide (op = .add) || decide (op = .sub)) && chkE inf m N nm eo o && chkE inf m N nm e x | _ => false)
 | .rai C xs => (match s with | .Raise (some (.Call (.Name y _) es [] _)) none _ => glB nm y && decide (inf.clN.lookup y = some C) && decide (C ∈ inf.rais) && chkL (chkE inf m N nm) es xs | _ => false)
 | .dli .. => false
 | .tri b => (match s with | .Try body (_ :: _) [] [] _ => chkSl h body b | _ => false)
 | .par is es => parB inf m N nm s is es
def chkS (inf : Inf) (m : Nat) (N : List Str) (nm : List (Str × NameKind)) : Nat → Stmt → S → Bool
 | 0, _, _ => false
 | n + 1, s, x => chkS1 inf m (chkS inf m N nm n) N nm s x
end Ev
set_option maxHeartbeats 1000000
namespace Ev
open PySem PySem.Spec PyProof.Rows L2 GenW
end Ev
set_option maxHeartbeats 1000000
namespace Ev
open PySem PySem.Spec PyProof.Rows L2 Calls ClX RZ
section
variable {T : Tb} {X : Cx} {Wx : WX} {p : Pg} {cal : Bool → Nat → List W → List OO → RC} {c c1 c2 : Cf} {st : St} {σ : L2.St} {H H1 : Hp} {k wf m sn : Nat} {D : GEnds} {inf : Inf} {N : List Str} {nm : List (Str × NameKind)}
def chkGl (h : Stmt → G → Bool) : List Stmt → List G → Bool
 | [], [] => true
 | s :: ss, x :: xs => h s x && chkGl h ss xs
 | _, _ => false
def chkG (inf : Inf) (m sn : Nat) (N : List Str) (nm : List (Str × NameKind)) : Nat → Stmt → G → Bool
 | 0, _, _ => false
 | n + 1, s, g => (match g with
  | .pl u => chkS inf m N nm sn s u
  | .yld x => (match s with | .Expr (.Yield (some e) _) _ => chkE inf m N nm e x | _ => false)
  | .for t it b => (match s with | .For tg iter body [] _ => notSetE iter && chkI inf (chkE inf m N nm) nm tg iter it && chkTg true N nm t tg && chkGl (chkG inf m sn N nm n) body b | _ => false))
end
end Ev
namespace Ev
open PySem PySem.Spec PyProof.Rows L2 Calls ClX RZ
structure DD where
 name : Str
 qual : Str
 params : Arguments
 body : List Stmt
 scope : Scope
 N : List Str
 ps : List Str
 va : Bool := false
def scB (N P : List Str) (sc : Scope) : Bool :=
 decide (sc.kind = .function) && !sc.isCoroutine && !sc.isGenerator && decide N.Nodup && decide (N.take P.length = P) && P.all (fun x => decide (sc.names.lookup x = some .local) || decide (sc.names.lookup x = some .cell)) && sc.names.all (fun y => !decide (y.2 = .free))
def stB (inf : Inf) (m sn : Nat) (d : DD) (fn : Fn) : Bool := scB d.N d.ps d.scope && decide (d.N.length = fn.nl) && decide (d.ps.length = fn.np) && decide (fn.np ≤ fn.nl) && chkSl (chkS (inf.at d.qual) m d.N d.scope.names sn) d.body fn.body
def scG (N P : List Str) (sc : Scope) : Bool :=
 decide (sc.kind = .function) && !sc.isCoroutine && sc.isGenerator && decide N.Nodup && decide (N.take P.length = P) && P.all (fun x => decide (sc.names.lookup x = some .local) || decide (sc.names.lookup x = some .cell)) && sc.names.all (fun y => !decide (y.2 = .free))
def stG (inf : Inf) (m sn : Nat) (d : DD) (g : Gn) : Bool := scG d.N d.ps d.scope && !decide (d.qual = ("law" : Str)) && !decide (d.qual = inf.ask) && decide (d.N.length = g.nl) && decide (d.ps.length = g.np) && decide (g.np ≤ g.nl) && chkGl (chkG inf.out m sn d.N d.scope.names sn) d.body g.body
end Ev
namespace Ev
open PySem PySem.Spec PyProof.Rows L2 Calls ClX RZ He
inductive At where
 | glo (x : Str) | met (c m : Str) | prp (c m : Str) | stt (c m : Str)
def At.ad (K : PySem.W.Frag) : At → Addr
 | .glo x => ga K x
 | .met c m => ma K (ga K c) m
 | .prp c m => match PySem.W.recIn K (ma K (ga K c) m) "property" with
  | some (.ref g :: _) => g
  | _ => 0
 | .stt c m => match PySem.W.recIn K (ma K (ga K c) m) "staticmethod" with
  | some (.ref g :: _) => g
  | _ => 0
structure TD where
 syms : List Str
 fat : List At
 can : List Str
 ask : Str := "law"
def symF (l : List Str) (i : Nat) : Str := match l[i]? with
 | some s => s
 | none => ⟨#[1114112 + i]⟩
def symB (l : List Str) : Bool := decide l.Nodup && l.all fun s => s.cps.all fun c => decide (c < 1114112)
def tbOf (td : TD) (K : PySem.W.Frag) : Tb where
 K := K
 ca := fun C => ga K (td.can.getD C Str.empty)
 sy := symF td.syms
 gv := fun _ => .non
 fa := fun f => (td.fat.getD f (.glo Str.empty)).ad K
 ta := (cT K (td.ask, none)).2
 tq := td.ask ++ ".<locals>." ++ "<lambda>"
def methB (K : PySem.W.Frag) (C : Addr) (m : Str) (f : Addr) : Bool := eqO (PySem.W.findIn K (.ref C) m) (some (some (.ref f))) && PySem.W.isFn K (.ref f) && PySem.W.keepIn K (.ref f)
def propB (K : PySem.W.Frag) (C : Addr) (m : Str) (f : Addr) : Bool := match PySem.W.findIn K (.ref C) m with
 | some (some (.ref q)) => eqO (PySem.W.specialIn K (.ref q) "__get__") (some (some (.builtin "property.__get__"))) && decide (PySem.W.takesIn K (.ref q) = some true) && (match PySem.W.recIn K q "property" with
  | some (.ref g :: _) => decide (g = f)
  | _ => false)
 | _ => false
def conB (K : PySem.W.Frag) (C : Addr) (m : Str) (w : W) : Bool := match vC w, PySem.W.findIn K (.ref C) m with
 | some v, some (some u) => He.relB v u && eqO (PySem.W.specialIn K u "__get__") (some none) && !(PySem.W.copiedNames.contains m)
 | _, _ => false
def konB (K : PySem.W.Frag) (C : Addr) (m : Str) (w : W) : Bool := match vC w, PySem.W.findCls K (.ref C) (.type "type") m with
 | some v, some (.val u) => He.relB v u && PySem.W.readsIn K C (.type "type") && eqO (PySem.W.specialIn K (.ref C) "__getattribute__") (some (some (.builtin "type.__getattribute__")))
 | _, _ => false
def stsB (K : PySem.W.Frag) (C : Addr) (m : Str) (g : Addr) : Bool := PySem.W.readsIn K C (.type "type") && eqO (PySem.W.specialIn K (.ref C) "__getattribute__") (some (some (.builtin "type.__getattribute__"))) && PySem.W.keepIn K (.ref g) && (match PySem.W.findCls K (.ref C) (.type "type") m with
 | some (.get (.builtin b) (.ref q) .none (.ref D)) => decide (b = "staticmethod.__get__") && decide (D = C) && (match PySem.W.recIn K q "staticmethod" with
  | some (.ref f :: _) => decide (f = g)
  | _ => false)
 | _ => false)
def clsB (p : Pg) (T : Tb) (K : PySem.W.Frag) (C : Nat) (c : Cl) : Bool :=
 let a := T.ca C
 PySem.W.plainGet K a Str.empty && (PySem.W.hasDictIn K a && (PySem.W.plainOver K a && eqO (PySem.W.findIn K (.ref a) "__setattr__") (some (some (.builtin "object.__setattr__"))))) &&
 eqO (PySem.W.findIn K (.ref a) "__class__") (some (some (.builtin "object.__class__"))) &&
 eqO (PySem.W.specialIn K (.builtin "object.__class__") "__get__") (some (some (.builtin "getset_descriptor.__get__"))) &&
 decide (PySem.W.takesIn K (.builtin "object.__class__") = some true) && decide (PySem.W.mroIn K a (.type "object") = some true) &&
 ([0, 1, 2, 3, 4, 5, 6].all fun n => decide (PySem.W.kitOne K (.ref a) (.type (tyN n)) = some false) && decide (PySem.W.kitOne K (.type (tyN n)) (.ref a) = some false)) &&
 ((List.range p.cls.length).all fun D => match clsG p D with
   | some _ => decide (PySem.W.kitOne K (.ref a) (.ref (T.ca D)) = some (subC p C D))
   | none => true) &&
 (if (c.meths.lookup p.sEq).isSome then ([0, 1, 2, 3, 4, 5, 6].all fun n => PySem.W.notFirst K a (.type (tyN n))) && ((List.range p.cls.length).all fun D => match clsG p D with
     | some _ => PySem.W.notFirst K a (.ref (T.ca D))
     | none => true) && eqO (PySem.W.findIn K (.ref a) "__ne__") (some (some (.builtin "object.__ne__"))) else true) &&
 PySem.W.selfFirst K a &&
 (c.flds.all fun f => eqO (PySem.W.findIn K (.ref a) (T.sy f)) (some none)) &&
 (c.meths.all fun q => methB K a (T.sy q.1) (T.fa q.2)) && (c.props.all fun q => propB K a (T.sy q.1) (T.fa q.2)) && (c.consts.all fun q => conB K a (T.sy q.1) q.2)
def factB (p : Pg) (inf : Inf) (T : Tb) (K : PySem.W.Frag) : Bool :=
 ((List.range p.cls.length).all fun C => match clsG p C with
   | some c => clsB p T K C c
   | none => true) &&
 ((List.range p.cls.length).all fun C => match p.cls[C]? with
   | some c => c.consts.all fun q => konB K (T.ca C) (T.sy q.1) q.2
   | none => true) &&
 (inf.fnN.all fun q => eqO (PySem.W.nsIn K mainGlobals q.1) (some (some (.ref (T.fa q.2)))) && PySem.W.keepIn K (.ref (T.fa q.2))) &&
 (inf.clN.all fun q => eqO (PySem.W.nsIn K mainGlobals q.1) (some (some (.ref (T.ca q.2))))) &&
 (inf.cons.all fun q => match vC q.2, PySem.W.nsIn K mainGlobals q.1 with
   | some v, some (some u) => He.relB v u
   | _, _ => false) &&
 (inf.free.all fun x => eqO (PySem.W.nsIn K mainGlobals x) (some none)) &&
 (inf.makes.all fun q => match (p.cls[q.1]?).bind (·.init) with
   | some g => PySem.W.makesIn K (T.ca q.1) && eqO (PySem.W.findIn K (.ref (T.ca q.1)) "__init__") (some (some (.ref (T.fa g)))) && PySem.W.isFn K (.ref (T.fa g)) && PySem.W.keepIn K (.ref (T.ca q.1))
   | none => false) &&
 (p.vms.all fun q => methB K (T.ca q.1) (T.sy q.2.1) (T.fa q.2.2)) && (inf.gens.all fun q => methB K (T.ca q.1) (T.sy q.2.1) (T.fa q.2.2)) && (p.nst.all fun C => decide (PySem.W.subIn K (.ref (T.ca C)) (.type "StopIteration") = some false)) && (inf.stts.all fun q => stsB K (T.ca q.1) (T.sy q.2.1) (T.fa q.2.2))
structure DX where
 at_ : At
 d : DD
 dfl : List Dv := []
 kwd : List (Str × Dv) := []
 em : Bool := false
def fnO (K : PySem.W.Frag) (a : Addr) : FnW := match K.lookup a with
 | some ⟨_, _, .func fd, _⟩ => some (fd.name, fd.qualname, fd.params, fd.body, fd.scope, fd.globals, fd.closure, fd.builtins)
 | _ => none
def DX.val (x : DX) : FnW := some (x.d.name, x.d.qual, x.d.params, .stmts x.d.body, x.d.scope, mainGlobals, [], builtinsNs)
def emB (K : PySem.W.Frag) : List V → Bool
 | [.ref a] => (match K.lookup a with
  | some ⟨.type t, none, .seq its _, _⟩ => decide (t = "tuple") && its.isEmpty
  | _ => false)
 | _ => false
def DX.ok (K : PySem.W.Frag) (x : DX) : Bool := match K.lookup (x.at_.ad K) with
 | some ⟨_, _, .func fd, _⟩ => PySem.W.codeIn K fd.code x.d.qual && (dflB K fd.defaults (x.dfl.map (Dv.v K)) && kwdB K fd.kwdefaults (x.kwd.map fun q => (q.1, q.2.v K))) && (!x.em || emB K (x.dfl.map (Dv.v K)))
 | _ => false
structure XC where
 C : Nat
 dx : DX
 me : Str
 b : Nat := 0
structure RF where
 x : Str
 dr : DX
 ask : Str
 told : Str
 e : Str
 cP : Str
 cQ : Str := Str.empty
 fx : Str
 df : DX
 fe : Str
structure XT where
 xc : List XC := []
 rf : Option RF := none
 file : Str := Str.empty
 ask : Str := "law"
def XT.dx (xt : XT) : List DX := match xt.rf with
 | some r => [r.dr, r.df]
 | none => []
abbrev FnC : Type := Option (Str × Str × Arguments × FuncBody × Scope × Addr × List Str × Addr)
def fnC (K : PySem.W.Frag) (a : Addr) : FnC := match K.lookup a with
 | some ⟨_, _, .func fd, _⟩ => some (fd.name, fd.qualname, fd.params, fd.body, fd.scope, fd.globals, fd.closure.map Prod.fst, fd.builtins)
 | _ => none
def DX.valC (x : DX) : FnC := some (x.d.name, x.d.qual, x.d.params, .stmts x.d.body, x.d.scope, mainGlobals, ["__class__"], builtinsNs)
def exClsB (k : Nat) (K : PySem.W.Frag) (C : Addr) : Bool := match K.lookup C with
 | some ⟨.type t, _, .cls ci, sl⟩ => decide (t = "type") && (match ci.mro with
  | .ref b :: bm => decide (b = C) && refsTB (bT k) bm
  | _ => false) && ci.hasDict && !ci.hasDel && (match sl.toList with
  | [_, _, _, _, some (.builtin n), _] => decide (n = bN k)
  | _ => false)
 | _ => false
def xcB (p : Pg) (T : Tb) (K : PySem.W.Frag) (file : Str) (x : XC) : Bool :=
 exClsB x.b K (T.ca x.C) && eqO (PySem.W.findIn K (.ref (T.ca x.C)) "__setattr__") (some (some (.builtin "object.__setattr__"))) && decide (PySem.W.subIn K (.ref (T.ca x.C)) (.type "BaseException") = some true) &&
 decide (PySem.W.typeIn K (.ref (T.ca x.C)) = some (.type "type")) && PySem.W.keepIn K (.ref (T.ca x.C)) && eqO (PySem.W.findIn K (.ref (T.ca x.C)) "__init__") (some (some (.ref (x.dx.at_.ad K)))) &&
 decide (PySem.W.typeIn K (.ref (x.dx.at_.ad K)) = some (.type "function")) &&
 (match K.lookup (x.dx.at_.ad K) with
 | some ⟨_, _, .func fd, _⟩ => PySem.W.codeIn K fd.code x.dx.d.qual && (dflB K fd.defaults [] && kwdB K fd.kwdefaults []) && (match fd.code with
  | .ref cda => (match K.lookup cda with
   | some ⟨_, _, .fields vs, _⟩ => (match vs[2]? with
    | some (Value.str f _) => decide (f = file)
    | _ => false)
   | _ => false)
  | _ => false) && (match fd.closure with
  | [(_, cc)] => (match K.lookup cc with
   | some ⟨_, _, .cell (some (.ref b)), _⟩ => decide (b = T.ca x.C)
   | _ => false)
  | _ => false)
 | _ => false) &&
 decide (PySem.W.mroIn K (T.ca x.C) (.ref (T.ca x.C)) = some true) && eqO (PySem.W.ks_superIn K (T.ca x.C) (T.ca x.C) "__init__") (some (some (.builtin (bI x.b)))) && decide (PySem.W.subIn K (.ref (T.ca x.C)) (.type (bB x.b)) = some true) &&
 eqO (PySem.W.nsIn K cStatics "thirdparty.any") (some none) && (match (p.cls[x.C]?).bind (·.exn) with
  | some (_, ns, _) => ns.all fun n => eqO (PySem.W.findIn K (.ref (T.ca x.C)) (T.sy n)) (some none)
  | none => false)
def lkB (p : Pg) (T : Tb) (K : PySem.W.Frag) (r : RF) : Bool := if p.rl then (match p.lk with
   | [(C1, _, _), (C2, _, _)] => decide (ga K r.cP = T.ca C1) && decide (ga K r.cQ = T.ca C2) && eqO (PySem.W.nsIn K mainGlobals r.cQ) (some (some (.ref (ga K r.cQ)))) && decide (PySem.W.exmOne K (.ref (T.ca C1)) (.ref (T.ca C1)) = some true) &&
       decide (PySem.W.exmOne K (.ref (T.ca C2)) (.ref (T.ca C1)) = some false) && decide (PySem.W.exmOne K (.ref (T.ca C2)) (.ref (T.ca C2)) = some true)
   | _ => false) else true
def rfB (p : Pg) (T : Tb) (K : PySem.W.Frag) (r : RF) : Bool :=
 PySem.W.keepIn K (.ref (r.dr.at_.ad K)) && PySem.W.keepIn K (.ref (r.df.at_.ad K)) && eqO (PySem.W.nsIn K mainGlobals r.x) (some (some (.ref (r.dr.at_.ad K)))) && eqO (PySem.W.nsIn K mainGlobals r.fx) (some (some (.ref (r.df.at_.ad K)))) &&
 eqO (PySem.W.nsIn K mainGlobals r.cP) (some (some (.ref (ga K r.cP)))) && lkB p T K r && p.rok.all fun C => (p.rl || decide (PySem.W.exmOne K (.ref (T.ca C)) (.ref (ga K r.cP)) = some true)) && xfB K (T.ca C) && eqO (PySem.W.findIn K (.ref (T.ca C)) "code") (some none) &&
  (clS T p.rfd).all fun q => eqO (PySem.W.findIn K (.ref (T.ca C)) q.2) (some none)
def xcfB (p : Pg) (T : Tb) (K : PySem.W.Frag) : Bool := p.xcl.all fun C => xfB K (T.ca C) && eqO (PySem.W.findIn K (.ref (T.ca C)) "__class__") (some (some (.builtin "object.__class__"))) && eqO (PySem.W.specialIn K (.builtin "object.__class__") "__get__") (some (some (.builtin "getset_descriptor.__get__"))) &&
 decide (PySem.W.takesIn K (.builtin "object.__class__") = some true) && decide (PySem.W.mroIn K (T.ca C) (.type "object") = some true) && (p.xfs.all fun f => eqO (PySem.W.findIn K (.ref (T.ca C)) (T.sy f)) (some none)) && p.xk.all fun k => decide (PySem.W.kitOne K (.ref (T.ca C)) (kxU T k) = some (isxB p C k))
def exB (p : Pg) (T : Tb) (K : PySem.W.Frag) (xt : XT) : Bool := (xt.xc.all fun x => xcB p T K xt.file x) && (match xt.rf with
 | some r => rfB p T K r
 | none => true) && xcfB p T K
def tfOf (xt : XT) : List Defn := [(xt.ask, none)]
def dctB (K : PySem.W.Frag) (q : Str × List Tx × List W) : Bool := eqO (PySem.W.nsIn K mainGlobals q.1) (some (some (.ref (ga K q.1)))) && (q.2.1.all fun k => match PySem.W.nsIn K (ga K q.1) (tS k) with
 | some (some _) => true
 | _ => false) && (q.2.1.zip q.2.2).all fun z => match vC z.2, PySem.W.nsIn K (ga K q.1) (tS z.1) with
 | some v, some (some u) => He.relB v u
 | _, _ => false
abbrev DctK : Type := Option (List (Option (Str × Int)))
abbrev AlX : Type := Bool × List FnW × List FnC × List DctK
def obsX (p : Pg) (inf : Inf) (td : TD) (dx : List DX) (xt : XT) (K : PySem.W.Frag) (b : Bool) : AlX := (factB p inf (tbOf td K) K && ((dx ++ xt.dx).all fun x => x.ok K) && exB p (tbOf td K) K xt && inf.dcs.all (dctB K) && b, (dx ++ xt.dx).map fun x => fnO K (x.at_.ad K), xt.xc.map fun x => fnC K (x.dx.at_.ad K), inf.dcs.map fun q => He.dicW K (ga K q.1))
def valX (inf : Inf) (dx : List DX) (xt : XT) (w : World) : AlX := (true, (dx ++ xt.dx).map DX.val, xt.xc.map fun x => x.dx.valC, inf.dcs.map fun q => some (He.keysIn w.params (q.2.1.map tS)))
structure SaysX (p : Pg) (inf : Inf) (td : TD) (dx : List DX) (xt : XT) (w : World) (h : Heap) (K : PySem.W.Frag) : Prop where
 t : obsX p inf td dx xt K true = valX inf dx xt w
 hd : ∀ q ∈ tfOf xt, PySem.W.codeHdIn K (cT K q).1 (cT K q).2 = true
 out : ∀ q ∈ tfOf xt, K.lookup (cT K q).2 = none
 empty : ∀ q ∈ tfOf xt, h.get? (cT K q).2 = some { cls := .none, data := .fields #[] }
def frX (g : Addr → Option Obj) (n : List Addr) : PySem.W.Frag := frT g n
def obsXG (n : List Addr) (p : Pg) (inf : Inf) (td : TD) (dx : List DX) (xt : XT) (g : Addr → Option Obj) : AlX := obsX p inf td dx xt (frX g n) (tabsB g (tfOf xt) (frX g n))
theorem saysX_of {n : List Addr} {p : Pg} {inf : Inf} {td : TD} {dx : List DX} {xt : XT} {w : World} {h : Heap} (e : obsXG n p inf td dx xt h.get? = valX inf dx xt w) : SaysX p inf td dx xt w h (frX h.get? n) := by
 have e1 : (factB p inf (tbOf td (frX h.get? n)) (frX h.get? n) && ((dx ++ xt.dx).all fun x => x.ok (frX h.get? n)) && exB p (tbOf td (frX h.get? n)) (frX h.get? n) xt && inf.dcs.all (dctB (frX h.get? n)) && tabsB h.get? (tfOf xt) (frX h.get? n)) = true := congrArg (fun z : AlX => z.1) e
 obtain ⟨e2, e3⟩ := ba e1
 have key : ∀ q ∈ tfOf xt, PySem.W.codeHdIn (frX h.get? n) (cT (frX h.get? n) q).1 (cT (frX h.get? n) q).2 = true ∧ ∃ o, h.get? (cT (frX h.get? n) q).2 = some o ∧ emptyTab o = true := fun q hq => by
  obtain ⟨h3, h4⟩ := ba (List.all_eq_true.mp e3 q hq)
  refine ⟨h3, ?_⟩
  split at h4
  ·rename_i o ho
   exact ⟨o, ho, h4⟩
  ·cases h4
 refine ⟨?_, fun q hq => (key q hq).1, fun q hq => ?_, fun q hq => ?_⟩
 ·have e4 : (factB p inf (tbOf td (frX h.get? n)) (frX h.get? n) && ((dx ++ xt.dx).all fun x => x.ok (frX h.get? n)) && exB p (tbOf td (frX h.get? n)) (frX h.get? n) xt && inf.dcs.all (dctB (frX h.get? n)) && true) = true := by
   rw [e2] <;> rfl
  exact Prod.ext e4 (show (obsXG n p inf td dx xt h.get?).2 = (valX inf dx xt w).2 from congrArg (fun z : AlX => z.2) e)
 ·obtain ⟨_, o, z1, z2⟩ := key q hq
  exact frT_none z1 z2
 ·obtain ⟨_, o, z1, z2⟩ := key q hq
  rw [z1, emptyTab_eq z2]
def hookX (n : List Addr) (p : Pg) (inf : Inf) (td : TD) (dx : List DX) (xt : XT) : PySem.W.Hook where
 α := AlX
 obs := fun s => obsXG n p inf td dx xt s.heap.get?
 val := fun w => valX inf dx xt w
 says := fun w h => ∃ K : PySem.W.Frag, K.In h ∧ SaysX p inf td dx xt w h K
 of := fun _ _ e => ⟨_, frT_in, saysX_of e⟩
 keeps := fun _ _ _ ⟨K, hK, c⟩ k => ⟨K, PySem.W.Frag.In.keeps hK k, ⟨c.t, c.hd, c.out, fun q hq => k _ _ (c.empty q hq)⟩⟩
end Ev
namespace Ev
open PySem PySem.Spec PyProof.Rows L2 Calls ClX RZ He
section
variable {p : Pg} {T : Tb} {K : PySem.W.Frag} {inf : Inf} {m sn : Nat} {mg : Str → Option Value} {h : Heap}
def BindA (x : DX) : Prop := x.dfl = [] ∧ x.kwd = [] ∧ ∀ (kV doc pm : Value) (an : Option Addr) (cdv ct : Value) (us : List Value), us.length = x.d.ps.length → bindArgs (PySem.W.fnOf x.d.name x.d.qual x.d.params x.d.body x.d.scope .none kV doc pm an cdv ct) ⟨us, []⟩ = pure (x.d.ps.zip us)
def BindV (x : DX) : Prop := x.dfl = [] ∧ x.kwd = [] ∧ ∀ (kV doc pm : Value) (an : Option Addr) (cdv ct : Value) (us es : List Value), us.length + 1 = x.d.ps.length → es.length ≤ 3 → bindArgs (PySem.W.fnOf x.d.name x.d.qual x.d.params x.d.body x.d.scope .none kV doc pm an cdv ct) ⟨us ++ es, []⟩ = (newTuple es >>= fun t => pure (x.d.ps.zip (us ++ [t])))
def BindD (x : DX) : Prop := match x.d.va with
 | true => BindV x
 | false => BindA x ∨ (x.kwd = [] ∧ x.dfl ≠ [] ∧ ∀ (T : Addr) (kV doc pm : Value) (an : Option Addr) (cdv ct : Value) (us its : List Value), us.length = x.d.ps.length → its.length = x.dfl.length →
 ∃ k, bindArgs (PySem.W.fnOf x.d.name x.d.qual x.d.params x.d.body x.d.scope (.ref T) kV doc pm an cdv ct) ⟨us, []⟩ = seqItems? (.ref T) >>= k ∧ k (some its.toArray) = pure (x.d.ps.zip us))
def AllD : List DX → Prop
 | [] => True
 | x :: r => BindD x ∧ AllD r
def askB (p : Pg) (inf : Inf) (m sn : Nat) (dx : List DX) : Bool := match p.ask with
 | none => inf.asites.isEmpty
 | some fn => (match dx[p.fns.length + p.gens.length]? with
  | some x => stB inf m sn x.d fn && decide (x.d.qual = inf.ask) && inf.rf.isSome && inf.asites.all fun q => decide (q.1 = p.fns.length + p.gens.length) && decide (fn.np = q.2.1) && q.2.2.1.isEmpty && q.2.2.2.isEmpty
  | none => false)
def vmsB (p : Pg) (inf : Inf) (dx : List DX) : Bool := (dx.zipIdx.all fun q => !q.1.d.va || (decide (q.2 < p.fns.length) && (p.cls.all fun c => (c.meths.all fun z => !decide (z.2 = q.2)) && (c.props.all fun z => !decide (z.2 = q.2))) && inf.sites.all fun z => !decide (z.1 = q.2)) && p.cls.all fun c => !decide (c.init = some q.2)) &&
 p.vms.all fun q => (clsG p q.1).isSome && decide (q.2.2 < p.fns.length) && (match dx[q.2.2]? with
  | some x => x.d.va && !decide (x.d.qual = ("law" : Str)) && !decide (x.d.qual = inf.ask)
  | none => false)
def tabB (p : Pg) (inf : Inf) (m sn : Nat) (td : TD) (dx : List DX) : Bool :=
 symB td.syms && decide (symF td.syms p.sEq = "__eq__") && decide (symF td.syms p.sLen = "__len__") && decide (symF td.syms p.sIn = "__contains__") && decide (symF td.syms p.sRepr = "__repr__") && decide (symF td.syms p.sAdd = "__add__") && decide (symF td.syms p.sMul = "__mul__") &&
 decide (inf.sy = td.syms) && decide (dx.length = p.fns.length + p.gens.length + (if p.ask.isSome then 1 else 0)) && ((dx.zip p.fns).all fun q => stB inf m sn q.1.d q.2) &&
 ((List.range p.cls.length).all fun C => match clsG p C with
   | some c => (c.meths.all fun q => decide (q.2 < p.fns.length)) && (c.props.all fun q => decide (q.2 < p.fns.length))
   | none => true) &&
 vmsB p inf dx && decide (td.ask = inf.ask) && askB p inf m sn dx &&
 (((dx.drop p.fns.length).zip p.gens).all fun q => stG inf m sn q.1.d q.2) &&
 (inf.gens.all fun q => (clsG p q.1).isSome && decide (p.fns.length ≤ q.2.2) && (match p.gens[q.2.2 - p.fns.length]? with
   | some g => decide (g.np = 2)
   | none => false))
end
end Ev
namespace Ev
open PySem PySem.Spec PyProof.Rows L2 Calls ClX RZ He
end Ev
namespace Ev
open PySem PySem.Spec PyProof.Rows L2 Calls ClX RZ He
def st0 (xt : XT) : List OO := [.tab]
end Ev
namespace G
open Ev
def f__wall : Fn := ⟨1, 1, [.whl (.cst (.bl true)) [.pas]]⟩
def f_is_whole : Fn := ⟨1, 1, [.ret (.bnd (.isi (.var 0) [.int]) (.bnt (.isi (.var 0) [.bool])))]⟩
def f_is_word : Fn := ⟨2, 3, [.ret (.bnd (.chn .le .le (.cst (.int 1)) (.bif .len [(.var 0)]) (.var 1)) (.bif .all [(.cpr (.cmp .inn (.var 2) (.glo 0 (.str [97, 98, 99, 100, 101, 102, 103, 104, 105, 106, 107, 108, 109, 110, 111, 112, 113, 114, 115, 116, 117, 118, 119, 120, 121, 122]))) (.nam 2) (.val (.var 0)) none)]))]⟩
def f_is_constructor : Fn := ⟨1, 1, [.ife (.bor (.bnt (.isi (.var 0) [.tuple])) (.bor (.cmp .ne (.bif .len [(.var 0)]) (.cst (.int 2))) (.bnt (.isi (.sub (.var 0) (.cst (.int 0))) [.str])))) [.ret (.cst (.bl false))] [],
  .ret (.bnd (.cal 2 [(.sub (.var 0) (.cst (.int 0))), (.glo 2 (.int 6))]) (.bnd (.cal 1 [(.sub (.var 0) (.cst (.int 1)))]) (.chn .le .le (.cst (.int 0)) (.sub (.var 0) (.cst (.int 1))) (.glo 1 (.int 3)))))]⟩
def f_Shape_init : Fn := ⟨2, 7, [.own 2 (.lst []),
  .for (.tup [(.nam 3), (.nam 4)]) (.enu (.var 1) none) [.ife (.bor (.cmp .eq (.var 3) (.kon 8 6)) (.bor (.bnt (.cal 3 [(.var 4)])) (.cmp .inn (.sub (.var 4) (.cst (.int 0))) (.var 2)))) [.rai 2 [(.var 3)]] [],
  .ex (.cmt .append (.var 2) [(.sub (.var 4) (.cst (.int 0)))])],
  .sta (.var 0) 7 (.bif .tuple [(.var 1)]),
  .ife (.bor (.cmp .lt (.bif .len [(.var 2)]) (.cst (.int 2))) (.cmp .nin (.cst (.int 0)) (.cpr (.var 6) (.tup [(.nam 5), (.nam 6)]) (.val (.att (.var 0) 7)) none))) [.rai 2 [(.bif .len [(.var 2)])]] [],
  .sta (.var 0) 8 (.dcp (.var 5) (.var 6) (.tup [(.nam 5), (.nam 6)]) (.val (.att (.var 0) 7))),
  .sta (.var 0) 9 (.dcp (.var 5) (.var 3) (.tup [(.nam 3), (.nam 5)]) (.enu (.frz 2) none))]⟩
def f_Shape_eq : Fn := ⟨2, 2, [.ret (.bnd (.isi (.var 1) [.cls 8]) (.cmp .eq (.att (.var 0) 7) (.att (.var 1) 7)))]⟩
def f_Shape_len : Fn := ⟨1, 1, [.ret (.bif .len [(.att (.var 0) 7)])]⟩
def f_Shape_contains : Fn := ⟨2, 2, [.ret (.cmp .inn (.var 1) (.att (.var 0) 8))]⟩
def f_Shape_repr : Fn := ⟨1, 1, [.ret (.fst [(.cst (.str [83, 104, 97, 112, 101, 40])), (.bif .len [(.att (.var 0) 7)]), (.cst (.str [32, 99, 111, 110, 115, 116, 114, 117, 99, 116, 111, 114, 115, 41]))])]⟩
def f_Shape_constructors : Fn := ⟨1, 1, [.ret (.bif .list [(.att (.var 0) 7)])]⟩
def f_is_tree : Fn := ⟨2, 3, [.ife (.bor (.bnt (.isi (.var 1) [.tuple])) (.bor (.cmp .eq (.bif .len [(.var 1)]) (.cst (.int 0))) (.bor (.bnt (.isi (.sub (.var 1) (.cst (.int 0))) [.str])) (.cmp .nin (.sub (.var 1) (.cst (.int 0))) (.var 0))))) [.ret (.cst (.bl false))] [],
  .ife (.cmp .ne (.bif .len [(.var 1)]) (.bin .add (.cst (.int 1)) (.sub (.att (.var 0) 8) (.sub (.var 1) (.cst (.int 0)))))) [.ret (.cst (.bl false))] [],
  .ret (.bif .all [(.cpr (.cal 10 [(.var 0), (.var 2)]) (.nam 2) (.val (.slc (.var 1) (some (.cst (.int 1))) none)) none)])]⟩
def f_check_tree : Fn := ⟨2, 2, [.ife (.bnt (.cal 10 [(.var 0), (.var 1)])) [.rai 3 []] []]⟩
def f_Grove_init : Fn := ⟨2, 2, [.sta (.var 0) 10 (.var 1),
  .sta (.var 0) 11 (.alc (.lst [])),
  .sta (.var 0) 12 .dkn,
  .sta (.var 0) 13 (.alc (.lst [])),
  .sta (.var 0) 14 (.alc (.lst []))]⟩
def f_Grove_len : Fn := ⟨1, 1, [.ret (.bif .len [(.att (.var 0) 11)])]⟩
def f_Grove_contains : Fn := ⟨2, 2, [.ret (.bnd (.cal 1 [(.var 1)]) (.chn .le .lt (.cst (.int 0)) (.var 1) (.bif .len [(.att (.var 0) 11)])))]⟩
def f_Grove_repr : Fn := ⟨1, 1, [.ret (.fst [(.cst (.str [71, 114, 111, 118, 101, 40])), (.bif .len [(.att (.var 0) 11)]), (.cst (.str [32, 110, 111, 100, 101, 115, 41]))])]⟩
def f_Grove_planted : Fn := ⟨3, 5, [.set 3 (.tup [(.var 1), (.var 2)]),
  .ife (.dki true (.var 3) (.att (.var 0) 12)) [.sti (.att (.var 0) 12) (.var 3) (.bif .len [(.att (.var 0) 11)]),
  .ex (.cmt .append (.att (.var 0) 11) [(.bin .add (.tup [(.var 1)]) (.var 2))]),
  .ex (.cmt .append (.att (.var 0) 13) [(.bin .add (.cst (.int 1)) (.bif .sum [(.cpr (.sub (.att (.var 0) 13) (.var 4)) (.nam 4) (.val (.var 2)) none)]))]),
  .ex (.cmt .append (.att (.var 0) 14) [(.bin .add (.cst (.int 1)) (.bif .max [(.bin .add (.lst [(.cst (.int 0))]) (.cpr (.sub (.att (.var 0) 14) (.var 4)) (.nam 4) (.val (.var 2)) none))]))])] [],
  .ret (.dkg (.att (.var 0) 12) (.var 3))]⟩
def f_Grove_check_node : Fn := ⟨2, 2, [.ife (.bnt (.chn .le .lt (.cst (.int 0)) (.var 1) (.bif .len [(.att (.var 0) 11)]))) [.rai 6 [(.var 1)]] []]⟩
def f_Grove_node : Fn := ⟨2, 2, [.ex (.mth (.var 0) 15 [(.var 1)]),
  .ret (.tup [(.sub (.sub (.att (.var 0) 11) (.var 1)) (.cst (.int 0))), (.slc (.sub (.att (.var 0) 11) (.var 1)) (some (.cst (.int 1))) none)])]⟩
def f_Grove_plant : Fn := ⟨3, 4, [.ife (.bor (.cmp .nin (.var 1) (.att (.var 0) 10)) (.cmp .ne (.bif .len [(.var 2)]) (.sub (.att (.att (.var 0) 10) 8) (.var 1)))) [.rai 3 []] [],
  .for (.nam 3) (.val (.var 2)) [.ex (.mth (.var 0) 15 [(.var 3)])],
  .ret (.mth (.var 0) 16 [(.var 1), (.var 2)])]⟩
def f_Grove_add : Fn := ⟨2, 2, [.ex (.cal 11 [(.att (.var 0) 10), (.var 1)]),
  .ret (.mth (.var 0) 17 [(.var 1)])]⟩
def f_Grove_added : Fn := ⟨2, 3, [.ret (.mth (.var 0) 16 [(.sub (.var 1) (.cst (.int 0))), (.bif .tuple [(.cpr (.mth (.var 0) 17 [(.var 2)]) (.nam 2) (.val (.slc (.var 1) (some (.cst (.int 1))) none)) none)])])]⟩
def f_Grove_size : Fn := ⟨2, 2, [.ex (.mth (.var 0) 15 [(.var 1)]),
  .ret (.sub (.att (.var 0) 13) (.var 1))]⟩
def f_Grove_levels : Fn := ⟨2, 2, [.ex (.mth (.var 0) 15 [(.var 1)]),
  .ret (.sub (.att (.var 0) 14) (.var 1))]⟩
def f_Grove_tree : Fn := ⟨2, 5, [.ife (.cmp .gt (.mth (.var 0) 18 [(.var 1)]) (.glo 3 (.int 400))) [.rai 4 [(.glo 3 (.int 400))]] [],
  .unp (.tup [(.nam 2), (.nam 3)]) (.mth (.var 0) 19 [(.var 1)]),
  .ret (.bin .add (.tup [(.var 2)]) (.bif .tuple [(.cpr (.mth (.var 0) 20 [(.var 4)]) (.nam 4) (.val (.var 3)) none)]))]⟩
def f__law_feed : Fn := ⟨1, 4, [.set 1 (.cpr (.bif .int [(.var 2)]) (.nam 2) (.val (.slc (.var 0) none (some (.cst (.int 63))))) none),
  .set 3 (.bin .add (.cst (.int 3825)) (.bin .mul (.cst (.int 61)) (.bif .len [(.var 1)]))),
  .for (.nam 2) (.val (.var 1)) [.set 3 (.bin .mod (.bif .int [(.bin .add (.bin .mul (.var 3) (.cst (.int 8117))) (.var 2))]) (.cst (.int 2147483629)))],
  .ret (.alc (.lst [(.var 1), (.cst (.int 0)), (.cst (.int 0)), (.var 3)]))]⟩
def f__law_draw : Fn := ⟨2, 6, [.ife (.cmp .lt (.sub (.var 0) (.cst (.int 2))) (.cst (.int 2))) [.sti (.var 0) (.cst (.int 1)) (.bin .add (.sub (.var 0) (.cst (.int 1))) (.cst (.int 1))),
  .set 2 (.bin .add (.sub (.var 0) (.cst (.int 3))) (.bin .mul (.sub (.var 0) (.cst (.int 1))) (.cst (.int 5167)))),
  .ife (.cmp .le (.sub (.var 0) (.cst (.int 1))) (.bif .len [(.sub (.var 0) (.cst (.int 0)))])) [.set 2 (.sub (.sub (.var 0) (.cst (.int 0))) (.bin .sub (.sub (.var 0) (.cst (.int 1))) (.cst (.int 1))))] [],
  .ife (.bor (.cmp .gt (.sub (.var 0) (.cst (.int 1))) (.bif .len [(.sub (.var 0) (.cst (.int 0)))])) (.cmp .lt (.var 2) (.bin .pow (.cst (.int 10)) (.cst (.int 18))))) [.set 3 (.bin .mod (.bif .int [(.bin .add (.bin .add (.bin .mul (.var 2) (.cst (.int 48271))) (.bin .mul (.sub (.var 0) (.cst (.int 1))) (.cst (.int 40692)))) (.sub (.var 0) (.cst (.int 3))))]) (.cst (.int 2147483647))),
  .set 4 (.bin .mod (.bif .int [(.bin .add (.bin .mul (.var 3) (.var 3)) (.bin .mul (.sub (.var 0) (.cst (.int 1))) (.cst (.int 16807))))]) (.cst (.int 998244353))),
  .ret (.bin .mod (.bin .fdv (.bin .mod (.bif .int [(.bin .add (.bin .mul (.var 4) (.cst (.int 69621))) (.var 3))]) (.cst (.int 2147483629))) (.cst (.int 13))) (.var 1))] [],
  .sti (.var 0) (.cst (.int 2)) (.var 2)] [],
  .set 5 (.bin .mod (.bif .int [(.sub (.var 0) (.cst (.int 2)))]) (.var 1)),
  .sti (.var 0) (.cst (.int 2)) (.bin .fdv (.bif .int [(.sub (.var 0) (.cst (.int 2)))]) (.var 1)),
  .ret (.var 5)]⟩
def f__law_mixed : Fn := ⟨2, 4, [.par [2, 3] [(.alc (.bif .list [(.var 1)])), (.alc (.lst []))],
  .whl (.cmp .ne (.var 2) (.lst [])) [.ex (.cmt .append (.var 3) [(.cmt .pop (.var 2) [(.cal 26 [(.var 0), (.bif .len [(.var 2)])])])])],
  .ret (.frz 3)]⟩
def f__law_size : Fn := ⟨1, 2, [.ret (.bin .add (.cst (.int 1)) (.bif .sum [(.cpr (.cal 28 [(.var 1)]) (.nam 1) (.val (.slc (.var 0) (some (.cst (.int 1))) none)) none)]))]⟩
def f__law_is_tree : Fn := ⟨2, 6, [.ife (.bor (.bnt (.isi (.var 1) [.tuple])) (.bor (.cmp .eq (.var 1) (.tup [])) (.cmp .nin (.sub (.var 1) (.cst (.int 0))) (.cpr (.var 2) (.tup [(.nam 2), (.nam 3)]) (.val (.var 0)) none)))) [.ret (.cst (.bl false))] [],
  .set 3 (.sub (.cpr (.var 4) (.tup [(.nam 2), (.nam 4)]) (.val (.var 0)) (some (.cmp .eq (.var 2) (.sub (.var 1) (.cst (.int 0)))))) (.cst (.int 0))),
  .ret (.bnd (.cmp .eq (.bif .len [(.var 1)]) (.bin .add (.cst (.int 1)) (.var 3))) (.bif .all [(.cpr (.cal 29 [(.var 0), (.var 5)]) (.nam 5) (.val (.slc (.var 1) (some (.cst (.int 1))) none)) none)]))]⟩
def f__law_whole : Fn := ⟨1, 1, [.ret (.bnd (.isi (.var 0) [.int]) (.bnt (.isi (.var 0) [.bool])))]⟩
def f__law_same : Fn := ⟨2, 4, [.ife (.cmp .isn (.var 1) (.cst .non)) [.ret (.cmp .isn (.var 0) (.cst .non))] [],
  .ife (.isi (.var 1) [.bool]) [.ret (.bnd (.isi (.var 0) [.bool]) (.cmp .eq (.var 0) (.var 1)))] [],
  .ife (.isi (.var 1) [.int]) [.ret (.bnd (.cal 30 [(.var 0)]) (.cmp .eq (.var 0) (.var 1)))] [],
  .ife (.isi (.var 1) [.str]) [.ret (.bnd (.isi (.var 0) [.str]) (.cmp .eq (.var 0) (.var 1)))] [],
  .ife (.bor (.cmp .ne (.isi (.var 1) [.list]) (.isi (.var 0) [.list])) (.cmp .ne (.isi (.var 1) [.tuple]) (.isi (.var 0) [.tuple]))) [.ret (.cst (.bl false))] [],
  .ret (.bnd (.cmp .eq (.bif .len [(.var 0)]) (.bif .len [(.var 1)])) (.bif .all [(.cpr (.cal 31 [(.var 2), (.var 3)]) (.tup [(.nam 2), (.nam 3)]) (.zip (.var 0) (.var 1)) none)]))]⟩
def f__law_levels : Fn := ⟨1, 2, [.ret (.bin .add (.cst (.int 1)) (.bif .max [(.bin .add (.lst [(.cst (.int 0))]) (.cpr (.cal 32 [(.var 1)]) (.nam 1) (.val (.slc (.var 0) (some (.cst (.int 1))) none)) none))]))]⟩
def f__law_field : Fn := ⟨1, 1, [.ife (.cmp .inn (.att (.var 0) 21) (.tup [(.cst (.str [73, 110, 118, 97, 108, 105, 100, 83, 104, 97, 112, 101])), (.cst (.str [73, 110, 118, 97, 108, 105, 100, 66, 117, 110, 100, 108, 101])), (.cst (.str [73, 110, 118, 97, 108, 105, 100, 83, 116, 101, 112])), (.cst (.str [73, 110, 118, 97, 108, 105, 100, 69, 110, 116, 114, 121])), (.cst (.str [73, 110, 118, 97, 108, 105, 100, 78, 111, 100, 101]))])) [.ret (.att (.var 0) 22)] [],
  .ife (.cmp .inn (.att (.var 0) 21) (.tup [(.cst (.str [84, 111, 111, 76, 97, 114, 103, 101])), (.cst (.str [67, 97, 112, 97, 99, 105, 116, 121, 69, 120, 99, 101, 101, 100, 101, 100]))])) [.ret (.att (.var 0) 23)] [],
  .ife (.cmp .inn (.att (.var 0) 21) (.tup [(.cst (.str [73, 110, 118, 97, 108, 105, 100, 78, 97, 109, 101])), (.cst (.str [68, 117, 112, 108, 105, 99, 97, 116, 101, 78, 97, 109, 101])), (.cst (.str [87, 114, 111, 110, 103, 75, 105, 110, 100])), (.cst (.str [78, 97, 109, 101, 73, 110, 85, 115, 101])), (.cst (.str [85, 110, 107, 110, 111, 119, 110, 78, 97, 109, 101]))])) [.ret (.att (.var 0) 24)] [],
  .ife (.cmp .eq (.att (.var 0) 21) (.cst (.str [78, 111, 78, 111, 100, 101]))) [.ret (.att (.var 0) 25)] [],
  .ife (.cmp .eq (.att (.var 0) 21) (.cst (.str [73, 110, 118, 97, 108, 105, 100, 76, 105, 109, 105, 116]))) [.ret (.att (.var 0) 26)] [],
  .ife (.cmp .eq (.att (.var 0) 21) (.cst (.str [73, 110, 118, 97, 108, 105, 100, 67, 111, 109, 109, 97, 110, 100]))) [.ret (.att (.var 0) 27)] [],
  .ret (.ite (.cmp .eq (.att (.var 0) 21) (.cst (.str [80, 97, 114, 115, 101, 69, 114, 114, 111, 114]))) (.att (.var 0) 28) (.cst .non))]⟩
def f__law_refused : Fn := ⟨1, 1, [.nvr, .nvr, .nvr]⟩
def f_law : Fn := ⟨1, 13, [.set 1 (.cal 25 [(.var 0)]),
  .set 2 (.slc (.lst [(.tup [(.cst (.str [122, 122])), (.cst (.int 0))]), (.tup [(.cst (.str [102, 111, 114, 107])), (.cst (.int 2))]), (.tup [(.cst (.str [97])), (.cst (.int 1))]), (.tup [(.cst (.str [116, 114, 105])), (.cst (.int 3))])]) none (some (.cal 26 [(.var 1), (.cst (.int 4))]))),
  .set 3 (.cal 27 [(.var 1), (.bin .add (.lst [(.tup [(.cst (.str [108, 101, 97, 102])), (.cst (.int 0))]), (.tup [(.cst (.str [111, 110, 101])), (.cst (.int 1))]), (.tup [(.cst (.str [110, 111, 100, 101])), (.cst (.int 2))])]) (.var 2))]),
  .set 4 (.new 9 [(.new 8 [(.var 3)])]),
  .own 5 (.lst [(.mtv (.var 4) 29 1 [(.cst (.str [108, 101, 97, 102]))])]),
  .for (.nam 6) (.rng [(.cst (.int 7))]) [.ex (.cmt .append (.var 5) [(.mtv (.var 4) 29 1 [(.cst (.str [110, 111, 100, 101])), (.sub (.var 5) (.neg (.cst (.int 1)))), (.sub (.var 5) (.neg (.cst (.int 1))))])])],
  .set 7 (.mtv (.var 4) 29 1 [(.cst (.str [110, 111, 100, 101])), (.mtv (.var 4) 29 1 [(.cst (.str [110, 111, 100, 101])), (.sub (.var 5) (.cst (.int 6))), (.sub (.var 5) (.cst (.int 6)))]), (.sub (.var 5) (.cst (.int 6)))]),
  .for (.nam 6) (.rng [(.cst (.int 17))]) [.set 7 (.mtv (.var 4) 29 1 [(.cst (.str [111, 110, 101])), (.var 7)])],
  .ife (.bor (.cmp .ne (.mth (.var 4) 18 [(.var 7)]) (.cst (.int 400))) (.cmp .ne (.mth (.var 4) 18 [(.sub (.var 5) (.cst (.int 7)))]) (.cst (.int 255)))) [.ret (.cst (.bl false))] [],
  .par [8, 9] [(.bif .len [(.var 4)]), (.mth (.var 4) 20 [(.var 7)])],
  .ife (.bor (.cmp .ne (.cal 28 [(.var 9)]) (.cst (.int 400))) (.bor (.bnt (.cal 29 [(.var 3), (.var 9)])) (.bnt (.cal 31 [(.mth (.var 4) 30 [(.var 9)]), (.var 7)])))) [.ret (.cst (.bl false))] [],
  .ife (.bor (.cmp .ne (.cal 32 [(.var 9)]) (.mth (.var 4) 31 [(.var 7)])) (.cmp .ne (.bif .len [(.var 4)]) (.var 8))) [.ret (.cst (.bl false))] [],
  .set 10 (.mtv (.var 4) 29 1 [(.cst (.str [111, 110, 101])), (.var 7)]),
  .set 11 (.mtv (.var 4) 29 1 [(.cst (.str [110, 111, 100, 101])), (.var 7), (.sub (.var 5) (.cst (.int 0)))]),
  .set 12 (.lst [(.rfd 34 (.mth (.var 4) 20 [(.var 10)])), (.rfd 34 (.mth (.var 4) 20 [(.var 11)]))]),
  .ret (.bnd (.cmp .eq (.var 12) (.bin .mul (.lst [(.tup [(.cst (.str [84, 111, 111, 76, 97, 114, 103, 101])), (.cst (.int 400))])]) (.cst (.int 2)))) (.cal 31 [(.lst [(.mth (.var 4) 18 [(.var 10)]), (.mth (.var 4) 18 [(.var 11)])]), (.lst [(.cst (.int 401)), (.cst (.int 402))])]))]⟩
def k_ParcelError : Cl := { init := none, frozen := true, flds := [], meths := [], props := [], consts := [], exn := none, bases := [] }
def k_Missing : Cl := { init := none, frozen := true, flds := [], meths := [], props := [], consts := [], exn := none, bases := [] }
def k_InvalidShape : Cl := { init := none, frozen := true, flds := [22, 21], meths := [], props := [], consts := [], exn := some ([22], [22, 21], [73, 110, 118, 97, 108, 105, 100, 83, 104, 97, 112, 101]), bases := [0] }
def k_InvalidTree : Cl := { init := none, frozen := true, flds := [21], meths := [], props := [], consts := [], exn := some ([], [21], [73, 110, 118, 97, 108, 105, 100, 84, 114, 101, 101]), bases := [0] }
def k_TooLarge : Cl := { init := none, frozen := true, flds := [23, 21], meths := [], props := [], consts := [], exn := some ([23], [23, 21], [84, 111, 111, 76, 97, 114, 103, 101]), bases := [0] }
def k_InvalidNode : Cl := { init := none, frozen := true, flds := [22, 21], meths := [], props := [], consts := [], exn := some ([22], [22, 21], [73, 110, 118, 97, 108, 105, 100, 78, 111, 100, 101]), bases := [0] }
def k_NoNode : Cl := { init := none, frozen := true, flds := [25, 21], meths := [], props := [], consts := [], exn := some ([25], [25, 21], [78, 111, 78, 111, 100, 101]), bases := [0] }
def k_NothingLeft : Cl := { init := none, frozen := true, flds := [21], meths := [], props := [], consts := [], exn := some ([], [21], [78, 111, 116, 104, 105, 110, 103, 76, 101, 102, 116]), bases := [] }
def k_Shape : Cl := { init := some 4, frozen := true, flds := [7, 8, 9], meths := [(0, 5), (1, 6), (2, 7), (3, 8), (32, 9)], props := [], consts := [(6, (.int 6))], exn := none, bases := [] }
def k_Grove : Cl := { init := some 12, frozen := false, flds := [10, 11, 12, 13, 14], meths := [(1, 13), (2, 14), (3, 15), (16, 16), (15, 17), (19, 18), (30, 20), (17, 21), (18, 22), (31, 23), (20, 24)], props := [], consts := [], exn := none, bases := [] }
def pg : Pg := { fns := [f__wall, f_is_whole, f_is_word, f_is_constructor, f_Shape_init, f_Shape_eq, f_Shape_len, f_Shape_contains, f_Shape_repr, f_Shape_constructors, f_is_tree, f_check_tree, f_Grove_init, f_Grove_len, f_Grove_contains, f_Grove_repr, f_Grove_planted, f_Grove_check_node, f_Grove_node, f_Grove_plant, f_Grove_add, f_Grove_added, f_Grove_size, f_Grove_levels, f_Grove_tree, f__law_feed, f__law_draw, f__law_mixed, f__law_size, f__law_is_tree, f__law_whole, f__law_same, f__law_levels, f__law_field, f__law_refused, f_law], cls := [k_ParcelError, k_Missing, k_InvalidShape, k_InvalidTree, k_TooLarge, k_InvalidNode, k_NoNode, k_NothingLeft, k_Shape, k_Grove], sCode := 21, rfd := [([[73, 110, 118, 97, 108, 105, 100, 83, 104, 97, 112, 101], [73, 110, 118, 97, 108, 105, 100, 66, 117, 110, 100, 108, 101], [73, 110, 118, 97, 108, 105, 100, 83, 116, 101, 112], [73, 110, 118, 97, 108, 105, 100, 69, 110, 116, 114, 121], [73, 110, 118, 97, 108, 105, 100, 78, 111, 100, 101]], 22), ([[84, 111, 111, 76, 97, 114, 103, 101], [67, 97, 112, 97, 99, 105, 116, 121, 69, 120, 99, 101, 101, 100, 101, 100]], 23), ([[73, 110, 118, 97, 108, 105, 100, 78, 97, 109, 101], [68, 117, 112, 108, 105, 99, 97, 116, 101, 78, 97, 109, 101], [87, 114, 111, 110, 103, 75, 105, 110, 100], [78, 97, 109, 101, 73, 110, 85, 115, 101], [85, 110, 107, 110, 111, 119, 110, 78, 97, 109, 101]], 24), ([[78, 111, 78, 111, 100, 101]], 25), ([[73, 110, 118, 97, 108, 105, 100, 76, 105, 109, 105, 116]], 26), ([[73, 110, 118, 97, 108, 105, 100, 67, 111, 109, 109, 97, 110, 100]], 27), ([[80, 97, 114, 115, 101, 69, 114, 114, 111, 114]], 28)], rok := [2, 3, 4, 6], vms := [(9, 29, 19)] }
end G
section
set_option maxHeartbeats 0
namespace G
open PySem PySem.Spec PyProof.Rows L2 Ev
def top (i : Nat) : Stmt := PySem.Challenge.pw_reparcel_k65_trees_of_great_nodes.main.body.getD i (.Pass ⟨0, 0, 0, 0⟩)
def dx0 : DX := { at_ := .glo "_wall", d := ⟨"_wall", "_wall", C8.fnArgs (top 0), C8.fnBody (top 0), C8.fnScope (top 0), ["k"], ["k"], false⟩ }
def dx1 : DX := { at_ := .glo "is_whole", d := ⟨"is_whole", "is_whole", C8.fnArgs (top 14), C8.fnBody (top 14), C8.fnScope (top 14), ["thing"], ["thing"], false⟩ }
def dx2 : DX := { at_ := .glo "is_word", d := ⟨"is_word", "is_word", C8.fnArgs (top 15), C8.fnBody (top 15), C8.fnScope (top 15), ["text", "most", "sign"], ["text", "most"], false⟩ }
def dx3 : DX := { at_ := .glo "is_constructor", d := ⟨"is_constructor", "is_constructor", C8.fnArgs (top 16), C8.fnBody (top 16), C8.fnScope (top 16), ["thing"], ["thing"], false⟩ }
def dx4 : DX := { at_ := .met "Shape" "__init__", d := ⟨"__init__", "Shape.__init__", C8.fnArgs ((C8.clsBody (top 17)).getD 1 (.Pass ⟨0, 0, 0, 0⟩)), C8.fnBody ((C8.clsBody (top 17)).getD 1 (.Pass ⟨0, 0, 0, 0⟩)), C8.fnScope ((C8.clsBody (top 17)).getD 1 (.Pass ⟨0, 0, 0, 0⟩)), ["self", "constructors", "names", "at", "one", "name", "parts"], ["self", "constructors"], false⟩ }
def dx5 : DX := { at_ := .met "Shape" "__eq__", d := ⟨"__eq__", "Shape.__eq__", C8.fnArgs ((C8.clsBody (top 17)).getD 2 (.Pass ⟨0, 0, 0, 0⟩)), C8.fnBody ((C8.clsBody (top 17)).getD 2 (.Pass ⟨0, 0, 0, 0⟩)), C8.fnScope ((C8.clsBody (top 17)).getD 2 (.Pass ⟨0, 0, 0, 0⟩)), ["self", "other"], ["self", "other"], false⟩ }
def dx6 : DX := { at_ := .met "Shape" "__len__", d := ⟨"__len__", "Shape.__len__", C8.fnArgs ((C8.clsBody (top 17)).getD 3 (.Pass ⟨0, 0, 0, 0⟩)), C8.fnBody ((C8.clsBody (top 17)).getD 3 (.Pass ⟨0, 0, 0, 0⟩)), C8.fnScope ((C8.clsBody (top 17)).getD 3 (.Pass ⟨0, 0, 0, 0⟩)), ["self"], ["self"], false⟩ }
def dx7 : DX := { at_ := .met "Shape" "__contains__", d := ⟨"__contains__", "Shape.__contains__", C8.fnArgs ((C8.clsBody (top 17)).getD 4 (.Pass ⟨0, 0, 0, 0⟩)), C8.fnBody ((C8.clsBody (top 17)).getD 4 (.Pass ⟨0, 0, 0, 0⟩)), C8.fnScope ((C8.clsBody (top 17)).getD 4 (.Pass ⟨0, 0, 0, 0⟩)), ["self", "name"], ["self", "name"], false⟩ }
def dx8 : DX := { at_ := .met "Shape" "__repr__", d := ⟨"__repr__", "Shape.__repr__", C8.fnArgs ((C8.clsBody (top 17)).getD 5 (.Pass ⟨0, 0, 0, 0⟩)), C8.fnBody ((C8.clsBody (top 17)).getD 5 (.Pass ⟨0, 0, 0, 0⟩)), C8.fnScope ((C8.clsBody (top 17)).getD 5 (.Pass ⟨0, 0, 0, 0⟩)), ["self"], ["self"], false⟩ }
def dx9 : DX := { at_ := .met "Shape" "constructors", d := ⟨"constructors", "Shape.constructors", C8.fnArgs ((C8.clsBody (top 17)).getD 8 (.Pass ⟨0, 0, 0, 0⟩)), C8.fnBody ((C8.clsBody (top 17)).getD 8 (.Pass ⟨0, 0, 0, 0⟩)), C8.fnScope ((C8.clsBody (top 17)).getD 8 (.Pass ⟨0, 0, 0, 0⟩)), ["self"], ["self"], false⟩ }
def dx10 : DX := { at_ := .glo "is_tree", d := ⟨"is_tree", "is_tree", C8.fnArgs (top 20), C8.fnBody (top 20), C8.fnScope (top 20), ["shape", "thing", "part"], ["shape", "thing"], false⟩ }
def dx11 : DX := { at_ := .glo "check_tree", d := ⟨"check_tree", "check_tree", C8.fnArgs (top 21), C8.fnBody (top 21), C8.fnScope (top 21), ["shape", "thing"], ["shape", "thing"], false⟩ }
def dx12 : DX := { at_ := .met "Grove" "__init__", d := ⟨"__init__", "Grove.__init__", C8.fnArgs ((C8.clsBody (top 23)).getD 0 (.Pass ⟨0, 0, 0, 0⟩)), C8.fnBody ((C8.clsBody (top 23)).getD 0 (.Pass ⟨0, 0, 0, 0⟩)), C8.fnScope ((C8.clsBody (top 23)).getD 0 (.Pass ⟨0, 0, 0, 0⟩)), ["self", "shape"], ["self", "shape"], false⟩ }
def dx13 : DX := { at_ := .met "Grove" "__len__", d := ⟨"__len__", "Grove.__len__", C8.fnArgs ((C8.clsBody (top 23)).getD 2 (.Pass ⟨0, 0, 0, 0⟩)), C8.fnBody ((C8.clsBody (top 23)).getD 2 (.Pass ⟨0, 0, 0, 0⟩)), C8.fnScope ((C8.clsBody (top 23)).getD 2 (.Pass ⟨0, 0, 0, 0⟩)), ["self"], ["self"], false⟩ }
def dx14 : DX := { at_ := .met "Grove" "__contains__", d := ⟨"__contains__", "Grove.__contains__", C8.fnArgs ((C8.clsBody (top 23)).getD 3 (.Pass ⟨0, 0, 0, 0⟩)), C8.fnBody ((C8.clsBody (top 23)).getD 3 (.Pass ⟨0, 0, 0, 0⟩)), C8.fnScope ((C8.clsBody (top 23)).getD 3 (.Pass ⟨0, 0, 0, 0⟩)), ["self", "number"], ["self", "number"], false⟩ }
def dx15 : DX := { at_ := .met "Grove" "__repr__", d := ⟨"__repr__", "Grove.__repr__", C8.fnArgs ((C8.clsBody (top 23)).getD 4 (.Pass ⟨0, 0, 0, 0⟩)), C8.fnBody ((C8.clsBody (top 23)).getD 4 (.Pass ⟨0, 0, 0, 0⟩)), C8.fnScope ((C8.clsBody (top 23)).getD 4 (.Pass ⟨0, 0, 0, 0⟩)), ["self"], ["self"], false⟩ }
def dx16 : DX := { at_ := .met "Grove" "planted", d := ⟨"planted", "Grove.planted", C8.fnArgs ((C8.clsBody (top 23)).getD 6 (.Pass ⟨0, 0, 0, 0⟩)), C8.fnBody ((C8.clsBody (top 23)).getD 6 (.Pass ⟨0, 0, 0, 0⟩)), C8.fnScope ((C8.clsBody (top 23)).getD 6 (.Pass ⟨0, 0, 0, 0⟩)), ["self", "name", "parts", "node", "one"], ["self", "name", "parts"], false⟩ }
def dx17 : DX := { at_ := .met "Grove" "check_node", d := ⟨"check_node", "Grove.check_node", C8.fnArgs ((C8.clsBody (top 23)).getD 7 (.Pass ⟨0, 0, 0, 0⟩)), C8.fnBody ((C8.clsBody (top 23)).getD 7 (.Pass ⟨0, 0, 0, 0⟩)), C8.fnScope ((C8.clsBody (top 23)).getD 7 (.Pass ⟨0, 0, 0, 0⟩)), ["self", "number"], ["self", "number"], false⟩ }
def dx18 : DX := { at_ := .met "Grove" "node", d := ⟨"node", "Grove.node", C8.fnArgs ((C8.clsBody (top 23)).getD 9 (.Pass ⟨0, 0, 0, 0⟩)), C8.fnBody ((C8.clsBody (top 23)).getD 9 (.Pass ⟨0, 0, 0, 0⟩)), C8.fnScope ((C8.clsBody (top 23)).getD 9 (.Pass ⟨0, 0, 0, 0⟩)), ["self", "number"], ["self", "number"], false⟩ }
def dx19 : DX := { at_ := .met "Grove" "plant", d := ⟨"plant", "Grove.plant", C8.fnArgs ((C8.clsBody (top 23)).getD 10 (.Pass ⟨0, 0, 0, 0⟩)), C8.fnBody ((C8.clsBody (top 23)).getD 10 (.Pass ⟨0, 0, 0, 0⟩)), C8.fnScope ((C8.clsBody (top 23)).getD 10 (.Pass ⟨0, 0, 0, 0⟩)), ["self", "name", "parts", "part"], ["self", "name", "parts"], true⟩ }
def dx20 : DX := { at_ := .met "Grove" "add", d := ⟨"add", "Grove.add", C8.fnArgs ((C8.clsBody (top 23)).getD 11 (.Pass ⟨0, 0, 0, 0⟩)), C8.fnBody ((C8.clsBody (top 23)).getD 11 (.Pass ⟨0, 0, 0, 0⟩)), C8.fnScope ((C8.clsBody (top 23)).getD 11 (.Pass ⟨0, 0, 0, 0⟩)), ["self", "tree"], ["self", "tree"], false⟩ }
def dx21 : DX := { at_ := .met "Grove" "added", d := ⟨"added", "Grove.added", C8.fnArgs ((C8.clsBody (top 23)).getD 12 (.Pass ⟨0, 0, 0, 0⟩)), C8.fnBody ((C8.clsBody (top 23)).getD 12 (.Pass ⟨0, 0, 0, 0⟩)), C8.fnScope ((C8.clsBody (top 23)).getD 12 (.Pass ⟨0, 0, 0, 0⟩)), ["self", "tree", "part"], ["self", "tree"], false⟩ }
def dx22 : DX := { at_ := .met "Grove" "size", d := ⟨"size", "Grove.size", C8.fnArgs ((C8.clsBody (top 23)).getD 13 (.Pass ⟨0, 0, 0, 0⟩)), C8.fnBody ((C8.clsBody (top 23)).getD 13 (.Pass ⟨0, 0, 0, 0⟩)), C8.fnScope ((C8.clsBody (top 23)).getD 13 (.Pass ⟨0, 0, 0, 0⟩)), ["self", "number"], ["self", "number"], false⟩ }
def dx23 : DX := { at_ := .met "Grove" "levels", d := ⟨"levels", "Grove.levels", C8.fnArgs ((C8.clsBody (top 23)).getD 14 (.Pass ⟨0, 0, 0, 0⟩)), C8.fnBody ((C8.clsBody (top 23)).getD 14 (.Pass ⟨0, 0, 0, 0⟩)), C8.fnScope ((C8.clsBody (top 23)).getD 14 (.Pass ⟨0, 0, 0, 0⟩)), ["self", "number"], ["self", "number"], false⟩ }
def dx24 : DX := { at_ := .met "Grove" "tree", d := ⟨"tree", "Grove.tree", C8.fnArgs ((C8.clsBody (top 23)).getD 15 (.Pass ⟨0, 0, 0, 0⟩)), C8.fnBody ((C8.clsBody (top 23)).getD 15 (.Pass ⟨0, 0, 0, 0⟩)), C8.fnScope ((C8.clsBody (top 23)).getD 15 (.Pass ⟨0, 0, 0, 0⟩)), ["self", "number", "name", "parts", "part"], ["self", "number"], false⟩ }
def dx25 : DX := { at_ := .glo "_law_feed", d := ⟨"_law_feed", "_law_feed", C8.fnArgs (top 25), C8.fnBody (top 25), C8.fnScope (top 25), ["_law_script", "_law_cells", "_law_cell", "_law_mark"], ["_law_script"], false⟩ }
def dx26 : DX := { at_ := .glo "_law_draw", d := ⟨"_law_draw", "_law_draw", C8.fnArgs (top 26), C8.fnBody (top 26), C8.fnScope (top 26), ["_law_feed_here", "_law_many", "_law_cell", "_law_one", "_law_two", "_law_drawn"], ["_law_feed_here", "_law_many"], false⟩ }
def dx27 : DX := { at_ := .glo "_law_mixed", d := ⟨"_law_mixed", "_law_mixed", C8.fnArgs (top 27), C8.fnBody (top 27), C8.fnScope (top 27), ["_law_feed_here", "_law_row", "_law_left", "_law_found"], ["_law_feed_here", "_law_row"], false⟩ }
def dx28 : DX := { at_ := .glo "_law_size", d := ⟨"_law_size", "_law_size", C8.fnArgs (top 28), C8.fnBody (top 28), C8.fnScope (top 28), ["_law_tree", "_law_part"], ["_law_tree"], false⟩ }
def dx29 : DX := { at_ := .glo "_law_is_tree", d := ⟨"_law_is_tree", "_law_is_tree", C8.fnArgs (top 29), C8.fnBody (top 29), C8.fnScope (top 29), ["_law_pairs", "_law_value_now", "_law_name", "_law_parts", "_law_one", "_law_part"], ["_law_pairs", "_law_value_now"], false⟩ }
def dx30 : DX := { at_ := .glo "_law_whole", d := ⟨"_law_whole", "_law_whole", C8.fnArgs (top 30), C8.fnBody (top 30), C8.fnScope (top 30), ["_law_found"], ["_law_found"], false⟩ }
def dx31 : DX := { at_ := .glo "_law_same", d := ⟨"_law_same", "_law_same", C8.fnArgs (top 31), C8.fnBody (top 31), C8.fnScope (top 31), ["_law_found", "_law_due", "_law_one", "_law_other"], ["_law_found", "_law_due"], false⟩ }
def dx32 : DX := { at_ := .glo "_law_levels", d := ⟨"_law_levels", "_law_levels", C8.fnArgs (top 32), C8.fnBody (top 32), C8.fnScope (top 32), ["_law_tree", "_law_part"], ["_law_tree"], false⟩ }
def dx33 : DX := { at_ := .glo "_law_field", d := ⟨"_law_field", "_law_field", C8.fnArgs (top 33), C8.fnBody (top 33), C8.fnScope (top 33), ["_law_e"], ["_law_e"], false⟩ }
def dx34 : DX := { at_ := .glo "_law_refused", d := ⟨"_law_refused", "_law_refused", C8.fnArgs (top 34), C8.fnBody (top 34), C8.fnScope (top 34), ["_law_ask"], ["_law_ask"], false⟩ }
def dx35 : DX := { at_ := .glo "law", d := ⟨"law", "law", C8.fnArgs (top 35), C8.fnBody (top 35), C8.fnScope (top 35), ["_law_script", "_law_feed_here", "_law_more", "_law_pairs", "_law_grove", "_law_full", "_law_turn", "_law_here", "_law_many", "_law_tree", "_law_last", "_law_wide", "_law_told"], ["_law_script"], false⟩ }
def dx : List DX := [dx0, dx1, dx2, dx3, dx4, dx5, dx6, dx7, dx8, dx9, dx10, dx11, dx12, dx13, dx14, dx15, dx16, dx17, dx18, dx19, dx20, dx21, dx22, dx23, dx24, dx25, dx26, dx27, dx28, dx29, dx30, dx31, dx32, dx33, dx34, dx35]
def sys : List PySem.Str := ((["__eq__", "__len__", "__contains__", "__repr__", "__add__", "__mul__", "MOST", "pairs", "by_name", "places", "form", "nodes_held", "places_held", "sizes", "heights", "check_node", "planted", "added", "size", "node", "tree", "code", "at", "bound"] : List PySem.Str) ++ (["name", "number", "value", "first", "position", "plant", "add", "levels", "constructors"] : List PySem.Str))
def inf : Inf := { fnN := [("_wall", 0), ("is_whole", 1), ("is_word", 2), ("is_constructor", 3), ("is_tree", 10), ("check_tree", 11), ("_law_feed", 25), ("_law_draw", 26), ("_law_mixed", 27), ("_law_size", 28), ("_law_is_tree", 29), ("_law_whole", 30), ("_law_same", 31), ("_law_levels", 32), ("_law_field", 33), ("_law_refused", 34), ("law", 35)], clN := [("ParcelError", 0), ("Missing", 1), ("InvalidShape", 2), ("InvalidTree", 3), ("TooLarge", 4), ("InvalidNode", 5), ("NoNode", 6), ("NothingLeft", 7), ("Shape", 8), ("Grove", 9)], cons := [("SMALL", (.str [97, 98, 99, 100, 101, 102, 103, 104, 105, 106, 107, 108, 109, 110, 111, 112, 113, 114, 115, 116, 117, 118, 119, 120, 121, 122])), ("MAX_NAME", (.int 6)), ("MAX_PARTS", (.int 3)), ("MAX_NODES", (.int 400))], free := ["all", "any", "bool", "enumerate", "int", "isinstance", "len", "list", "max", "min", "range", "repr", "sorted", "str", "sum", "super", "tuple", "zip"], sites := [(1, 1, [], []), (2, 2, [], []), (3, 1, [], []), (10, 2, [], []), (11, 2, [], []), (25, 1, [], []), (26, 2, [], []), (27, 2, [], []), (28, 1, [], []), (29, 2, [], []), (30, 1, [], []), (31, 2, [], []), (32, 1, [], [])], makes := [(8, 1, [], []), (9, 1, [], [])], sy := sys, rais := [2, 3, 4, 6], rf := some "_law_refused" }
def td : TD := { syms := sys, fat := dx.map (·.at_), can := ["ParcelError", "Missing", "InvalidShape", "InvalidTree", "TooLarge", "InvalidNode", "NoNode", "NothingLeft", "Shape", "Grove"], ask := "law" }
theorem tab : tabB pg inf 60 60 td dx = true := by decide +kernel
theorem ba0 : BindA dx0 := ⟨rfl, rfl, fun _ _ _ _ _ _ us hl => match us, hl with | [_], _ => rfl⟩
theorem ba1 : BindA dx1 := ⟨rfl, rfl, fun _ _ _ _ _ _ us hl => match us, hl with | [_], _ => rfl⟩
theorem ba2 : BindA dx2 := ⟨rfl, rfl, fun _ _ _ _ _ _ us hl => match us, hl with | [_, _], _ => rfl⟩
theorem ba3 : BindA dx3 := ⟨rfl, rfl, fun _ _ _ _ _ _ us hl => match us, hl with | [_], _ => rfl⟩
theorem ba4 : BindA dx4 := ⟨rfl, rfl, fun _ _ _ _ _ _ us hl => match us, hl with | [_, _], _ => rfl⟩
theorem ba5 : BindA dx5 := ⟨rfl, rfl, fun _ _ _ _ _ _ us hl => match us, hl with | [_, _], _ => rfl⟩
theorem ba6 : BindA dx6 := ⟨rfl, rfl, fun _ _ _ _ _ _ us hl => match us, hl with | [_], _ => rfl⟩
theorem ba7 : BindA dx7 := ⟨rfl, rfl, fun _ _ _ _ _ _ us hl => match us, hl with | [_, _], _ => rfl⟩
theorem ba8 : BindA dx8 := ⟨rfl, rfl, fun _ _ _ _ _ _ us hl => match us, hl with | [_], _ => rfl⟩
theorem ba9 : BindA dx9 := ⟨rfl, rfl, fun _ _ _ _ _ _ us hl => match us, hl with | [_], _ => rfl⟩
theorem ba10 : BindA dx10 := ⟨rfl, rfl, fun _ _ _ _ _ _ us hl => match us, hl with | [_, _], _ => rfl⟩
theorem ba11 : BindA dx11 := ⟨rfl, rfl, fun _ _ _ _ _ _ us hl => match us, hl with | [_, _], _ => rfl⟩
theorem ba12 : BindA dx12 := ⟨rfl, rfl, fun _ _ _ _ _ _ us hl => match us, hl with | [_, _], _ => rfl⟩
theorem ba13 : BindA dx13 := ⟨rfl, rfl, fun _ _ _ _ _ _ us hl => match us, hl with | [_], _ => rfl⟩
theorem ba14 : BindA dx14 := ⟨rfl, rfl, fun _ _ _ _ _ _ us hl => match us, hl with | [_, _], _ => rfl⟩
theorem ba15 : BindA dx15 := ⟨rfl, rfl, fun _ _ _ _ _ _ us hl => match us, hl with | [_], _ => rfl⟩
theorem ba16 : BindA dx16 := ⟨rfl, rfl, fun _ _ _ _ _ _ us hl => match us, hl with | [_, _, _], _ => rfl⟩
theorem ba17 : BindA dx17 := ⟨rfl, rfl, fun _ _ _ _ _ _ us hl => match us, hl with | [_, _], _ => rfl⟩
theorem ba18 : BindA dx18 := ⟨rfl, rfl, fun _ _ _ _ _ _ us hl => match us, hl with | [_, _], _ => rfl⟩
theorem ba19 : BindD dx19 := ⟨rfl, rfl, fun _ _ _ _ _ _ us es hl he => match us, hl, es, he with | [_, _], _, [], _ => rfl | [_, _], _, [_], _ => rfl | [_, _], _, [_, _], _ => rfl | [_, _], _, [_, _, _], _ => rfl⟩
theorem ba20 : BindA dx20 := ⟨rfl, rfl, fun _ _ _ _ _ _ us hl => match us, hl with | [_, _], _ => rfl⟩
theorem ba21 : BindA dx21 := ⟨rfl, rfl, fun _ _ _ _ _ _ us hl => match us, hl with | [_, _], _ => rfl⟩
theorem ba22 : BindA dx22 := ⟨rfl, rfl, fun _ _ _ _ _ _ us hl => match us, hl with | [_, _], _ => rfl⟩
theorem ba23 : BindA dx23 := ⟨rfl, rfl, fun _ _ _ _ _ _ us hl => match us, hl with | [_, _], _ => rfl⟩
theorem ba24 : BindA dx24 := ⟨rfl, rfl, fun _ _ _ _ _ _ us hl => match us, hl with | [_, _], _ => rfl⟩
theorem ba25 : BindA dx25 := ⟨rfl, rfl, fun _ _ _ _ _ _ us hl => match us, hl with | [_], _ => rfl⟩
theorem ba26 : BindA dx26 := ⟨rfl, rfl, fun _ _ _ _ _ _ us hl => match us, hl with | [_, _], _ => rfl⟩
theorem ba27 : BindA dx27 := ⟨rfl, rfl, fun _ _ _ _ _ _ us hl => match us, hl with | [_, _], _ => rfl⟩
theorem ba28 : BindA dx28 := ⟨rfl, rfl, fun _ _ _ _ _ _ us hl => match us, hl with | [_], _ => rfl⟩
theorem ba29 : BindA dx29 := ⟨rfl, rfl, fun _ _ _ _ _ _ us hl => match us, hl with | [_, _], _ => rfl⟩
theorem ba30 : BindA dx30 := ⟨rfl, rfl, fun _ _ _ _ _ _ us hl => match us, hl with | [_], _ => rfl⟩
theorem ba31 : BindA dx31 := ⟨rfl, rfl, fun _ _ _ _ _ _ us hl => match us, hl with | [_, _], _ => rfl⟩
theorem ba32 : BindA dx32 := ⟨rfl, rfl, fun _ _ _ _ _ _ us hl => match us, hl with | [_], _ => rfl⟩
theorem ba33 : BindA dx33 := ⟨rfl, rfl, fun _ _ _ _ _ _ us hl => match us, hl with | [_], _ => rfl⟩
theorem ba34 : BindA dx34 := ⟨rfl, rfl, fun _ _ _ _ _ _ us hl => match us, hl with | [_], _ => rfl⟩
theorem ba35 : BindA dx35 := ⟨rfl, rfl, fun _ _ _ _ _ _ us hl => match us, hl with | [_], _ => rfl⟩
theorem ab : AllD dx := ⟨.inl ba0, .inl ba1, .inl ba2, .inl ba3, .inl ba4, .inl ba5, .inl ba6, .inl ba7, .inl ba8, .inl ba9, .inl ba10, .inl ba11, .inl ba12, .inl ba13, .inl ba14, .inl ba15, .inl ba16, .inl ba17, .inl ba18, ba19, .inl ba20, .inl ba21, .inl ba22, .inl ba23, .inl ba24, .inl ba25, .inl ba26, .inl ba27, .inl ba28, .inl ba29, .inl ba30, .inl ba31, .inl ba32, .inl ba33, .inl ba34, .inl ba35, trivial⟩
def xc_InvalidShape : XC := { C := 2, dx := { at_ := .met "InvalidShape" "__init__", d := ⟨"__init__", "InvalidShape.__init__", C8.fnArgs ((C8.clsBody (top 4)).getD 0 (.Pass ⟨0, 0, 0, 0⟩)), C8.fnBody ((C8.clsBody (top 4)).getD 0 (.Pass ⟨0, 0, 0, 0⟩)), C8.fnScope ((C8.clsBody (top 4)).getD 0 (.Pass ⟨0, 0, 0, 0⟩)), ["self", "at"], ["self", "at"], false⟩ }, me := "self" }
def xc_InvalidTree : XC := { C := 3, dx := { at_ := .met "InvalidTree" "__init__", d := ⟨"__init__", "InvalidTree.__init__", C8.fnArgs ((C8.clsBody (top 5)).getD 0 (.Pass ⟨0, 0, 0, 0⟩)), C8.fnBody ((C8.clsBody (top 5)).getD 0 (.Pass ⟨0, 0, 0, 0⟩)), C8.fnScope ((C8.clsBody (top 5)).getD 0 (.Pass ⟨0, 0, 0, 0⟩)), ["self"], ["self"], false⟩ }, me := "self" }
def xc_TooLarge : XC := { C := 4, dx := { at_ := .met "TooLarge" "__init__", d := ⟨"__init__", "TooLarge.__init__", C8.fnArgs ((C8.clsBody (top 6)).getD 0 (.Pass ⟨0, 0, 0, 0⟩)), C8.fnBody ((C8.clsBody (top 6)).getD 0 (.Pass ⟨0, 0, 0, 0⟩)), C8.fnScope ((C8.clsBody (top 6)).getD 0 (.Pass ⟨0, 0, 0, 0⟩)), ["self", "bound"], ["self", "bound"], false⟩ }, me := "self" }
def xc_NoNode : XC := { C := 6, dx := { at_ := .met "NoNode" "__init__", d := ⟨"__init__", "NoNode.__init__", C8.fnArgs ((C8.clsBody (top 8)).getD 0 (.Pass ⟨0, 0, 0, 0⟩)), C8.fnBody ((C8.clsBody (top 8)).getD 0 (.Pass ⟨0, 0, 0, 0⟩)), C8.fnScope ((C8.clsBody (top 8)).getD 0 (.Pass ⟨0, 0, 0, 0⟩)), ["self", "number"], ["self", "number"], false⟩ }, me := "self" }
def xt : XT := { xc := [xc_InvalidShape, xc_InvalidTree, xc_TooLarge, xc_NoNode], rf := some { x := "_law_refused", dr := dx34, ask := "_law_ask", told := "_law_told", e := "_law_e", cP := "ParcelError", fx := "_law_field", df := dx33, fe := "_law_e" }, file := PySem.Challenge.pw_reparcel_k65_trees_of_great_nodes.main.file, ask := "law" }
abbrev R : PySem.W.OpenRow := PySem.W.OpenLaw.row PySem.Challenge.rw_reparcel_k65_trees_of_great_nodes
abbrev qv : Program := PySem.W.view R.prog [35]
def names : List PySem.Str := (((["_wall", "ParcelError", "Missing", "InvalidShape", "InvalidTree", "TooLarge", "InvalidNode", "NoNode", "NothingLeft", "SMALL", "MAX_NAME", "MAX_PARTS", "is_whole", "is_word", "is_constructor", "Shape", "MAX_NODES", "is_tree", "check_tree", "Grove", "_law_feed", "_law_draw", "_law_mixed", "_law_size"] : List PySem.Str) ++ (["_law_is_tree", "_law_whole", "_law_same", "_law_levels", "_law_field", "_law_refused"] : List PySem.Str)) : List PySem.Str)
def ads : List Addr := [2, 3, 6, 4, 0, 30, 43, 65, 86, 107, 128, 149, 170, 263, 424, 302, 304, 31, 44, 66, 87, 108, 129, 150, 171, 264, 425, 21, 181, 186, 193, 273, 280, 434, 441, 448, 453, 458, 465, 470, 475, 482, 489, 496, 19, 63, 84, 105, 126, 147, 168, 179, 184, 191, 205, 212, 219, 226, 233, 254, 261, 271, 278, 294, 311, 318, 325, 330, 335, 342, 349, 356, 363, 370, 375, 382, 389, 394, 401, 408, 415, 422, 432, 439, 446, 451, 456, 463, 468, 473, 480, 487, 494, 238, 246, 301, 61, 82, 103, 124, 145, 166, 203, 210, 217, 224, 231, 252, 259, 292, 309, 316, 323, 328, 333, 340, 347, 354, 361, 368, 373, 380, 387, 392, 399, 406, 413, 420, 236, 244, 299, 20, 180, 185, 192, 272, 279, 433, 440, 447, 452, 457, 464, 469, 474, 481, 488, 495, 16, 32, 45, 172, 176, 183, 188, 239, 247, 265, 266, 270, 275, 303, 426, 427, 431, 436, 443, 450, 455, 460, 467, 472, 477, 484, 491, 62, 83, 104, 125, 146, 167, 204, 211, 218, 225, 232, 253, 260, 293, 310, 317, 324, 329, 334, 341, 348, 355, 362, 369, 374, 381, 388, 393, 400, 407, 414, 421, 58, 79, 100, 121, 142, 163, 202, 207, 214, 221, 228, 237, 245, 249, 256, 289, 300, 306, 313, 320, 327, 332, 337, 344, 351, 358, 365, 372, 377, 384, 391, 396, 403, 410, 417, 235, 241, 296, 51, 72, 93, 114, 135, 156, 15, 17, 18, 29, 42, 64, 85, 106, 127, 148, 169, 175, 177, 178, 182, 187, 189, 190, 262, 269, 274, 276, 277, 423, 430, 435, 437, 438, 442, 444, 445, 449, 454, 459, 461, 462, 466, 471, 476, 478, 479, 483, 485, 486, 490, 492, 493, 57, 59, 60, 78, 80, 81, 99, 101, 102, 120, 122, 123, 141, 143, 144, 162, 164, 165, 201, 206, 208, 209, 213, 215, 216, 220, 222, 223, 227, 229, 230, 248, 250, 251, 255, 257, 258, 288, 290, 291, 305, 307, 308, 312, 314, 315, 319, 321, 322, 326, 331, 336, 338, 339, 343, 345, 346, 350, 352, 353, 357, 359, 360, 364, 366, 367, 371, 376, 378, 379, 383, 385, 386, 390, 395, 397, 398, 402, 404, 405, 409, 411, 412, 416, 418, 419, 234, 240, 242, 243, 295, 297, 298]
abbrev hk : PySem.W.Hook := hookX ads pg inf td dx xt
def ob (s : PySem.W.SharedT) : AlX := obsXG ads pg inf td dx xt (HandSHeadRun.getT s)
theorem run (w : World) : HandSHeadRun.RunEq R qv hk ob 60000 names w := by
 intro os
 kernel_rfl
end G
open PySem PySem.W PySem.Calls PyProof.Rows
theorem G.holds (main : ∀ ns : List Int, ns.length ≤ 63 → ∃ s', Ev.callN G.pg 10000 90 false 35 [.scr ns] (Ev.st0 G.xt) = .ok (.bl true) s') : PySem.Challenge.rw_reparcel_k65_trees_of_great_nodes.Holds := by
 w_on; o_law
 refine HandSHeadRun.head_any (r := G.R) (q := G.qv) (H := G.hk) (ob := G.ob) (M := 60000) (loose := G.names) (d := HandSHeadRun.topDef G.R.prog 35) (kwd := []) G.ob_eq
  (by kernel_rfl) (fun s => by kernel_rfl) G.run (by kernel_rfl) (by kernel_rfl) (by kernel_rfl) (by rfl) (by first | assumption | decide +kernel) (by decide +kernel) ⟨rfl, rfl, rfl, rfl, rfl, by decide +kernel⟩ ?hw ?hc
 case hw => w_witness2
 case hc =>
  refine LamX.walk_ofTsE (l := PySem.Challenge.rw_reparcel_k65_trees_of_great_nodes) (n := 63) (k := 2 * 90 + 4) (x := "_law_script") (CX := fun _ => L2.CX0) rfl (by decide) (by kernel_rfl) ⟨rfl, by decide, by decide⟩ ?F (fun _ _ _ _ _ z => z)
  intro w mg fa h Y G0 hmg0
  obtain ⟨K, KX, c⟩ := Y
  have hmg : mg ("law" : PySem.Str) = some (.ref fa) := by
   have e : (HandSHeadRun.topDef G.R.prog 35).name = ("law" : PySem.Str) := by kernel_rfl
   rw [← e]
   exact hmg0
  exact ⟨K, KX, Ev.law_fn (l := PySem.Challenge.rw_reparcel_k65_trees_of_great_nodes) (w := w) (wf := 10000) (n := 90) (lw := 35) rfl KX G0 c G.tab G.nlb G.ab G.sx G.mx G.xtb G.xtc G.xtd (fun _ => by decide +kernel) (fun _ => by decide +kernel) (fn := G.f_law) (dl := G.dx35) rfl rfl G.ba35 rfl rfl hmg (by decide +kernel) main⟩
end
namespace Ev
end Ev
namespace Ev
def d1 (x a m : Int) : Int := (x * 48271 + a * 40692 + m) % 2147483647
def d2 (x a m : Int) : Int := (d1 x a m * d1 x a m + a * 16807) % 998244353
def dV (x a m many : Int) : Int := (d2 x a m * 69621 + d1 x a m) % 2147483629 / 13 % many
end Ev
namespace Ev
end Ev
namespace Ev
end Ev
namespace Ev
end Ev
namespace Ev
def tW (q : Tx × Int) : W := .tup [.str q.1, .int q.2]
def xLeaf : Tx := [108, 101, 97, 102]
def xNode : Tx := [110, 111, 100, 101]
def xTip : Tx := [116, 105, 112]
def xOne : Tx := [111, 110, 101]
def xFork : Tx := [102, 111, 114, 107]
def xTri : Tx := [116, 114, 105]
def xA : Tx := [97]
def xZz : Tx := [122, 122]
end Ev
namespace Ev
def xWide : Tx := [97, 98, 99, 100, 101, 102]
def xQ : Tx := [113]
def xTwo : Tx := [116, 119, 111]
def T10 : List (Tx × Int) := [(xLeaf, 0), (xNode, 2), (xNode, 3), (xTip, 0), (xOne, 1), (xFork, 2), (xTri, 3), (xA, 1), (xZz, 0), (xWide, 0), (xQ, 0), (xTwo, 0), (xTwo, 1)]
section
variable {p : Pg} {cal : Bool → Nat → List W → List OO → RC} {wf : Nat}
theorem t10_parts : ∀ q ∈ T10, 0 ≤ q.2 ∧ q.2 ≤ 3 := by decide
structure GoodP (P : List (Tx × Int)) : Prop where
 lo : 2 ≤ P.length
 hi : P.length ≤ 6
 tab : ∀ q ∈ P, q ∈ T10
 nod : (P.map Prod.fst).Nodup
 leaf : (0 : Int) ∈ P.map Prod.snd
def SH (P : List (Tx × Int)) : W := .obj 8 [7, 8, 9] [.tup (P.map tW), .dct (P.map fun q => .inr q.1) (P.map fun q => .int q.2),
 .dct ((P.map Prod.fst).zipIdx.map fun z => .inr z.1) ((P.map Prod.fst).zipIdx.map fun z => .int z.2)]
end
end Ev
namespace Ev
end Ev
namespace G
open Ev
section
variable {wf n : Nat} {st : St}
theorem _root_.Ev.GoodP.perm {P Q : List (Tx × Int)} (h : GoodP P) (e : Q.Perm P) : GoodP Q where
 lo := by rw [e.length_eq]; exact h.lo
 hi := by rw [e.length_eq]; exact h.hi
 tab := fun q hq => h.tab q (e.mem_iff.mp hq)
 nod := (e.map Prod.fst).nodup_iff.mpr h.nod
 leaf := (e.map Prod.snd).mem_iff.mpr h.leaf
variable {o : OO} {r : List Sl} {s t : List OO} {x y : OO}
end
end G
namespace Ev
end Ev
namespace Ev
end Ev
local macro_rules | `(tactic| simp! only [$a,*]) => `(tactic| simp only [Ev.ev_var, Ev.ev_cst, Ev.ev_glo, Ev.ev_bin, Ev.ev_neg, Ev.ev_cmp, Ev.ev_chn, Ev.ev_chn3, Ev.ev_bnd, Ev.ev_bor, Ev.ev_bnt, Ev.ev_ite, Ev.ev_tup, Ev.ev_lst, Ev.ev_alc, Ev.ev_frz, Ev.ev_sub, Ev.ev_slc, Ev.ev_att, Ev.ev_kon, Ev.ev_cal, Ev.ev_new, Ev.ev_mth, Ev.ev_mtv, Ev.ev_bif, Ev.ev_isi, Ev.ev_bmt, Ev.ev_cmt, Ev.ev_fst, Ev.ev_rgl, Ev.es_nil, Ev.es_cons, Ev.eo_none, Ev.eo_some, Ev.et_none, Ev.et_some, Ev.ej_nil, Ev.ej_cons, Ev.ei_val, Ev.ei_rng, Ev.ei_enu, Ev.ei_zip, Ev.ei_enk, Ev.x_ex, Ev.x_set, Ev.x_own, Ev.x_unp, Ev.x_unq, Ev.x_sti, Ev.x_sta, Ev.x_aug, Ev.x_ret, Ev.x_rtn, Ev.x_ife, Ev.x_for, Ev.x_whl, Ev.x_brk, Ev.x_cnt, Ev.x_pas, Ev.x_rai, Ev.x_par, Ev.sat_ok, Ev.sat_exc, Ev.sat_bind, Ev.sat_at, Ev.rc_ok, Ev.rc_exc, Ev.sk_nx, Ev.sk_ret, Ev.sk_brk, Ev.sk_cnt, Ev.rk_nx, Ev.rk_ret, Ev.xk_, Ev.ak_t, Ev.ak_f, Ev.ak_d, Ev.ok_t, Ev.ok_f, Ev.ok_d, Ev.bif_d, Ev.bif_n, Ev.if_t, Ev.if_f, Ev.callR, Ev.okvs, Ev.r_ok, Ev.r_exc, Ev.r_lift, Ev.r_lift0, Ev.r_calm, Ev.r_at, List.getElem?_cons_zero, List.getElem?_cons_succ, List.length_cons, List.length_nil, List.length_map, List.length_set, List.length_append, Ev.vw_loc, Ev.vw_sl, Ev.vw_lst, Ev.vw_dct, Ev.vw_tup, Ev.vw_int, Ev.vw_str, Ev.vw_bl, Ev.vw_non, Ev.vw_scr, Ev.lk_loc, Ev.lk_sl, Ev.lk_lst, Ev.lk_dct, Ev.lk_obj, Ev.lk_tup, Ev.lk_int, Ev.lk_str, Ev.lk_bl, Ev.lk_non, Ev.sb_lst, Ev.sb_tup, Option.bind_some, Option.map_some, Ev.c_lt, Ev.c_le, Ev.c_gt, Ev.c_ge, Ev.c_eqi, Ev.c_nei, Ev.c_eqb, Ev.c_neb, Ev.c_eqs, Ev.c_nes, decide_false, decide_true, Ev.t_bl, Ev.t_int, Bool.false_eq_true, if_false, if_true, Nat.reduceAdd, Nat.reduceLT, Nat.reduceSub, Ev.f_int, Ev.f_lenL, Ev.f_lenT, Ev.b_add, Ev.b_sub, Ev.b_mul, Ev.b_mod, Ev.b_fdv, Ev.b_pow, Ev.o_non, Ev.o_bl, Ev.o_int, Ev.o_str, Ev.o_lst, Ev.o_tup, Ev.o_dct, Ev.o_obj, Ev.o_loc, Ev.o_scr, List.all_cons, List.all_nil, List.set_cons_zero, List.set_cons_succ, Bool.true_and, Bool.and_true, Bool.and_self, Ev.st_lst, List.replicate, List.map_cons, List.map_nil, List.cons_append, List.nil_append, Bool.not_true, Bool.not_false, Ev.isL, Ev.oOf, Ev.lineMax, Nat.reduceLeDiff, Int.reduceLT, Int.reduceLE, Int.reduceAdd, Int.reduceSub, ite_true, ite_false, reduceCtorEq, reduceIte, Bool.or_false, Bool.or_true, Bool.true_or, Bool.false_or, Ev.f_sum, Ev.f_max, Ev.f_min, Ev.f_all, Ev.f_any, Ev.f_sorted, Ev.f_list, Ev.f_tuple, Ev.f_str, Ev.f_max2, Ev.f_min2, Ev.f_lenD, Ev.w_listL, Ev.w_listT, Ev.w_tupL, Ev.w_tupT, Ev.w_intI, Ev.w_intB, Ev.w_max2, Ev.w_min2, Ev.ixz0, Ev.ixz1, Ev.ixz2, Ev.ixz3, Ev.ixz4, Ev.ixz5, Ev.ixz6, Ev.ixz7, Ev.wkL, Ev.wkT, Ev.ln_seqL, Ev.ln_seqT, Ev.ln_fix, Option.isSome_some, Ev.ev_ind, Ev.ev_ixd, Ev.ev_txm, Ev.ev_itx, Ev.ev_dkn, Ev.ev_dki, Ev.ev_dkg, Ev.ev_exn, Ev.ev_isx, Ev.ev_srs, Ev.ev_lns, Ev.tx_s, Ev.in_dT, Ev.in_dF, Ev.ix_dS, $a,*])
local macro_rules | `(tactic| simp_all! only [$a,*]) => `(tactic| (refine Ev.wp_cons ?_; simp! only [$a,*]))
namespace Ev
structure PGd (P : List (Tx × Int)) : Prop where
 nod : (P.map Prod.fst).Nodup
 rng : ∀ q ∈ P, 0 ≤ q.2 ∧ q.2 ≤ 3
 leaf : ∃ x, (x, (0 : Int)) ∈ P
 len : P.length ≤ 1000
end Ev
namespace Ev
end Ev
namespace Ev
end Ev
namespace G
open Ev
section
variable {wf n : Nat} {st : St} {P : List (Tx × Int)} {s : List OO}
theorem _root_.Ev.GoodP.pg {P : List (Tx × Int)} (h : GoodP P) : PGd P where
 nod := h.nod
 rng := fun q hq => t10_parts q (h.tab q hq)
 leaf := by
  obtain ⟨q, hq, e⟩ := List.mem_map.mp h.leaf
  exact ⟨q.1, by rw [← e]; exact hq⟩
 len := by have := h.hi; omega
end
end G
namespace Ev
section
variable {p : Pg} {cal : Bool → Nat → List W → List OO → RC} {wf : Nat} {P : List (Tx × Int)}
def tz (l : List Int) : Nat → Nat
 | 0 => 0
 | n + 1 => if l[n]? = some 0 then tz l n else n + 1
end
end Ev
namespace Ev
end Ev
namespace Ev
end Ev
namespace Ev
end Ev
namespace Ev
end Ev
namespace Ev
def cf (l : List Int) (i : Nat) : Int := (l[i]?).getD 0
def cv : List Int → (Nat → Int) → Nat → Int
 | [], _, _ => 0
 | m :: _, g, 0 => m * g 0
 | m :: M, g, i + 1 => m * g (i + 1) + cv M g i
end Ev
namespace Ev
end Ev
namespace Ev
end Ev
namespace Ev
mutual
def putP (v : Tx) (z : W) : W → W
 | .str x => if x = v then z else .str x
 | .tup (w :: xs) => .tup (w :: putPs v z xs)
 | w => w
def putPs (v : Tx) (z : W) : List W → List W
 | [] => []
 | x :: xs => putP v z x :: putPs v z xs
end
end Ev
namespace Ev
end Ev
namespace Ev
structure Pc where
 c : Nat
 left : List W
 held : List W
def freshV (N : Int) (m : Nat) : List W := (List.range m).map fun (j : Nat) => W.str (118 :: dig (N - (j : Int)))
def opRes (P : List (Tx × Int)) (i : Nat) (q : Pc) (N0 : Int) : Nat → List (Nat × Pc) × Int
 | 0 => ([], N0)
 | k + 1 => match P[k]? with
  | some (x, m) => (match q.held[i]? with
   | some (.str v) => ((opRes P i q N0 k).1 ++ [(k, ⟨q.c, q.left.map (putP v (.tup (.str x :: freshV ((opRes P i q N0 k).2 + m) m.toNat))), q.held.take i ++ freshV ((opRes P i q N0 k).2 + m) m.toNat ++ q.held.drop (i + 1)⟩)], (opRes P i q N0 k).2 + m)
   | some (.tup (.str y :: ps)) => if y = x then ((opRes P i q N0 k).1 ++ [(k, ⟨q.c, q.left, q.held.take i ++ ps ++ q.held.drop (i + 1)⟩)], (opRes P i q N0 k).2) else opRes P i q N0 k
   | _ => opRes P i q N0 k)
  | none => opRes P i q N0 k
end Ev
namespace Ev
end Ev
namespace Ev
end Ev
namespace Ev
theorem op_lt {P : List (Tx × Int)} {i : Nat} {q : Pc} {N0 : Int} : ∀ k, k ≤ P.length → ∀ z ∈ (opRes P i q N0 k).1, z.1 < P.length
 | 0, _, z, hz => by simp [opRes] at hz
 | k + 1, hk, z, hz => by
  have ih := op_lt (P := P) (i := i) (q := q) (N0 := N0) k (by omega)
  rw [opRes] at hz
  split at hz
  ·split at hz
   ·rcases List.mem_append.mp hz with hz | hz
    ·exact ih z hz
    ·rw [List.mem_singleton.mp hz]; show k < _; omega
   ·split at hz
    ·rcases List.mem_append.mp hz with hz | hz
     ·exact ih z hz
     ·rw [List.mem_singleton.mp hz]; show k < _; omega
    ·exact ih z hz
   ·exact ih z hz
  ·exact ih z hz
end Ev
namespace Ev
end Ev
namespace Ev
end Ev
namespace Ev
end Ev
namespace Ev
end Ev
namespace Ev
end Ev
namespace Ev
end Ev
namespace Ev
end Ev
namespace Ev
section
variable {P : List (Tx × Int)} {D i a : Nat} {N N0 M y : Int} {q : Pc} {css dss : List (List Pc)} {ys zs A B : List Int} {w : W} {L : List Pc} {xs : List W} {ss : List (List Int)}
def xV (c a : Nat) : W := .str (120 :: (dig (c : Int) ++ dig (a : Int)))
def xVs (c : Nat) (y : Int) : List W := (List.range y.toNat).map (xV c)
def p0 (c : Nat) (y : Int) : Pc := ⟨c, xVs c y, xVs c y⟩
end
end Ev
namespace Ev
end Ev
namespace Ev
abbrev GN := Tx × List Int
def ndW (q : GN) : W := .tup (.str q.1 :: q.2.map .int)
section
variable {α : Type} {f : List α → GN → α} {ns : List GN} {q : GN} {P : List (Tx × Int)} {i : Nat}
def grow (f : List α → GN → α) (ns : List GN) : List α := ns.foldl (fun a q => a ++ [f a q]) []
def fS (a : List Int) (q : GN) : Int := 1 + (q.2.map fun j => a.getD j.toNat 0).sum
def fH (a : List Int) (q : GN) : Int := 1 + (q.2.map fun j => a.getD j.toNat 0).foldl max 0
def gS (ns : List GN) : List Int := grow fS ns
def gH (ns : List GN) : List Int := grow fH ns
structure GOk (P : List (Tx × Int)) (ns : List GN) : Prop where
 nod : ns.Nodup
 ar : ∀ q ∈ ns, P.lookup q.1 = some (q.2.length : Int)
 lo : ∀ (i : Nat) (q : GN), ns[i]? = some q → ∀ j ∈ q.2, 0 ≤ j ∧ j < (i : Int)
 len : ns.length ≤ 100000
def idW (n : Nat) : List W := (List.range n).map fun (i : Nat) => W.int (i : Int)
end
end Ev
namespace G
open Ev
section
variable {wf n k i : Nat} {st : St} {P : List (Tx × Int)} {s : List OO} {ns : List GN} {q : GN} {r : List Sl} {cal : Bool → Nat → List W → List OO → RC}
def GB (P : List (Tx × Int)) (k : Nat) : OO := .ins 9 [10, 11, 12, 13, 14] [SH P, .loc k, .loc (k + 1), .loc (k + 2), .loc (k + 3)]
structure GrvAt (P : List (Tx × Int)) (ns : List GN) (k : Nat) (s : List OO) : Prop where
 k2 : 2 ≤ k
 ok : GOk P ns
 ob : s[k + 4]? = some (GB P k)
 nd : s[k]? = some (.lst (ns.map ndW))
 pl : s[k + 1]? = some (.dnk ns (idW ns.length))
 sz : s[k + 2]? = some (.lst ((gS ns).map .int))
 ht : s[k + 3]? = some (.lst ((gH ns).map .int))
end
end G
namespace G
open Ev
end G
namespace G
open Ev
end G
namespace G
open Ev
end G
namespace G
open Ev
end G
namespace G
open Ev
section
variable {wf n k i j d : Nat} {st : St} {P : List (Tx × Int)} {s s' : List OO} {q : GN} {ns : List GN} {r : List Sl} {cal : Bool → Nat → List W → List OO → RC} {w : W}
def NL : List GN := [(xLeaf, [])] ++ ((List.range 7).map fun (i : Nat) => (xNode, [(i : Int), (i : Int)])) ++ [(xNode, [7, 6])] ++ ((List.range 17).map fun (i : Nat) => (xOne, [((i + 8 : Nat) : Int)])) ++ [(xOne, [25]), (xNode, [25, 0])]
structure LS (P : List (Tx × Int)) (kp k j : Nat) (s : List OO) : Prop where
 g : GrvAt P (NL.take j) k s
 tab : s[0]? = some .tab
 lt : kp < k
 pr : s[kp]? = some (.lst (P.map tW))
end
end G
namespace G
open Ev
section
variable {wf n k kp i j d : Nat} {st : St} {P : List (Tx × Int)} {s s' : List OO} {q : GN} {ns : List GN} {zs : List Int} {r : List Sl} {cal : Bool → Nat → List W → List OO → RC} {w : W} {M : List W}
def fullL (i : Nat) : List W := (List.range (i + 1)).map fun (j : Nat) => W.int (j : Int)
def J1 (zs : List Int) (M : List W) (P : List (Tx × Int)) (kp k i : Nat) (st : St) : Prop := ∃ v6 s, st = ⟨[.val (.scr zs), .val (.loc 1), .val (.lst M), .val (.loc kp), .val (.loc (k + 4)), .own (.lst (fullL i)), v6, .un, .un, .un, .un, .un, .un], s⟩ ∧ LS P kp k (i + 1) s
end
end G
theorem G.main : ∀ ns : List Int, ns.length ≤ 63 → ∃ s', Ev.callN G.pg 10000 90 false 35 [.scr ns] (Ev.st0 G.xt) = .ok (.bl true) s' := fun ns hl => by
 obtain ⟨w, s, e, h⟩ := Ev.rc_ex (G.law_ok (wf := 10000) (n := 0) hl (by decide))
 exact ⟨s, by rw [← h]; exact e⟩
theorem PySem.Challenge.cw_reparcel_k65_trees_of_great_nodes_holds : PySem.Challenge.rw_reparcel_k65_trees_of_great_nodes.Holds := by
 exact G.holds G.main

import PyProof.Rows.All
import Wide.All
import OpenK.AllK
import Wide.FinOn
import KE.KStateDown
import HandS.ForMost
import HandS.Conv
import HandS.NoneIn
import HandS.Style
import HandS.IsInst
import HandS.TupMul
import HandS.TupAny
import HandS.Zip
import HandS.Small
import HandS.More
import PyProof.MinMaxWalk
import PyProof.WalkInts
import HandS.Defaults
import HandS.Head0
import HandS.Head1
import HandS.Head2
import HandS.HeadEnd
import HandS.HeadHook1
import HandS.HeadHook2
import HandS.HeadHook3
import PySem.Challenge.RW_gaprows_k17_whole_sentences_that_are_the
set_option Elab.async false
set_option linter.all false
set_option maxRecDepth 100000
/-! Core values, core terms and their evaluator. -/
namespace G48
open PySem
abbrev Key := Sum Int Str

/-- values as data -/
inductive D where
  | non | bl (b : Bool) | int (i : Int) | str (x : Str)
  | tup (l : List D) | lst (l : List D) | scr (l : List Int)
  | dK (l : List (Key × D)) | dT (l : List (List Key × D))
  | obj (c : Nat) (fs : List (Str × D))
  deriving Inhabited

def D.isObj : D → Bool
  | .obj _ _ => true | _ => false
def D.flat : D → Bool
  | .non => true | .bl _ => true | .int _ => true | .str _ => true | _ => false
mutual
def D.py : D → PyData
  | .non => .none | .bl b => .bool b | .int i => .int i | .str x => .str x
  | .lst l => .list (D.pys l) | .tup l => .tuple (D.pys l)
  | _ => .none
def D.pys : List D → List PyData
  | [] => []
  | d :: l => d.py :: D.pys l
end
mutual
/-- no dict, no object within -/
def D.pl : D → Bool
  | .non => true | .bl _ => true | .int _ => true | .str _ => true
  | .lst l => D.pls l | .tup l => D.pls l
  | _ => false
def D.pls : List D → Bool
  | [] => true
  | d :: l => d.pl && D.pls l
end
def eqD (a b : D) : Option Bool :=
  if a.pl && (b.pl && (SeqAt.shaped a.py && SeqAt.shaped b.py)) then some (PyData.eqv a.py b.py) else none
/-- == of flat ones -/
def eqFl : D → D → Bool
  | .non, .non => true
  | .bl a, .bl b => a == b
  | .bl a, .int b => (if a then 1 else 0) == b
  | .int a, .bl b => a == (if b then 1 else 0)
  | .int a, .int b => a == b
  | .str a, .str b => a == b
  | _, _ => false
def keyOf : D → Option Key
  | .int i => some (.inl i) | .str x => some (.inr x) | _ => none
def keysOf : List D → Option (List Key)
  | [] => some []
  | d :: l => match keyOf d, keysOf l with
    | some k, some ks => some (k :: ks)
    | _, _ => none
def kD : Key → D
  | .inl i => .int i
  | .inr x => .str x
section
variable {κ α : Type} [DecidableEq κ]
def kget (l : List (κ × α)) (k : κ) : Option α := (l.find? fun kv => decide (kv.1 = k)).map (·.2)
def kput (l : List (κ × α)) (k : κ) (v : α) : List (κ × α) :=
  if (l.any fun kv => decide (kv.1 = k)) = true then l.map (fun kv => if kv.1 = k then (kv.1, v) else kv) else l ++ [(k, v)]
end
def fput (f : Str) (v : D) : List (Str × D) → List (Str × D)
  | [] => [(f, v)]
  | (k, x) :: r => if k = f then (k, v) :: r else (k, x) :: fput f v r
def ixN (n : Nat) (i : Int) : Option Nat := if 0 ≤ i then (if i < n then some i.toNat else none) else if -(n : Int) ≤ i then some (i + n).toNat else none
def atI {α : Type} (xs : List α) (i : Int) : Option α := (ixN xs.length i).bind fun j => xs[j]?
def sIx (n d : Nat) : Option Int → Nat
  | none => d
  | some i => if i < 0 then (i + n).toNat else min i.toNat n
def cutL {α : Type} (xs : List α) (lo hi : Option Int) : List α := (xs.drop (sIx xs.length 0 lo)).take (sIx xs.length xs.length hi - sIx xs.length 0 lo)

/-- built-in types that are asked for -/
inductive Ty where | int | bool | str | tuple | list
  deriving DecidableEq
inductive Pr where
  | add | sub | mul | fdiv | mod | pow | neg
  | eq | ne | lt | le | gt | ge | isN | notN | isB | notB | isIn | notIn
  | idx | rev
  | len | toInt | toStr | toTup | toLst | toDct | ofPairs
  | min1 | max1 | min2 | max2 | max3 | sum | sorted | sortedSet | sortedItems
  | isI (t : Ty) | isLT
  | count | index | get | join | split | rng
  | tIn (t : List (Str × Str)) | tNotIn (t : List (Str × Str)) | tGet (t : List (Str × Str)) | tDct (t : List (Str × Str)) | tLst (t : List (Str × Str))
  deriving DecidableEq
mutual
inductive Ex where
  | lit (d : D)
  | var (i : Nat)
  | tup (es : Exs) | lst (es : Exs)
  | emp (t : Bool) | dic (ks : List Str) (es : Exs)
  | pr (p : Pr) (es : Exs)
  | prm (p : Pr) (o : Ex) (es : Exs)
  | sli (lo hi : Bool) (a : Ex) (es : Exs)
  | and (a b : Ex) | or (a b : Ex) | not (a : Ex)
  | ife (c a b : Ex)
  | ch (p q : Pr) (a b c : Ex)
  | call (f : Nat) (io : Option Nat) (es : Exs)
  | msl (f c i : Nat) (m : Str) (es : Exs)
  | mk (c f : Nat) (es : Exs)
  | mcall (f : Nat) (o : Ex) (es : Exs)
  | fld (i : Nat) (x : Str)
  | pop (i : Nat) (e : Ex)
  | tapp (o e : Ex)
  | comp (elt : Ex) (tg : List Nat) (it : It) (c : Ex) (own : List Nat)
inductive Exs where
  | nil | cons (e : Ex) (es : Exs)
inductive It where
  | of (e : Ex) | keys (e : Ex) | rng (es : Exs) | zip (a b : Ex) | enum (a : Ex)
end
mutual
inductive St where
  | set (i : Nat) (e : Ex) | setT (is : List Nat) (e : Ex) | par (is : List Nat) (es : Exs)
  | app (i : Nat) (e : Ex) | ext (i : Nat) (e : Ex)
  | put (i : Nat) (k e : Ex) | fset (i : Nat) (x : Str) (e : Ex)
  | ex (e : Ex)
  | ife (c : Ex) (a b : Sts) | loop (tg : List Nat) (it : It) (b : Sts) | whl (c : Ex) (b : Sts)
  | ret (e : Ex) | retN | pass | raise
inductive Sts where
  | nil | cons (s : St) (ss : Sts)
end

/-! ### primitives -/
abbrev Res := Bool × D
def szOk (n : Nat) : Bool := decide (n ≤ sizeLine)
def pInt2 (f : Int → Int → Option D) (a b : D) : Option Res := match a, b with
  | .int i, .int j => (f i j).map fun d => (false, d)
  | _, _ => none
def big64 (i : Int) : Bool := decide (i.natAbs < 18446744073709551616)
def pAdd (a b : D) : Option Res := match a, b with
  | .int i, .int j => some (false, .int (i + j))
  | .str x, .str y => if szOk (x.length + y.length) then some (false, .str (x ++ y)) else none
  | .tup xs, .tup ys => if szOk (xs.length + ys.length) then some (false, .tup (xs ++ ys)) else none
  | .lst xs, .lst ys => if szOk (xs.length + ys.length) then some (true, .lst (xs ++ ys)) else none
  | _, _ => none
def pMul (a b : D) : Option Res := match a, b with
  | .int i, .int j => if big64 i || big64 j then some (false, .int (i * j)) else none
  | .lst xs, .int k => if decide (-(2 ^ 63) ≤ k) && (decide (k < 2 ^ 63) && szOk (xs.length * k.toNat)) then some (true, .lst (List.replicate k.toNat xs).flatten) else none
  | .tup xs, .int k => if decide (xs ≠ []) && (decide (2 ≤ k) && (decide (k ≤ 1000) && decide (xs.length ≤ 1000))) then some (false, .tup (List.replicate k.toNat xs).flatten) else none
  | _, _ => none
def pCmp (f : Int → Int → Bool) : D → D → Option Res := pInt2 fun i j => some (.bl (f i j))
def pEq (neg : Bool) (a b : D) : Option Res := (eqD a b).map fun r => (false, .bl (if neg then !r else r))
def isNone : D → Bool
  | .non => true | _ => false
def pIsB (neg : Bool) (a b : D) : Option Res := match a, b with
  | .bl x, .bl y => some (false, .bl (if neg then !decide (x = y) else decide (x = y)))
  | .non, .bl _ => some (false, .bl neg)
  | _, _ => none
def hasSub (x y : Str) : Bool := !(Builtin.Str.occurrences y x 0 y.length 1).isEmpty
def inD (x : D) (c : D) : Option Bool := match c with
  | .lst l => if x.flat && l.all D.flat then some (l.any fun y => eqFl y x) else none
  | .tup l => if x.flat && l.all D.flat then some (l.any fun y => eqFl y x) else none
  | .str z => match x with
    | .str y => some (hasSub y z)
    | _ => none
  | .dK kv => match keyOf x with
    | some k => some (kget kv k).isSome
    | none => none
  | .dT kv => match x with
    | .tup l => match keysOf l with
      | some ks => some (kget kv ks).isSome
      | none => none
    | _ => none
  | _ => none
def pIdx (a i : D) : Option Res := match a, i with
  | .lst l, .int k => (atI l k).map fun d => (false, d)
  | .tup l, .int k => (atI l k).map fun d => (false, d)
  | .scr l, .int k => (atI l k).map fun n => (false, .int n)
  | .str z, .int k => if szOk z.length then (atI z.cps.toList k).map fun c => (false, .str ⟨#[c]⟩) else none
  | .dK kv, x => match keyOf x with
    | some k => (kget kv k).map fun d => (false, d)
    | none => none
  | .dT kv, .tup l => match keysOf l with
    | some k => (kget kv k).map fun d => (false, d)
    | none => none
  | _, _ => none
def cutStr (z : Str) (lo hi : Option Int) : Str := ⟨(cutL z.cps.toList lo hi).toArray⟩
def pSl (a : D) (lo hi : Option Int) : Option Res := match a with
  | .lst l => some (true, .lst (cutL l lo hi))
  | .tup l => some (false, .tup (cutL l lo hi))
  | .str z => if szOk z.length then some (false, .str (cutStr z lo hi)) else none
  | _ => none
def slArgs : Bool → Bool → List D → Option (Option Int × Option Int)
  | true, true, [.int i, .int j] => some (some i, some j)
  | true, false, [.int i] => some (some i, none)
  | false, true, [.int j] => some (none, some j)
  | false, false, [] => some (none, none)
  | _, _, _ => none
def pLen (a : D) : Option Res := match a with
  | .lst l => some (false, .int l.length)
  | .tup l => some (false, .int l.length)
  | .scr l => some (false, .int l.length)
  | .str z => if szOk z.length then some (false, .int z.length) else none
  | _ => none
def intsOf : List D → Option (List Int)
  | [] => some []
  | .int i :: l => (intsOf l).map fun r => i :: r
  | _ :: _ => none
def strsOf : List D → Option (List Str)
  | [] => some []
  | .str i :: l => (strsOf l).map fun r => i :: r
  | _ :: _ => none
def minI : List Int → Int
  | [] => 0
  | [a] => a
  | a :: l => min a (minI l)
def maxI : List Int → Int
  | [] => 0
  | [a] => a
  | a :: l => max a (maxI l)
def pInts (f : List Int → Option D) (a : D) : Option Res := match a with
  | .lst l => match intsOf l with
    | some ns => (f ns).map fun d => (false, d)
    | none => none
  | _ => none
def insI (x : Int) : List Int → List Int
  | [] => [x]
  | y :: l => if x ≤ y then x :: y :: l else y :: insI x l
def sortI : List Int → List Int
  | [] => []
  | x :: l => insI x (sortI l)
/-- rows of ints, by their order -/
def lexLe : List Int → List Int → Bool
  | [], _ => true
  | _ :: _, [] => false
  | x :: xs, y :: ys => if x = y then lexLe xs ys else decide (x < y)
def insR (x : List Int) : List (List Int) → List (List Int)
  | [] => [x]
  | y :: l => if lexLe x y then x :: y :: l else y :: insR x l
def sortR : List (List Int) → List (List Int)
  | [] => []
  | x :: l => insR x (sortR l)
def rowsOf : List D → Option (List (List Int))
  | [] => some []
  | .tup r :: l => match intsOf r, rowsOf l with
    | some ns, some rs => some (ns :: rs)
    | _, _ => none
  | _ :: _ => none
def rowD (r : List Int) : D := .tup (r.map D.int)
def keyInts : List Key → Option (List Int)
  | [] => some []
  | .inl i :: l => (keyInts l).map fun r => i :: r
  | .inr _ :: _ => none
def keysRows : List (List Key × D) → Option (List (List Int))
  | [] => some []
  | (k, _) :: l => match keyInts k, keysRows l with
    | some r, some rs => some (r :: rs)
    | _, _ => none
def nubR : List (List Int) → List (List Int)
  | [] => []
  | x :: l => if decide (x ∈ l) then nubR l else x :: nubR l
def pSorted (a : D) : Option Res := match a with
  | .lst l => match intsOf l with
    | some ns => some (true, .lst ((sortI ns).map D.int))
    | none => match rowsOf l with
      | some rs => some (true, .lst ((sortR rs).map rowD))
      | none => none
  | .dK kv => match keyInts (kv.map (·.1)) with
    | some ns => some (true, .lst ((sortI ns).map D.int))
    | none => none
  | .dT kv => match keysRows kv with
    | some rs => some (true, .lst ((sortR rs).map rowD))
    | none => none
  | _ => none
def pSortedSet (a : D) : Option Res := match a with
  | .lst l => match rowsOf l with
    | some rs => some (true, .lst ((sortR (nubR rs)).map rowD))
    | none => none
  | _ => none
def pairsI : List (Key × D) → Option (List (List Int))
  | [] => some []
  | (.inl k, .int v) :: l => (pairsI l).map fun r => [k, v] :: r
  | _ :: _ => none
def pSortedItems (a : D) : Option Res := match a with
  | .dK kv => match pairsI kv with
    | some rs => some (true, .lst ((sortR rs).map rowD))
    | none => none
  | _ => none
def isTy : Ty → D → Option Bool
  | .int, .int _ => some true | .int, .bl _ => some true | .int, .non => some false | .int, .str _ => some false | .int, .tup _ => some false | .int, .lst _ => some false
  | .bool, .bl _ => some true | .bool, .int _ => some false | .bool, .non => some false | .bool, .str _ => some false | .bool, .tup _ => some false | .bool, .lst _ => some false
  | .str, .str _ => some true | .str, .int _ => some false | .str, .bl _ => some false | .str, .non => some false | .str, .tup _ => some false | .str, .lst _ => some false
  | .tuple, .tup _ => some true | .tuple, .int _ => some false | .tuple, .bl _ => some false | .tuple, .non => some false | .tuple, .str _ => some false | .tuple, .lst _ => some false
  | .list, .lst _ => some true | .list, .int _ => some false | .list, .bl _ => some false | .list, .non => some false | .list, .str _ => some false | .list, .tup _ => some false
  | _, _ => none
def toKV : List D → Option (List (Key × D))
  | [] => some []
  | .tup [k, v] :: l => match keyOf k, toKV l with
    | some k, some r => some ((k, v) :: r)
    | _, _ => none
  | _ :: _ => none
def mergeD (kv : List (Key × D)) : List (Key × D) := kv.foldl (fun acc p => kput acc p.1 p.2) []
def tabK (t : List (Str × Str)) : List (Key × D) := t.map fun p => (.inr p.1, .str p.2)
def rgI (n : Int) : List D := (List.range n.toNat).map fun i => D.int (i : Nat)
def pJoin (s : Str) (l : List D) : Option Res := match strsOf l with
  | some xs => some (false, .str (Txt.join s xs))
  | none => none
def prD : Pr → List D → Option Res
  | .add, [a, b] => pAdd a b
  | .sub, [a, b] => pInt2 (fun i j => some (.int (i - j))) a b
  | .mul, [a, b] => pMul a b
  | .fdiv, [a, b] => pInt2 (fun i j => if decide (0 < j) && decide (j < 1073741824) then some (.int (i / j)) else none) a b
  | .mod, [a, b] => pInt2 (fun i j => if decide (0 < j) then some (.int (i % j)) else none) a b
  | .pow, [a, b] => pInt2 (fun i j => if decide (0 ≤ j) && (decide (j ≤ 1000000) && decide (i.natAbs < 2 ^ 64)) then some (.int (i ^ j.toNat)) else none) a b
  | .neg, [a] => match a with
    | .int i => some (false, .int (-i))
    | _ => none
  | .eq, [a, b] => pEq false a b
  | .ne, [a, b] => pEq true a b
  | .lt, [a, b] => pCmp (fun i j => decide (i < j)) a b
  | .le, [a, b] => pCmp (fun i j => decide (i ≤ j)) a b
  | .gt, [a, b] => pCmp (fun i j => decide (j < i)) a b
  | .ge, [a, b] => pCmp (fun i j => decide (j ≤ i)) a b
  | .isN, [a] => some (false, .bl (isNone a))
  | .notN, [a] => some (false, .bl (!isNone a))
  | .isB, [a, b] => pIsB false a b
  | .notB, [a, b] => pIsB true a b
  | .isIn, [a, b] => (inD a b).map fun r => (false, .bl r)
  | .notIn, [a, b] => (inD a b).map fun r => (false, .bl (!r))
  | .idx, [a, b] => pIdx a b
  | .rev, [a] => match a with
    | .lst l => some (true, .lst l.reverse)
    | _ => none
  | .len, [a] => pLen a
  | .toInt, [a] => match a with
    | .int i => some (false, .int i)
    | .bl b => some (false, .int (if b then 1 else 0))
    | _ => none
  | .toStr, [a] => match a with
    | .int i => if i.natAbs.log2 < 1920 then some (false, .str (toString i)) else none
    | _ => none
  | .toTup, [a] => match a with
    | .lst l => some (false, .tup l)
    | .tup l => some (false, .tup l)
    | _ => none
  | .toLst, [a] => match a with
    | .lst l => some (true, .lst l)
    | .tup l => some (true, .lst l)
    | _ => none
  | .toDct, [a] => match a with
    | .dK kv => some (true, .dK kv)
    | _ => none
  | .ofPairs, [a] => match a with
    | .lst l => match toKV l with
      | some kv => some (true, .dK (mergeD kv))
      | none => none
    | _ => none
  | .min1, [a] => pInts (fun ns => if ns.isEmpty then none else some (.int (minI ns))) a
  | .max1, [a] => pInts (fun ns => if ns.isEmpty then none else some (.int (maxI ns))) a
  | .sum, [a] => pInts (fun ns => some (.int ns.sum)) a
  | .min2, [a, b] => pInt2 (fun i j => some (.int (if j < i then j else i))) a b
  | .max2, [a, b] => pInt2 (fun i j => some (.int (if j > i then j else i))) a b
  | .max3, [a, b, c] => match a, b, c with
    | .int i, .int j, .int k => some (false, .int (max (max i j) k))
    | _, _, _ => none
  | .sorted, [a] => pSorted a
  | .sortedSet, [a] => pSortedSet a
  | .sortedItems, [a] => pSortedItems a
  | .isI t, [a] => (isTy t a).map fun r => (false, .bl r)
  | .isLT, [a] => match isTy .list a, isTy .tuple a with
    | some x, some y => some (false, .bl (x || y))
    | _, _ => none
  | .count, [a, b] => match a with
    | .lst l => if l.all D.pl && (b.pl && (SeqAt.shaped b.py && l.all fun y => SeqAt.shaped y.py)) then some (false, .int (l.countP fun y => PyData.eqv y.py b.py)) else none
    | _ => none
  | .get, [a, k, x] => match a with
    | .dK kv => match keyOf k with
      | some k => if x.flat then some (false, (kget kv k).getD x) else none
      | none => none
    | .dT kv => match k with
      | .tup l => match keysOf l with
        | some ks => if x.flat then some (false, (kget kv ks).getD x) else none
        | none => none
      | _ => none
    | _ => none
  | .join, [a, b] => match a, b with
    | .str s, .lst l => pJoin s l
    | _, _ => none
  | .split, [a, b] => match a, b with
    | .str x, .str y => if !(y.length == 0) && decide (x.length + 2 ≤ sizeLine) then some (true, .lst ((Txt.split x y).map D.str)) else none
    | _, _ => none
  | .rng, [a] => match a with
    | .int n => if decide (0 ≤ n) && decide (n ≤ 16777216) then some (true, .lst (rgI n)) else none
    | _ => none
  | .tIn t, [a] => match a with
    | .str x => some (false, .bl (kget t x).isSome)
    | _ => none
  | .tNotIn t, [a] => match a with
    | .str x => some (false, .bl (!(kget t x).isSome))
    | _ => none
  | .tGet t, [a] => match a with
    | .str x => (kget t x).map fun y => (false, .str y)
    | _ => none
  | .tDct t, [] => some (true, .dK (tabK t))
  | .tLst t, [] => some (true, .lst (t.map fun p => .str p.1))
  | _, _ => none

/-! ### the evaluator -/
inductive Sl where
  | no | va (d : D) | ow (d : D) | io (d : D)
  deriving Inhabited
abbrev S := List Sl
def Sl.get : Sl → Option D
  | .no => none | .va d => some d | .ow d => some d | .io d => some d
inductive Fl where
  | nx | bk | ct | rt (r : Res)
abbrev Opd := Nat ⊕ D
def fetch (σ : S) : Opd → Option D
  | .inl i => match σ[i]? with
    | some s => s.get
    | none => none
  | .inr d => some d
def fetchs (σ : S) : List Opd → Option (List D)
  | [] => some []
  | o :: l => match fetch σ o, fetchs σ l with
    | some d, some r => some (d :: r)
    | _, _ => none
/-- a slot's own list is let go -/
def frz1 (σ : S) (o : Opd) : Option S := match o with
  | .inl i => match σ[i]? with
    | some (.ow d) => if d.isObj then none else some (σ.set i (.va d))
    | some (.va _) => some σ
    | _ => none
  | .inr _ => some σ
def frzs (σ : S) : List Opd → Option S
  | [] => some σ
  | o :: l => match frz1 σ o with
    | some σ' => frzs σ' l
    | none => none
def bnd {α β : Type} (m : Option (α × S)) (k : α → S → Option β) : Option β := match m with
  | some (a, s) => k a s
  | none => none
/-- a value is let go -/
def vl (r : Res) (σ : S) : Option (D × S) := if r.1 && r.2.isObj then none else some (r.2, σ)
/-- an operand: a name stands for its place -/
def opd (e : Ex) (σ : S) (go : Option (D × S)) : Option (Opd × S) := match e with
  | .var i => match fetch σ (.inl i) with
    | some _ => some (.inl i, σ)
    | none => none
  | _ => bnd go fun d σ => some (.inr d, σ)
/-- what a method is asked of -/
def recvOk (p : Pr) (d : D) : Bool := match p, d with
  | .get, .dK _ => true | .get, .dT _ => true | .count, .lst _ => true | .index, .lst _ => true | .join, .str _ => true | .split, .str _ => true | _, _ => false
abbrev CF := Nat → List D → Option (Option D × Res)
def asg1 (i : Nat) (d : D) (σ : S) : Option S := if i < σ.length then some (σ.set i (.va d)) else none
def asgs : List Nat → List D → S → Option S
  | [], [], σ => some σ
  | i :: is, d :: ds, σ => match asg1 i d σ with
    | some σ' => asgs is ds σ'
    | none => none
  | _, _, _ => none
/-- a target: one name, or several -/
def asg (tg : List Nat) (d : D) (σ : S) : Option S := match tg with
  | [i] => asg1 i d σ
  | is => match d with
    | .tup l => asgs is l σ
    | .lst l => asgs is l σ
    | _ => none
def tru : D → Option Bool
  | .bl b => some b | .non => some false | _ => none
def hide (own : List Nat) (σ : S) : S := own.foldl (fun s i => s.set i .no) σ
def hidOk (own : List Nat) (σ : S) : Bool := own.all fun i => match σ[i]? with
  | some .no => true | some (.va _) => true | _ => false
def unhide (own : List Nat) (σ0 σ : S) : S := own.foldl (fun s i => s.set i (σ0.getD i .no)) σ
def compF (elt : S → Option (D × S)) (cond : S → Option (Bool × S)) (tg own : List Nat) : List D → S → Option (List D × S)
  | [], σ => some ([], σ)
  | d :: ds, σ => match asg tg d σ with
    | none => none
    | some σ1 => bnd (cond σ1) fun b σ2 => match b with
      | true => bnd (elt σ2) fun r σ3 => bnd (compF elt cond tg own ds (hide own σ3)) fun l σ4 => some (r :: l, σ4)
      | false => compF elt cond tg own ds (hide own σ2)
def sl2 (σ : S) (i : Nat) (o : D) : Option S := match σ[i]? with
  | some (.ow _) => some (σ.set i (.ow o))
  | some (.io _) => some (σ.set i (.io o))
  | _ => none
def numEnum : Nat → List D → List D
  | _, [] => []
  | n, d :: l => .tup [.int n, d] :: numEnum (n + 1) l
def zipD : List D → List D → List D
  | x :: xs, y :: ys => .tup [x, y] :: zipD xs ys
  | _, _ => []
def signs (z : Str) : List D := z.cps.toList.map fun c => .str ⟨#[c]⟩
/-- what is walked -/
def seqOf : D → Option (List D)
  | .lst l => some l | .tup l => some l | .scr l => some (l.map D.int) | .str z => some (signs z) | _ => none
def rg3 (i j c : Int) : List D := (List.range (((j - i + c - 1) / c).toNat)).map fun (k : Nat) => D.int (i + k * c)
def sm62 (i : Int) : Bool := decide (i.natAbs < 4611686018427387904)
def rngOf : List D → Option (List D)
  | [.int j] => if sm62 j then some (rgI j) else none
  | [.int i, .int j] => if sm62 i && sm62 j then some ((List.range (j - i).toNat).map fun (k : Nat) => D.int (i + k)) else none
  | [.int i, .int j, .int c] => if sm62 i && (sm62 j && (decide (0 < c) && decide (c < 1073741824))) then some (rg3 i j c) else none
  | _ => none
/-- a zip's two sides: two lists, two tuples, a text and a tuple -/
def zipOk : D → D → Option (List D)
  | .lst a, .lst b => some (zipD a b)
  | .tup a, .tup b => some (zipD a b)
  | .str z, .tup b => if z.cps.all (· < 128) then some (zipD (signs z) b) else none
  | _, _ => none
def keyRow : List Key → D := fun k => .tup (k.map kD)
def callNo (Φ : CF) (f : Nat) (os : List Opd) (σ : S) : Option (Res × S) := match fetchs σ os with
  | none => none
  | some ds => match Φ f ds with
    | some (none, r) => if r.2.flat && (!r.1 && ds.all fun d => !d.isObj) then some (r, σ) else match frzs σ os with
      | some σ => some (r, σ)
      | none => none
    | _ => none
def callIo (Φ : CF) (f i : Nat) (os : List Opd) (σ : S) : Option (Res × S) := match fetchs σ (.inl i :: os) with
  | none => none
  | some ds => match Φ f ds with
    | some (some o, r) => match frzs σ os with
      | some σ => match sl2 σ i o with
        | some σ => some (r, σ)
        | none => none
      | none => none
    | _ => none
def isCls (c : Nat) (m : Str) : Option D → Bool
  | some (.obj c' fs) => decide (c = c') && (fs.lookup m).isNone
  | _ => false
def isLst : Option D → Bool
  | some (.lst _) => true
  | _ => false
mutual
def ev (Φ : CF) : Ex → S → Option (Res × S)
  | .lit d, σ => some ((false, d), σ)
  | .var i, σ => match σ[i]? with
    | some (.va d) => some ((false, d), σ)
    | some (.ow d) => if d.isObj then none else some ((false, d), σ.set i (.va d))
    | _ => none
  | .tup es, σ => bnd (evs Φ es σ) fun ds σ => if szOk ds.length then some ((false, .tup ds), σ) else none
  | .lst es, σ => bnd (evs Φ es σ) fun ds σ => if szOk ds.length then some ((true, .lst ds), σ) else none
  | .emp t, σ => some ((true, if t then .dT [] else .dK []), σ)
  | .dic ks es, σ => bnd (evs Φ es σ) fun ds σ => if decide (ks.length = ds.length) && decide (ks.length ≤ 15) then some ((true, .dK (mergeD ((ks.map Sum.inr).zip ds))), σ) else none
  | .pr p es, σ => bnd (evOs Φ es σ) fun os σ => match fetchs σ os with
    | some ds => match prD p ds with
      | some r => some (r, σ)
      | none => none
    | none => none
  | .prm p o es, σ => bnd (opd o σ (bnd (ev Φ o σ) vl)) fun o σ => match fetch σ o with
    | none => none
    | some d => if recvOk p d then bnd (evOs Φ es σ) fun os σ => match fetchs σ (o :: os) with
        | some ds => match prD p ds with
          | some r => some (r, σ)
          | none => none
        | none => none
      else none
  | .sli lo hi a es, σ => bnd (opd a σ (bnd (ev Φ a σ) vl)) fun o σ => bnd (evs Φ es σ) fun ds σ => match fetch σ o, slArgs lo hi ds with
    | some d, some (l, h) => match pSl d l h with
      | some r => some (r, σ)
      | none => none
    | _, _ => none
  | .and a b, σ => bnd (ev Φ a σ) fun r σ => match r.2 with
    | .bl true => ev Φ b σ
    | .bl false => some ((false, .bl false), σ)
    | _ => none
  | .or a b, σ => bnd (ev Φ a σ) fun r σ => match r.2 with
    | .bl true => some ((false, .bl true), σ)
    | .bl false => ev Φ b σ
    | _ => none
  | .not a, σ => bnd (ev Φ a σ) fun r σ => match r.2 with
    | .bl b => some ((false, .bl (!b)), σ)
    | _ => none
  | .ife c a b, σ => bnd (ev Φ c σ) fun r σ => match tru r.2 with
    | some true => ev Φ a σ
    | some false => ev Φ b σ
    | none => none
  | .ch p q a b c, σ => bnd (bnd (ev Φ a σ) vl) fun x σ => bnd (bnd (ev Φ b σ) vl) fun y σ => match prD p [x, y] with
    | some (_, .bl true) => bnd (bnd (ev Φ c σ) vl) fun z σ => match prD q [y, z] with
      | some (_, .bl r) => some ((false, .bl r), σ)
      | _ => none
    | some (_, .bl false) => some ((false, .bl false), σ)
    | _ => none
  | .call f io es, σ => bnd (evOs Φ es σ) fun os σ => match io with
    | none => callNo Φ f os σ
    | some _ => match os with
      | .inl i :: os => callIo Φ f i os σ
      | _ => none
  | .msl f c i m es, σ => if isCls c m (fetch σ (.inl i)) then bnd (evOs Φ es σ) fun os σ => callIo Φ f i os σ else none
  | .mk c f es, σ => bnd (evs Φ es σ) fun ds σ => match Φ f (.obj c [] :: ds) with
    | some (some o, (false, .non)) => some ((true, o), σ)
    | _ => none
  | .mcall f o es, σ => bnd (ev Φ o σ) fun r σ => match r with
    | (true, .obj c fs) => bnd (evs Φ es σ) fun ds σ => match Φ f (.obj c fs :: ds) with
      | some (some _, r) => some (r, σ)
      | _ => none
    | _ => none
  | .fld i x, σ => match fetch σ (.inl i) with
    | some (.obj _ fs) => match fs.lookup x with
      | some d => some ((false, d), σ)
      | none => none
    | _ => none
  | .pop i e, σ => if isLst (fetch σ (.inl i)) then bnd (bnd (ev Φ e σ) vl) fun r σ => match r, σ[i]? with
    | .int k, some (.ow (.lst l)) => match ixN l.length k with
      | some j => match l[j]? with
        | some d => if sm62 k then some ((false, d), σ.set i (.ow (.lst (l.eraseIdx j)))) else none
        | none => none
      | none => none
    | .int k, some (.io (.lst l)) => match ixN l.length k with
      | some j => match l[j]? with
        | some d => if sm62 k then some ((false, d), σ.set i (.io (.lst (l.eraseIdx j)))) else none
        | none => none
      | none => none
    | _, _ => none
    else none
  | .tapp o e, σ => bnd (ev Φ o σ) fun r σ => match r with
    | (true, .lst l) => bnd (bnd (ev Φ e σ) vl) fun _ σ => if decide (l.length < sizeLine) then some ((false, .non), σ) else none
    | _ => none
  | .comp elt tg it c own, σ => bnd (evIt Φ it σ) fun ds σ => if hidOk own σ then
      bnd (compF (fun σ => bnd (ev Φ elt σ) vl) (fun σ => bnd (ev Φ c σ) fun r σ => match tru r.2 with | some b => some (b, σ) | none => none) tg own ds (hide own σ)) fun l σ' => if szOk l.length then some ((true, .lst l), unhide own σ σ') else none
    else none
/-- displays, arguments: from the left, each let go -/
def evs (Φ : CF) : Exs → S → Option (List D × S)
  | .nil, σ => some ([], σ)
  | .cons e es, σ => bnd (bnd (ev Φ e σ) vl) fun d σ => bnd (evs Φ es σ) fun ds σ => some (d :: ds, σ)
/-- operands: a name stands for its place -/
def evOs (Φ : CF) : Exs → S → Option (List Opd × S)
  | .nil, σ => some ([], σ)
  | .cons e es, σ => bnd (opd e σ (bnd (ev Φ e σ) vl)) fun o σ => bnd (evOs Φ es σ) fun os σ => some (o :: os, σ)
def evIt (Φ : CF) : It → S → Option (List D × S)
  | .of e, σ => bnd (bnd (ev Φ e σ) vl) fun r σ => match seqOf r with
    | some l => some (l, σ)
    | none => none
  | .keys e, σ => bnd (bnd (ev Φ e σ) vl) fun r σ => match r with
    | .dK kv => some (kv.map fun p => kD p.1, σ)
    | .dT kv => some (kv.map fun p => keyRow p.1, σ)
    | _ => none
  | .rng es, σ => bnd (evs Φ es σ) fun ds σ => match rngOf ds with
    | some l => some (l, σ)
    | none => none
  | .zip a b, σ => bnd (bnd (ev Φ a σ) vl) fun x σ => bnd (bnd (ev Φ b σ) vl) fun y σ => match zipOk x y with
    | some l => some (l, σ)
    | none => none
  | .enum a, σ => bnd (bnd (ev Φ a σ) vl) fun x σ => match x with
    | .lst l => some (numEnum 0 l, σ)
    | _ => none
end
def evT (Φ : CF) (c : Ex) (σ : S) : Option (Bool × S) := bnd (ev Φ c σ) fun r σ => match tru r.2 with
  | some b => some (b, σ)
  | none => none
def loopF (body : S → Option (Fl × S)) (tg : List Nat) : List D → S → Option (Fl × S)
  | [], σ => some (.nx, σ)
  | d :: ds, σ => match asg tg d σ with
    | none => none
    | some σ1 => bnd (body σ1) fun f σ2 => match f with
      | .nx => loopF body tg ds σ2
      | .ct => loopF body tg ds σ2
      | .bk => some (.nx, σ2)
      | .rt r => some (.rt r, σ2)
def whlF (c : S → Option (Bool × S)) (body : S → Option (Fl × S)) : Nat → S → Option (Fl × S)
  | 0, _ => none
  | n + 1, σ => bnd (c σ) fun b σ1 => match b with
    | false => some (.nx, σ1)
    | true => bnd (body σ1) fun f σ2 => match f with
      | .nx => whlF c body n σ2
      | .ct => whlF c body n σ2
      | .bk => some (.nx, σ2)
      | .rt r => some (.rt r, σ2)
def put1 (c k v : D) : Option D := match c, k with
  | .lst l, .int i => match ixN l.length i with
    | some j => some (.lst (l.set j v))
    | none => none
  | .dK kv, k => match keyOf k with
    | some k => if decide (kv.length < sizeLine) then some (.dK (kput kv k v)) else none
    | none => none
  | .dT kv, .tup l => match keysOf l with
    | some k => if decide (kv.length < sizeLine) then some (.dT (kput kv k v)) else none
    | none => none
  | _, _ => none
def whlMax : Nat := 64
mutual
def evS (Φ : CF) : St → S → Option (Fl × S)
  | .set i e, σ => bnd (ev Φ e σ) fun r σ => if i < σ.length then some (.nx, σ.set i (if r.1 then .ow r.2 else .va r.2)) else none
  | .setT is e, σ => bnd (bnd (ev Φ e σ) vl) fun r σ => match r with
    | .tup l => match asgs is l σ with
      | some σ => some (.nx, σ)
      | none => none
    | .lst l => match asgs is l σ with
      | some σ => some (.nx, σ)
      | none => none
    | _ => none
  | .par is es, σ => bnd (evRs Φ es σ) fun rs σ => match setRs is rs σ with
    | some σ => some (.nx, σ)
    | none => none
  | .app i e, σ => if isLst (fetch σ (.inl i)) then bnd (bnd (ev Φ e σ) vl) fun r σ => match fetch σ (.inl i) with
    | some (.lst l) => if decide (l.length < sizeLine) then match sl2 σ i (.lst (l ++ [r])) with
        | some σ => some (.nx, σ)
        | none => none
      else none
    | _ => none
    else none
  | .ext i e, σ => if isLst (fetch σ (.inl i)) then bnd (bnd (ev Φ e σ) vl) fun r σ => match fetch σ (.inl i), r with
    | some (.lst l), .lst m => if szOk (l.length + m.length) then match sl2 σ i (.lst (l ++ m)) with
        | some σ => some (.nx, σ)
        | none => none
      else none
    | _, _ => none
    else none
  | .put i k e, σ => bnd (bnd (ev Φ e σ) vl) fun r σ => if (fetch σ (.inl i)).isSome then bnd (bnd (ev Φ k σ) vl) fun k σ => match fetch σ (.inl i) with
    | some c => match put1 c k r with
      | some c => match sl2 σ i c with
        | some σ => some (.nx, σ)
        | none => none
      | none => none
    | none => none
    else none
  | .fset i x e, σ => bnd (bnd (ev Φ e σ) vl) fun r σ => match fetch σ (.inl i) with
    | some (.obj c fs) => if decide (fs.length < 100) then match sl2 σ i (.obj c (fput x r fs)) with
        | some σ => some (.nx, σ)
        | none => none
      else none
    | _ => none
  | .ex e, σ => bnd (ev Φ e σ) fun _ σ => some (.nx, σ)
  | .ife c a b, σ => bnd (evT Φ c σ) fun t σ => match t with
    | true => evSs Φ a σ
    | false => evSs Φ b σ
  | .loop tg it b, σ => bnd (evIt Φ it σ) fun ds σ => loopF (evSs Φ b) tg ds σ
  | .whl c b, σ => whlF (evT Φ c) (evSs Φ b) whlMax σ
  | .ret e, σ => match e with
    | .var i => match σ[i]? with
      | some (.ow d) => some (.rt (true, d), σ.set i .no)
      | some (.va d) => some (.rt (false, d), σ)
      | _ => none
    | e => bnd (ev Φ e σ) fun r σ => some (.rt r, σ)
  | .retN, σ => some (.rt (false, .non), σ)
  | .pass, σ => some (.nx, σ)
  | .raise, _ => none
def evSs (Φ : CF) : Sts → S → Option (Fl × S)
  | .nil, σ => some (.nx, σ)
  | .cons s ss, σ => bnd (evS Φ s σ) fun f σ => match f with
    | .nx => evSs Φ ss σ
    | f => some (f, σ)
/-- sides of a parallel assignment: kept as they come -/
def evRs (Φ : CF) : Exs → S → Option (List Res × S)
  | .nil, σ => some ([], σ)
  | .cons e es, σ => bnd (ev Φ e σ) fun r σ => bnd (evRs Φ es σ) fun rs σ => some (r :: rs, σ)
def setRs : List Nat → List Res → S → Option S
  | [], [], σ => some σ
  | i :: is, r :: rs, σ => if i < σ.length then setRs is rs (σ.set i (if r.1 then .ow r.2 else .va r.2)) else none
  | _, _, _ => none
end
structure FD where
  np : Nat
  n : Nat
  io : Bool
  cls : Option (Nat × Str) := none
  body : Sts
def start (fd : FD) (ds : List D) : S := (match fd.io, ds with
  | true, d :: r => .io d :: r.map .va
  | _, ds => ds.map .va) ++ List.replicate (fd.n - fd.np) .no
def outOf (fd : FD) (r : Res) (σ : S) : Option (Option D × Res) := match fd.io with
  | false => some (none, r)
  | true => match (σ[0]? : Option Sl) with
    | some (Sl.io d) => some (some d, r)
    | _ => none
/-- a method is called of an object of its class -/
def clsOk (fd : FD) (ds : List D) : Bool := match fd.cls with
  | none => true
  | some (c, m) => match ds with
    | .obj c' fs :: _ => decide (c = c') && (fs.lookup m).isNone
    | _ => false
def runF (Φ : CF) (fd : FD) (ds : List D) : Option (Option D × Res) := if ds.length = fd.np ∧ clsOk fd ds = true then
    match evSs Φ fd.body (start fd ds) with
    | some (.rt r, σ) => outOf fd r σ
    | some (.nx, σ) => outOf fd (false, .non) σ
    | _ => none
  else none
def callF (fs : List FD) : Nat → CF
  | 0 => fun _ _ => none
  | n + 1 => fun f ds => match fs[f]? with
    | some fd => runF (callF fs n) fd ds
    | none => none
end G48

/-! What core values stand for in the abstract heap; the state's invariant. -/
namespace G48
open PySem L2


section
variable (K : PySem.W.Frag)
mutual
/-- a value stands for a datum, over the heap of what stays -/
inductive Rep (F : Hp) : V → D → Prop where
  | non : Rep F .non .non
  | bl (b : Bool) : Rep F (.bl b) (.bl b)
  | int (i : Int) : Rep F (.int i) (.int i)
  | str (x : Str) : Rep F (.str x) (.str x)
  | lst {a : Addr} {vs : List V} {ds : List D} : F a = some (.lst vs) → Reps F vs ds → Rep F (.ref a) (.lst ds)
  | tup {a : Addr} {vs : List V} {ds : List D} : F a = some (.tup vs) → Reps F vs ds → Rep F (.ref a) (.tup ds)
  | scr {a : Addr} {ns : List Int} : SqL K F a (ns.map V.int) → Rep F (.ref a) (.scr ns)
  | dK {a : Addr} {kv : List (L2.Key × V)} {kd : List (Key × D)} : Rd F a (.dK kv) → RepK F kv kd → Rep F (.ref a) (.dK kd)
  | dT {a : Addr} {kv : List (List L2.Key × V)} {kd : List (List Key × D)} : Rd F a (.dT kv) → RepT F kv kd → Rep F (.ref a) (.dT kd)
inductive Reps (F : Hp) : List V → List D → Prop where
  | nil : Reps F [] []
  | cons {v : V} {vs : List V} {d : D} {ds : List D} : Rep F v d → Reps F vs ds → Reps F (v :: vs) (d :: ds)
inductive RepK (F : Hp) : List (L2.Key × V) → List (Key × D) → Prop where
  | nil : RepK F [] []
  | cons {k : Key} {v : V} {vs : List (L2.Key × V)} {d : D} {ds : List (Key × D)} : Rep F v d → RepK F vs ds → RepK F ((k, v) :: vs) ((k, d) :: ds)
inductive RepT (F : Hp) : List (List L2.Key × V) → List (List Key × D) → Prop where
  | nil : RepT F [] []
  | cons {k : List Key} {v : V} {vs : List (List L2.Key × V)} {d : D} {ds : List (List Key × D)} : Rep F v d → RepT F vs ds → RepT F ((k, v) :: vs) ((k, d) :: ds)
end
inductive RepO (F : Hp) : List (Str × V) → List (Str × D) → Prop where
  | nil : RepO F [] []
  | cons {k : Str} {v : V} {vs : List (Str × V)} {d : D} {ds : List (Str × D)} : Rep K F v d → RepO F vs ds → RepO F ((k, v) :: vs) ((k, d) :: ds)
end
structure Fle (F F' : Hp) : Prop where
  l : ∀ a vs, F a = some (.lst vs) → F' a = some (.lst vs)
  t : ∀ a vs, F a = some (.tup vs) → F' a = some (.tup vs)
  r : ∀ a u, Rd F a u → Rd F' a u
def Fin (F H : Hp) : Prop := ∀ a o, F a = some o → H a = some o
theorem Fin.le {F H : Hp} (h : Fin F H) : Fle F H := ⟨fun a _ e => h a _ e, fun a _ e => h a _ e, fun a u r => r.elim (fun e => .inl (h a _ e)) fun ⟨o, e⟩ => .inr ⟨o, h a _ e⟩⟩
theorem Fle.refl (F : Hp) : Fle F F := ⟨fun _ _ e => e, fun _ _ e => e, fun _ _ e => e⟩
theorem Fle.trans {F F' F'' : Hp} (a : Fle F F') (b : Fle F' F'') : Fle F F'' := ⟨fun x y e => b.l x y (a.l x y e), fun x y e => b.t x y (a.t x y e), fun x y e => b.r x y (a.r x y e)⟩
theorem Fle.sq {K : PySem.W.Frag} {F F' : Hp} (h : Fle F F') {a : Addr} {xs : List V} (q : SqL K F a xs) : SqL K F' a xs := q.elim (fun e => .inl (h.r a _ e)) .inr
/-- grown by a new object -/
theorem Fin.up {F H : Hp} (h : Fin F H) {p : Addr} (o : HO) (n : H p = none) : Fin F (upd H p o) := fun a u e => by
  rw [upd_ne (ne_of_none (h a u e) n)]
  exact h a u e
theorem Fin.none {F H : Hp} (h : Fin F H) {p : Addr} (n : H p = none) : F p = none := by
  cases e : F p with
  | none => rfl
  | some o => rw [h p o e] at n; cases n
theorem upd_at {H : Hp} {p a : Addr} {o u : HO} (e : upd H p o a = some u) : (a = p ∧ u = o) ∨ (a ≠ p ∧ H a = some u) := by
  by_cases h : a = p
  · subst h; rw [upd_same] at e; exact .inl ⟨rfl, (Option.some.inj e).symm⟩
  · rw [upd_ne h] at e; exact .inr ⟨h, e⟩
theorem Fin.both {F H : Hp} (h : Fin F H) (p : Addr) (o : HO) : Fin (upd F p o) (upd H p o) := fun a u e => by
  rcases upd_at e with ⟨rfl, rfl⟩ | ⟨n, e⟩
  · exact upd_same
  · rw [upd_ne n]; exact h a u e
theorem Fin.put {F H : Hp} (h : Fin F H) {p : Addr} {o : HO} (e : H p = some o) : Fin (upd F p o) H := fun a u z => by
  rcases upd_at z with ⟨rfl, rfl⟩ | ⟨n, z⟩
  · exact e
  · exact h a u z
theorem Fle.up {F : Hp} {p : Addr} (o : HO) (n : F p = none) : Fle F (upd F p o) := by
  have k : ∀ a u, F a = some u → upd F p o a = some u := fun a u e => by rw [upd_ne (ne_of_none e n)]; exact e
  exact ⟨fun a _ e => k a _ e, fun a _ e => k a _ e, fun a u r => r.elim (fun e => .inl (k a _ e)) fun ⟨ob, e⟩ => .inr ⟨ob, k a _ e⟩⟩
section
variable {K : PySem.W.Frag} {F F' : Hp}
mutual
theorem Rep.mono (h : Fle F F') : ∀ {v : V} {d : D}, Rep K F v d → Rep K F' v d
  | _, _, .non => .non
  | _, _, .bl b => .bl b
  | _, _, .int b => .int b
  | _, _, .str b => .str b
  | _, _, .lst e r => .lst (h.l _ _ e) (Reps.mono h r)
  | _, _, .tup e r => .tup (h.t _ _ e) (Reps.mono h r)
  | _, _, .scr q => .scr (h.sq q)
  | _, _, .dK e r => .dK (h.r _ _ e) (RepK.mono h r)
  | _, _, .dT e r => .dT (h.r _ _ e) (RepT.mono h r)
theorem Reps.mono (h : Fle F F') : ∀ {v : List V} {d : List D}, Reps K F v d → Reps K F' v d
  | _, _, .nil => .nil
  | _, _, .cons a b => .cons (Rep.mono h a) (Reps.mono h b)
theorem RepK.mono (h : Fle F F') : ∀ {v : List (L2.Key × V)} {d : List (Key × D)}, RepK K F v d → RepK K F' v d
  | _, _, .nil => .nil
  | _, _, .cons a b => .cons (Rep.mono h a) (RepK.mono h b)
theorem RepT.mono (h : Fle F F') : ∀ {v : List (List L2.Key × V)} {d : List (List Key × D)}, RepT K F v d → RepT K F' v d
  | _, _, .nil => .nil
  | _, _, .cons a b => .cons (Rep.mono h a) (RepT.mono h b)
end
theorem RepO.mono (h : Fle F F') : ∀ {v : List (Str × V)} {d : List (Str × D)}, RepO K F v d → RepO K F' v d
  | _, _, .nil => .nil
  | _, _, .cons a b => .cons (Rep.mono h a) (RepO.mono h b)
theorem Reps.len : ∀ {v : List V} {d : List D}, Reps K F v d → v.length = d.length
  | _, _, .nil => rfl
  | _, _, .cons _ b => congrArg (· + 1) b.len
theorem RepK.len : ∀ {v : List (L2.Key × V)} {d : List (Key × D)}, RepK K F v d → v.length = d.length
  | _, _, .nil => rfl
  | _, _, .cons _ b => congrArg (· + 1) b.len
theorem RepT.len : ∀ {v : List (List L2.Key × V)} {d : List (List Key × D)}, RepT K F v d → v.length = d.length
  | _, _, .nil => rfl
  | _, _, .cons _ b => congrArg (· + 1) b.len
theorem Reps.get : ∀ {v : List V} {d : List D} {i : Nat} {x : D}, Reps K F v d → d[i]? = some x → ∃ y, v[i]? = some y ∧ Rep K F y x
  | _, _, _, _, .nil, e => by simp at e
  | _, _, 0, x, .cons a _, e => by simp at e; subst e; exact ⟨_, rfl, a⟩
  | _, _, i + 1, x, .cons _ b, e => by
    obtain ⟨y, h1, h2⟩ := Reps.get (i := i) (x := x) b (by simpa using e)
    exact ⟨y, by simpa using h1, h2⟩
theorem Reps.getV : ∀ {v : List V} {d : List D} {i : Nat} {x : V}, Reps K F v d → v[i]? = some x → ∃ y, d[i]? = some y ∧ Rep K F x y
  | _, _, _, _, .nil, e => by simp at e
  | _, _, 0, x, .cons a _, e => by simp at e; subst e; exact ⟨_, rfl, a⟩
  | _, _, i + 1, x, .cons _ b, e => by
    obtain ⟨y, h1, h2⟩ := Reps.getV (i := i) (x := x) b (by simpa using e)
    exact ⟨y, by simpa using h1, h2⟩
theorem Reps.append : ∀ {v v' : List V} {d d' : List D}, Reps K F v d → Reps K F v' d' → Reps K F (v ++ v') (d ++ d')
  | _, _, _, _, .nil, h => h
  | _, _, _, _, .cons a b, h => .cons a (b.append h)
theorem Reps.set : ∀ {v : List V} {d : List D} {x : V} {y : D} (i : Nat), Rep K F x y → Reps K F v d → Reps K F (v.set i x) (d.set i y)
  | _, _, _, _, _, _, .nil => .nil
  | _, _, _, _, 0, r, .cons _ b => .cons r b
  | _, _, _, _, i + 1, r, .cons a b => .cons a (Reps.set i r b)
theorem Reps.drop : ∀ {v : List V} {d : List D} (n : Nat), Reps K F v d → Reps K F (v.drop n) (d.drop n)
  | _, _, 0, h => h
  | _, _, _ + 1, .nil => .nil
  | _, _, n + 1, .cons _ b => Reps.drop n b
theorem Reps.take : ∀ {v : List V} {d : List D} (n : Nat), Reps K F v d → Reps K F (v.take n) (d.take n)
  | _, _, 0, _ => .nil
  | _, _, _ + 1, .nil => .nil
  | _, _, n + 1, .cons a b => .cons a (Reps.take n b)
theorem Reps.erase : ∀ {v : List V} {d : List D} (n : Nat), Reps K F v d → Reps K F (v.eraseIdx n) (d.eraseIdx n)
  | _, _, _, .nil => .nil
  | _, _, 0, .cons _ b => b
  | _, _, n + 1, .cons a b => .cons a (Reps.erase n b)
theorem Reps.reverse {v : List V} {d : List D} (h : Reps K F v d) : Reps K F v.reverse d.reverse := by
  have : ∀ {v : List V} {d : List D}, Reps K F v d → ∀ {v' : List V} {d' : List D}, Reps K F v' d' → Reps K F (v.reverse ++ v') (d.reverse ++ d') := by
    intro v d h
    induction v generalizing d with
    | nil => intro v' d' h'; cases h; exact h'
    | cons x v ih =>
      intro v' d' h'
      cases h with
      | cons a b =>
        rw [List.reverse_cons, List.reverse_cons, List.append_assoc, List.append_assoc]
        exact ih b (.cons a h')
  simpa using this h .nil
theorem Reps.rep {v : List V} {d : List D} (h : Reps K F v d) : ∀ n : Nat, Reps K F (List.replicate n v).flatten (List.replicate n d).flatten
  | 0 => .nil
  | n + 1 => by
    rw [List.replicate_succ, List.replicate_succ, List.flatten_cons, List.flatten_cons]
    exact h.append (Reps.rep h n)
theorem Reps.ints : ∀ ns : List Int, Reps K F (ns.map V.int) (ns.map D.int)
  | [] => .nil
  | n :: ns => .cons (.int n) (Reps.ints ns)
theorem Reps.strs : ∀ ns : List Str, Reps K F (ns.map V.str) (ns.map D.str)
  | [] => .nil
  | n :: ns => .cons (.str n) (Reps.strs ns)
theorem Reps.intsOf : ∀ {vs : List V} {ds : List D} {ns : List Int}, Reps K F vs ds → intsOf ds = some ns → vs = ns.map V.int ∧ ds = ns.map D.int
  | _, _, ns, .nil, e => by cases e; exact ⟨rfl, rfl⟩
  | _, _, ns, .cons (d := d) a b, e => by
    cases d with
    | int i =>
      cases a
      simp only [G48.intsOf, Option.map_eq_some_iff] at e
      obtain ⟨r, e1, rfl⟩ := e
      obtain ⟨h1, h2⟩ := Reps.intsOf b e1
      rw [h1, h2]
      exact ⟨rfl, rfl⟩
    | _ => simp [G48.intsOf] at e
theorem Reps.strsOf : ∀ {vs : List V} {ds : List D} {ns : List Str}, Reps K F vs ds → strsOf ds = some ns → vs = ns.map V.str ∧ ds = ns.map D.str
  | _, _, ns, .nil, e => by cases e; exact ⟨rfl, rfl⟩
  | _, _, ns, .cons (d := d) a b, e => by
    cases d with
    | str i =>
      cases a
      simp only [G48.strsOf, Option.map_eq_some_iff] at e
      obtain ⟨r, e1, rfl⟩ := e
      obtain ⟨h1, h2⟩ := Reps.strsOf b e1
      rw [h1, h2]
      exact ⟨rfl, rfl⟩
    | _ => simp [G48.strsOf] at e
end

/-! ### what is one's own -/
inductive Own (K : PySem.W.Frag) (C : Nat → Addr) (F H : Hp) : V → D → Prop where
  | lst {l : Addr} {vs : List V} {ds : List D} : F l = none → H l = some (.lst vs) → Reps K F vs ds → Own K C F H (.ref l) (.lst ds)
  | dK {l : Addr} {kv : List (L2.Key × V)} {kd : List (Key × D)} : F l = none → H l = some (.dK kv) → RepK K F kv kd → Own K C F H (.ref l) (.dK kd)
  | dT {l : Addr} {kv : List (List L2.Key × V)} {kd : List (List Key × D)} : F l = none → H l = some (.dT kv) → RepT K F kv kd → Own K C F H (.ref l) (.dT kd)
  | obj {l : Addr} {c : Nat} {dx : Addr} {fv : List (Str × V)} {fd : List (Str × D)} : F l = none → H l = some (.ins (C c) dx fv) → RepO K F fv fd → Own K C F H (.ref l) (.obj c fd)
section
variable {K : PySem.W.Frag} {C : Nat → Addr} {F F' H H' : Hp}
theorem Own.ref {v : V} {d : D} (o : Own K C F H v d) : ∃ l u, v = .ref l ∧ F l = none ∧ H l = some u := by
  cases o with
  | lst a b _ => exact ⟨_, _, rfl, a, b⟩
  | dK a b _ => exact ⟨_, _, rfl, a, b⟩
  | dT a b _ => exact ⟨_, _, rfl, a, b⟩
  | obj a b _ => exact ⟨_, _, rfl, a, b⟩
/-- kept, when its object is -/
theorem Own.keep {l : Addr} {d : D} (o : Own K C F H (.ref l) d) (le : Fle F F') (n : F' l = none) (e : H' l = H l) : Own K C F' H' (.ref l) d := by
  cases o with
  | lst a b r => exact .lst n (e.trans b) (r.mono le)
  | dK a b r => exact .dK n (e.trans b) (r.mono le)
  | dT a b r => exact .dT n (e.trans b) (r.mono le)
  | obj a b r => exact .obj n (e.trans b) (r.mono le)
end
def Sl.own : Sl → Bool
  | .ow _ => true | .io _ => true | _ => false
inductive SlR (K : PySem.W.Frag) (C : Nat → Addr) (F H : Hp) : Option V → Sl → Prop where
  | no {o : Option V} : SlR K C F H o .no
  | va {v : V} {d : D} : Rep K F v d → SlR K C F H (some v) (.va d)
  | ow {v : V} {d : D} : Own K C F H v d → SlR K C F H (some v) (.ow d)
  | io {v : V} {d : D} : Own K C F H v d → SlR K C F H (some v) (.io d)
def Sl.isIo : Sl → Bool
  | .io _ => true | _ => false
structure En where
  F0 : Hp
  H0 : Hp
  IO : Addr → Prop
  kd : Bool → Addr → Prop
structure SI (K : PySem.W.Frag) (C : Nat → Addr) (E : En) (F H : Hp) (σ : L2.St) (σd : S) : Prop where
  fin : Fin F H
  le : Fle E.F0 F
  new : ∀ a, F a ≠ none → E.F0 a ≠ none ∨ E.H0 a = none ∨ E.IO a
  frame : ∀ a o, E.H0 a = some o → ¬ E.IO a → H a = some o
  ioH : ∀ a, E.IO a → ∃ u, H a = some u
  len : σ.length = σd.length
  at_ : ∀ (i : Nat) (o : Option V) (s : Sl), σ[i]? = some o → σd[i]? = some s → SlR K C F H o s
  dis : ∀ (i j : Nat) (v : Option V) (s t : Sl), σ[i]? = some v → σ[j]? = some v → σd[i]? = some s → σd[j]? = some t → s.own = true → t.own = true → i = j
  own : ∀ (i : Nat) (l : Addr) (s : Sl), σ[i]? = some (some (.ref l)) → σd[i]? = some s → s.own = true → E.H0 l = none ∨ E.IO l
  kd : ∀ (i : Nat) (l : Addr) (s : Sl), σ[i]? = some (some (.ref l)) → σd[i]? = some s → s.own = true → E.kd s.isIo l
section
variable {K : PySem.W.Frag} {C : Nat → Addr} {E : En} {F F' H H' : Hp} {σ : L2.St} {σd σd' : S}
theorem SlR.get {o : Option V} {s : Sl} (h : SlR K C F H o s) (w : s.own = true) : ∃ l u, o = some (.ref l) ∧ F l = none ∧ H l = some u := by
  cases h with
  | no => cases w
  | va _ => cases w
  | ow q => obtain ⟨l, u, rfl, a, b⟩ := q.ref; exact ⟨l, u, rfl, a, b⟩
  | io q => obtain ⟨l, u, rfl, a, b⟩ := q.ref; exact ⟨l, u, rfl, a, b⟩
/-- an own address -/
def OwnA (σ : L2.St) (σd : S) (l : Addr) : Prop := ∃ (i : Nat) (s : Sl), σ[i]? = some (some (V.ref l)) ∧ σd[i]? = some s ∧ s.own = true
theorem SI.ownA (I : SI K C E F H σ σd) {l : Addr} (w : OwnA σ σd l) : F l = none ∧ ∃ u, H l = some u := by
  obtain ⟨i, s, h1, h2, h3⟩ := w
  obtain ⟨l', u, e, a, b⟩ := (I.at_ i _ s h1 h2).get h3
  cases e
  exact ⟨a, u, b⟩
/-- the heap changes, what is mine stands -/
theorem SI.grow (I : SI K C E F H σ σd) (fin : Fin F' H') (le : Fle F F') (nw : ∀ a, F' a ≠ none → F a ≠ none ∨ H a = none)
    (fr : ∀ a o, H a = some o → H' a = some o) : SI K C E F' H' σ σd := by
  refine ⟨fin, I.le.trans le, fun a h => ?_, fun a o h n => fr a o (I.frame a o h n), fun a h => let ⟨u, e⟩ := I.ioH a h; ⟨u, fr a u e⟩, I.len, fun i o s h1 h2 => ?_, I.dis, I.own, I.kd⟩
  · rcases nw a h with h | h
    · exact I.new a h
    · cases e : E.H0 a with
      | none => exact .inr (.inl rfl)
      | some u =>
        refine .inr (.inr (Classical.byContradiction fun n => ?_))
        rw [I.frame a u e n] at h
        cases h
  · have q := I.at_ i o s h1 h2
    have key : ∀ {v : V} {d : D}, Own K C F H v d → Own K C F' H' v d := fun {v d} w => by
      obtain ⟨l, u, rfl, a, b⟩ := w.ref
      refine w.keep le ?_ ((fr l u b).trans b.symm)
      cases e : F' l with
      | none => rfl
      | some u' =>
        rcases nw l (by rw [e]; exact fun z => by cases z) with z | z
        · exact absurd a z
        · rw [b] at z; cases z
    cases q with
    | no => exact .no
    | va r => exact .va (r.mono le)
    | ow w => exact .ow (key w)
    | io w => exact .io (key w)
theorem SI.fresh (I : SI K C E F H σ σd) {p : Addr} (n : H p = none) : E.H0 p = none := by
  cases e : E.H0 p with
  | none => rfl
  | some u =>
    by_cases q : E.IO p
    · obtain ⟨u', e'⟩ := I.ioH p q
      rw [n] at e'; cases e'
    · rw [I.frame p u e q] at n; cases n
theorem SI.freshOwn (I : SI K C E F H σ σd) {p : Addr} (n : H p = none) : ¬ OwnA σ σd p := fun w => by
  obtain ⟨_, u, e⟩ := I.ownA w
  rw [n] at e; cases e
/-- a new object, to stay or to be one's own -/
theorem SI.alloc (I : SI K C E F H σ σd) {p : Addr} (o : HO) (n : H p = none) : SI K C E F (upd H p o) σ σd :=
  I.grow (I.fin.up o n) (Fle.refl F) (fun _ h => .inl h) fun a u e => by rw [upd_ne (ne_of_none e n)]; exact e
theorem SI.stay (I : SI K C E F H σ σd) {p : Addr} (o : HO) (n : H p = none) : SI K C E (upd F p o) (upd H p o) σ σd :=
  I.grow (I.fin.both p o) (Fle.up o (I.fin.none n)) (fun a h => by
    by_cases e : a = p
    · exact .inr (by rw [e]; exact n)
    · rw [upd_ne e] at h; exact .inl h) fun a u e => by rw [upd_ne (ne_of_none e n)]; exact e
/-- an object that is nobody's (a list that has come) stays from now on -/
theorem SI.let (I : SI K C E F H σ σd) {p : Addr} {o : HO} (h : H p = some o) (n : F p = none) (ne : E.H0 p = none ∨ E.IO p) (no : ¬ OwnA σ σd p) : SI K C E (upd F p o) H σ σd := by
  have le : Fle F (upd F p o) := Fle.up o n
  refine ⟨I.fin.put h, I.le.trans le, fun a q => ?_, I.frame, I.ioH, I.len, fun i v s h1 h2 => ?_, I.dis, I.own, I.kd⟩
  · by_cases e : a = p
    · exact .inr (by rw [e]; exact ne)
    · rw [upd_ne e] at q; exact I.new a q
  · have key : ∀ {v : V} {d : D}, Own K C F H v d → (∀ l, v = .ref l → l ≠ p) → Own K C (upd F p o) H v d := fun {v d} w k => by
      obtain ⟨l, u, rfl, a, b⟩ := w.ref
      refine w.keep le ?_ rfl
      rw [upd_ne (k l rfl)]; exact a
    have q := I.at_ i v s h1 h2
    cases q with
    | no => exact .no
    | va r => exact .va (r.mono le)
    | ow w => exact .ow (key w fun l e z => no ⟨i, _, by rw [h1, e, z], h2, rfl⟩)
    | io w => exact .io (key w fun l e z => no ⟨i, _, by rw [h1, e, z], h2, rfl⟩)
end
/-- what comes: a datum that stays, or a list (dict, object) of nobody's -/
def ResR (K : PySem.W.Frag) (C : Nat → Addr) (E : En) (F H : Hp) (σ : L2.St) (σd : S) (v : V) (r : Res) : Prop := match r with
  | (false, d) => Rep K F v d
  | (true, d) => Own K C F H v d ∧ ∀ l, v = .ref l → E.H0 l = none ∧ ¬ OwnA σ σd l
section
variable {K : PySem.W.Frag} {C : Nat → Addr} {E : En} {F F' H H' : Hp} {σ : L2.St} {σd σd' : S}
/-- it is let go: it stays (an object can't) -/
theorem ResR.stay (I : SI K C E F H σ σd) {v : V} {r : Res} (h : ResR K C E F H σ σd v r) (no : ∀ c fs, r ≠ (true, .obj c fs)) :
    ∃ F', SI K C E F' H σ σd ∧ Fle F F' ∧ Rep K F' v r.2 ∧ ∀ a, F' a ≠ none → F a ≠ none ∨ v = .ref a := by
  obtain ⟨fl, d⟩ := r
  cases fl with
  | false => exact ⟨F, I, Fle.refl F, h, fun _ h => .inl h⟩
  | true =>
    obtain ⟨w, f⟩ := h
    have fin : ∀ {l : Addr} {o : HO}, H l = some o → F l = none → v = .ref l → SI K C E (upd F l o) H σ σd ∧ Fle F (upd F l o) ∧ ∀ a, upd F l o a ≠ none → F a ≠ none ∨ v = .ref a := fun {l o} e n ev =>
      ⟨I.let e n (.inl (f l ev).1) (f l ev).2, Fle.up o n, fun a q => by
        by_cases z : a = l
        · exact .inr (by rw [z]; exact ev)
        · rw [upd_ne z] at q; exact .inl q⟩
    cases w with
    | @lst l vs ds a b r =>
      obtain ⟨h1, h2, h3⟩ := fin b a rfl
      exact ⟨_, h1, h2, .lst upd_same (r.mono h2), h3⟩
    | @dK l kv kd a b r =>
      obtain ⟨h1, h2, h3⟩ := fin b a rfl
      exact ⟨_, h1, h2, .dK (.inl upd_same) (r.mono h2), h3⟩
    | @dT l kv kd a b r =>
      obtain ⟨h1, h2, h3⟩ := fin b a rfl
      exact ⟨_, h1, h2, .dT (.inl upd_same) (r.mono h2), h3⟩
    | obj a b r => exact absurd rfl (no _ _)
theorem get_len {α β : Type} {l : List α} {m : List β} (h : l.length = m.length) {i : Nat} {x : β} (e : m[i]? = some x) : ∃ y, l[i]? = some y := by
  have := (List.getElem?_eq_some_iff.mp e).1
  exact ⟨l[i]'(by omega), by simp⟩
theorem SI.slot (I : SI K C E F H σ σd) {i : Nat} {s : Sl} (e : σd[i]? = some s) : ∃ o, σ[i]? = some o ∧ SlR K C F H o s := by
  obtain ⟨o, h⟩ := get_len I.len e
  exact ⟨o, h, I.at_ i o s h e⟩
/-- a slot's own list is let go -/
theorem SI.freeze (I : SI K C E F H σ σd) {i : Nat} {d : D} (e : σd[i]? = some (.ow d)) (no : ∀ c fs, d ≠ .obj c fs) :
    ∃ F' v, SI K C E F' H σ (σd.set i (.va d)) ∧ Fle F F' ∧ σ[i]? = some (some v) ∧ Rep K F' v d ∧ (∀ a, F' a ≠ none → F a ≠ none ∨ v = .ref a) := by
  obtain ⟨o, h1, h2⟩ := I.slot e
  have hlt : i < σd.length := (List.getElem?_eq_some_iff.mp e).1
  cases h2 with
  | @ow v _ w =>
    have I1 : SI K C E F H σ (σd.set i .no) := by
      refine ⟨I.fin, I.le, I.new, I.frame, I.ioH, by rw [List.length_set]; exact I.len, fun j o s a b => ?_, fun j k v s t a b c d' e1 e2 => ?_, fun j l s a b c => ?_, fun j l s a b c => ?_⟩
      · by_cases hj : i = j
        · subst hj; rw [List.getElem?_set_self hlt] at b; cases b; exact .no
        · rw [List.getElem?_set_ne hj] at b; exact I.at_ j o s a b
      · have nj : i ≠ j := fun z => by subst z; rw [List.getElem?_set_self hlt] at c; cases c; cases e1
        have nk : i ≠ k := fun z => by subst z; rw [List.getElem?_set_self hlt] at d'; cases d'; cases e2
        rw [List.getElem?_set_ne nj] at c
        rw [List.getElem?_set_ne nk] at d'
        exact I.dis j k v s t a b c d' e1 e2
      · have nj : i ≠ j := fun z => by subst z; rw [List.getElem?_set_self hlt] at b; cases b; cases c
        rw [List.getElem?_set_ne nj] at b
        exact I.own j l s a b c
      · have nj : i ≠ j := fun z => by subst z; rw [List.getElem?_set_self hlt] at b; cases b; cases c
        rw [List.getElem?_set_ne nj] at b
        exact I.kd j l s a b c
    have no' : ∀ l, v = .ref l → ¬ OwnA σ (σd.set i .no) l := fun l ev ⟨j, s, a, b, c⟩ => by
      have nj : i ≠ j := fun z => by subst z; rw [List.getElem?_set_self hlt] at b; cases b; cases c
      rw [List.getElem?_set_ne nj] at b
      exact nj (I.dis i j (some v) _ s h1 (by rw [a, ev]) e b rfl c)
    have ow : ∀ l, v = .ref l → E.H0 l = none ∨ E.IO l := fun l ev => I.own i l _ (by rw [h1, ev]) e rfl
    have fin : ∀ {l : Addr} {o : HO}, H l = some o → F l = none → v = .ref l → SI K C E (upd F l o) H σ (σd.set i .no) ∧ Fle F (upd F l o) ∧ ∀ a, upd F l o a ≠ none → F a ≠ none ∨ v = .ref a := fun {l o} e n ev =>
      ⟨I1.let e n (ow l ev) (no' l ev), Fle.up o n, fun a q => by
        by_cases z : a = l
        · exact .inr (by rw [z]; exact ev)
        · rw [upd_ne z] at q; exact .inl q⟩
    have out : ∀ {F' : Hp}, SI K C E F' H σ (σd.set i .no) → Rep K F' v d → SI K C E F' H σ (σd.set i (.va d)) := fun {F'} J r => by
      refine ⟨J.fin, J.le, J.new, J.frame, J.ioH, by rw [List.length_set]; exact I.len, fun j o s a b => ?_, fun j k v s t a b c d' e1 e2 => ?_, fun j l s a b c => ?_, fun j l s a b c => ?_⟩
      · by_cases hj : i = j
        · subst hj; rw [List.getElem?_set_self hlt] at b; cases b; rw [h1] at a; cases a; exact .va r
        · rw [List.getElem?_set_ne hj] at b; exact J.at_ j o s a (by rw [List.getElem?_set_ne hj]; exact b)
      · have nj : i ≠ j := fun z => by subst z; rw [List.getElem?_set_self hlt] at c; cases c; cases e1
        have nk : i ≠ k := fun z => by subst z; rw [List.getElem?_set_self hlt] at d'; cases d'; cases e2
        rw [List.getElem?_set_ne nj] at c
        rw [List.getElem?_set_ne nk] at d'
        exact I.dis j k v s t a b c d' e1 e2
      · have nj : i ≠ j := fun z => by subst z; rw [List.getElem?_set_self hlt] at b; cases b; cases c
        rw [List.getElem?_set_ne nj] at b
        exact I.own j l s a b c
      · have nj : i ≠ j := fun z => by subst z; rw [List.getElem?_set_self hlt] at b; cases b; cases c
        rw [List.getElem?_set_ne nj] at b
        exact I.kd j l s a b c
    cases w with
    | @lst l vs ds a b r =>
      obtain ⟨q1, q2, q3⟩ := fin b a rfl
      have r' : Rep K (upd F l (.lst vs)) (.ref l) (.lst ds) := .lst upd_same (r.mono q2)
      exact ⟨_, _, out q1 r', q2, h1, r', q3⟩
    | @dK l kv kd a b r =>
      obtain ⟨q1, q2, q3⟩ := fin b a rfl
      have r' : Rep K (upd F l (.dK kv)) (.ref l) (.dK kd) := .dK (.inl upd_same) (r.mono q2)
      exact ⟨_, _, out q1 r', q2, h1, r', q3⟩
    | @dT l kv kd a b r =>
      obtain ⟨q1, q2, q3⟩ := fin b a rfl
      have r' : Rep K (upd F l (.dT kv)) (.ref l) (.dT kd) := .dT (.inl upd_same) (r.mono q2)
      exact ⟨_, _, out q1 r', q2, h1, r', q3⟩
    | obj a b r => exact absurd rfl (no _ _)
end
end G48

set_option maxHeartbeats 1000000
/-! Readings of core terms; the primitives. -/
namespace G48
open PySem L2

theorem PE.imp {X : Cx} {e : Expr} {t t' : TE} (h : PE X e t) (k : ∀ σ H Q, t' σ H Q → t σ H Q) : PE X e t' := ⟨fun pins s σ H Q I q => h.run pins s σ H Q I (k σ H Q q)⟩
theorem PT.imp {X : Cx} {e : Expr} {t t' : TT} (h : PT X e t) (k : ∀ σ H Q, t' σ H Q → t σ H Q) : PT X e t' := ⟨fun pins s σ H Q I q => h.run pins s σ H Q I (k σ H Q q)⟩
theorem PA.imp {X : Cx} {e : List Expr} {t t' : TA} (h : PA X e t) (k : ∀ σ H Q, t' σ H Q → t σ H Q) : PA X e t' := ⟨fun pos pins s σ H Q I q => h.run pos pins s σ H Q I (k σ H Q q)⟩
theorem PS.imp {X : Cx} {e : Stmt} {t t' : TS} (h : PS X e t) (k : ∀ D σ H, t' D σ H → t D σ H) : PS X e t' := ⟨fun pins s σ H D I q => h.run pins s σ H D I (k D σ H q)⟩
theorem PSs.imp {X : Cx} {e : List Stmt} {t t' : TS} (h : PSs X e t) (k : ∀ D σ H, t' D σ H → t D σ H) : PSs X e t' := ⟨fun pins s σ H D I q => h.run pins s σ H D I (k D σ H q)⟩
theorem PI.imp {X : Cx} {tg e : Expr} {t t' : TI} (h : PI X tg e t) (k : ∀ σ H Q, t' σ H Q → t σ H Q) : PI X tg e t' := ⟨fun pins s σ H Q I q => h.run pins s σ H Q I (k σ H Q q)⟩

section
variable (K : PySem.W.Frag) (C : Nat → Addr) (Φ : CF)
/-- an expression: what comes; the value let go; a test -/
def tE (c : Ex) : TE := fun σ H Q => ∃ (E : En) (F : Hp) (σd : S) (r : Res) (σd' : S), SI K C E F H σ σd ∧ ev Φ c σd = some (r, σd') ∧
  ∀ F' H' v, SI K C E F' H' σ σd' → Fle F F' → ResR K C E F' H' σ σd' v r → Q v H'
def tV (c : Ex) : TE := fun σ H Q => ∃ (E : En) (F : Hp) (σd : S) (d : D) (σd' : S), SI K C E F H σ σd ∧ bnd (ev Φ c σd) vl = some (d, σd') ∧
  ∀ F' H' v, SI K C E F' H' σ σd' → Fle F F' → Rep K F' v d → Q v H'
def tT (c : Ex) : TT := fun σ H Q => ∃ (E : En) (F : Hp) (σd : S) (b : Bool) (σd' : S), SI K C E F H σ σd ∧ evT Φ c σd = some (b, σd') ∧
  ∀ F' H', SI K C E F' H' σ σd' → Fle F F' → Q b H'
/-- an operand -/
def tO : Ex → TE
  | .var i => tVar i
  | c => tV K C Φ c
def tOsR : Exs → TA
  | .nil => tNil
  | .cons e es => tCons (tO K C Φ e) (tOsR es)
def tVsR : Exs → TA
  | .nil => tNil
  | .cons e es => tCons (tV K C Φ e) (tVsR es)
inductive OpRs (F : Hp) (σ : L2.St) : List V → List Opd → Prop where
  | nil : OpRs F σ [] []
  | sl {v : V} {vs : List V} {i : Nat} {os : List Opd} : σ[i]? = some (some v) → OpRs F σ vs os → OpRs F σ (v :: vs) (.inl i :: os)
  | va {v : V} {vs : List V} {d : D} {os : List Opd} : Rep K F v d → OpRs F σ vs os → OpRs F σ (v :: vs) (.inr d :: os)
def tOs (es : Exs) : TA := fun σ H Q => ∃ (E : En) (F : Hp) (σd : S) (os : List Opd) (σd' : S), SI K C E F H σ σd ∧ evOs Φ es σd = some (os, σd') ∧
  ∀ F' H' vs, SI K C E F' H' σ σd' → Fle F F' → OpRs K F' σ vs os → Q vs H'
def tVs (es : Exs) : TA := fun σ H Q => ∃ (E : En) (F : Hp) (σd : S) (ds : List D) (σd' : S), SI K C E F H σ σd ∧ evs Φ es σd = some (ds, σd') ∧
  ∀ F' H' vs, SI K C E F' H' σ σd' → Fle F F' → Reps K F' vs ds → Q vs H'
end
theorem bnd_some {α β : Type} {m : Option (α × S)} {k : α → S → Option β} {r : β} (h : bnd m k = some r) : ∃ a s, m = some (a, s) ∧ k a s = some r := by
  cases m with
  | none => cases h
  | some p => exact ⟨p.1, p.2, rfl, h⟩
theorem vl_some {r : Res} {σ : S} {d : D} {σ' : S} (h : vl r σ = some (d, σ')) : d = r.2 ∧ σ' = σ ∧ ∀ c fs, r ≠ (true, .obj c fs) := by
  unfold vl at h
  split at h
  · cases h
  · rename_i n
    cases h
    exact ⟨rfl, rfl, fun c fs e => n (by rw [e]; rfl)⟩
section
variable {K : PySem.W.Frag} {C : Nat → Addr} {Φ : CF}
theorem tV_E {c : Ex} {σ : L2.St} {H : Hp} {Q : VK} (h : tV K C Φ c σ H Q) : tE K C Φ c σ H Q := by
  obtain ⟨E, F, σd, d, σd', I, e, k⟩ := h
  obtain ⟨r, σ1, e1, e2⟩ := bnd_some e
  obtain ⟨rfl, rfl, no⟩ := vl_some e2
  refine ⟨E, F, σd, r, _, I, e1, fun F' H' v I' le w => ?_⟩
  obtain ⟨F2, I2, le2, r2, _⟩ := w.stay I' no
  exact k F2 H' v I2 (le.trans le2) r2
theorem SI.fetch {E : En} {F H : Hp} {σ : L2.St} {σd : S} (I : SI K C E F H σ σd) {i : Nat} {d : D} (h : G48.fetch σd (.inl i) = some d) : ∃ v, σ[i]? = some (some v) ∧ (Rep K F v d ∨ Own K C F H v d) := by
  have h : (match σd[i]? with
    | some s => s.get
    | none => none) = some d := h
  cases e : σd[i]? with
  | none => rw [e] at h; cases h
  | some s =>
    rw [e] at h
    obtain ⟨o, h1, h2⟩ := I.slot e
    cases h2 with
    | no => cases h
    | va r => cases h; exact ⟨_, h1, .inl r⟩
    | ow r => cases h; exact ⟨_, h1, .inr r⟩
    | io r => cases h; exact ⟨_, h1, .inr r⟩
theorem tO_of {a : Ex} {E : En} {F H : Hp} {σ : L2.St} {σd : S} {o : Opd} {σ1 : S} {Q : VK} (I : SI K C E F H σ σd) (e : opd a σd (bnd (ev Φ a σd) vl) = some (o, σ1))
    (k : ∀ F' H' v, SI K C E F' H' σ σ1 → Fle F F' → OpRs K F' σ [v] [o] → Q v H') : tO K C Φ a σ H Q := by
  have gen : ∀ (hh : (bnd (bnd (ev Φ a σd) vl) fun d σ => some ((Sum.inr d : Opd), σ)) = some (o, σ1)), tV K C Φ a σ H Q := fun hh => by
    obtain ⟨d, σ2, e1, e2⟩ := bnd_some hh
    cases e2
    exact ⟨E, F, σd, d, _, I, e1, fun F' H' v I' le r => k F' H' v I' le (.va r .nil)⟩
  cases a with
  | var i =>
    replace e : (match G48.fetch σd (.inl i) with | some _ => some ((Sum.inl i : Opd), σd) | none => none) = some (o, σ1) := e
    cases f : G48.fetch σd (.inl i) with
    | none => rw [f] at e; cases e
    | some d =>
      rw [f] at e
      cases e
      obtain ⟨v, hv, _⟩ := I.fetch f
      exact ⟨v, hv, k F H v I (Fle.refl F) (.sl hv .nil)⟩
  | _ => exact gen e
theorem OpRs.mono {F F' : Hp} (le : Fle F F') {σ : L2.St} {vs : List V} {os : List Opd} (h : OpRs K F σ vs os) : OpRs K F' σ vs os := by
  induction h with
  | nil => exact .nil
  | sl a b ih => exact .sl a ih
  | va a b ih => exact .va (a.mono le) ih
theorem OpRs.app {F : Hp} {σ : L2.St} {v : V} {o : Opd} {vs : List V} {os : List Opd} (h : OpRs K F σ [v] [o]) (r : OpRs K F σ vs os) : OpRs K F σ (v :: vs) (o :: os) := by
  cases h with
  | sl a _ => exact .sl a r
  | va a _ => exact .va a r
theorem tOs_cons {a : Ex} {as : Exs} {σ : L2.St} {H : Hp} {Q : List V → Hp → Prop} (h : tOs K C Φ (.cons a as) σ H Q) : tO K C Φ a σ H fun v H1 => tOs K C Φ as σ H1 fun vs H2 => Q (v :: vs) H2 := by
  obtain ⟨E, F, σd, os, σd', I, e, k⟩ := h
  obtain ⟨o, σ1, e1, e2⟩ := bnd_some e
  obtain ⟨os', σ2, e3, e4⟩ := bnd_some e2
  cases e4
  exact tO_of I e1 fun F1 H1 v I1 le1 r1 => ⟨E, F1, σ1, os', _, I1, e3, fun F2 H2 vs I2 le2 r2 => k F2 H2 _ I2 (le1.trans le2) ((r1.mono le2).app r2)⟩
theorem tOs_nil {σ : L2.St} {H : Hp} {Q : List V → Hp → Prop} (h : tOs K C Φ .nil σ H Q) : Q [] H := by
  obtain ⟨E, F, σd, os, σd', I, e, k⟩ := h
  cases e
  exact k F H [] I (Fle.refl F) .nil
theorem tOs_R : ∀ {es : Exs} {σ : L2.St} {H : Hp} {Q : List V → Hp → Prop}, tOs K C Φ es σ H Q → tOsR K C Φ es σ H Q
  | .nil, _, _, _, h => tOs_nil h
  | .cons e es, σ, H, Q, h => by
    have q := tOs_cons h
    show tO K C Φ e σ H fun x H1 => tOsR K C Φ es σ H1 fun xs H2 => Q (x :: xs) H2
    have mono : ∀ {c : Ex} {σ : L2.St} {H : Hp} {Q Q' : VK}, (∀ v H, Q v H → Q' v H) → tO K C Φ c σ H Q → tO K C Φ c σ H Q' := fun {c σ H Q Q'} k h => by
      cases c with
      | var i => obtain ⟨v, e, q⟩ := h; exact ⟨v, e, k _ _ q⟩
      | _ => obtain ⟨E, F, σd, d, σd', I, e, w⟩ := h; exact ⟨E, F, σd, d, σd', I, e, fun F' H' v a b c => k _ _ (w F' H' v a b c)⟩
    exact mono (fun v H1 q => tOs_R q) q
theorem tVs_cons {a : Ex} {as : Exs} {σ : L2.St} {H : Hp} {Q : List V → Hp → Prop} (h : tVs K C Φ (.cons a as) σ H Q) : tV K C Φ a σ H fun v H1 => tVs K C Φ as σ H1 fun vs H2 => Q (v :: vs) H2 := by
  obtain ⟨E, F, σd, os, σd', I, e, k⟩ := h
  obtain ⟨d, σ1, e1, e2⟩ := bnd_some e
  obtain ⟨os', σ2, e3, e4⟩ := bnd_some e2
  cases e4
  exact ⟨E, F, σd, d, σ1, I, e1, fun F1 H1 v I1 le1 r1 => ⟨E, F1, σ1, os', _, I1, e3, fun F2 H2 vs I2 le2 r2 => k F2 H2 _ I2 (le1.trans le2) (.cons (r1.mono le2) r2)⟩⟩
theorem tVs_nil {σ : L2.St} {H : Hp} {Q : List V → Hp → Prop} (h : tVs K C Φ .nil σ H Q) : Q [] H := by
  obtain ⟨E, F, σd, os, σd', I, e, k⟩ := h
  cases e
  exact k F H [] I (Fle.refl F) .nil
theorem tV_mono {c : Ex} {σ : L2.St} {H : Hp} {Q Q' : VK} (k : ∀ v H, Q v H → Q' v H) (h : tV K C Φ c σ H Q) : tV K C Φ c σ H Q' := by
  obtain ⟨E, F, σd, d, σd', I, e, w⟩ := h
  exact ⟨E, F, σd, d, σd', I, e, fun F' H' v a b c => k _ _ (w F' H' v a b c)⟩
theorem tVs_R : ∀ {es : Exs} {σ : L2.St} {H : Hp} {Q : List V → Hp → Prop}, tVs K C Φ es σ H Q → tVsR K C Φ es σ H Q
  | .nil, _, _, _, h => tVs_nil h
  | .cons e es, σ, H, Q, h => tV_mono (fun v H1 q => tVs_R q) (tVs_cons h)
end

/-! ### operands by values -/
inductive ORs (K : PySem.W.Frag) (C : Nat → Addr) (F H : Hp) : List V → List D → Prop where
  | nil : ORs K C F H [] []
  | cons {v : V} {vs : List V} {d : D} {ds : List D} : (Rep K F v d ∨ Own K C F H v d) → ORs K C F H vs ds → ORs K C F H (v :: vs) (d :: ds)
abbrev OR (K : PySem.W.Frag) (C : Nat → Addr) (F H : Hp) (v : V) (d : D) : Prop := Rep K F v d ∨ Own K C F H v d
section
variable {K : PySem.W.Frag} {C : Nat → Addr} {E : En} {F H : Hp} {σ : L2.St} {σd : S} {v : V}
theorem ORs_of (I : SI K C E F H σ σd) : ∀ {os : List Opd} {vs : List V} {ds : List D}, OpRs K F σ vs os → fetchs σd os = some ds → ORs K C F H vs ds
  | [], _, _, .nil, e => by cases e; exact .nil
  | o :: os, _, ds, h, e => by
    simp only [fetchs] at e
    cases f : fetch σd o with
    | none => rw [f] at e; cases e
    | some d =>
      rw [f] at e
      cases g : fetchs σd os with
      | none => rw [g] at e; cases e
      | some ds' =>
        rw [g] at e
        cases e
        cases h with
        | sl a b =>
          obtain ⟨v', e1, e2⟩ := I.fetch f
          rw [a] at e1; cases e1
          exact .cons e2 (ORs_of I b g)
        | va a b => cases f; exact .cons (.inl a) (ORs_of I b g)
theorem OR.int {i : Int} (h : OR K C F H v (.int i)) : v = .int i := by rcases h with h | h <;> cases h; rfl
theorem OR.bl {i : Bool} (h : OR K C F H v (.bl i)) : v = .bl i := by rcases h with h | h <;> cases h; rfl
theorem OR.str {i : Str} (h : OR K C F H v (.str i)) : v = .str i := by rcases h with h | h <;> cases h; rfl
theorem OR.non (h : OR K C F H v .non) : v = .non := by rcases h with h | h <;> cases h; rfl
theorem OR.lst (fin : Fin F H) {l : List D} (h : OR K C F H v (.lst l)) : ∃ a vs, v = .ref a ∧ H a = some (.lst vs) ∧ Reps K F vs l := by
  rcases h with h | h
  · cases h with | lst a b => exact ⟨_, _, rfl, fin _ _ a, b⟩
  · cases h with | lst a b c => exact ⟨_, _, rfl, b, c⟩
theorem OR.tup (fin : Fin F H) {l : List D} (h : OR K C F H v (.tup l)) : ∃ a vs, v = .ref a ∧ H a = some (.tup vs) ∧ Reps K F vs l := by
  rcases h with h | h
  · cases h with | tup a b => exact ⟨_, _, rfl, fin _ _ a, b⟩
  · cases h
theorem OR.scr (fin : Fin F H) {l : List Int} (h : OR K C F H v (.scr l)) : ∃ a, v = .ref a ∧ SqL K H a (l.map V.int) := by
  rcases h with h | h
  · cases h with | scr a => exact ⟨_, rfl, fin.le.sq a⟩
  · cases h
theorem OR.dK (fin : Fin F H) {l : List (Key × D)} (h : OR K C F H v (.dK l)) : ∃ a kv, v = .ref a ∧ Rd H a (.dK kv) ∧ RepK K F kv l := by
  rcases h with h | h
  · cases h with | dK a b => exact ⟨_, _, rfl, fin.le.r _ _ a, b⟩
  · cases h with | dK a b c => exact ⟨_, _, rfl, .inl b, c⟩
theorem OR.dT (fin : Fin F H) {l : List (List Key × D)} (h : OR K C F H v (.dT l)) : ∃ a kv, v = .ref a ∧ Rd H a (.dT kv) ∧ RepT K F kv l := by
  rcases h with h | h
  · cases h with | dT a b => exact ⟨_, _, rfl, fin.le.r _ _ a, b⟩
  · cases h with | dT a b c => exact ⟨_, _, rfl, .inl b, c⟩
theorem OR.flat {d : D} (h : OR K C F H v d) (f : d.flat = true) : flatV v = true ∧ ∀ F', Rep K F' v d := by
  cases d with
  | non => cases OR.non h; exact ⟨rfl, fun _ => .non⟩
  | bl _ => cases OR.bl h; exact ⟨rfl, fun _ => .bl _⟩
  | int _ => cases OR.int h; exact ⟨rfl, fun _ => .int _⟩
  | str _ => cases OR.str h; exact ⟨rfl, fun _ => .str _⟩
  | _ => cases f
end
/-- a primitive, by values -/
def PrS (K : PySem.W.Frag) (C : Nat → Addr) (p : Pr) (vs : List V) (H : Hp) (Q : VK) : Prop := ∃ (E : En) (F : Hp) (σ : L2.St) (σd : S) (ds : List D) (r : Res), SI K C E F H σ σd ∧ ORs K C F H vs ds ∧ prD p ds = some r ∧
  ∀ F' H' v, SI K C E F' H' σ σd → Fle F F' → ResR K C E F' H' σ σd v r → Q v H'
section
variable {K : PySem.W.Frag} {C : Nat → Addr} {Φ : CF}
/-- from the operands' values to the primitive -/
theorem tE_pr {p : Pr} {es : Exs} {σ : L2.St} {H : Hp} {Q : VK} (h : tE K C Φ (.pr p es) σ H Q) : tOs K C Φ es σ H fun vs H1 => PrS K C p vs H1 Q := by
  obtain ⟨E, F, σd, r, σd', I, e, k⟩ := h
  obtain ⟨os, σ1, e1, e2⟩ := bnd_some e
  refine ⟨E, F, σd, os, σ1, I, e1, fun F1 H1 vs I1 le1 o => ?_⟩
  have e2 : (match fetchs σ1 os with
    | some ds => (match prD p ds with
      | some r => some (r, σ1)
      | none => none)
    | none => none) = some (r, σd') := e2
  cases f : fetchs σ1 os with
  | none => rw [f] at e2; cases e2
  | some ds =>
    rw [f] at e2
    dsimp only at e2
    cases g : prD p ds with
    | none => rw [g] at e2; cases e2
    | some r' =>
      rw [g] at e2
      obtain ⟨rfl, rfl⟩ := Prod.mk.inj (Option.some.inj e2)
      exact ⟨E, F1, σ, _, ds, _, I1, ORs_of I1 o f, g, fun F2 H2 v I2 le2 w => k F2 H2 v I2 (le1.trans le2) w⟩
theorem pr2_inv {p : Pr} {x y : V} {H : Hp} {Q : VK} (h : PrS K C p [x, y] H Q) : ∃ (E : En) (F : Hp) (σ : L2.St) (σd : S) (a b : D) (r : Res), SI K C E F H σ σd ∧ OR K C F H x a ∧ OR K C F H y b ∧ prD p [a, b] = some r ∧
    ∀ F' H' v, SI K C E F' H' σ σd → Fle F F' → ResR K C E F' H' σ σd v r → Q v H' := by
  obtain ⟨E, F, σ, σd, ds, r, I, o, e, k⟩ := h
  cases o with | cons a o => cases o with | cons b o => cases o with | nil => exact ⟨E, F, σ, σd, _, _, r, I, a, b, e, k⟩
theorem pr1_inv {p : Pr} {x : V} {H : Hp} {Q : VK} (h : PrS K C p [x] H Q) : ∃ (E : En) (F : Hp) (σ : L2.St) (σd : S) (a : D) (r : Res), SI K C E F H σ σd ∧ OR K C F H x a ∧ prD p [a] = some r ∧
    ∀ F' H' v, SI K C E F' H' σ σd → Fle F F' → ResR K C E F' H' σ σd v r → Q v H' := by
  obtain ⟨E, F, σ, σd, ds, r, I, o, e, k⟩ := h
  cases o with | cons a o => cases o with | nil => exact ⟨E, F, σ, σd, _, r, I, a, e, k⟩
section
variable {E : En} {F H : Hp} {σ : L2.St} {σd : S} {Q : VK}
/-- a flat answer -/
theorem fin_flat {v : V} {d : D} (I : SI K C E F H σ σd) (k : ∀ F' H' v, SI K C E F' H' σ σd → Fle F F' → ResR K C E F' H' σ σd v (false, d) → Q v H') (r : Rep K F v d) : Q v H := k F H v I (Fle.refl F) r
/-- a new list of one's own -/
theorem fin_lst {vs : List V} {ds : List D} (I : SI K C E F H σ σd) (k : ∀ F' H' v, SI K C E F' H' σ σd → Fle F F' → ResR K C E F' H' σ σd v (true, .lst ds) → Q v H') (r : Reps K F vs ds) (p : Addr) (n : H p = none) : Q (.ref p) (upd H p (.lst vs)) :=
  k F _ _ (I.alloc _ n) (Fle.refl F) ⟨.lst (I.fin.none n) upd_same r, fun l e => by cases e; exact ⟨I.fresh n, I.freshOwn n⟩⟩
theorem fin_dK {vs : List (L2.Key × V)} {ds : List (Key × D)} (I : SI K C E F H σ σd) (k : ∀ F' H' v, SI K C E F' H' σ σd → Fle F F' → ResR K C E F' H' σ σd v (true, .dK ds) → Q v H') (r : RepK K F vs ds) (p : Addr) (n : H p = none) : Q (.ref p) (upd H p (.dK vs)) :=
  k F _ _ (I.alloc _ n) (Fle.refl F) ⟨.dK (I.fin.none n) upd_same r, fun l e => by cases e; exact ⟨I.fresh n, I.freshOwn n⟩⟩
theorem fin_dT {vs : List (List L2.Key × V)} {ds : List (List Key × D)} (I : SI K C E F H σ σd) (k : ∀ F' H' v, SI K C E F' H' σ σd → Fle F F' → ResR K C E F' H' σ σd v (true, .dT ds) → Q v H') (r : RepT K F vs ds) (p : Addr) (n : H p = none) : Q (.ref p) (upd H p (.dT vs)) :=
  k F _ _ (I.alloc _ n) (Fle.refl F) ⟨.dT (I.fin.none n) upd_same r, fun l e => by cases e; exact ⟨I.fresh n, I.freshOwn n⟩⟩
/-- a new tuple -/
theorem fin_tup {vs : List V} {ds : List D} (I : SI K C E F H σ σd) (k : ∀ F' H' v, SI K C E F' H' σ σd → Fle F F' → ResR K C E F' H' σ σd v (false, .tup ds) → Q v H') (r : Reps K F vs ds) (p : Addr) (n : H p = none) : Q (.ref p) (upd H p (.tup vs)) :=
  have le : Fle F (upd F p (.tup vs)) := Fle.up _ (I.fin.none n)
  k _ _ _ (I.stay _ n) le (.tup upd_same (r.mono le))
/-- a tuple that stands: it may be taken as staying -/
theorem fin_tupOld {a : Addr} {ds : List D} (I : SI K C E F H σ σd) (k : ∀ F' H' v, SI K C E F' H' σ σd → Fle F F' → ResR K C E F' H' σ σd v (false, .tup ds) → Q v H') (o : OR K C F H (.ref a) (.tup ds)) : Q (.ref a) H := by
  rcases o with o | o
  · exact k F H _ I (Fle.refl F) o
  · cases o
end
theorem szOk_le {n : Nat} (h : szOk n = true) : n ≤ sizeLine := of_decide_eq_true h
end
end G48

set_option maxHeartbeats 1000000
/-! The primitives' rules, by values. -/
namespace G48
open PySem L2
section
variable {X : Cx} {C : Nat → Addr}
abbrev R2P (X : Cx) (C : Nat → Addr) (p : Pr) : R2 := fun x y H Q => PrS X.K C p [x, y] H Q
theorem resInj {a b : Res} (h : some a = some b) : b = a := (Option.some.inj h).symm
theorem op_addP : OpR X (binaryOp .Add) (R2P X C .add) := by
  intro pins s σ H x y v u Q I rx ry h
  obtain ⟨E, F, τ, σd, a, b, r, J, oa, ob, e, k⟩ := pr2_inv h
  replace e : pAdd a b = some r := e
  unfold pAdd at e
  split at e
  · cases resInj e
    cases oa.int; cases ob.int
    exact op_add pins s σ H _ _ v u Q I rx ry ⟨_, _, rfl, rfl, fin_flat J k (.int _)⟩
  · split at e
    · cases resInj e
      cases oa.str; cases ob.str
      rename_i hz
      exact op_add_str pins s σ H _ _ v u Q I rx ry ⟨_, _, rfl, rfl, szOk_le hz, fin_flat J k (.str _)⟩
    · cases e
  · split at e
    · cases resInj e
      rename_i xs ys hz
      obtain ⟨p, vs, rfl, hp, rp⟩ := oa.tup J.fin
      obtain ⟨q, ws, rfl, hq, rq⟩ := ob.tup J.fin
      refine op_catA pins s σ H _ _ v u Q I rx ry ⟨p, q, vs, ws, rfl, rfl, SqT.of hp, SqT.of hq, by rw [rp.len, rq.len]; exact szOk_le hz, fun z => ?_, fun _ z => ?_, fun _ _ n hn => fin_tup J k (rp.append rq) n hn⟩
      · subst z
        cases rp
        exact fin_tupOld J k ob
      · subst z
        cases rq
        rw [List.append_nil] at k
        exact fin_tupOld J k oa
    · cases e
  · split at e
    · cases resInj e
      rename_i xs ys hz
      obtain ⟨p, vs, rfl, hp, rp⟩ := oa.lst J.fin
      obtain ⟨q, ws, rfl, hq, rq⟩ := ob.lst J.fin
      exact op_cat pins s σ H _ _ v u Q I rx ry ⟨p, q, vs, ws, rfl, rfl, hp, hq, by rw [rp.len, rq.len]; exact szOk_le hz, fun n hn => fin_lst J k (rp.append rq) n hn⟩
    · cases e
  · cases e
theorem int2_inv {f : Int → Int → Option D} {a b : D} {r : Res} (e : pInt2 f a b = some r) : ∃ i j d, a = .int i ∧ b = .int j ∧ f i j = some d ∧ r = (false, d) := by
  unfold pInt2 at e
  split at e
  · obtain ⟨d, h1, h2⟩ := Option.map_eq_some_iff.mp e
    exact ⟨_, _, d, rfl, rfl, h1, h2.symm⟩
  · cases e
theorem op_subP : OpR X (binaryOp .Sub) (R2P X C .sub) := by
  intro pins s σ H x y v u Q I rx ry h
  obtain ⟨E, F, τ, σd, a, b, r, J, oa, ob, e, k⟩ := pr2_inv h
  obtain ⟨i, j, d, rfl, rfl, e', rfl⟩ := int2_inv (show pInt2 _ a b = some r from e)
  cases oa.int; cases ob.int; cases e'
  exact op_sub pins s σ H _ _ v u Q I rx ry ⟨_, _, rfl, rfl, fin_flat J k (.int _)⟩
theorem and_t {a b : Bool} (h : (a && b) = true) : a = true ∧ b = true := by cases a <;> cases b <;> simp_all
theorem op_mulP : OpR X (binaryOp .Mult) (R2P X C .mul) := by
  intro pins s σ H x y v u Q I rx ry h
  obtain ⟨E, F, τ, σd, a, b, r, J, oa, ob, e, k⟩ := pr2_inv h
  replace e : pMul a b = some r := e
  unfold pMul at e
  split at e
  · split at e
    · cases resInj e
      rename_i i j hb
      cases oa.int; cases ob.int
      have hc : CMul i j := by
        cases h1 : big64 i with
        | true =>
          have h1 : i.natAbs < 18446744073709551616 := of_decide_eq_true h1
          exact .inl ⟨by omega, by omega⟩
        | false =>
          rw [h1] at hb
          have h2 : j.natAbs < 18446744073709551616 := of_decide_eq_true (show big64 j = true from hb)
          exact .inr ⟨by omega, by omega⟩
      exact op_mul pins s σ H _ _ v u Q I rx ry ⟨_, _, rfl, rfl, hc, fin_flat J k (.int _)⟩
    · cases e
  · split at e
    · cases resInj e
      rename_i xs n hz
      obtain ⟨h1, h2⟩ := and_t hz
      obtain ⟨h2, h3⟩ := and_t h2
      obtain ⟨p, vs, rfl, hp, rp⟩ := oa.lst J.fin
      cases ob.int
      exact op_rep pins s σ H _ _ v u Q I rx ry ⟨p, n, vs, rfl, rfl, hp, of_decide_eq_true h1, of_decide_eq_true h2, by rw [rp.len]; exact szOk_le h3, fun q hq => fin_lst J k (rp.rep _) q hq⟩
    · cases e
  · split at e
    · cases resInj e
      rename_i xs n hz
      obtain ⟨h1, h2⟩ := and_t hz
      obtain ⟨h2, h3⟩ := and_t h2
      obtain ⟨h3, h4⟩ := and_t h3
      obtain ⟨p, vs, rfl, hp, rp⟩ := oa.tup J.fin
      cases ob.int
      refine op_repT pins s σ H _ _ v u Q I rx ry ⟨p, n, vs, rfl, rfl, SqT.of hp, fun z => ?_, of_decide_eq_true h2, of_decide_eq_true h3, by rw [rp.len]; exact of_decide_eq_true h4, fun q hq => fin_tup J k (rp.rep _) q hq⟩
      subst z
      cases rp
      exact of_decide_eq_true h1 rfl
    · cases e
  · cases e
theorem op_fdivP : OpR X (binaryOp .FloorDiv) (R2P X C .fdiv) := by
  intro pins s σ H x y v u Q I rx ry h
  obtain ⟨E, F, τ, σd, a, b, r, J, oa, ob, e, k⟩ := pr2_inv h
  obtain ⟨i, j, d, rfl, rfl, e', rfl⟩ := int2_inv (show pInt2 _ a b = some r from e)
  cases oa.int; cases ob.int
  split at e'
  · cases e'
    rename_i hz
    obtain ⟨h1, h2⟩ := and_t hz
    exact op_fdiv pins s σ H _ _ v u Q I rx ry ⟨_, _, rfl, rfl, ⟨of_decide_eq_true h1, of_decide_eq_true h2⟩, fin_flat J k (.int _)⟩
  · cases e'
theorem op_modP : OpR X (binaryOp .Mod) (R2P X C .mod) := by
  intro pins s σ H x y v u Q I rx ry h
  obtain ⟨E, F, τ, σd, a, b, r, J, oa, ob, e, k⟩ := pr2_inv h
  obtain ⟨i, j, d, rfl, rfl, e', rfl⟩ := int2_inv (show pInt2 _ a b = some r from e)
  cases oa.int; cases ob.int
  split at e'
  · cases e'
    rename_i hz
    exact op_mod pins s σ H _ _ v u Q I rx ry ⟨_, _, rfl, rfl, of_decide_eq_true hz, fin_flat J k (.int _)⟩
  · cases e'
theorem op_powP : OpR X (binaryOp .Pow) (R2P X C .pow) := by
  intro pins s σ H x y v u Q I rx ry h
  obtain ⟨E, F, τ, σd, a, b, r, J, oa, ob, e, k⟩ := pr2_inv h
  obtain ⟨i, j, d, rfl, rfl, e', rfl⟩ := int2_inv (show pInt2 _ a b = some r from e)
  cases oa.int; cases ob.int
  split at e'
  · cases e'
    rename_i hz
    obtain ⟨h1, h2⟩ := and_t hz
    obtain ⟨h2, h3⟩ := and_t h2
    exact op_pow pins s σ H _ _ v u Q I rx ry ⟨_, _, rfl, rfl, ⟨of_decide_eq_true h1, of_decide_eq_true h2, of_decide_eq_true h3⟩, fin_flat J k (.int _)⟩
  · cases e'
theorem un_negP : UnR X (unaryOp .USub) (fun x H Q => PrS X.K C .neg [x] H Q) := by
  intro pins s σ H x v Q I rx h
  obtain ⟨E, F, τ, σd, a, r, J, oa, e, k⟩ := pr1_inv h
  cases a with
  | int i =>
    cases oa.int
    cases resInj (show some (false, D.int (-i)) = some r from e)
    exact un_neg pins s σ H _ v Q I rx ⟨_, rfl, fin_flat J k (.int _)⟩
  | _ => cases e
/-! comparisons -/
theorem cmpP {op : CmpOp} {f : Int → Int → Bool} {p : Pr} (hp : ∀ a b, prD p [a, b] = pCmp f a b) (ho : OpR X (compareOp op) (rI0 fun i j => .bl (f i j))) : OpR X (compareOp op) (R2P X C p) := by
  intro pins s σ H x y v u Q I rx ry h
  obtain ⟨E, F, τ, σd, a, b, r, J, oa, ob, e, k⟩ := pr2_inv h
  rw [hp] at e
  obtain ⟨i, j, d, rfl, rfl, e', rfl⟩ := int2_inv (show pInt2 _ a b = some r from e)
  cases oa.int; cases ob.int; cases e'
  exact ho pins s σ H _ _ v u Q I rx ry ⟨_, _, rfl, rfl, fin_flat J k (.bl _)⟩
theorem op_ltP : OpR X (compareOp .Lt) (R2P X C .lt) := cmpP (fun _ _ => rfl) op_lt
theorem op_leP : OpR X (compareOp .LtE) (R2P X C .le) := cmpP (fun _ _ => rfl) op_le
theorem op_gtP : OpR X (compareOp .Gt) (R2P X C .gt) := cmpP (fun _ _ => rfl) op_gt
theorem op_geP : OpR X (compareOp .GtE) (R2P X C .ge) := cmpP (fun _ _ => rfl) op_ge
/-! data -/
mutual
theorem Rep.dp {K : PySem.W.Frag} {F H : Hp} (le : Fle F H) : ∀ {v : V} {d : D}, Rep K F v d → d.pl = true → Dp K H v d.py
  | _, _, .non, _ => .non
  | _, _, .bl b, _ => .bl b
  | _, _, .int b, _ => .int b
  | _, _, .str b, _ => .str b
  | _, _, .lst e r, h => .lst (SqL.of (le.l _ _ e)) (Reps.dp le r h)
  | _, _, .tup e r, h => .tup (SqT.of (le.t _ _ e)) (Reps.dp le r h)
  | _, _, .scr _, h => by cases h
  | _, _, .dK _ _, h => by cases h
  | _, _, .dT _ _, h => by cases h
theorem Reps.dp {K : PySem.W.Frag} {F H : Hp} (le : Fle F H) : ∀ {v : List V} {d : List D}, Reps K F v d → D.pls d = true → DpAll K H v (D.pys d)
  | _, _, .nil, _ => .nil
  | _, _, .cons a b, h => by
    obtain ⟨h1, h2⟩ := and_t h
    exact .cons (Rep.dp le a h1) (Reps.dp le b h2)
end
theorem OR.dp {K : PySem.W.Frag} {F H : Hp} {v : V} {d : D} (fin : Fin F H) (h : OR K C F H v d) (p : d.pl = true) : Dp K H v d.py := by
  rcases h with h | h
  · exact h.dp fin.le p
  · cases h with
    | lst a b r => exact .lst (SqL.of b) (r.dp fin.le p)
    | _ => cases p
theorem eqD_inv {a b : D} {r : Bool} (h : eqD a b = some r) : a.pl = true ∧ b.pl = true ∧ SeqAt.shaped a.py = true ∧ SeqAt.shaped b.py = true ∧ r = PyData.eqv a.py b.py := by
  unfold eqD at h
  split at h
  · rename_i z
    cases h
    obtain ⟨h1, z⟩ := and_t z
    obtain ⟨h2, z⟩ := and_t z
    obtain ⟨h3, h4⟩ := and_t z
    exact ⟨h1, h2, h3, h4, rfl⟩
  · cases h
theorem op_eqP (hu : X.A.units + 64 < cLine) : OpR X (compareOp .Eq) (R2P X C .eq) := by
  intro pins s σ H x y v u Q I rx ry h
  obtain ⟨E, F, τ, σd, a, b, r, J, oa, ob, e, k⟩ := pr2_inv h
  obtain ⟨z, e1, e2⟩ := Option.map_eq_some_iff.mp (show (eqD a b).map _ = some r from e)
  obtain ⟨h1, h2, h3, h4, rfl⟩ := eqD_inv e1
  subst e2
  exact op_eqD hu pins s σ H x y v u Q I rx ry ⟨_, _, oa.dp J.fin h1, ob.dp J.fin h2, h3, h4, fin_flat J k (.bl _)⟩
theorem op_neP (hu : X.A.units + 64 < cLine) : OpR X (compareOp .NotEq) (R2P X C .ne) := by
  intro pins s σ H x y v u Q I rx ry h
  obtain ⟨E, F, τ, σd, a, b, r, J, oa, ob, e, k⟩ := pr2_inv h
  obtain ⟨z, e1, e2⟩ := Option.map_eq_some_iff.mp (show (eqD a b).map _ = some r from e)
  obtain ⟨h1, h2, h3, h4, rfl⟩ := eqD_inv e1
  subst e2
  exact op_neD hu pins s σ H x y v u Q I rx ry ⟨_, _, oa.dp J.fin h1, ob.dp J.fin h2, h3, h4, fin_flat J k (.bl _)⟩
theorem OR.isNone {K : PySem.W.Frag} {F H : Hp} {v : V} {d : D} (h : OR K C F H v d) : decide (v = .non) = isNone d := by
  rcases h with h | h <;> cases h <;> rfl
theorem op_isNP : OpR X (compareOp .Is) (fun x y H Q => y = .non ∧ PrS X.K C .isN [x] H Q) := by
  intro pins s σ H x y v u Q I rx ry h
  obtain ⟨hy, h⟩ := h
  obtain ⟨E, F, τ, σd, a, r, J, oa, e, k⟩ := pr1_inv h
  cases resInj (show some (false, D.bl (isNone a)) = some r from e)
  refine op_isN pins s σ H x y v u Q I rx ry ⟨hy, ?_⟩
  rw [oa.isNone]
  exact fin_flat J k (.bl _)
theorem op_notNP : OpR X (compareOp .IsNot) (fun x y H Q => y = .non ∧ PrS X.K C .notN [x] H Q) := by
  intro pins s σ H x y v u Q I rx ry h
  obtain ⟨hy, h⟩ := h
  obtain ⟨E, F, τ, σd, a, r, J, oa, e, k⟩ := pr1_inv h
  cases resInj (show some (false, D.bl (!isNone a)) = some r from e)
  refine op_notN pins s σ H x y v u Q I rx ry ⟨hy, ?_⟩
  rw [oa.isNone]
  exact fin_flat J k (.bl _)
/-- None is b, None is not b -/
theorem op_none_isB {neg : Bool} : OpR X (compareOp (if neg then .IsNot else .Is)) (fun x y H Q => x = .non ∧ ∃ b, y = .bl b ∧ Q (.bl neg) H) := by
  intro pins s σ H x y v u Q I rx ry h
  obtain ⟨rfl, b, rfl, q⟩ := h
  cases rx
  cases ry
  cases neg with
  | false => exact wpAny_is_other rfl (fun z => by cases z) ⟨.bl false, H, I, rfl, q⟩
  | true => exact wpAny_isNot_other rfl (fun z => by cases z) ⟨.bl true, H, I, rfl, q⟩
end
end G48

set_option maxHeartbeats 1000000
/-! The primitives' rules, further. -/
namespace G48
open PySem L2
section
variable {X : Cx} {C : Nat → Addr}
theorem Rep.eqFl {K : PySem.W.Frag} {F F' : Hp} {x y : V} {a b : D} (hx : Rep K F x a) (hy : Rep K F' y b) (fa : a.flat = true) (fb : b.flat = true) : eqV x y = eqFl a b := by
  cases hx <;> cases hy <;> first | rfl | exact absurd fa Bool.false_ne_true | exact absurd fb Bool.false_ne_true
theorem Reps.inV {K : PySem.W.Frag} {F F' : Hp} {x : V} {dx : D} (hx : Rep K F' x dx) (fx : dx.flat = true) : ∀ {vs : List V} {l : List D}, Reps K F vs l → l.all D.flat = true →
    vs.all flatV = true ∧ L2.inV x vs = l.any fun y => eqFl y dx
  | _, _, .nil, _ => ⟨rfl, rfl⟩
  | v :: vs, d :: l, .cons a b, h => by
    rw [List.all_cons] at h
    obtain ⟨h1, h2⟩ := and_t h
    obtain ⟨q1, q2⟩ := Reps.inV hx fx b h2
    have fv : flatV v = true := (OR.flat (C := fun _ => 0) (H := F) (Or.inl a) h1).1
    refine ⟨by rw [List.all_cons, fv, q1]; rfl, ?_⟩
    show (eqV v x || L2.inV x vs) = _
    rw [q2, a.eqFl hx h1 fx, List.any_cons]
theorem kD_V {K : PySem.W.Frag} {F : Hp} {v : V} {d : D} {k : Key} (h : Rep K F v d) (e : keyOf d = some k) : v = kV k := by
  cases h <;> first | (cases e; rfl) | cases e
theorem OR.key {K : PySem.W.Frag} {F H : Hp} {v : V} {d : D} {k : Key} (h : OR K C F H v d) (e : keyOf d = some k) : v = kV k := by
  rcases h with h | h
  · exact kD_V h e
  · cases h <;> cases e
theorem kDs_V {K : PySem.W.Frag} {F : Hp} : ∀ {vs : List V} {ds : List D} {ks : List Key}, Reps K F vs ds → keysOf ds = some ks → vs = ks.map kV
  | _, _, _, .nil, e => by cases e; rfl
  | _, d :: ds, _, .cons a b, e => by
    simp only [keysOf] at e
    split at e
    · rename_i k ks e1 e2
      cases e
      rw [kD_V a e1, kDs_V b e2]
      rfl
    · cases e
theorem RepK.get {K : PySem.W.Frag} {F : Hp} (k : Key) : ∀ {kv : List (L2.Key × V)} {kd : List (Key × D)}, RepK K F kv kd → (match kget kd k with | some d => ∃ v, valV kv k = some v ∧ Rep K F v d | none => valV kv k = none)
  | _, _, .nil => rfl
  | _, _, .cons (k := k') (v := v) (vs := vs) (d := d) (ds := ds) a b => by
    by_cases e : k' = k
    · have e1 : kget ((k', d) :: ds) k = some d := by simp [kget, e]
      rw [e1]
      exact ⟨v, by simp [valV, e], a⟩
    · have e1 : kget ((k', d) :: ds) k = kget ds k := by simp [kget, e]
      have e2 : valV ((k', v) :: vs) k = valV vs k := by simp [valV, e]
      rw [e1, e2]
      exact RepK.get k b
theorem RepT.get {K : PySem.W.Frag} {F : Hp} (k : List Key) : ∀ {kv : List (List L2.Key × V)} {kd : List (List Key × D)}, RepT K F kv kd → (match kget kd k with | some d => ∃ v, valV kv k = some v ∧ Rep K F v d | none => valV kv k = none)
  | _, _, .nil => rfl
  | _, _, .cons (k := k') (v := v) (vs := vs) (d := d) (ds := ds) a b => by
    by_cases e : k' = k
    · have e1 : kget ((k', d) :: ds) k = some d := by simp [kget, e]
      rw [e1]
      exact ⟨v, by simp [valV, e], a⟩
    · have e1 : kget ((k', d) :: ds) k = kget ds k := by simp [kget, e]
      have e2 : valV ((k', v) :: vs) k = valV vs k := by simp [valV, e]
      rw [e1, e2]
      exact RepT.get k b
/-- what a dict holds -/
theorem dget_K {K : PySem.W.Frag} {F H : Hp} (fin : Fin F H) {a : Addr} {kv : List (L2.Key × V)} {kd : List (Key × D)} (e : Rd H a (.dK kv)) (r : RepK K F kv kd) (k : Key) :
    ∃ o, DGet H a (kV k) o ∧ (match kget kd k with | some d => ∃ v, o = some v ∧ Rep K F v d | none => o = none) :=
  ⟨_, .inl ⟨kv, k, e, rfl, rfl⟩, r.get k⟩
theorem dget_T {K : PySem.W.Frag} {F H : Hp} (fin : Fin F H) {a b : Addr} {kv : List (List L2.Key × V)} {kd : List (List Key × D)} (e : Rd H a (.dT kv)) (r : RepT K F kv kd) (k : List Key) (hb : H b = some (.tup (k.map kV))) :
    ∃ o, DGet H a (.ref b) o ∧ (match kget kd k with | some d => ∃ v, o = some v ∧ Rep K F v d | none => o = none) :=
  ⟨_, .inr ⟨kv, k, b, e, rfl, hb, rfl⟩, r.get k⟩
theorem isSome_of {K : PySem.W.Frag} {F : Hp} {m : Option D} {o : Option V} (h : match m with | some d => ∃ v, o = some v ∧ Rep K F v d | none => o = none) : o.isSome = m.isSome := by
  cases m with
  | none => rw [show o = none from h]; rfl
  | some d => obtain ⟨v, e, _⟩ := h; rw [e]; rfl
/-- in, not in -/
theorem inP (hu : X.A.units + 1 < cLine) (neg : Bool) {pins : List (Addr × Obj)} {s : Shared} {σ : L2.St} {H : Hp} {x y : V} {v u : Value} {Q : VK} (I : L2.Inv X pins σ H s) (rx : RelV x v) (ry : RelV y u)
    {E : En} {F : Hp} {τ : L2.St} {σd : S} {a b : D} (J : SI X.K C E F H τ σd) (oa : OR X.K C F H x a) (ob : OR X.K C F H y b) {r : Bool} (e : inD a b = some r) (q : Q (.bl (if neg then !r else r)) H) :
    wpAny (model X.prog X.w) X.A (compareOp (if neg then .NotIn else .In) v u) (EP X pins σ Q) X.xe s := by
  have seq : ∀ {p : Addr} {vs : List V} {l : List D}, y = .ref p → (SqL X.K H p vs ∨ SqT X.K H p vs) → Reps X.K F vs l → (if a.flat && l.all D.flat then some (l.any fun y => eqFl y a) else none) = some r →
      wpAny (model X.prog X.w) X.A (compareOp (if neg then .NotIn else .In) v u) (EP X pins σ Q) X.xe s := fun {p vs l} ey hs hr e => by
    split at e
    · rename_i z
      cases e
      obtain ⟨f1, f2⟩ := and_t z
      obtain ⟨g1, g2⟩ := oa.flat f1
      obtain ⟨h1, h2⟩ := hr.inV (g2 F) f1 f2
      cases neg with
      | false => exact op_in_seq pins s σ H x y v u Q I rx ry ⟨p, vs, ey, hs, g1, h1, by rw [h2]; exact q⟩
      | true => exact op_notIn_seq pins s σ H x y v u Q I rx ry ⟨p, vs, ey, hs, g1, h1, by rw [h2]; exact q⟩
    · cases e
  have dct : ∀ {p : Addr} {o : Option V}, y = .ref p → DGet H p x o → o.isSome = r → wpAny (model X.prog X.w) X.A (compareOp (if neg then .NotIn else .In) v u) (EP X pins σ Q) X.xe s := fun {p o} ey g eo => by
    subst ey
    cases ry
    cases neg with
    | false => exact d_in hu I g rx fun s' I' => ⟨.bl o.isSome, H, I', rfl, by rw [eo]; exact q⟩
    | true => exact d_notIn hu I g rx fun s' I' => ⟨.bl (!o.isSome), H, I', rfl, by rw [eo]; exact q⟩
  cases b with
  | lst l =>
    obtain ⟨p, vs, ey, hp, rp⟩ := ob.lst J.fin
    exact seq ey (.inl (SqL.of hp)) rp e
  | tup l =>
    obtain ⟨p, vs, ey, hp, rp⟩ := ob.tup J.fin
    exact seq ey (.inr (SqT.of hp)) rp e
  | str z =>
    cases a with
    | str w =>
      cases ob.str
      cases oa.str
      cases e
      cases neg with
      | false => exact op_in_str pins s σ H _ _ v u Q I rx ry ⟨_, _, rfl, rfl, q⟩
      | true => exact op_notIn_str pins s σ H _ _ v u Q I rx ry ⟨_, _, rfl, rfl, q⟩
    | _ => cases e
  | dK kd =>
    replace e : (match keyOf a with | some k => some (kget kd k).isSome | none => none) = some r := e
    cases ek : keyOf a with
    | none => rw [ek] at e; cases e
    | some k =>
      rw [ek] at e
      cases e
      obtain ⟨p, kv, ey, hp, rp⟩ := ob.dK J.fin
      obtain ⟨o, g, m⟩ := dget_K J.fin hp rp k
      rw [← oa.key ek] at g
      exact dct ey g (isSome_of m)
  | dT kd =>
    cases a with
    | tup l =>
      replace e : (match keysOf l with | some k => some (kget kd k).isSome | none => none) = some r := e
      cases ek : keysOf l with
      | none => rw [ek] at e; cases e
      | some k =>
        rw [ek] at e
        cases e
        obtain ⟨p, kv, ey, hp, rp⟩ := ob.dT J.fin
        obtain ⟨t, vs, ex, ht, rt⟩ := oa.tup J.fin
        rw [kDs_V rt ek] at ht
        obtain ⟨o, g, m⟩ := dget_T J.fin hp rp k ht
        subst ex
        exact dct ey g (isSome_of m)
    | _ => cases e
  | _ => cases e
theorem op_inP (hu : X.A.units + 1 < cLine) : OpR X (compareOp .In) (R2P X C .isIn) := by
  intro pins s σ H x y v u Q I rx ry h
  obtain ⟨E, F, τ, σd, a, b, r, J, oa, ob, e, k⟩ := pr2_inv h
  obtain ⟨z, e1, e2⟩ := Option.map_eq_some_iff.mp (show (inD a b).map _ = some r from e)
  subst e2
  exact inP hu false I rx ry J oa ob e1 (fin_flat J k (.bl _))
theorem op_notInP (hu : X.A.units + 1 < cLine) : OpR X (compareOp .NotIn) (R2P X C .notIn) := by
  intro pins s σ H x y v u Q I rx ry h
  obtain ⟨E, F, τ, σd, a, b, r, J, oa, ob, e, k⟩ := pr2_inv h
  obtain ⟨z, e1, e2⟩ := Option.map_eq_some_iff.mp (show (inD a b).map _ = some r from e)
  subst e2
  exact inP hu true I rx ry J oa ob e1 (fin_flat J k (.bl _))
/-! subscripts -/
theorem atI_map {α β : Type} (f : α → β) {l : List α} {i : Int} : G48.atI (l.map f) i = (G48.atI l i).map f := by
  unfold G48.atI
  rw [List.length_map]
  cases G48.ixN l.length i with
  | none => rfl
  | some j => simp
theorem Reps.atI {K : PySem.W.Frag} {F : Hp} {vs : List V} {l : List D} {i : Int} {d : D} (r : Reps K F vs l) (e : G48.atI l i = some d) : ∃ v, L2.atI vs i = some v ∧ Rep K F v d := by
  unfold G48.atI at e
  obtain ⟨j, e1, e2⟩ := Option.bind_eq_some_iff.mp e
  obtain ⟨v, h1, h2⟩ := r.get e2
  refine ⟨v, ?_, h2⟩
  unfold L2.atI
  rw [r.len]
  exact Option.bind_eq_some_iff.mpr ⟨j, e1, h1⟩
open PyProof.Rows in
/-- a dict's subscript by values -/
theorem ix_dict (hu : X.A.units + 1 < cLine) : IxR X (fun x y H Q => ∃ a v, x = .ref a ∧ DGet H a y (some v) ∧ Q v H) := by
  intro value slice pins s σ H x y v u Q I rx ry h hs
  obtain ⟨a, w, rfl, g, q⟩ := h
  cases rx
  have hT : s.TypeIs (.ref a) "dict" := dict_typeIs I g
  unfold subscriptTail
  refine wpAny_bind ?_
  rw [getitemInPython_of_ne hT.not_modules]
  refine wpAny_bind (wpAny_specialOf hT PySem.F.slot_dict_getitem.lookup ?_)
  have fin : wpAny (model X.prog X.w) X.A (subscripted slice false (.ref a) u) (fun r s₃ => wpAny (model X.prog X.w) X.A (letTemporaryGo value (.ref a) r >>= fun _ => pure r) (EP X pins σ Q) X.xe s₃) X.xe s := by
    rw [hs]
    exact wpAny_operating (wpAny_mono (d_getItem (Q := EP X pins σ Q) hu I g ry fun w' s3 I3 rw' => ⟨w, H, I3, rw', q⟩) (fun r s₃ h₃ => wpAny_bind (wpAny_letTemporaryGo (wpAny_pure h₃))) fun _ _ x => x)
  first
    | exact wpAny_pure (wpAny_bind fin)
    | exact wpAny_bind (wpAny_pure (wpAny_bind fin))
    | exact wpAny_bind fin
theorem ix_P (hu : X.A.units + 1 < cLine) : IxR X (R2P X C .idx) := by
  intro value slice pins s σ H x y v u Q I rx ry h hs
  obtain ⟨E, F, τ, σd, a, b, r, J, oa, ob, e, k⟩ := pr2_inv h
  replace e : pIdx a b = some r := e
  unfold pIdx at e
  split at e
  · obtain ⟨d, e1, rfl⟩ := Option.map_eq_some_iff.mp e
    obtain ⟨p, vs, rfl, hp, rp⟩ := oa.lst J.fin
    cases ob.int
    obtain ⟨w, h1, h2⟩ := rp.atI e1
    exact ix_list value slice pins s σ H _ _ v u Q I rx ry ⟨p, vs, _, w, rfl, rfl, SqL.of hp, h1, fin_flat J k h2⟩ hs
  · obtain ⟨d, e1, rfl⟩ := Option.map_eq_some_iff.mp e
    obtain ⟨p, vs, rfl, hp, rp⟩ := oa.tup J.fin
    cases ob.int
    obtain ⟨w, h1, h2⟩ := rp.atI e1
    exact ix_tup value slice pins s σ H _ _ v u Q I rx ry ⟨p, vs, _, w, rfl, rfl, SqT.of hp, h1, fin_flat J k h2⟩ hs
  · obtain ⟨n, e1, rfl⟩ := Option.map_eq_some_iff.mp e
    obtain ⟨p, rfl, hp⟩ := oa.scr J.fin
    cases ob.int
    exact ix_list value slice pins s σ H _ _ v u Q I rx ry ⟨p, _, _, .int n, rfl, rfl, hp, by
      show G48.atI _ _ = _
      rw [atI_map, e1]; rfl, fin_flat J k (.int _)⟩ hs
  · split at e
    · rename_i z n hz
      obtain ⟨c, e1, rfl⟩ := Option.map_eq_some_iff.mp e
      cases oa.str
      cases ob.int
      exact ix_str value slice pins s σ H _ _ v u Q I rx ry ⟨z, _, c, rfl, rfl, szOk_le hz, e1, fin_flat J k (.str _)⟩ hs
    · cases e
  · rename_i _ kd
    cases ek : keyOf b with
    | none => rw [ek] at e; cases e
    | some kk =>
      rw [ek] at e
      obtain ⟨d, e1, rfl⟩ := Option.map_eq_some_iff.mp e
      obtain ⟨p, kv, rfl, hp, rp⟩ := oa.dK J.fin
      obtain ⟨o, g, m⟩ := dget_K J.fin hp rp kk
      rw [← ob.key ek] at g
      rw [e1] at m
      obtain ⟨w, rfl, rw'⟩ := m
      exact ix_dict hu value slice pins s σ H _ _ v u Q I rx ry ⟨p, w, rfl, g, fin_flat J k rw'⟩ hs
  · rename_i kd l
    cases ek : keysOf l with
    | none => rw [ek] at e; cases e
    | some kk =>
      rw [ek] at e
      obtain ⟨d, e1, rfl⟩ := Option.map_eq_some_iff.mp e
      obtain ⟨p, kv, rfl, hp, rp⟩ := oa.dT J.fin
      obtain ⟨t, vs, rfl, ht, rt⟩ := ob.tup J.fin
      rw [kDs_V rt ek] at ht
      obtain ⟨o, g, m⟩ := dget_T J.fin hp rp kk ht
      rw [e1] at m
      obtain ⟨w, rfl, rw'⟩ := m
      exact ix_dict hu value slice pins s σ H _ _ v u Q I rx ry ⟨p, w, rfl, g, fin_flat J k rw'⟩ hs
  · cases e
/-! slices -/
def rSlP (X : Cx) (C : Nat → Addr) : V → Option Int → Option Int → Hp → VK → Prop := fun x lo hi H Q => ∃ (E : En) (F : Hp) (σ : L2.St) (σd : S) (a : D) (r : Res), SI X.K C E F H σ σd ∧ OR X.K C F H x a ∧ pSl a lo hi = some r ∧
  ∀ F' H' v, SI X.K C E F' H' σ σd → Fle F F' → ResR X.K C E F' H' σ σd v r → Q v H'
theorem Reps.cut {K : PySem.W.Frag} {F : Hp} {vs : List V} {l : List D} (r : Reps K F vs l) (lo hi : Option Int) : Reps K F (cutV vs lo hi) (cutL l lo hi) := by
  unfold cutV cutL
  rw [r.len]
  exact (r.drop _).take _
theorem sl_P : L2.SlR X (rSlP X C) := by
  intro pins s σ H x v vl vu lo hi sl Q I rx hs pl pu h
  obtain ⟨E, F, τ, σd, a, r, J, oa, e, k⟩ := h
  cases a with
  | lst l =>
    cases resInj (show some (true, D.lst (cutL l lo hi)) = some r from e)
    obtain ⟨p, vs, rfl, hp, rp⟩ := oa.lst J.fin
    exact sl_list pins s σ H _ v vl vu lo hi sl Q I rx hs pl pu ⟨p, vs, rfl, SqL.of hp, fun q hq => fin_lst J k (rp.cut lo hi) q hq⟩
  | tup l =>
    cases resInj (show some (false, D.tup (cutL l lo hi)) = some r from e)
    obtain ⟨p, vs, rfl, hp, rp⟩ := oa.tup J.fin
    refine sl_tupA pins s σ H _ v vl vu lo hi sl Q I rx hs pl pu ⟨p, vs, rfl, SqT.of hp, fun w => ?_, fun _ q hq => fin_tup J k (rp.cut lo hi) q hq⟩
    have ec : cutL l lo hi = l := by
      unfold cutL
      rw [rp.len] at w
      have w1 : sIx l.length 0 lo = 0 := w.1
      have w2 : sIx l.length l.length hi = l.length := w.2
      rw [w1, w2, List.drop_zero, Nat.sub_zero, List.take_length]
    rw [ec] at k
    exact fin_tupOld J k oa
  | str z =>
    replace e : (if szOk z.length then some (false, D.str (cutStr z lo hi)) else none) = some r := e
    split at e
    · cases resInj e
      rename_i hz
      cases oa.str
      refine sl_str pins s σ H _ v vl vu lo hi sl Q I rx hs pl pu ⟨z, rfl, szOk_le hz, ?_⟩
      have ec : cutS z lo hi = cutStr z lo hi := by
        unfold cutS cutStr cutL
        have : z.cps.toList.length = z.length := by simp [Str.length]
        rw [this]
        rfl
      rw [ec]
      exact fin_flat J k (.str _)
    · cases e
  | _ => cases e
/-! calls of built-ins -/
abbrev CRP (X : Cx) (C : Nat → Addr) (p : Pr) : List V → Hp → VK → Prop := fun xs H Q => PrS X.K C p xs H Q
theorem pr1c {p : Pr} {xs : List V} {H : Hp} {Q : VK} (hp : ∀ l, l.length ≠ 1 → prD p l = none) (h : PrS X.K C p xs H Q) : ∃ (x : V) (E : En) (F : Hp) (σ : L2.St) (σd : S) (a : D) (r : Res), xs = [x] ∧ SI X.K C E F H σ σd ∧ OR X.K C F H x a ∧ prD p [a] = some r ∧
    ∀ F' H' v, SI X.K C E F' H' σ σd → Fle F F' → ResR X.K C E F' H' σ σd v r → Q v H' := by
  obtain ⟨E, F, σ, σd, ds, r, I, o, e, k⟩ := h
  cases o with
  | nil => rw [hp [] (by decide)] at e; cases e
  | cons a o =>
    cases o with
    | nil => exact ⟨_, E, F, σ, σd, _, r, rfl, I, a, e, k⟩
    | cons b o => rw [hp _ (by simp)] at e; cases e
theorem pr2c {p : Pr} {xs : List V} {H : Hp} {Q : VK} (hp : ∀ l, l.length ≠ 2 → prD p l = none) (h : PrS X.K C p xs H Q) : ∃ (x y : V) (E : En) (F : Hp) (σ : L2.St) (σd : S) (a b : D) (r : Res), xs = [x, y] ∧ SI X.K C E F H σ σd ∧ OR X.K C F H x a ∧ OR X.K C F H y b ∧ prD p [a, b] = some r ∧
    ∀ F' H' v, SI X.K C E F' H' σ σd → Fle F F' → ResR X.K C E F' H' σ σd v r → Q v H' := by
  obtain ⟨E, F, σ, σd, ds, r, I, o, e, k⟩ := h
  cases o with
  | nil => rw [hp [] (by decide)] at e; cases e
  | cons a o =>
    cases o with
    | nil => rw [hp _ (by simp)] at e; cases e
    | cons b o =>
      cases o with
      | nil => exact ⟨_, _, E, F, σ, σd, _, _, r, rfl, I, a, b, e, k⟩
      | cons c o => rw [hp _ (by simp)] at e; cases e
theorem call_lenP : CallR X (.builtin "len") (CRP X C .len) := by
  intro pins s σ H xs us Q I rr h
  obtain ⟨x, E, F, τ, σd, a, r, rfl, J, oa, e, k⟩ := pr1c (fun l hl => by match l, hl with | [], _ => rfl | _ :: _ :: _, _ => rfl) h
  replace e : pLen a = some r := e
  cases a with
  | lst l =>
    cases resInj (show some (false, D.int l.length) = some r from e)
    obtain ⟨p, vs, rfl, hp, rp⟩ := oa.lst J.fin
    exact call_len pins s σ H _ us Q I rr ⟨_, l.length, rfl, .inl ⟨vs, SqL.of hp, rp.len.symm⟩, fin_flat J k (.int _)⟩
  | tup l =>
    cases resInj (show some (false, D.int l.length) = some r from e)
    obtain ⟨p, vs, rfl, hp, rp⟩ := oa.tup J.fin
    exact call_len pins s σ H _ us Q I rr ⟨_, l.length, rfl, .inr ⟨vs, SqT.of hp, rp.len.symm⟩, fin_flat J k (.int _)⟩
  | scr l =>
    cases resInj (show some (false, D.int l.length) = some r from e)
    obtain ⟨p, rfl, hp⟩ := oa.scr J.fin
    exact call_len pins s σ H _ us Q I rr ⟨_, l.length, rfl, .inl ⟨_, hp, by rw [List.length_map]⟩, fin_flat J k (.int _)⟩
  | str z =>
    replace e : (if szOk z.length then some (false, D.int z.length) else none) = some r := e
    split at e
    · cases resInj e
      rename_i hz
      cases oa.str
      exact call_len pins s σ H _ us Q I rr ⟨_, z.length, rfl, ⟨szOk_le hz, rfl⟩, fin_flat J k (.int _)⟩
    · cases e
  | _ => cases e
theorem call_intP : CallR X (.type "int") (CRP X C .toInt) := by
  intro pins s σ H xs us Q I rr h
  obtain ⟨x, E, F, τ, σd, a, r, rfl, J, oa, e, k⟩ := pr1c (fun l hl => by match l, hl with | [], _ => rfl | _ :: _ :: _, _ => rfl) h
  cases a with
  | int i =>
    cases resInj (show some (false, D.int i) = some r from e)
    cases oa.int
    exact call_int1 pins s σ H _ us Q I rr (.inl ⟨_, rfl, fin_flat J k (.int _)⟩)
  | bl b =>
    cases resInj (show some (false, D.int (if b then 1 else 0)) = some r from e)
    cases oa.bl
    exact call_int1 pins s σ H _ us Q I rr (.inr ⟨_, rfl, fin_flat J k (.int _)⟩)
  | _ => cases e
theorem call_strP : CallR X (.type "str") (CRP X C .toStr) := by
  intro pins s σ H xs us Q I rr h
  obtain ⟨x, E, F, τ, σd, a, r, rfl, J, oa, e, k⟩ := pr1c (fun l hl => by match l, hl with | [], _ => rfl | _ :: _ :: _, _ => rfl) h
  cases a with
  | int i =>
    replace e : (if i.natAbs.log2 < 1920 then some (false, D.str (toString i)) else none) = some r := e
    split at e
    · cases resInj e
      rename_i hz
      cases oa.int
      exact call_str_int pins s σ H _ us Q I rr ⟨_, rfl, hz, fin_flat J k (.str _)⟩
    · cases e
  | _ => cases e
theorem call_tupP : CallR X (.type "tuple") (CRP X C .toTup) := by
  intro pins s σ H xs us Q I rr h
  obtain ⟨x, E, F, τ, σd, a, r, rfl, J, oa, e, k⟩ := pr1c (fun l hl => by match l, hl with | [], _ => rfl | _ :: _ :: _, _ => rfl) h
  cases a with
  | lst l =>
    cases resInj (show some (false, D.tup l) = some r from e)
    obtain ⟨p, vs, rfl, hp, rp⟩ := oa.lst J.fin
    exact call_tuple_of pins s σ H _ us Q I rr ⟨p, vs, rfl, .inl ⟨SqL.of hp, fun q hq => fin_tup J k rp q hq⟩⟩
  | tup l =>
    cases resInj (show some (false, D.tup l) = some r from e)
    obtain ⟨p, vs, rfl, hp, rp⟩ := oa.tup J.fin
    exact call_tuple_of pins s σ H _ us Q I rr ⟨p, vs, rfl, .inr ⟨SqT.of hp, fin_tupOld J k oa⟩⟩
  | _ => cases e
theorem call_lstP : CallR X (.type "list") (CRP X C .toLst) := by
  intro pins s σ H xs us Q I rr h
  obtain ⟨x, E, F, τ, σd, a, r, rfl, J, oa, e, k⟩ := pr1c (fun l hl => by match l, hl with | [], _ => rfl | _ :: _ :: _, _ => rfl) h
  cases a with
  | lst l =>
    cases resInj (show some (true, D.lst l) = some r from e)
    obtain ⟨p, vs, rfl, hp, rp⟩ := oa.lst J.fin
    exact call_list_of pins s σ H _ us Q I rr ⟨p, vs, rfl, .inl (SqL.of hp), fun q hq => fin_lst J k rp q hq⟩
  | tup l =>
    cases resInj (show some (true, D.lst l) = some r from e)
    obtain ⟨p, vs, rfl, hp, rp⟩ := oa.tup J.fin
    exact call_list_of pins s σ H _ us Q I rr ⟨p, vs, rfl, .inr (SqT.of hp), fun q hq => fin_lst J k rp q hq⟩
  | _ => cases e
theorem call_dctP : CallR X (.type "dict") (CRP X C .toDct) := by
  intro pins s σ H xs us Q I rr h
  obtain ⟨x, E, F, τ, σd, a, r, rfl, J, oa, e, k⟩ := pr1c (fun l hl => by match l, hl with | [], _ => rfl | _ :: _ :: _, _ => rfl) h
  cases a with
  | dK l =>
    cases resInj (show some (true, D.dK l) = some r from e)
    obtain ⟨p, kv, rfl, hp, rp⟩ := oa.dK J.fin
    rw [Vals.ref1 rr]
    exact d_copyOf I hp fun q s' hq I' => ⟨.ref q, _, I', rfl, fin_dK J k rp q hq⟩
  | _ => cases e
/-! min, max, sum -/
theorem minI_mem : ∀ (l : List Int), l ≠ [] → minI l ∈ l ∧ ∀ y ∈ l, minI l ≤ y
  | [], h => absurd rfl h
  | [a], _ => by simp [minI]
  | a :: b :: l, _ => by
    obtain ⟨h1, h2⟩ := minI_mem (b :: l) (by simp)
    have e : minI (a :: b :: l) = min a (minI (b :: l)) := rfl
    rw [e]
    refine ⟨?_, fun y hy => ?_⟩
    · by_cases q : a ≤ minI (b :: l)
      · rw [Int.min_eq_left q]; simp
      · rw [Int.min_eq_right (by omega)]; exact List.mem_cons_of_mem _ h1
    · rcases List.mem_cons.mp hy with rfl | hy
      · omega
      · have := h2 y hy; omega
theorem maxI_mem : ∀ (l : List Int), l ≠ [] → maxI l ∈ l ∧ ∀ y ∈ l, y ≤ maxI l
  | [], h => absurd rfl h
  | [a], _ => by simp [maxI]
  | a :: b :: l, _ => by
    obtain ⟨h1, h2⟩ := maxI_mem (b :: l) (by simp)
    have e : maxI (a :: b :: l) = max a (maxI (b :: l)) := rfl
    rw [e]
    refine ⟨?_, fun y hy => ?_⟩
    · by_cases q : a ≤ maxI (b :: l)
      · rw [Int.max_eq_right q]; exact List.mem_cons_of_mem _ h1
      · rw [Int.max_eq_left (by omega)]; simp
    · rcases List.mem_cons.mp hy with rfl | hy
      · omega
      · have := h2 y hy; omega
theorem ints_inv {f : List Int → Option D} {a : D} {r : Res} (e : pInts f a = some r) : ∃ l ns d, a = .lst l ∧ intsOf l = some ns ∧ f ns = some d ∧ r = (false, d) := by
  unfold pInts at e
  split at e
  · split at e
    · obtain ⟨d, h1, h2⟩ := Option.map_eq_some_iff.mp e
      exact ⟨_, _, d, rfl, by assumption, h1, h2.symm⟩
    · cases e
  · cases e
theorem call_min1P (hc : X.calm = true) : CallR X (.builtin "min") (CRP X C .min1) := by
  intro pins s σ H xs us Q I rr h
  obtain ⟨x, E, F, τ, σd, a, r, rfl, J, oa, e, k⟩ := pr1c (fun l hl => by match l, hl with | [], _ => rfl | _ :: _ :: _, _ => rfl) h
  obtain ⟨l, ns, d, rfl, e1, e2, rfl⟩ := ints_inv (show pInts _ a = some r from e)
  split at e2
  · cases e2
  · rename_i hne
    cases e2
    obtain ⟨p, vs, rfl, hp, rp⟩ := oa.lst J.fin
    rw [(rp.intsOf e1).1] at hp
    have hn : ns ≠ [] := fun z => hne (by rw [z]; rfl)
    obtain ⟨m1, m2⟩ := minI_mem ns hn
    refine cr_min hc pins s σ H _ us Q I rr ⟨p, ns, rfl, SqL.of hp, List.length_pos_iff.mpr hn, fun m h1 h2 => ?_⟩
    have : m = minI ns := Int.le_antisymm (h2 _ m1) (m2 _ h1)
    rw [this]
    exact fin_flat J k (.int _)
theorem call_max1P (hc : X.calm = true) : CallR X (.builtin "max") (CRP X C .max1) := by
  intro pins s σ H xs us Q I rr h
  obtain ⟨x, E, F, τ, σd, a, r, rfl, J, oa, e, k⟩ := pr1c (fun l hl => by match l, hl with | [], _ => rfl | _ :: _ :: _, _ => rfl) h
  obtain ⟨l, ns, d, rfl, e1, e2, rfl⟩ := ints_inv (show pInts _ a = some r from e)
  split at e2
  · cases e2
  · rename_i hne
    cases e2
    obtain ⟨p, vs, rfl, hp, rp⟩ := oa.lst J.fin
    rw [(rp.intsOf e1).1] at hp
    have hn : ns ≠ [] := fun z => hne (by rw [z]; rfl)
    obtain ⟨m1, m2⟩ := maxI_mem ns hn
    refine cr_max hc pins s σ H _ us Q I rr ⟨p, ns, rfl, SqL.of hp, List.length_pos_iff.mpr hn, fun m h1 h2 => ?_⟩
    have : m = maxI ns := Int.le_antisymm (m2 _ h1) (h2 _ m1)
    rw [this]
    exact fin_flat J k (.int _)
theorem call_sumP (hc : X.calm = true) : CallR X (.builtin "sum") (CRP X C .sum) := by
  intro pins s σ H xs us Q I rr h
  obtain ⟨x, E, F, τ, σd, a, r, rfl, J, oa, e, k⟩ := pr1c (fun l hl => by match l, hl with | [], _ => rfl | _ :: _ :: _, _ => rfl) h
  obtain ⟨l, ns, d, rfl, e1, e2, rfl⟩ := ints_inv (show pInts _ a = some r from e)
  cases e2
  obtain ⟨p, vs, rfl, hp, rp⟩ := oa.lst J.fin
  rw [(rp.intsOf e1).1] at hp
  exact cr_sum hc pins s σ H _ us Q I rr ⟨p, ns, rfl, SqL.of hp, fin_flat J k (.int _)⟩
theorem call_min2P (hc : X.calm = true) : CallR X (.builtin "min") (CRP X C .min2) := by
  intro pins s σ H xs us Q I rr h
  obtain ⟨x, y, E, F, τ, σd, a, b, r, rfl, J, oa, ob, e, k⟩ := pr2c (fun l hl => by match l, hl with | [], _ => rfl | [_], _ => rfl | _ :: _ :: _ :: _, _ => rfl) h
  obtain ⟨i, j, d, rfl, rfl, e', rfl⟩ := int2_inv (show pInt2 _ a b = some r from e)
  cases oa.int; cases ob.int; cases e'
  exact call_min2 hc pins s σ H _ us Q I rr ⟨_, _, rfl, fin_flat J k (.int _)⟩
theorem call_max2P (hc : X.calm = true) : CallR X (.builtin "max") (CRP X C .max2) := by
  intro pins s σ H xs us Q I rr h
  obtain ⟨x, y, E, F, τ, σd, a, b, r, rfl, J, oa, ob, e, k⟩ := pr2c (fun l hl => by match l, hl with | [], _ => rfl | [_], _ => rfl | _ :: _ :: _ :: _, _ => rfl) h
  obtain ⟨i, j, d, rfl, rfl, e', rfl⟩ := int2_inv (show pInt2 _ a b = some r from e)
  cases oa.int; cases ob.int; cases e'
  exact call_max2 hc pins s σ H _ us Q I rr ⟨_, _, rfl, fin_flat J k (.int _)⟩
/-! isinstance -/
def Ty.nm : Ty → String
  | .int => "int" | .bool => "bool" | .str => "str" | .tuple => "tuple" | .list => "list"
def D.ty : D → Option String
  | .non => some "NoneType" | .bl _ => some "bool" | .int _ => some "int" | .str _ => some "str" | .tup _ => some "tuple" | .lst _ => some "list" | _ => none
theorem OR.tyX {K : PySem.W.Frag} {F H : Hp} {v : V} {d : D} {t : String} (fin : Fin F H) (h : OR K C F H v d) (e : d.ty = some t) : TyX K H v (.type t) := by
  cases d with
  | non => cases OR.non h; cases e; exact .base .non
  | bl _ => cases OR.bl h; cases e; exact .base (.bl _)
  | int _ => cases OR.int h; cases e; exact .base (.int _)
  | str _ => cases OR.str h; cases e; exact .base (.str _)
  | lst l => obtain ⟨p, vs, rfl, hp, _⟩ := OR.lst fin h; cases e; exact .base (.lst hp)
  | tup l => obtain ⟨p, vs, rfl, hp, _⟩ := OR.tup fin h; cases e; exact .base (.tup hp)
  | _ => cases e
theorem isTy_kit {t : Ty} {a : D} {r : Bool} (e : isTy t a = some r) : ∃ n, a.ty = some n ∧ kitB n t.nm = some r := by
  cases t <;> cases a <;> first | (cases e; exact ⟨_, rfl, by decide +kernel⟩) | cases e
theorem call_isiP (t : Ty) : CallR X (.builtin "isinstance") (fun xs H Q => ∃ x, xs = [x, .ty t.nm] ∧ PrS X.K C (.isI t) [x] H Q) := by
  intro pins s σ H xs us Q I rr h
  obtain ⟨x, rfl, h⟩ := h
  obtain ⟨E, F, τ, σd, a, r, J, oa, e, k⟩ := pr1_inv h
  obtain ⟨z, e1, e2⟩ := Option.map_eq_some_iff.mp (show (isTy t a).map _ = some r from e)
  subst e2
  obtain ⟨n, h1, h2⟩ := isTy_kit e1
  exact call_isi pins s σ H _ us Q I rr ⟨x, .ty t.nm, .type n, .type t.nm, z, rfl, .ty _, oa.tyX J.fin h1, kit_ty h2, fin_flat J k (.bl _)⟩
end
end G48

set_option maxHeartbeats 1000000
/-! What a def is held to; what is seen of the text; the check of a core term against the text. -/
namespace G48
open PySem L2
section
variable {K : PySem.W.Frag} {C : Nat → Addr} {E : En} {F F' H H' : Hp} {σ : L2.St} {σd σd' : S}
def locE (F H : Hp) (σ : L2.St) (σd : S) : En := ⟨F, H, OwnA σ σd, fun b l => ∃ (i : Nat) (s : Sl), σ[i]? = some (some (V.ref l)) ∧ σd[i]? = some s ∧ s.own = true ∧ s.isIo = b⟩
theorem SI.local (I : SI K C E F H σ σd) : SI K C (locE F H σ σd) F H σ σd :=
  ⟨I.fin, Fle.refl F, fun _ h => .inl h, fun _ _ h _ => h, fun a h => (I.ownA h).2, I.len, I.at_, I.dis, fun i l s h1 h2 h3 => .inr ⟨i, s, h1, h2, h3⟩, fun i l s h1 h2 h3 => ⟨i, s, h1, h2, h3, rfl⟩⟩
theorem SI.own0 (I : SI K C E F H σ σd) {l : Addr} (w : OwnA σ σd l) : E.H0 l = none ∨ E.IO l := by
  obtain ⟨i, s, h1, h2, h3⟩ := w
  exact I.own i l s h1 h2 h3
theorem SI.back (I : SI K C E F H σ σd) (J : SI K C (locE F H σ σd) F' H' σ σd') : SI K C E F' H' σ σd' := by
  refine ⟨J.fin, I.le.trans J.le, fun a h => ?_, fun a o h n => ?_, fun a h => ?_, J.len, J.at_, J.dis, fun i l s h1 h2 h3 => ?_, fun i l s h1 h2 h3 => ?_⟩
  · rcases J.new a h with q | q | q
    · exact I.new a q
    · exact .inr (.inl (I.fresh q))
    · exact .inr (I.own0 q)
  · refine J.frame a o (I.frame a o h n) fun w => ?_
    rcases I.own0 w with q | q
    · rw [h] at q; cases q
    · exact n q
  · by_cases w : OwnA σ σd a
    · exact J.ioH a w
    · obtain ⟨u, e⟩ := I.ioH a h
      exact ⟨u, J.frame a u e w⟩
  · rcases J.own i l s h1 h2 h3 with q | q
    · exact .inl (I.fresh q)
    · exact I.own0 q
  · obtain ⟨i', s', q1, q2, q3, q4⟩ := J.kd i l s h1 h2 h3
    rw [← q4]
    exact I.kd i' l s' q1 q2 q3
theorem ResR.back (I : SI K C E F H σ σd) {v : V} {r : Res} (h : ResR K C (locE F H σ σd) F' H' σ σd' v r) : ResR K C E F' H' σ σd' v r := by
  obtain ⟨fl, d⟩ := r
  cases fl with
  | false => exact h
  | true => exact ⟨h.1, fun l e => ⟨I.fresh (h.2 l e).1, (h.2 l e).2⟩⟩
end

/-! ### promises -/
/-- what is handed back -/
def OutR (K : PySem.W.Frag) (C : Nat → Addr) (F H H' : Hp) (v : V) (r : Res) : Prop := match r with
  | (false, d) => Rep K F v d
  | (true, d) => Own K C F H' v d ∧ ∀ l, v = .ref l → H l = none
def ioA (vs : List V) (o : Option D) (a : Addr) : Prop := o.isSome = true ∧ vs.head? = some (.ref a)
def ArgR (K : PySem.W.Frag) (C : Nat → Addr) (F H : Hp) (o : Option D) (vs : List V) (ds : List D) : Prop := match o with
  | none => Reps K F vs ds
  | some _ => ∃ v vs' d ds', vs = v :: vs' ∧ ds = d :: ds' ∧ Own K C F H v d ∧ Reps K F vs' ds'
def ioR (K : PySem.W.Frag) (C : Nat → Addr) (F H : Hp) (o : Option D) (vs : List V) : Prop := match o with
  | none => True
  | some d => ∃ v vs', vs = v :: vs' ∧ Own K C F H v d
def spF (K : PySem.W.Frag) (C : Nat → Addr) (Φ : CF) (f : Nat) : Sp := fun vs H Q _ => ∃ (F : Hp) (ds : List D) (o : Option D) (r : Res), Fin F H ∧ ArgR K C F H o vs ds ∧ Φ f ds = some (o, r) ∧
  ∀ F' H' v, Fin F' H' → Fle F F' → (∀ a, F' a ≠ none → F a ≠ none ∨ H a = none) → (∀ a u, H a = some u → ¬ ioA vs o a → H' a = some u) → ioR K C F' H' o vs → OutR K C F' H H' v r → Q v H'

/-! ### the text -/
structure Cm where
  N : List Str
  sc : Scope
  fn : Str → Bool
structure FI where
  name : Str
  cls : Option Nat
structure GT where
  fis : List FI
  mks : List (Str × Nat × Nat)
  flds : List Str
  consts : List (Str × D)
  tabs : List (Str × List (Str × Str))
def bNames : List Str := ["len", "isinstance", "int", "str", "bool", "tuple", "list", "dict", "range", "min", "max", "sum", "sorted", "set", "zip", "enumerate"]
/-- a table of the top -/
structure TabOk (X : Cx) (a : Addr) (t : List (Str × Str)) : Prop where
  kd : ∃ es n, KDict X.K X.w a es n
  get : ∀ x, ∃ r, PySem.W.nsIn X.K a x = some r ∧ (match kget t x with | some y => ∃ tok, r = some (.str y tok) | none => r = none)
  ents : ∃ es n, KDict X.K X.w a es n ∧ Paired (fun (e : DictEntry) (p : Str × Str) => (∃ tk, e.key = .str p.1 tk) ∧ ∃ tk, e.val = .str p.2 tk) es.toList t
  nd : (t.map (·.1)).Nodup
  small : t.length ≤ 1000
structure FnAt (X : Cx) (C : Nat → Addr) (Φ : CF) (k : Nat) (f : Nat) (a : Addr) (fd : FuncData) (ps : List Str) : Prop where
  ok : FnOk X.prog X.w X.K X.mg X.base CX0 k a fd ps (spF X.K C Φ f)
  bd : Binds X.K fd ps []
structure Good (g : GT) (Φ : CF) (C : Nat → Addr) (k : Nat) (m : Cm) (X : Cx) : Prop where
  N : X.N = m.N
  sc : X.env.scope = m.sc
  nd : m.N.Nodup
  kind : m.sc.kind = .function
  calm : X.calm = true
  room : Room (k + 1) X.A
  xe : X.xe = fun _ _ => False
  fn : ∀ x, m.fn x = true → X.fn x = true
  free : ∀ x ∈ bNames, X.mg x = none
  fns : ∀ (f : Nat) (fi : FI), g.fis[f]? = some fi → fi.cls = none → ∃ a fd ps, FnAt X C Φ k f a fd ps ∧ X.mg fi.name = some (.ref a) ∧ PySem.W.keepIn X.K (.ref a) = true
  mths : ∀ (f : Nat) (fi : FI) (c : Nat), g.fis[f]? = some fi → fi.cls = some c → ∃ a fd ps, FnAt X C Φ k f a fd ps ∧ Cls X.K (C c) ∧ Meth X.K (C c) fi.name a
  mcl : ∀ (f : Nat) (fi : FI) (c : Nat), g.fis[f]? = some fi → fi.cls = some c → ∀ ds x, Φ f ds = some x → ∃ fs r, ds = .obj c fs :: r ∧ fs.lookup fi.name = none
  mks : ∀ (x : Str) (c f : Nat), (x, c, f) ∈ g.mks → ∃ a fd ps, FnAt X C Φ k f a fd ps ∧ X.mg x = some (.ref (C c)) ∧ Mk X.K (C c) a
  flds : ∀ (c : Nat) (x : Str), x ∈ g.flds → Cls X.K (C c) ∧ NoAttr X.K (C c) x
  consts : ∀ (x : Str) (d : D), (x, d) ∈ g.consts → ∃ (v : V) (u : Value), X.mg x = some u ∧ RelV v u ∧ ∀ F, Rep X.K F v d
  tabs : ∀ (x : Str) (t : List (Str × Str)), (x, t) ∈ g.tabs → ∃ a, X.mg x = some (.ref a) ∧ TabOk X a t
section
variable {g : GT} {Φ : CF} {C : Nat → Addr} {k : Nat} {m : Cm} {X : Cx}
theorem Good.hu (G : Good g Φ C k m X) : X.A.units + 64 < cLine := G.room.units
theorem Good.hu1 (G : Good g Φ C k m X) : X.A.units + 1 < cLine := by have := G.hu; omega
/-- a comprehension's block -/
def Cm.blk (m : Cm) (scope : Scope) : Cm := ⟨m.N, relS scope m.sc, fun x => scope.names.lookup x == some .cell⟩
theorem Good.blk (G : Good g Φ C k m X) {scope : Scope} (hk : scope.kind = .function) (s : Shared) (H : Hp) (A : Addr) (cl : List (Str × Addr)) (fp : List Addr) : Good g Φ C k (m.blk scope) (X.blk s H scope (compEnvC scope cl A X.env) fp) where
  N := G.N
  sc := by rw [show (m.blk scope).sc = relS scope m.sc from rfl, ← G.sc]; rfl
  nd := G.nd
  kind := hk
  calm := G.calm
  room := G.room
  xe := rfl
  fn := fun _ h => h
  free := G.free
  fns := fun f fi h1 h2 => let ⟨a, fd, ps, h, r⟩ := G.fns f fi h1 h2; ⟨a, fd, ps, ⟨h.ok, h.bd⟩, r⟩
  mths := fun f fi c h1 h2 => let ⟨a, fd, ps, h, r⟩ := G.mths f fi c h1 h2; ⟨a, fd, ps, ⟨h.ok, h.bd⟩, r⟩
  mcl := G.mcl
  mks := fun x c f h1 => let ⟨a, fd, ps, h, r⟩ := G.mks x c f h1; ⟨a, fd, ps, ⟨h.ok, h.bd⟩, r⟩
  flds := G.flds
  consts := G.consts
  tabs := fun x t h => let ⟨a, e, q⟩ := G.tabs x t h; ⟨a, e, ⟨q.kd, q.get, q.ents, q.nd, q.small⟩⟩
end
/-! what is seen of an expression -/
def noStar : Expr → Bool
  | .Starred _ _ => false | _ => true
def notIf : Expr → Bool
  | .IfExp .. => false | _ => true
def notSup : Expr → Bool
  | .Call (.Name _ _) [] [] _ => false | _ => true
def notLC : Expr → Bool
  | .ListComp .. => false | .SetComp .. => false | .DictComp .. => false | _ => true
def notSet : Expr → Bool
  | .Set .. => false | _ => true
def notSl : Expr → Bool
  | .Slice .. => false | _ => true
theorem star_cons {e : Expr} (h : noStar e = true) (es : List Expr) (env : Env) : starEach (e :: es) env = (false, eval e env) :: starEach es env := by
  cases e <;> first | rfl | cases h
theorem star_none : ∀ {es : List Expr} (h : ∀ e ∈ es, noStar e = true) (pos : Pos) (env : Env), (backTo pos (starEach es env)).any (·.1) = false
  | [], _, _, _ => rfl
  | e :: es, h, pos, env => by
    rw [star_cons (h e (List.mem_cons_self ..))]
    show (false || (backTo pos (starEach es env)).any (·.1)) = false
    rw [star_none fun x hx => h x (List.mem_cons_of_mem _ hx)]
    rfl
theorem supBase {o : Expr} (h : notSup o = true) (x : Str) (env : Env) (w : Sem Value) : attributeBase o x env w = w := by
  unfold attributeBase
  split
  · rename_i id p pos
    cases h
  · rfl
theorem swapNone {e : Expr} (h : notLC e = true) (t : Option Expr) (l : Nat) (env : Env) : swapsWith e t l env = pure false := by
  cases e <;> first | rfl | cases h
theorem setNone {e : Expr} (h : notSet e = true) (env : Env) (x : Value) : foldedSetIterable e env x = pure x := by
  cases e <;> first | rfl | cases h
theorem plainIx {e : Expr} (h : notSl e = true) : PlainIx e := fun o i => by
  cases e <;> first | rfl | cases h
theorem noMark {e : Expr} (h : notSet e = true) (op : CmpOp) : behindInMarks op e = false := by
  cases e <;> first | rfl | cases h
def isB : Expr → Bool
  | .BoolOp .. => true | .UnaryOp .Not _ _ => true | .Compare .. => true | .IfExp .. => true | _ => false
theorem plainTrue {e : Expr} (h : isB e = false) (env : Env) : ∀ whole, isTrue e env whole = (do let v ← whole; standAt e.pos; holding [v] (truthy v)) := fun whole => by
  cases e with
  | UnaryOp op x p => cases op <;> first | rfl | cases h
  | _ => first | rfl | cases h
/-! the check -/
def vis (sc : Scope) (x : Str) : Bool := match sc.names.lookup x with
  | some .local => true | some .cell => true | some .free => true | _ => false
def glb (m : Cm) (x : Str) : Bool := (match m.sc.names.lookup x with | some .globalImplicit => true | _ => false) && !(x == ("__debug__" : Str))
def sto (m : Cm) (x : Str) : Bool := match m.sc.names.lookup x with
  | some .local => true | some .cell => m.fn x | _ => false
def isVar (m : Cm) (i : Nat) (e : Expr) : Bool := match e with
  | .Name x _ => decide (m.N[i]? = some x) && (vis m.sc x && (!(x == ("__debug__" : Str)) && !(x == ("__classdict__" : Str))))
  | _ => false
def bltn (m : Cm) (x : Str) : Bool := glb m x && (decide (x ∈ bNames) && !(x == ("__name__" : Str)))
def strL (x : Str) : D := .str x
def litOk : D → Const → Bool
  | .non, .none => true
  | .bl b, .bool c => b == c
  | .int i, .int j => i == j
  | .str x, .str y => decide (x = y)
  | _, _ => false
def sameD : D → D → Bool
  | .int i, .int j => i == j
  | .str x, .str y => decide (x = y)
  | _, _ => false
def cmpPr : CmpOp → Option Pr
  | .Eq => some .eq | .NotEq => some .ne | .Lt => some .lt | .LtE => some .le | .Gt => some .gt | .GtE => some .ge | .In => some .isIn | .NotIn => some .notIn | _ => none
def binPr : Operator → Option Pr
  | .Add => some .add | .Sub => some .sub | .Mult => some .mul | .FloorDiv => some .fdiv | .Mod => some .mod | .Pow => some .pow | _ => none
end G48

set_option maxHeartbeats 4000000
/-! Expressions: the check of a term against the text, and what it gives. -/
namespace G48
open PySem L2
structure SE (X : Cx) (C : Nat → Addr) (Φ : CF) (e : Expr) (c : Ex) : Prop where
  pe : PE X e (tE X.K C Φ c)
  v : ∀ i, c = .var i → PE X e (tVar i)
  ns : noStar e = true
  t : notIf e = true → PT X e (tT X.K C Φ c)
  w : (∃ op l p, e = .BoolOp op l p) → PW X e (tT X.K C Φ c)
inductive SEs (X : Cx) (C : Nat → Addr) (Φ : CF) : List Expr → Exs → Prop where
  | nil : SEs X C Φ [] .nil
  | cons {e : Expr} {es : List Expr} {c : Ex} {cs : Exs} : SE X C Φ e c → SEs X C Φ es cs → SEs X C Φ (e :: es) (.cons c cs)
section
variable {g : GT} {X : Cx} {C : Nat → Addr} {Φ : CF} {k : Nat} {m : Cm}
theorem tO_mono {K : PySem.W.Frag} {c : Ex} {σ : L2.St} {H : Hp} {Q Q' : VK} (k : ∀ v H, Q v H → Q' v H) (h : tO K C Φ c σ H Q) : tO K C Φ c σ H Q' := by
  cases c with
  | var i => obtain ⟨v, e, q⟩ := h; exact ⟨v, e, k _ _ q⟩
  | _ => exact tV_mono k h
theorem SE.o {e : Expr} {c : Ex} (h : SE X C Φ e c) : PE X e (tO X.K C Φ c) := by
  cases c with
  | var i => exact h.v i rfl
  | _ => exact PE.imp h.pe fun σ H Q q => tV_E q
theorem SE.val {e : Expr} {c : Ex} (h : SE X C Φ e c) : PE X e (tV X.K C Φ c) := PE.imp h.pe fun σ H Q q => tV_E q
theorem SEs.ns {es : List Expr} {cs : Exs} (h : SEs X C Φ es cs) : ∀ e ∈ es, noStar e = true := by
  induction h with
  | nil => intro e he; cases he
  | cons a b ih => intro e he; rcases List.mem_cons.mp he with rfl | he; exact a.ns; exact ih e he
theorem SEs.paO {es : List Expr} {cs : Exs} (h : SEs X C Φ es cs) : PA X es (tOsR X.K C Φ cs) := by
  induction h with
  | nil => exact pa_nil
  | cons a b ih => exact pa_cons a.o ih (star_cons a.ns _ _)
theorem SEs.paV {es : List Expr} {cs : Exs} (h : SEs X C Φ es cs) : PA X es (tVsR X.K C Φ cs) := by
  induction h with
  | nil => exact pa_nil
  | cons a b ih => exact pa_cons a.val ih (star_cons a.ns _ _)
theorem evT_of {c : Ex} {σd : S} {b : Bool} {σd' : S} (h : evT Φ c σd = some (b, σd')) : ∃ r, ev Φ c σd = some (r, σd') ∧ tru r.2 = some b := by
  obtain ⟨r, s, e1, e2⟩ := bnd_some h
  split at e2
  · rename_i b' q
    cases e2
    exact ⟨r, e1, q⟩
  · cases e2
/-- a plain expression as a test -/
theorem pt_plain {e : Expr} {c : Ex} (h : PE X e (tE X.K C Φ c)) (hb : isB e = false) : PT X e (tT X.K C Φ c) := by
  refine PT.imp (pt_truth h (plainTrue hb X.env)) fun σ H Q q => ?_
  obtain ⟨E, F, σd, b, σd', I, e1, k⟩ := q
  obtain ⟨r, e2, e3⟩ := evT_of e1
  refine ⟨E, F, σd, r, σd', I, e2, fun F' H' v I' le w => ⟨b, ?_, k F' H' I' le⟩⟩
  obtain ⟨fl, d⟩ := r
  have e3 : tru d = some b := e3
  cases fl with
  | false =>
    have w : Rep X.K F' v d := w
    cases d with
    | bl x => cases e3; cases w; rfl
    | non => cases e3; cases w; rfl
    | _ => cases e3
  | true =>
    have w := w.1
    cases d with
    | bl x => cases w
    | non => cases w
    | _ => cases e3
theorem SE.plain {e : Expr} {c : Ex} (h : PE X e (tE X.K C Φ c)) (hb : isB e = false) (ns : noStar e = true) (v : ∀ i, c ≠ .var i) : SE X C Φ e c :=
  ⟨h, fun i e => absurd e (v i), ns, fun _ => pt_plain h hb, fun ⟨op, l, p, z⟩ => by subst z; cases hb⟩
/-- by a test of its own -/
theorem SE.cmp {e : Expr} {c : Ex} {t : TE} (h : PE X e t) (hT : PT X e (tTest t)) (imp : ∀ σ H Q, tE X.K C Φ c σ H Q → t σ H Q) (flat : ∀ σd r σd', ev Φ c σd = some (r, σd') → ∃ b, r = (false, .bl b)) (ns : noStar e = true) (nb : ∀ op l p, e ≠ .BoolOp op l p) (v : ∀ i, c ≠ .var i) : SE X C Φ e c := by
  refine ⟨PE.imp h imp, fun i e => absurd e (v i), ns, fun _ => PT.imp hT fun σ H Q q => ?_, fun ⟨op, l, p, z⟩ => absurd z (nb op l p)⟩
  obtain ⟨E, F, σd, b, σd', I, e1, k⟩ := q
  obtain ⟨r, e2, e3⟩ := evT_of e1
  obtain ⟨b', rfl⟩ := flat σd r σd' e2
  cases e3
  exact imp σ H _ ⟨E, F, σd, _, σd', I, e2, fun F' H' v I' le w => by
    cases (show Rep X.K F' v (.bl _) from w)
    exact ⟨_, rfl, k F' H' I' le⟩⟩
theorem imp2 {p : Pr} {ca cb : Ex} {σ : L2.St} {H : Hp} {Q : VK} (h : tE X.K C Φ (.pr p (.cons ca (.cons cb .nil))) σ H Q) : tOp (R2P X C p) (tO X.K C Φ ca) (tO X.K C Φ cb) σ H Q :=
  tO_mono (fun v H1 q => tO_mono (fun w H2 q2 => tOs_nil q2) (tOs_cons q)) (tOs_cons (tE_pr h))
theorem imp1 {p : Pr} {ca : Ex} {σ : L2.St} {H : Hp} {Q : VK} (h : tE X.K C Φ (.pr p (.cons ca .nil)) σ H Q) : tO X.K C Φ ca σ H fun v H1 => PrS X.K C p [v] H1 Q :=
  tO_mono (fun v H1 q => tOs_nil q) (tOs_cons (tE_pr h))
theorem ev_pr {p : Pr} {es : Exs} {σd : S} {r : Res} {σd' : S} (h : ev Φ (.pr p es) σd = some (r, σd')) : ∃ ds, prD p ds = some r := by
  obtain ⟨os, s, e1, e2⟩ := bnd_some h
  cases f : fetchs s os with
  | none => rw [f] at e2; cases e2
  | some ds =>
    rw [f] at e2
    dsimp only at e2
    cases q : prD p ds with
    | none => rw [q] at e2; cases e2
    | some r' => rw [q] at e2; cases e2; exact ⟨ds, q⟩
/-! the forms of primitives -/
def prBin : Pr → Operator → Bool
  | .add, .Add => true | .sub, .Sub => true | .mul, .Mult => true | .fdiv, .FloorDiv => true | .mod, .Mod => true | .pow, .Pow => true | _, _ => false
theorem bin_ok {p : Pr} {op : Operator} (h : prBin p op = true) : OpR X (binaryOp op) (R2P X C p) := by
  unfold prBin at h
  split at h
  · exact op_addP
  · exact op_subP
  · exact op_mulP
  · exact op_fdivP
  · exact op_modP
  · exact op_powP
  · cases h
def prCmp : Pr → CmpOp → Bool
  | .eq, .Eq => true | .ne, .NotEq => true | .lt, .Lt => true | .le, .LtE => true | .gt, .Gt => true | .ge, .GtE => true | .isIn, .In => true | .notIn, .NotIn => true | _, _ => false
theorem cmp_ok (hu : X.A.units + 64 < cLine) {p : Pr} {op : CmpOp} (h : prCmp p op = true) : OpR X (compareOp op) (R2P X C p) := by
  have hu1 : X.A.units + 1 < cLine := by omega
  unfold prCmp at h
  split at h
  · exact op_eqP hu
  · exact op_neP hu
  · exact op_ltP
  · exact op_leP
  · exact op_gtP
  · exact op_geP
  · exact op_inP hu1
  · exact op_notInP hu1
  · cases h
theorem pInt2_bl {f : Int → Int → Bool} {a b : D} {r : Res} (h : pCmp f a b = some r) : ∃ b, r = (false, .bl b) := by
  obtain ⟨i, j, d, rfl, rfl, e, rfl⟩ := int2_inv (show pInt2 _ a b = some r from h)
  cases e
  exact ⟨_, rfl⟩
theorem map_bl {α : Type} {o : Option α} {f : α → Bool} {r : Res} (h : (o.map fun r => ((false, D.bl (f r)) : Res)) = some r) : ∃ b, r = (false, .bl b) := by
  obtain ⟨z, _, e⟩ := Option.map_eq_some_iff.mp h
  exact ⟨_, e.symm⟩
/-- a primitive that answers by a truth -/
def prBl : Pr → Bool
  | .eq => true | .ne => true | .lt => true | .le => true | .gt => true | .ge => true | .isIn => true | .notIn => true | .isN => true | .notN => true | .isB => true | .notB => true | .tIn _ => true | .tNotIn _ => true | _ => false
theorem isB_bl {n : Bool} {a b : D} {r : Res} (h : pIsB n a b = some r) : ∃ b, r = (false, .bl b) := by
  unfold pIsB at h
  split at h
  · cases h; exact ⟨_, rfl⟩
  · cases h; exact ⟨_, rfl⟩
  · cases h
theorem prBl_ok {p : Pr} (hp : prBl p = true) : ∀ {ds : List D} {r : Res}, prD p ds = some r → ∃ b, r = (false, .bl b) := by
  intro ds r h
  match p, hp, ds, h with
  | .eq, _, [a, b], h => exact map_bl (f := fun r => if false then !r else r) h
  | .ne, _, [a, b], h => exact map_bl (f := fun r => if true then !r else r) h
  | .lt, _, [a, b], h => exact pInt2_bl h
  | .le, _, [a, b], h => exact pInt2_bl h
  | .gt, _, [a, b], h => exact pInt2_bl h
  | .ge, _, [a, b], h => exact pInt2_bl h
  | .isIn, _, [a, b], h => exact map_bl (f := fun r => r) h
  | .notIn, _, [a, b], h => exact map_bl (f := fun r => !r) h
  | .isN, _, [a], h => cases resInj h; exact ⟨_, rfl⟩
  | .notN, _, [a], h => cases resInj h; exact ⟨_, rfl⟩
  | .isB, _, [a, b], h => exact isB_bl h
  | .notB, _, [a, b], h => exact isB_bl h
  | .tIn t, _, [d], h => cases d <;> first | (cases resInj h; exact ⟨_, rfl⟩) | cases h
  | .tNotIn t, _, [d], h => cases d <;> first | (cases resInj h; exact ⟨_, rfl⟩) | cases h
theorem cmp_bl {p : Pr} {op : CmpOp} (h : prCmp p op = true) : prBl p = true := by
  unfold prCmp at h
  split at h <;> first | rfl | cases h
theorem op_isBP (neg : Bool) : OpR X (compareOp (if neg then .IsNot else .Is)) (R2P X C (if neg then .notB else .isB)) := by
  intro pins s σ H x y v u Q I rx ry h
  obtain ⟨E, F, τ, σd, a, b, r, J, oa, ob, e, k⟩ := pr2_inv h
  have e' : pIsB neg a b = some r := by cases neg <;> exact e
  unfold pIsB at e'
  split at e'
  · cases resInj e'
    cases oa.bl; cases ob.bl
    cases neg with
    | false => exact op_isBl pins s σ H _ _ v u Q I rx ry ⟨_, _, rfl, rfl, fin_flat J k (.bl _)⟩
    | true => exact op_notBl pins s σ H _ _ v u Q I rx ry ⟨_, _, rfl, rfl, fin_flat J k (.bl _)⟩
  · cases resInj e'
    cases oa.non; cases ob.bl
    exact op_none_isB (neg := neg) pins s σ H _ _ v u Q I rx ry ⟨rfl, _, rfl, fin_flat J k (.bl _)⟩
  · cases e'
/-! tables -/
theorem op_tIn {a : Addr} {t : List (Str × Str)} (T : TabOk X a t) (neg : Bool) : OpR X (compareOp (if neg then .NotIn else .In)) (fun x y H Q => y = .ref a ∧ PrS X.K C (if neg then .tNotIn t else .tIn t) [x] H Q) := by
  intro pins s σ H x y v u Q I rx ry h
  obtain ⟨rfl, h⟩ := h
  obtain ⟨E, F, τ, σd, d, r, J, oa, e, k⟩ := pr1_inv h
  obtain ⟨es, n, D'⟩ := T.kd
  cases d with
  | str z =>
    cases oa.str
    obtain ⟨r', e1, e2⟩ := T.get z
    have es' : r'.isSome = (kget t z).isSome := by
      cases q : kget t z with
      | none => rw [q] at e2; rw [e2]; rfl
      | some y => rw [q] at e2; obtain ⟨tok, e2⟩ := e2; rw [e2]; rfl
    cases neg with
    | false =>
      cases resInj (show some (false, D.bl (kget t z).isSome) = some r from e)
      exact op_in_kd D' pins s σ H _ _ v u Q I rx ry ⟨z, r', rfl, rfl, e1, by rw [es']; exact fin_flat J k (.bl _)⟩
    | true =>
      cases resInj (show some (false, D.bl (!(kget t z).isSome)) = some r from e)
      exact op_notIn_kd D' pins s σ H _ _ v u Q I rx ry ⟨z, r', rfl, rfl, e1, by rw [es']; exact fin_flat J k (.bl _)⟩
  | _ => cases neg <;> cases e
open PyProof.Rows in
theorem ix_tGet {a : Addr} {t : List (Str × Str)} (T : TabOk X a t) : IxR X (fun x y H Q => x = .ref a ∧ PrS X.K C (.tGet t) [y] H Q) := by
  intro value slice pins s σ H x y v u Q I rx ry h hs
  obtain ⟨rfl, h⟩ := h
  cases rx
  obtain ⟨E, F, τ, σd, d, r, J, oa, e, k⟩ := pr1_inv h
  obtain ⟨es, n, D'⟩ := T.kd
  cases d with
  | str z =>
    cases oa.str
    obtain ⟨y, e0, e3⟩ := Option.map_eq_some_iff.mp (show (kget t z).map (fun y => ((false, D.str y) : Res)) = some r from e)
    subst e3
    obtain ⟨r', e1, e2⟩ := T.get z
    rw [e0] at e2
    obtain ⟨tok, rfl⟩ := e2
    have hT : s.TypeIs (.ref a) "dict" := kd_type D' I
    unfold subscriptTail
    refine wpAny_bind ?_
    rw [getitemInPython_of_ne hT.not_modules]
    refine wpAny_bind (wpAny_specialOf hT PySem.F.slot_dict_getitem.lookup ?_)
    have fin : wpAny (model X.prog X.w) X.A (subscripted slice false (.ref a) u) (fun r s₃ => wpAny (model X.prog X.w) X.A (letTemporaryGo value (.ref a) r >>= fun _ => pure r) (EP X pins σ Q) X.xe s₃) X.xe s := by
      rw [hs]
      exact wpAny_operating (wpAny_mono (op_item_kd D' pins s σ H (.ref a) (.str z) (.ref a) u Q I rfl ry ⟨z, _, .str y, rfl, rfl, e1, ⟨tok, rfl⟩, fin_flat J k (.str _)⟩) (fun r s₃ h₃ => wpAny_bind (wpAny_letTemporaryGo (wpAny_pure h₃))) fun _ _ x => x)
    first
      | exact wpAny_pure (wpAny_bind fin)
      | exact wpAny_bind (wpAny_pure (wpAny_bind fin))
      | exact wpAny_bind fin
  | _ => cases e
def tabN (g : GT) (m : Cm) (x : Str) (t : List (Str × Str)) : Bool := glb m x && decide ((x, t) ∈ g.tabs)
def oneArg (p : Pr) : Option (Str × Bool) := match p with
  | .len => some ("len", true) | .toInt => some ("int", false) | .toStr => some ("str", false) | .toTup => some ("tuple", false) | .toLst => some ("list", false) | .toDct => some ("dict", false)
  | .min1 => some ("min", true) | .max1 => some ("max", true) | .sum => some ("sum", true) | _ => none
def twoArg (p : Pr) : Option Str := match p with
  | .min2 => some "min" | .max2 => some "max" | _ => none
def tyNm : Ty → Str
  | .int => "int" | .bool => "bool" | .str => "str" | .tuple => "tuple" | .list => "list"
def isNoneC : Expr → Bool
  | .Constant .none _ _ => true | _ => false
def isBlC : Expr → Bool
  | .Constant (.bool _) _ _ => true | _ => false
def isTabE (g : GT) (m : Cm) (t : List (Str × Str)) : Expr → Bool
  | .Name x _ => tabN g m x t | _ => false
def prCmpF (g : GT) (m : Cm) (p : Pr) (l : Expr) (op : CmpOp) (r : Expr) : Option (List Expr) :=
  if prCmp p op && notSet r then some [l, r] else match p, op with
  | .isN, .Is => if isNoneC r then some [l] else none
  | .notN, .IsNot => if isNoneC r then some [l] else none
  | .isB, .Is => if isBlC r then some [l, r] else none
  | .notB, .IsNot => if isBlC r then some [l, r] else none
  | .tIn t, .In => if isTabE g m t r then some [l] else none
  | .tNotIn t, .NotIn => if isTabE g m t r then some [l] else none
  | _, _ => none
def prSubF (g : GT) (m : Cm) (p : Pr) (v s : Expr) : Option (List Expr) := match p with
  | .tGet t => if isTabE g m t v && notSl s then some [s] else none
  | .idx => if notSl s then some [v, s] else none
  | _ => none
def isTyE (m : Cm) (t : Ty) : Expr → Bool
  | .Name x _ => decide (x = tyNm t) && bltn m x | _ => false
def isRng1 (m : Cm) : Expr → Option Expr
  | .Call (.Name x _) [a] [] _ => if decide (x = ("range" : Str)) && bltn m x then some a else none
  | _ => none
def prCallF (m : Cm) (p : Pr) (x : Str) (as : List Expr) : Option (List Expr) := if bltn m x then match oneArg p with
    | some (y, _) => if decide (x = y) then match as with
        | [a] => some [a]
        | _ => none
      else none
    | none => match twoArg p with
      | some y => if decide (x = y) then match as with
          | [a, b] => some [a, b]
          | _ => none
        else none
      | none => match p with
        | .isI t => if decide (x = ("isinstance" : Str)) then match as with
            | [a, b] => if isTyE m t b then some [a] else none
            | _ => none
          else none
        | .rng => if decide (x = ("list" : Str)) then match as with
            | [a] => match isRng1 m a with
              | some z => if noStar a then some [z] else none
              | none => none
            | _ => none
          else none
        | _ => none
  else none
/-- the parts of a primitive's text -/
def prForm (g : GT) (m : Cm) (p : Pr) : Expr → Option (List Expr)
  | .BinOp l op r _ => if prBin p op then some [l, r] else none
  | .UnaryOp op x _ => match p, op with
    | .neg, .USub => some [x]
    | _, _ => none
  | .Compare l [op] [r] _ => prCmpF g m p l op r
  | .Subscript v s _ => prSubF g m p v s
  | .Call (.Name x _) as [] _ => prCallF m p x as
  | _ => none
theorem ite_some {α : Type} {b : Bool} {x : α} {o : Option α} {y : α} (h : (if b = true then some x else o) = some y) : (b = true ∧ x = y) ∨ (b = false ∧ o = some y) := by
  cases b with
  | true => exact .inl ⟨rfl, Option.some.inj h⟩
  | false => exact .inr ⟨rfl, h⟩
theorem ite_some0 {α : Type} {b : Bool} {x : α} {y : α} (h : (if b = true then some x else none) = some y) : b = true ∧ x = y := by
  cases b with
  | true => exact ⟨rfl, Option.some.inj h⟩
  | false => cases h
theorem glb_ok (G : Good g Φ C k m X) {x : Str} (h : glb m x = true) : Gl X x ∧ (x == ("__debug__" : Str)) = false := by
  obtain ⟨h1, h2⟩ := and_t h
  refine ⟨?_, by simpa using h2⟩
  show X.env.scope.names.lookup x = _
  rw [G.sc]
  split at h1
  · assumption
  · cases h1
theorem bltn_ok (G : Good g Φ C k m X) {x : Str} (h : bltn m x = true) : Gl X x ∧ X.mg x = none ∧ (x == ("__debug__" : Str)) = false ∧ x ≠ ("__name__" : Str) := by
  obtain ⟨h1, h2⟩ := and_t h
  obtain ⟨h2, h3⟩ := and_t h2
  obtain ⟨g1, g2⟩ := glb_ok G h1
  exact ⟨g1, G.free x (of_decide_eq_true h2), g2, by simpa using h3⟩
theorem tab_ok (G : Good g Φ C k m X) {t : List (Str × Str)} {e : Expr} (h : isTabE g m t e = true) : ∃ a, TabOk X a t ∧ PE X e (tC (.ref a)) := by
  cases e with
  | Name x p =>
    obtain ⟨h1, h2⟩ := and_t h
    obtain ⟨g1, g2⟩ := glb_ok G h1
    obtain ⟨a, e, T⟩ := G.tabs x t (of_decide_eq_true h2)
    exact ⟨a, T, pe_glob g1 e rfl g2⟩
  | _ => cases h
theorem isNone_ok {e : Expr} (h : isNoneC e = true) : PE X e (tC .non) ∧ notSet e = true := by
  cases e with
  | Constant c i p => cases c <;> first | exact ⟨pe_non, rfl⟩ | cases h
  | _ => cases h
theorem SE_cmp (G : Good g Φ C k m X) {p : Pr} {l r : Expr} {op : CmpOp} {pos : Pos} {es : List Expr} {cs : Exs} (h : prCmpF g m p l op r = some es) (hs : SEs X C Φ es cs) : SE X C Φ (.Compare l [op] [r] pos) (.pr p cs) := by
  unfold prCmpF at h
  have bl : ∀ {p : Pr} {cs : Exs}, prBl p = true → ∀ σd r σd', ev Φ (.pr p cs) σd = some (r, σd') → ∃ b, r = (false, .bl b) := fun hp σd r σd' e => let ⟨ds, q⟩ := ev_pr e; prBl_ok hp q
  rcases ite_some h with ⟨hb, rfl⟩ | ⟨_, h⟩
  · obtain ⟨h1, h2⟩ := and_t hb
    cases hs with | cons a hs => cases hs with | cons b hs => cases hs with | nil =>
    exact SE.cmp (pe_cmpR (cmp_ok G.hu h1) a.o b.o (noMark h2 _)) (pt_cmpR (cmp_ok G.hu h1) a.o b.o (noMark h2 _)) (fun σ H Q q => imp2 q) (bl (cmp_bl h1)) rfl (fun _ _ _ z => by cases z) (fun _ z => by cases z)
  · split at h
    · obtain ⟨h1, rfl⟩ := ite_some0 h
      obtain ⟨h1, h2⟩ := isNone_ok (X := X) h1
      cases hs with | cons a hs => cases hs with | nil =>
      exact SE.cmp (pe_cmpR op_isNP a.o h1 (noMark h2 _)) (pt_cmpR op_isNP a.o h1 (noMark h2 _)) (fun σ H Q q => tO_mono (fun v H1 q => ⟨rfl, q⟩) (imp1 q)) (bl rfl) rfl (fun _ _ _ z => by cases z) (fun _ z => by cases z)
    · obtain ⟨h1, rfl⟩ := ite_some0 h
      obtain ⟨h1, h2⟩ := isNone_ok (X := X) h1
      cases hs with | cons a hs => cases hs with | nil =>
      exact SE.cmp (pe_cmpR op_notNP a.o h1 (noMark h2 _)) (pt_cmpR op_notNP a.o h1 (noMark h2 _)) (fun σ H Q q => tO_mono (fun v H1 q => ⟨rfl, q⟩) (imp1 q)) (bl rfl) rfl (fun _ _ _ z => by cases z) (fun _ z => by cases z)
    · obtain ⟨h1, rfl⟩ := ite_some0 h
      have h2 : notSet r = true := by cases r <;> first | rfl | cases h1
      cases hs with | cons a hs => cases hs with | cons b hs => cases hs with | nil =>
      exact SE.cmp (pe_cmpR (op_isBP false) a.o b.o (noMark h2 _)) (pt_cmpR (op_isBP false) a.o b.o (noMark h2 _)) (fun σ H Q q => imp2 q) (bl rfl) rfl (fun _ _ _ z => by cases z) (fun _ z => by cases z)
    · obtain ⟨h1, rfl⟩ := ite_some0 h
      have h2 : notSet r = true := by cases r <;> first | rfl | cases h1
      cases hs with | cons a hs => cases hs with | cons b hs => cases hs with | nil =>
      exact SE.cmp (pe_cmpR (op_isBP true) a.o b.o (noMark h2 _)) (pt_cmpR (op_isBP true) a.o b.o (noMark h2 _)) (fun σ H Q q => imp2 q) (bl rfl) rfl (fun _ _ _ z => by cases z) (fun _ z => by cases z)
    · obtain ⟨h1, rfl⟩ := ite_some0 h
      have h2 : notSet r = true := by cases r <;> first | rfl | cases h1
      obtain ⟨a', T, hr⟩ := tab_ok G h1
      cases hs with | cons a hs => cases hs with | nil =>
      exact SE.cmp (pe_cmpR (op_tIn T false) a.o hr (noMark h2 _)) (pt_cmpR (op_tIn T false) a.o hr (noMark h2 _)) (fun σ H Q q => tO_mono (fun v H1 q => ⟨rfl, q⟩) (imp1 q)) (bl rfl) rfl (fun _ _ _ z => by cases z) (fun _ z => by cases z)
    · obtain ⟨h1, rfl⟩ := ite_some0 h
      have h2 : notSet r = true := by cases r <;> first | rfl | cases h1
      obtain ⟨a', T, hr⟩ := tab_ok G h1
      cases hs with | cons a hs => cases hs with | nil =>
      exact SE.cmp (pe_cmpR (op_tIn T true) a.o hr (noMark h2 _)) (pt_cmpR (op_tIn T true) a.o hr (noMark h2 _)) (fun σ H Q q => tO_mono (fun v H1 q => ⟨rfl, q⟩) (imp1 q)) (bl rfl) rfl (fun _ _ _ z => by cases z) (fun _ z => by cases z)
    · cases h
theorem SE_sub (G : Good g Φ C k m X) {p : Pr} {v s : Expr} {pos : Pos} {es : List Expr} {cs : Exs} (h : prSubF g m p v s = some es) (hs : SEs X C Φ es cs) : SE X C Φ (.Subscript v s pos) (.pr p cs) := by
  unfold prSubF at h
  split at h
  · obtain ⟨h1, rfl⟩ := ite_some0 h
    obtain ⟨h1, h2⟩ := and_t h1
    obtain ⟨a', T, hv⟩ := tab_ok G h1
    cases hs with | cons a hs => cases hs with | nil =>
    exact SE.plain (PE.imp (pe_ix (ix_tGet T) hv a.o (plainIx h2)) fun σ H Q q => tO_mono (fun v H1 q => ⟨rfl, q⟩) (imp1 q)) rfl rfl (fun _ z => by cases z)
  · obtain ⟨h1, rfl⟩ := ite_some0 h
    cases hs with | cons a hs => cases hs with | cons b hs => cases hs with | nil =>
    exact SE.plain (PE.imp (pe_ix (ix_P G.hu1) a.o b.o (plainIx h1)) fun σ H Q q => imp2 q) rfl rfl (fun _ z => by cases z)
  · cases h

/-! calls of built-ins -/
theorem boot_int : bootBuiltins "int" = some (.type "int") := by decide +kernel
theorem boot_strT : bootBuiltins "str" = some (.type "str") := by decide +kernel
theorem boot_boolT : bootBuiltins "bool" = some (.type "bool") := by decide +kernel
theorem boot_tupT : bootBuiltins "tuple" = some (.type "tuple") := by decide +kernel
theorem boot_lstT : bootBuiltins "list" = some (.type "list") := by decide +kernel
theorem boot_dctT : bootBuiltins "dict" = some (.type "dict") := by decide +kernel
theorem boot_lenB : bootBuiltins "len" = some (.builtin "len") := by decide +kernel
theorem boot_minB : bootBuiltins "min" = some (.builtin "min") := by decide +kernel
theorem boot_maxB : bootBuiltins "max" = some (.builtin "max") := by decide +kernel
theorem boot_sumB : bootBuiltins "sum" = some (.builtin "sum") := by decide +kernel
theorem boot_isiB : bootBuiltins "isinstance" = some (.builtin "isinstance") := by decide +kernel
theorem ty_ok (G : Good g Φ C k m X) {t : Ty} {e : Expr} (h : isTyE m t e = true) : PE X e (tC (.ty t.nm)) ∧ noStar e = true := by
  cases e with
  | Name x p =>
    obtain ⟨h1, h2⟩ := and_t h
    obtain ⟨g1, g2, g3, g4⟩ := bltn_ok G h2
    have e1 : x = tyNm t := of_decide_eq_true h1
    subst e1
    refine ⟨?_, rfl⟩
    cases t with
    | int => exact pe_bltn g1 g2 boot_int rfl g4 g3
    | bool => exact pe_bltn g1 g2 boot_boolT rfl g4 g3
    | str => exact pe_bltn g1 g2 boot_strT rfl g4 g3
    | tuple => exact pe_bltn g1 g2 boot_tupT rfl g4 g3
    | list => exact pe_bltn g1 g2 boot_lstT rfl g4 g3
  | _ => cases h
theorem call1B (G : Good g Φ C k m X) {p : Pr} {x : Str} {id : String} {a : Expr} {ca : Ex} {pn pos : Pos} (ha : SE X C Φ a ca) (hx : bltn m x = true) (hv : bootBuiltins x = some (.builtin id)) (hc : CallR X (.builtin id) (CRP X C p)) : SE X C Φ (.Call (.Name x pn) [a] [] pos) (.pr p (.cons ca .nil)) := by
  obtain ⟨g1, g2, g3, g4⟩ := bltn_ok G hx
  refine SE.plain (PE.imp (pe_callB hc g1 g2 hv (pa_cons ha.o pa_nil (star_cons ha.ns _ _)) g4 g3 (star_cons ha.ns _ _) rfl) fun σ H Q q => ?_) rfl rfl (fun _ z => by cases z)
  exact imp1 q
theorem call1T (G : Good g Φ C k m X) {p : Pr} {x : Str} {T : String} {a : Expr} {ca : Ex} {pn pos : Pos} (ha : SE X C Φ a ca) (hx : bltn m x = true) (hv : bootBuiltins x = some (.type T)) (hc : CallR X (.type T) (CRP X C p)) : SE X C Φ (.Call (.Name x pn) [a] [] pos) (.pr p (.cons ca .nil)) := by
  obtain ⟨g1, g2, g3, g4⟩ := bltn_ok G hx
  refine SE.plain (PE.imp (pe_callTy hc g1 g2 hv (pa_cons ha.o pa_nil (star_cons ha.ns _ _)) g4 g3 (star_cons ha.ns _ _) rfl) fun σ H Q q => ?_) rfl rfl (fun _ z => by cases z)
  exact imp1 q
theorem call2B (G : Good g Φ C k m X) {p : Pr} {x : Str} {id : String} {a b : Expr} {ca cb : Ex} {pn pos : Pos} (ha : SE X C Φ a ca) (hb : SE X C Φ b cb) (hx : bltn m x = true) (hv : bootBuiltins x = some (.builtin id)) (hc : CallR X (.builtin id) (CRP X C p)) : SE X C Φ (.Call (.Name x pn) [a, b] [] pos) (.pr p (.cons ca (.cons cb .nil))) := by
  obtain ⟨g1, g2, g3, g4⟩ := bltn_ok G hx
  refine SE.plain (PE.imp (pe_callB hc g1 g2 hv (pa_cons ha.o (pa_cons hb.o pa_nil (star_cons hb.ns _ _)) (star_cons ha.ns _ _)) g4 g3 (star_cons ha.ns _ _) (star_none (fun e he => by
    cases List.mem_singleton.mp he
    exact hb.ns) _ _)) fun σ H Q q => ?_) rfl rfl (fun _ z => by cases z)
  exact imp2 q
theorem SE_callB (G : Good g Φ C k m X) {p : Pr} {x : Str} {as : List Expr} {pn pos : Pos} {es : List Expr} {cs : Exs} (h : prCallF m p x as = some es) (hs : SEs X C Φ es cs) : SE X C Φ (.Call (.Name x pn) as [] pos) (.pr p cs) := by
  unfold prCallF at h
  split at h
  · rename_i hx
    split at h
    · rename_i y fl hp
      split at h
      · rename_i hxy
        have hxy : x = y := of_decide_eq_true hxy
        subst hxy
        split at h
        · cases h
          cases hs with | cons a hs => cases hs with | nil =>
          unfold oneArg at hp
          split at hp <;> cases hp
          · exact call1B G a hx boot_lenB call_lenP
          · exact call1T G a hx boot_int call_intP
          · exact call1T G a hx boot_strT call_strP
          · exact call1T G a hx boot_tupT call_tupP
          · exact call1T G a hx boot_lstT call_lstP
          · exact call1T G a hx boot_dctT call_dctP
          · exact call1B G a hx boot_minB (call_min1P G.calm)
          · exact call1B G a hx boot_maxB (call_max1P G.calm)
          · exact call1B G a hx boot_sumB (call_sumP G.calm)
        · cases h
      · cases h
    · split at h
      · rename_i y hp
        split at h
        · rename_i hxy
          have hxy : x = y := of_decide_eq_true hxy
          subst hxy
          split at h
          · cases h
            cases hs with | cons a hs => cases hs with | cons b hs => cases hs with | nil =>
            unfold twoArg at hp
            split at hp <;> cases hp
            · exact call2B G a b hx boot_minB (call_min2P G.calm)
            · exact call2B G a b hx boot_maxB (call_max2P G.calm)
          · cases h
        · cases h
      · split at h
        · rename_i t _ _
          split at h
          · rename_i hxy
            have hxy : x = ("isinstance" : Str) := of_decide_eq_true hxy
            subst hxy
            split at h
            · rename_i a b
              obtain ⟨hb, rfl⟩ := ite_some0 h
              obtain ⟨hb, nb⟩ := ty_ok G hb
              cases hs with | cons a hs => cases hs with | nil =>
              obtain ⟨g1, g2, g3, g4⟩ := bltn_ok G hx
              refine SE.plain (PE.imp (pe_callB (call_isiP (C := C) t) g1 g2 boot_isiB (pa_cons a.o (pa_cons hb pa_nil (star_cons nb _ _)) (star_cons a.ns _ _)) g4 g3 (star_cons a.ns _ _) (star_none (fun e he => by
                cases List.mem_singleton.mp he
                exact nb) _ _)) fun σ H Q q => ?_) rfl rfl (fun _ z => by cases z)
              exact tO_mono (fun v H1 q => ⟨v, rfl, q⟩) (imp1 q)
            · cases h
          · cases h
        · split at h
          · rename_i hxy
            have hxy : x = ("list" : Str) := of_decide_eq_true hxy
            subst hxy
            split at h
            · rename_i a
              split at h
              · rename_i z hz
                obtain ⟨na, rfl⟩ := ite_some0 h
                unfold isRng1 at hz
                split at hz
                · rename_i y _ b _
                  obtain ⟨hy, rfl⟩ := ite_some0 hz
                  obtain ⟨hy, hy2⟩ := and_t hy
                  have hy : y = ("range" : Str) := of_decide_eq_true hy
                  subst hy
                  cases hs with | cons a hs => cases hs with | nil =>
                  obtain ⟨g1, g2, g3, g4⟩ := bltn_ok G hx
                  obtain ⟨r1, r2, r3, r4⟩ := bltn_ok G hy2
                  refine SE.plain (PE.imp (pe_listRg G.calm g1 g2 (prg_1 r1 r2 a.o (star_cons a.ns _ _))) fun σ H Q q => ?_) rfl rfl (fun _ z => by cases z)
                  refine tO_mono (fun v H1 q => ?_) (imp1 q)
                  obtain ⟨E, F, τ, σd, d, r, J, oa, e, k⟩ := pr1_inv q
                  cases d with
                  | int n =>
                    cases oa.int
                    replace e : (if decide (0 ≤ n) && decide (n ≤ 16777216) then some (true, D.lst (rgI n)) else none) = some r := e
                    obtain ⟨e1, rfl⟩ := ite_some0 e
                    obtain ⟨e1, e2⟩ := and_t e1
                    have e1 := of_decide_eq_true e1
                    have e2 := of_decide_eq_true e2
                    refine ⟨n, rfl, RgOk.of_le (Int.le_refl 0) e2 (by omega) e1, fun p hp => ?_⟩
                    have rr : Reps X.K F (rgV 0 n) (rgI n) := by
                      have gen : ∀ l : List Nat, Reps X.K F (l.map fun i => V.int (0 + (i : Nat))) (l.map fun i => D.int (i : Nat)) := by
                        intro l
                        induction l with
                        | nil => exact .nil
                        | cons x l ih => exact .cons (by show Rep X.K F (V.int (0 + (x : Nat))) (D.int (x : Nat)); rw [Int.zero_add]; exact .int _) ih
                      unfold rgV rgI
                      rw [Int.sub_zero]
                      exact gen _
                    exact fin_lst J k rr p hp
                  | _ => cases e
                · cases hz
              · cases h
            · cases h
          · cases h
        · cases h
  · cases h
theorem SE_pr (G : Good g Φ C k m X) {p : Pr} {e : Expr} {es : List Expr} {cs : Exs} (h : prForm g m p e = some es) (hs : SEs X C Φ es cs) : SE X C Φ e (.pr p cs) := by
  unfold prForm at h
  split at h
  · obtain ⟨h1, rfl⟩ := ite_some0 h
    cases hs with | cons a hs => cases hs with | cons b hs => cases hs with | nil =>
    exact SE.plain (PE.imp (pe_op (bin_ok h1) a.o b.o) fun σ H Q q => imp2 q) rfl rfl (fun _ z => by cases z)
  · split at h
    · cases h
      cases hs with | cons a hs => cases hs with | nil =>
      exact SE.plain (PE.imp (pe_un un_negP a.o) fun σ H Q q => imp1 q) rfl rfl (fun _ z => by cases z)
    · cases h
  · exact SE_cmp G h hs
  · exact SE_sub G h hs
  · exact SE_callB G h hs
  · cases h
end
end G48

set_option maxHeartbeats 1000000
/-! max of three numbers. -/
namespace G48
open PySem L2
section
variable {A : Around} {prog : Program} {s : Shared} {w : World} {E : Value → Shared → Prop}
theorem args_max3 (a b c : Value) : argsOk "max" ⟨[a, b, c], []⟩ := by
  unfold argsOk
  kernel_rfl
theorem call_max_three {a b c : Value} {Q : Value → Shared → Prop}
    (h : wpAny (model prog w) A.in1 (pyIter (.ref s.heap.objs.size)) (fun it s2 => ∃ (I : Addr) (fp wr : List Addr) (n : Nat) (P : Nat → Value → Prop) (St : Nat → Heap → Prop) (bt : Nat → Nat → Bool),
      it = .ref I ∧ Walks prog w A.in1 I fp wr n P St ∧ St 0 s2.heap ∧ (∀ x ∈ fp, x < s2.heap.objs.size) ∧ 0 < n ∧ CmpOf prog w A.in1 .Gt P bt ∧
      ∀ v h' tk, P (argBest bt (n - 1)) v → (∀ x o, x ∉ wr → s2.heap.get? x = some o → h'.get? x = some o) → Q v { s2 with heap := h', toks := tk }) E { s with heap := s.heap.push { cls := .type "tuple", data := .seq #[a, b, c] } }) :
    wpAny (model prog w) A (call (.builtin "max") [a, b, c]) Q E s := by
  have nm : (toString "max" ++ toString ".loop" : String) = "max.loop" := by decide
  have bp : Builtin.Builtins.bindParams "max" ["key", "default"] 0 ⟨[], []⟩ = pure [none, none] := rfl
  refine call_function_tree F.kind_max F.plain_max F.entry_max (args_max3 a b c) ?_
  show wpAny _ A.in1 (Builtin.Builtins.bindParams "max" ["key", "default"] 0 ⟨[], []⟩ >>= _) _ _ _
  refine wpAny_bind (wpAny_of_eq bp ?_)
  show wpAny _ A.in1 (newTuple [a, b, c] >>= _) _ _ _
  refine wpAny_bind (wpAny_newObj_type (wpAny_bind (wpAny_mono h (fun it s2 h2 => ?_) fun _ _ z => z)))
  obtain ⟨I, fp, wr, n, P, St, bt, rfl, W, hs, hf, hn, hc, hQ⟩ := h2
  have nf : s2.heap.objs.size ∉ fp := fun z => Nat.lt_irrefl _ (hf _ z)
  refine wpAny_bind (wpAny_newObj_type ?_)
  rw [nm]
  refine wpAny_pure ⟨plainId_quiet F.plain_max_loop _, codeAny_max_loop_first W bt hc _ nf hn (W.frame _ _ _ hs fun x _ o z => Heap.get?_push_of_some _ z) (Heap.get?_push_size _ rfl) fun v h' tk hP hk => ?_⟩
  exact hQ v h' tk hP fun x o nx z => hk x o nx (Nat.ne_of_lt (Heap.lt_size z)) (Heap.get?_push_of_some _ z)
/-- the greatest of three -/
def gr3 (a b c : Int) : Int := max (max a b) c
theorem max_three_ints {a b c : Int} {t u v : Tok} {Q : Value → Shared → Prop} (hh : A.handled = none)
    (h : ∀ h' tk tok, (∀ x o, s.heap.get? x = some o → h'.get? x = some o) → Q (.int (gr3 a b c) tok) { s with heap := h', toks := tk }) :
    wpAny (model prog w) A (call (.builtin "max") [.int a t, .int b u, .int c v]) Q E s := by
  let xs : Array (Int × Tok) := #[(a, t), (b, u), (c, v)]
  have it : (s.heap.push { cls := .type "tuple", data := .seq #[.int a t, .int b u, .int c v] }).IsTuple s.heap.objs.size (intItems xs) := ⟨_, Heap.get?_push_size _ rfl, rfl, 0, by simp [intItems, xs]⟩
  refine call_max_three (wpAny_pyIter_tuple it ?_)
  have sz : (s.heap.push { cls := .type "tuple", data := .seq #[.int a t, .int b u, .int c v] }).objs.size = s.heap.objs.size + 1 := Heap.size_push ..
  have wk := Walks.tuple (prog := prog) (w := w) (A := A.in1) hh (s.heap.push { cls := .type "tuple", data := .seq #[.int a t, .int b u, .int c v] }).objs.size s.heap.objs.size (by rw [sz]; exact Nat.ne_of_lt (Nat.lt_succ_self _)) (intItems xs)
  refine ⟨_, [_, s.heap.objs.size], [_], _, _, _, _, rfl, wk, ⟨⟨_, Heap.get?_push_size _ rfl, rfl, rfl⟩, it.push _⟩, fun x hx => ?_, by simp [intItems, xs], CmpOf.ints_gt (numAt xs) (fun _ _ => intItems_at), fun r h' tk hP hk => ?_⟩
  · show x < ((s.heap.push _).push _).objs.size
    rw [Heap.size_push, sz]
    simp only [List.mem_cons, List.not_mem_nil, or_false] at hx
    rcases hx with rfl | rfl
    · rw [sz]; exact Nat.lt_succ_self _
    · exact Nat.lt_succ_of_lt (Nat.lt_succ_self _)
  · have old : ∀ x o, s.heap.get? x = some o → h'.get? x = some o := fun x o e => by
      refine hk x o (fun hm => ?_) (Heap.get?_push_of_some _ (Heap.get?_push_of_some _ e))
      have q := Heap.lt_size e
      rw [List.mem_singleton.mp hm, sz] at q
      exact Nat.lt_irrefl _ (Nat.lt_of_succ_lt q)
    have hz : (intItems xs).size - 1 = 2 := by simp [intItems, xs]
    have hP2 : (intItems xs)[argBest (fun i j => decide (numAt xs i > numAt xs j)) 2]? = some r := by rw [← hz]; exact hP
    have fin : ∃ tok, r = .int (gr3 a b c) tok := by
      unfold gr3
      by_cases h1 : b > a
      · by_cases h2 : c > b
        · have e : argBest (fun i j => decide (numAt xs i > numAt xs j)) 2 = 2 := by simp [argBest, numAt, xs, h1, h2]
          rw [e] at hP2
          refine ⟨v, ?_⟩
          have : max (max a b) c = c := by omega
          rw [this]
          simpa [intItems, xs] using hP2.symm
        · have e : argBest (fun i j => decide (numAt xs i > numAt xs j)) 2 = 1 := by simp [argBest, numAt, xs, h1, h2]
          rw [e] at hP2
          refine ⟨u, ?_⟩
          have : max (max a b) c = b := by omega
          rw [this]
          simpa [intItems, xs] using hP2.symm
      · by_cases h2 : c > a
        · have e : argBest (fun i j => decide (numAt xs i > numAt xs j)) 2 = 2 := by simp [argBest, numAt, xs, h1, h2]
          rw [e] at hP2
          refine ⟨v, ?_⟩
          have : max (max a b) c = c := by omega
          rw [this]
          simpa [intItems, xs] using hP2.symm
        · have e : argBest (fun i j => decide (numAt xs i > numAt xs j)) 2 = 0 := by simp [argBest, numAt, xs, h1, h2]
          rw [e] at hP2
          refine ⟨t, ?_⟩
          have : max (max a b) c = a := by omega
          rw [this]
          simpa [intItems, xs] using hP2.symm
    obtain ⟨tok, rfl⟩ := fin
    exact h h' tk tok old
end
section
variable {X : Cx} {C : Nat → Addr}
theorem vals3 {x y z : V} {us : List Value} (r : Vals [x, y, z] us) : ∃ u v w', us = [u, v, w'] ∧ RelV x u ∧ RelV y v ∧ RelV z w' := by
  cases r with
  | cons r1 r => cases r with
    | cons r2 r => cases r with
      | cons r3 r => cases r; exact ⟨_, _, _, rfl, r1, r2, r3⟩
theorem call_max3 (hc : X.calm = true) : CallR X (.builtin "max") (fun xs H Q => ∃ i j k, xs = [.int i, .int j, .int k] ∧ Q (.int (gr3 i j k)) H) := by
  intro pins s σ H xs us Q I r h
  obtain ⟨i, j, k, rfl, q⟩ := h
  obtain ⟨u, v, w', rfl, ⟨t, rfl⟩, ⟨t2, rfl⟩, ⟨t3, rfl⟩⟩ := vals3 r
  exact max_three_ints (I.ok.hd hc) fun h' tk tok kk => ⟨.int (gr3 i j k), H, I.kept kk, ⟨_, rfl⟩, q⟩
theorem pr3c {p : Pr} {xs : List V} {H : Hp} {Q : VK} (hp : ∀ l, l.length ≠ 3 → prD p l = none) (h : PrS X.K C p xs H Q) : ∃ (x y z : V) (E : En) (F : Hp) (σ : L2.St) (σd : S) (a b c : D) (r : Res), xs = [x, y, z] ∧ SI X.K C E F H σ σd ∧ OR X.K C F H x a ∧ OR X.K C F H y b ∧ OR X.K C F H z c ∧ prD p [a, b, c] = some r ∧
    ∀ F' H' v, SI X.K C E F' H' σ σd → Fle F F' → ResR X.K C E F' H' σ σd v r → Q v H' := by
  obtain ⟨E, F, σ, σd, ds, r, I, o, e, k⟩ := h
  cases o with
  | nil => rw [hp [] (by decide)] at e; cases e
  | cons a o => cases o with
    | nil => rw [hp _ (by simp)] at e; cases e
    | cons b o => cases o with
      | nil => rw [hp _ (by simp)] at e; cases e
      | cons c o => cases o with
        | nil => exact ⟨_, _, _, E, F, σ, σd, _, _, _, r, rfl, I, a, b, c, e, k⟩
        | cons d o => rw [hp _ (by simp)] at e; cases e
theorem call_max3P (hc : X.calm = true) : CallR X (.builtin "max") (CRP X C .max3) := by
  intro pins s σ H xs us Q I rr h
  obtain ⟨x, y, z, E, F, τ, σd, a, b, c, r, rfl, J, oa, ob, oc, e, k⟩ := pr3c (fun l hl => by match l, hl with | [], _ => rfl | [_], _ => rfl | [_, _], _ => rfl | _ :: _ :: _ :: _ :: _, _ => rfl) h
  obtain ⟨i, j, l, rfl, rfl, rfl, rfl⟩ : ∃ i j l, a = .int i ∧ b = .int j ∧ c = .int l ∧ r = (false, .int (gr3 i j l)) := by
    cases a <;> cases b <;> cases c <;> first | (cases e; done) | (cases e; exact ⟨_, _, _, rfl, rfl, rfl, rfl⟩)
  cases oa.int; cases ob.int; cases oc.int
  exact call_max3 hc pins s σ H _ us Q I rr ⟨_, _, _, rfl, fin_flat J k (.int _)⟩
end
section
variable {g : GT} {X : Cx} {C : Nat → Addr} {Φ : CF} {k : Nat} {m : Cm}
theorem imp3 {p : Pr} {ca cb cc : Ex} {σ : L2.St} {H : Hp} {Q : VK} (h : tE X.K C Φ (.pr p (.cons ca (.cons cb (.cons cc .nil)))) σ H Q) : tO X.K C Φ ca σ H fun v H1 => tO X.K C Φ cb σ H1 fun w H2 => tO X.K C Φ cc σ H2 fun u H3 => PrS X.K C p [v, w, u] H3 Q :=
  tO_mono (fun v H1 q => tO_mono (fun w H2 q2 => tO_mono (fun u H3 q3 => tOs_nil q3) (tOs_cons q2)) (tOs_cons q)) (tOs_cons (tE_pr h))
def max3F (m : Cm) (p : Pr) : Expr → Option (List Expr)
  | .Call (.Name x _) [a, b, c] [] _ => match p with
    | .max3 => if decide (x = ("max" : Str)) && bltn m x then some [a, b, c] else none
    | _ => none
  | _ => none
theorem SE_max3 (G : Good g Φ C k m X) {p : Pr} {e : Expr} {es : List Expr} {cs : Exs} (h : max3F m p e = some es) (hs : SEs X C Φ es cs) : SE X C Φ e (.pr p cs) := by
  unfold max3F at h
  split at h
  · rename_i x pn a b c pos
    split at h
    · obtain ⟨n, he⟩ := ite_some0 h
      subst he
      obtain ⟨n1, n2⟩ := and_t n
      have hx : x = ("max" : Str) := of_decide_eq_true n1
      subst hx
      cases hs with | cons ha hs => cases hs with | cons hb hs => cases hs with | cons hc hs => cases hs with | nil =>
      obtain ⟨g1, g2, g3, g4⟩ := bltn_ok G n2
      refine SE.plain (PE.imp (pe_callB (call_max3P (C := C) G.calm) g1 g2 boot_maxB (pa_cons ha.o (pa_cons hb.o (pa_cons hc.o pa_nil (star_cons hc.ns _ _)) (star_cons hb.ns _ _)) (star_cons ha.ns _ _)) g4 g3 (star_cons ha.ns _ _) (star_none (fun e he => by
        rcases List.mem_cons.mp he with rfl | he
        · exact hb.ns
        · rw [List.mem_singleton.mp he]
          exact hc.ns) _ _)) fun σ H Q q => ?_) rfl rfl (fun _ z => by cases z)
      exact imp3 q
    · cases h
  · cases h
end
end G48

set_option maxHeartbeats 4000000
/-! Expressions, further. -/
namespace G48
open PySem L2
section
variable {g : GT} {X : Cx} {C : Nat → Addr} {Φ : CF} {k : Nat} {m : Cm}
/-- a text that stands for a value that doesn't change -/
theorem SE_const {e : Expr} {d : D} {v : V} (h : PE X e (tC v)) (r : ∀ F, Rep X.K F v d) (hb : isB e = false) (ns : noStar e = true) : SE X C Φ e (.lit d) :=
  SE.plain (PE.imp h fun σ H Q q => by
    obtain ⟨E, F, σd, r', σd', I, e', k⟩ := q
    cases e'
    exact k F H v I (Fle.refl F) (r F)) hb ns fun i z => by cases z
def isLit (g : GT) (m : Cm) (d : D) : Expr → Bool
  | .Constant c _ _ => litOk d c
  | .Name x _ => glb m x && g.consts.any fun p => decide (p.1 = x) && sameD p.2 d
  | _ => false
theorem sameD_eq {a b : D} (h : sameD a b = true) : a = b := by
  cases a <;> cases b <;> first | (cases h; done) | (have h : _ = true := h; simp [sameD] at h; rw [h])
theorem SE_lit (G : Good g Φ C k m X) {d : D} {e : Expr} (h : isLit g m d e = true) : SE X C Φ e (.lit d) := by
  cases e with
  | Constant c i p =>
    cases d <;> cases c <;> first | (cases h; done) | skip
    · exact SE_const pe_non (fun _ => .non) rfl rfl
    · simp [isLit, litOk] at h
      subst h
      exact SE_const pe_bl (fun _ => .bl _) rfl rfl
    · simp [isLit, litOk] at h
      subst h
      exact SE_const pe_int (fun _ => .int _) rfl rfl
    · simp [isLit, litOk] at h
      subst h
      exact SE_const pe_str (fun _ => .str _) rfl rfl
  | Name x p =>
    obtain ⟨h1, h2⟩ := and_t h
    obtain ⟨q, hq, h2⟩ := List.any_eq_true.mp h2
    obtain ⟨h2, h3⟩ := and_t h2
    have e1 : q.1 = x := of_decide_eq_true h2
    have e2 := sameD_eq h3
    obtain ⟨y, d'⟩ := q
    dsimp only at e1 e2
    subst e1 e2
    obtain ⟨v, u, a, b, c⟩ := G.consts _ _ hq
    obtain ⟨g1, g2⟩ := glb_ok G h1
    exact SE_const (pe_glob g1 a b g2) c rfl rfl
  | _ => cases h
theorem vis_ok {sc : Scope} {x : Str} (h : vis sc x = true) : sc.names.lookup x = some .local ∨ sc.names.lookup x = some .cell ∨ sc.names.lookup x = some .free := by
  unfold vis at h
  split at h
  · exact .inl (by assumption)
  · exact .inr (.inl (by assumption))
  · exact .inr (.inr (by assumption))
  · cases h
theorem SE_var (G : Good g Φ C k m X) {i : Nat} {e : Expr} (h : isVar m i e = true) : SE X C Φ e (.var i) := by
  cases e with
  | Name x p =>
    obtain ⟨h1, h2⟩ := and_t h
    obtain ⟨h2, h3⟩ := and_t h2
    obtain ⟨h3, h4⟩ := and_t h3
    have hN : X.N[i]? = some x := by rw [G.N]; exact of_decide_eq_true h1
    have hv : Vis X.env.scope x := by
      have := vis_ok h2
      rw [← G.sc] at this
      exact this
    have P : PE X (.Name x p) (tVar i) := pe_var hN hv (by simpa using h3) (by simpa using h4)
    have Q : PE X (.Name x p) (tE X.K C Φ (.var i)) := PE.imp P fun σ H Q q => by
      obtain ⟨E, F, σd, r, σd', I, e, k⟩ := q
      replace e : (match σd[i]? with
        | some (.va d) => some ((false, d), σd)
        | some (.ow d) => if d.isObj then none else some ((false, d), σd.set i (.va d))
        | _ => none) = some (r, σd') := e
      split at e
      · rename_i d hd
        cases e
        obtain ⟨o, h1, h2⟩ := I.slot hd
        cases h2 with
        | va r => exact ⟨_, h1, k F H _ I (Fle.refl F) r⟩
      · rename_i d hd
        split at e
        · cases e
        · rename_i no
          cases e
          obtain ⟨F', v, I', le, hv', rv, _⟩ := I.freeze hd fun c fs z => no (by rw [z]; rfl)
          exact ⟨v, hv', k F' H v I' le rv⟩
      · cases e
    exact ⟨Q, fun j e => by cases e; exact P, rfl, fun _ => pt_plain Q rfl, fun ⟨_, _, _, z⟩ => by cases z⟩
  | _ => cases h
theorem tVs_mono : ∀ {es : Exs} {K : PySem.W.Frag} {σ : L2.St} {H : Hp} {Q Q' : List V → Hp → Prop}, (∀ vs H, Q vs H → Q' vs H) → tVsR K C Φ es σ H Q → tVsR K C Φ es σ H Q'
  | .nil, _, _, _, _, _, k, h => k _ _ h
  | .cons e es, K, σ, H, Q, Q', k, h => tV_mono (Q := fun v H1 => tVsR K C Φ es σ H1 fun vs H2 => Q (v :: vs) H2) (fun v H1 q => tVs_mono (fun vs H2 q2 => k _ _ q2) q) h
theorem tOs_mono : ∀ {es : Exs} {K : PySem.W.Frag} {σ : L2.St} {H : Hp} {Q Q' : List V → Hp → Prop}, (∀ vs H, Q vs H → Q' vs H) → tOsR K C Φ es σ H Q → tOsR K C Φ es σ H Q'
  | .nil, _, _, _, _, _, k, h => k _ _ h
  | .cons e es, K, σ, H, Q, Q', k, h => tO_mono (Q := fun v H1 => tOsR K C Φ es σ H1 fun vs H2 => Q (v :: vs) H2) (fun v H1 q => tOs_mono (fun vs H2 q2 => k _ _ q2) q) h
/-- from a plain continuation of the state -/
theorem tVs_run {es : Exs} {K : PySem.W.Frag} {E : En} {F H : Hp} {σ : L2.St} {σd : S} {ds : List D} {σd' : S} {Q : List V → Hp → Prop} (I : SI K C E F H σ σd) (e : evs Φ es σd = some (ds, σd'))
    (k : ∀ F' H' vs, SI K C E F' H' σ σd' → Fle F F' → Reps K F' vs ds → Q vs H') : tVsR K C Φ es σ H Q := tVs_R ⟨E, F, σd, ds, σd', I, e, k⟩
theorem tOs_run {es : Exs} {K : PySem.W.Frag} {E : En} {F H : Hp} {σ : L2.St} {σd : S} {os : List Opd} {σd' : S} {Q : List V → Hp → Prop} (I : SI K C E F H σ σd) (e : evOs Φ es σd = some (os, σd'))
    (k : ∀ F' H' vs, SI K C E F' H' σ σd' → Fle F F' → OpRs K F' σ vs os → Q vs H') : tOsR K C Φ es σ H Q := tOs_R ⟨E, F, σd, os, σd', I, e, k⟩
theorem SE_tup {es : List Expr} {cs : Exs} {x1 pos} (hs : SEs X C Φ es cs) : SE X C Φ (.Tuple es x1 pos) (.tup cs) := by
  refine SE.plain (PE.imp (pe_tup hs.paV) fun σ H Q q => ?_) rfl rfl (fun _ z => by cases z)
  obtain ⟨E, F, σd, r, σd', I, e, k⟩ := q
  obtain ⟨ds, s, e1, e2⟩ := bnd_some e
  split at e2
  · rename_i hz
    cases e2
    refine tVs_run I e1 fun F' H' vs I' le rr => ⟨by rw [rr.len]; exact szOk_le hz, fun p hp => ?_⟩
    exact fin_tup I' (fun F2 H2 v I2 le2 w => k F2 H2 v I2 (le.trans le2) w) rr p hp
  · cases e2
theorem SE_lst {es : List Expr} {cs : Exs} {pos} (hs : SEs X C Φ es cs) : SE X C Φ (.List es pos) (.lst cs) := by
  refine SE.plain (PE.imp (pe_lst hs.paV) fun σ H Q q => ?_) rfl rfl (fun _ z => by cases z)
  obtain ⟨E, F, σd, r, σd', I, e, k⟩ := q
  obtain ⟨ds, s, e1, e2⟩ := bnd_some e
  split at e2
  · rename_i hz
    cases e2
    refine tVs_run I e1 fun F' H' vs I' le rr => ⟨by rw [rr.len]; exact szOk_le hz, fun p hp => ?_⟩
    exact fin_lst I' (fun F2 H2 v I2 le2 w => k F2 H2 v I2 (le.trans le2) w) rr p hp
  · cases e2
theorem SE_emp {t : Bool} {pos} : SE X C Φ (.Dict [] [] pos) (.emp t) := by
  cases t with
  | true =>
    refine SE.plain (PE.imp pe_dnewT fun σ H Q q p hp => ?_) rfl rfl (fun _ z => by cases z)
    obtain ⟨E, F, σd, r, σd', I, e, k⟩ := q
    cases e
    exact fin_dT I k .nil p hp
  | false =>
    refine SE.plain (PE.imp pe_dnewK fun σ H Q q p hp => ?_) rfl rfl (fun _ z => by cases z)
    obtain ⟨E, F, σd, r, σd', I, e, k⟩ := q
    cases e
    exact fin_dK I k .nil p hp
/-! not, and, or -/
theorem SE.pt {e : Expr} {c : Ex} (h : SE X C Φ e c) (n : notIf e = true) : PT X e (tT X.K C Φ c) := h.t n
theorem SE_not {a : Expr} {ca : Ex} {pos} (h : SE X C Φ a ca) (n : notIf a = true) : SE X C Φ (.UnaryOp .Not a pos) (.not ca) := by
  have inv : ∀ {σd : S} {r : Res} {σd' : S}, ev Φ (.not ca) σd = some (r, σd') → ∃ r1 b, ev Φ ca σd = some (r1, σd') ∧ r1.2 = .bl b ∧ r = (false, .bl (!b)) := fun {σd r σd'} e => by
    obtain ⟨r1, s, e1, e2⟩ := bnd_some e
    split at e2
    · rename_i b hb
      cases e2
      exact ⟨r1, b, e1, hb, rfl⟩
    · cases e2
  refine ⟨PE.imp (pe_not h.pe) fun σ H Q q => ?_, fun i z => (by cases z), rfl, fun _ => PT.imp (pt_not (h.t n)) fun σ H Q q => ?_, fun ⟨_, _, _, z⟩ => by cases z⟩
  · obtain ⟨E, F, σd, r, σd', I, e, k⟩ := q
    obtain ⟨r1, b, e1, e2, rfl⟩ := inv e
    refine ⟨E, F, σd, r1, σd', I, e1, fun F' H' v I' le w => ⟨b, ?_, k F' H' _ I' le (.bl _)⟩⟩
    obtain ⟨f, d⟩ := r1
    cases e2
    cases f with
    | false => cases w; rfl
    | true => cases w.1
  · obtain ⟨E, F, σd, b, σd', I, e, k⟩ := q
    obtain ⟨r, e1, e2⟩ := evT_of e
    obtain ⟨r1, b', e3, e4, rfl⟩ := inv e1
    cases e2
    refine ⟨E, F, σd, b', σd', I, ?_, fun F' H' I' le => k F' H' I' le⟩
    unfold evT
    rw [e3]
    obtain ⟨f, d⟩ := r1
    cases e4
    rfl
theorem and_inv {a b : Ex} {σd : S} {r : Res} {σd' : S} (e : ev Φ (.and a b) σd = some (r, σd')) : ∃ r1 s1 c, ev Φ a σd = some (r1, s1) ∧ r1.2 = .bl c ∧ ((c = true ∧ ev Φ b s1 = some (r, σd')) ∨ (c = false ∧ r = (false, .bl false) ∧ σd' = s1)) := by
  obtain ⟨r1, s, e1, e2⟩ := bnd_some e
  split at e2
  · rename_i hb
    exact ⟨r1, s, true, e1, hb, .inl ⟨rfl, e2⟩⟩
  · rename_i hb
    cases e2
    exact ⟨r1, _, false, e1, hb, .inr ⟨rfl, rfl, rfl⟩⟩
  · cases e2
theorem or_inv {a b : Ex} {σd : S} {r : Res} {σd' : S} (e : ev Φ (.or a b) σd = some (r, σd')) : ∃ r1 s1 c, ev Φ a σd = some (r1, s1) ∧ r1.2 = .bl c ∧ ((c = false ∧ ev Φ b s1 = some (r, σd')) ∨ (c = true ∧ r = (false, .bl true) ∧ σd' = s1)) := by
  obtain ⟨r1, s, e1, e2⟩ := bnd_some e
  split at e2
  · rename_i hb
    cases e2
    exact ⟨r1, _, true, e1, hb, .inr ⟨rfl, rfl, rfl⟩⟩
  · rename_i hb
    exact ⟨r1, s, false, e1, hb, .inl ⟨rfl, e2⟩⟩
  · cases e2
theorem bl_of {K : PySem.W.Frag} {E : En} {F H : Hp} {σ : L2.St} {σd : S} {v : V} {r : Res} {c : Bool} (w : ResR K C E F H σ σd v r) (h : r.2 = .bl c) : v = .bl c := by
  obtain ⟨f, d⟩ := r
  cases h
  cases f with
  | false => cases w; rfl
  | true => cases w.1
theorem evT_bl {a : Ex} {σd : S} {r1 : Res} {s1 : S} {c : Bool} (e : ev Φ a σd = some (r1, s1)) (h : r1.2 = .bl c) : evT Φ a σd = some (c, s1) := by
  unfold evT
  rw [e]
  obtain ⟨f, d⟩ := r1
  cases h
  rfl
theorem tAndV_of {ca cb : Ex} {σ : L2.St} {H : Hp} {Q : VK} (q : tE X.K C Φ (.and ca cb) σ H Q) : tAndV (tE X.K C Φ ca) (tE X.K C Φ cb) σ H Q := by
  obtain ⟨E, F, σd, r, σd', I, e, k⟩ := q
  obtain ⟨r1, s1, c, e1, e2, h⟩ := and_inv e
  refine ⟨E, F, σd, r1, s1, I, e1, fun F' H' v I' le w => ⟨c, bl_of w e2, ?_⟩⟩
  rcases h with ⟨rfl, e3⟩ | ⟨rfl, rfl, rfl⟩
  · exact ⟨E, F', s1, r, σd', I', e3, fun F2 H2 v2 I2 le2 w2 => k F2 H2 v2 I2 (le.trans le2) w2⟩
  · exact k F' H' _ I' le (.bl _)
theorem tOrV_of {ca cb : Ex} {σ : L2.St} {H : Hp} {Q : VK} (q : tE X.K C Φ (.or ca cb) σ H Q) : tOrV (tE X.K C Φ ca) (tE X.K C Φ cb) σ H Q := by
  obtain ⟨E, F, σd, r, σd', I, e, k⟩ := q
  obtain ⟨r1, s1, c, e1, e2, h⟩ := or_inv e
  refine ⟨E, F, σd, r1, s1, I, e1, fun F' H' v I' le w => ⟨c, bl_of w e2, ?_⟩⟩
  rcases h with ⟨rfl, e3⟩ | ⟨rfl, rfl, rfl⟩
  · exact ⟨E, F', s1, r, σd', I', e3, fun F2 H2 v2 I2 le2 w2 => k F2 H2 v2 I2 (le.trans le2) w2⟩
  · exact k F' H' _ I' le (.bl _)
theorem tAnd_of {ca cb : Ex} {σ : L2.St} {H : Hp} {Q : Bool → Hp → Prop} (q : tT X.K C Φ (.and ca cb) σ H Q) : tAnd (tT X.K C Φ ca) (tT X.K C Φ cb) σ H Q := by
  obtain ⟨E, F, σd, b, σd', I, e, k⟩ := q
  obtain ⟨r, e', e''⟩ := evT_of e
  obtain ⟨r1, s1, c, e1, e2, h⟩ := and_inv e'
  refine ⟨E, F, σd, c, s1, I, evT_bl e1 e2, fun F' H' I' le => ?_⟩
  rcases h with ⟨rfl, e3⟩ | ⟨rfl, rfl, rfl⟩
  · refine ⟨E, F', s1, b, σd', I', ?_, fun F2 H2 I2 le2 => k F2 H2 I2 (le.trans le2)⟩
    unfold evT
    rw [e3]
    show (match tru r.2 with | some b => some (b, σd') | none => none) = _
    rw [e'']
  · cases e''
    exact k F' H' I' le
theorem tOr_of {ca cb : Ex} {σ : L2.St} {H : Hp} {Q : Bool → Hp → Prop} (q : tT X.K C Φ (.or ca cb) σ H Q) : tOr (tT X.K C Φ ca) (tT X.K C Φ cb) σ H Q := by
  obtain ⟨E, F, σd, b, σd', I, e, k⟩ := q
  obtain ⟨r, e', e''⟩ := evT_of e
  obtain ⟨r1, s1, c, e1, e2, h⟩ := or_inv e'
  refine ⟨E, F, σd, c, s1, I, evT_bl e1 e2, fun F' H' I' le => ?_⟩
  rcases h with ⟨rfl, e3⟩ | ⟨rfl, rfl, rfl⟩
  · refine ⟨E, F', s1, b, σd', I', ?_, fun F2 H2 I2 le2 => k F2 H2 I2 (le.trans le2)⟩
    unfold evT
    rw [e3]
    show (match tru r.2 with | some b => some (b, σd') | none => none) = _
    rw [e'']
  · cases e''
    exact k F' H' I' le
/-- the rows of an and (or) -/
structure SB (X : Cx) (C : Nat → Addr) (Φ : CF) (op : BoolOp) (es : List Expr) (pos : Pos) (c : Ex) : Prop where
  pe : PE X (.BoolOp op es pos) (tE X.K C Φ c)
  w : PW X (.BoolOp op es pos) (tT X.K C Φ c)
end
end G48

set_option maxHeartbeats 4000000
/-! Expressions, further: and, or, if, chains, slices, fields. -/
namespace G48
open PySem L2
section
variable {g : GT} {X : Cx} {C : Nat → Addr} {Φ : CF} {k : Nat} {m : Cm}
theorem SB.se {op : BoolOp} {es : List Expr} {pos : Pos} {c : Ex} (h : SB X C Φ op es pos c) (v : ∀ i, c ≠ .var i) : SE X C Φ (.BoolOp op es pos) c :=
  ⟨h.pe, fun i e => absurd e (v i), rfl, fun _ => h.w.pt, fun _ => h.w⟩
theorem SB_and2 {a b : Expr} {ca cb : Ex} {pos : Pos} (ha : SE X C Φ a ca) (hb : SE X C Φ b cb) (na : notIf a = true) (nb : notIf b = true) : SB X C Φ .And [a, b] pos (.and ca cb) :=
  ⟨PE.imp (pe_and ha.pe (pe_one hb.pe)) fun _ _ _ q => tAndV_of q, ⟨fun wh pins s σ H Q I q => (pw_and (ha.t na) (pw_and1 (hb.t nb))).run wh pins s σ H Q I (tAnd_of q)⟩⟩
theorem SB_andC {a b : Expr} {es : List Expr} {ca cb : Ex} {pos : Pos} (ha : SE X C Φ a ca) (hb : SB X C Φ .And (b :: es) pos cb) (na : notIf a = true) : SB X C Φ .And (a :: b :: es) pos (.and ca cb) :=
  ⟨PE.imp (pe_and ha.pe hb.pe) fun _ _ _ q => tAndV_of q, ⟨fun wh pins s σ H Q I q => (pw_and (ha.t na) hb.w).run wh pins s σ H Q I (tAnd_of q)⟩⟩
theorem SB_or2 {a b : Expr} {ca cb : Ex} {pos : Pos} (ha : SE X C Φ a ca) (hb : SE X C Φ b cb) (na : notIf a = true) (nb : notIf b = true) : SB X C Φ .Or [a, b] pos (.or ca cb) :=
  ⟨PE.imp (pe_or ha.pe (pe_one hb.pe)) fun _ _ _ q => tOrV_of q, ⟨fun wh pins s σ H Q I q => (pw_or (ha.t na) (pw_or1 (hb.t nb))).run wh pins s σ H Q I (tOr_of q)⟩⟩
theorem SB_orC {a b : Expr} {es : List Expr} {ca cb : Ex} {pos : Pos} (ha : SE X C Φ a ca) (hb : SB X C Φ .Or (b :: es) pos cb) (na : notIf a = true) : SB X C Φ .Or (a :: b :: es) pos (.or ca cb) :=
  ⟨PE.imp (pe_or ha.pe hb.pe) fun _ _ _ q => tOrV_of q, ⟨fun wh pins s σ H Q I q => (pw_or (ha.t na) hb.w).run wh pins s σ H Q I (tOr_of q)⟩⟩
theorem tru_evT {c : Ex} {σd : S} {r : Res} {s1 : S} {b : Bool} (e : ev Φ c σd = some (r, s1)) (h : tru r.2 = some b) : evT Φ c σd = some (b, s1) := by
  unfold evT
  rw [e]
  show (match tru r.2 with | some b => some (b, s1) | none => none) = _
  rw [h]
theorem SE_ife {t a b : Expr} {ct ca cb : Ex} {pos : Pos} (ht : SE X C Φ t ct) (ha : SE X C Φ a ca) (hb : SE X C Φ b cb) (nt : notIf t = true) : SE X C Φ (.IfExp t a b pos) (.ife ct ca cb) := by
  refine ⟨PE.imp (pe_ifExp (ht.t nt) ha.pe hb.pe) fun σ H Q q => ?_, fun i z => (by cases z), rfl, fun z => (by cases z), fun ⟨_, _, _, z⟩ => by cases z⟩
  obtain ⟨E, F, σd, r, σd', I, e, k⟩ := q
  obtain ⟨r1, s1, e1, e2⟩ := bnd_some e
  split at e2
  · rename_i h
    exact ⟨E, F, σd, true, s1, I, tru_evT e1 h, fun F' H' I' le => ⟨E, F', s1, r, σd', I', e2, fun F2 H2 v I2 le2 w => k F2 H2 v I2 (le.trans le2) w⟩⟩
  · rename_i h
    exact ⟨E, F, σd, false, s1, I, tru_evT e1 h, fun F' H' I' le => ⟨E, F', s1, r, σd', I', e2, fun F2 H2 v I2 le2 w => k F2 H2 v I2 (le.trans le2) w⟩⟩
  · cases e2
/-! a < b < c -/
theorem PrS_of {p : Pr} {E : En} {F H : Hp} {σ : L2.St} {σd : S} {x y : V} {a b : D} {r : Res} {Q : VK} (I : SI X.K C E F H σ σd) (ra : Rep X.K F x a) (rb : Rep X.K F y b) (e : prD p [a, b] = some r)
    (k : ∀ F' H' v, SI X.K C E F' H' σ σd → Fle F F' → ResR X.K C E F' H' σ σd v r → Q v H') : PrS X.K C p [x, y] H Q :=
  ⟨E, F, σ, σd, [a, b], r, I, .cons (.inl ra) (.cons (.inl rb) .nil), e, k⟩
theorem SE_ch (hu : X.A.units + 64 < cLine) {p q : Pr} {op op' : CmpOp} {a b c : Expr} {ca cb cc : Ex} {pos : Pos} (h1 : prCmp p op = true) (h2 : prCmp q op' = true) (n : notSet c = true) (ha : SE X C Φ a ca) (hb : SE X C Φ b cb) (hc : SE X C Φ c cc) :
    SE X C Φ (.Compare a [op, op'] [b, c] pos) (.ch p q ca cb cc) := by
  have hm : lastMarks [op, op'] [b, c] = false := noMark n op'
  have imp : ∀ σ H Q, tE X.K C Φ (.ch p q ca cb cc) σ H Q → tChain (R2P X C p) (R2P X C q) (tV X.K C Φ ca) (tV X.K C Φ cb) (tV X.K C Φ cc) σ H Q := by
    intro σ H Q h
    obtain ⟨E, F, σd, r, σd', I, e, k⟩ := h
    obtain ⟨x, s1, e1, e⟩ := bnd_some e
    obtain ⟨y, s2, e2, e⟩ := bnd_some e
    refine ⟨E, F, σd, x, s1, I, e1, fun F1 H1 v I1 le1 rx => ⟨E, F1, s1, y, s2, I1, e2, fun F2 H2 w I2 le2 ry => ?_⟩⟩
    cases hp : prD p [x, y] with
    | none => rw [hp] at e; cases e
    | some t =>
      rw [hp] at e
      obtain ⟨bb, rfl⟩ := prBl_ok (cmp_bl h1) hp
      refine PrS_of I2 (rx.mono le2) ry hp fun F3 H3 u I3 le3 wu => ?_
      cases (show Rep X.K F3 u (.bl bb) from wu)
      refine ⟨bb, rfl, ?_⟩
      cases bb with
      | true =>
        obtain ⟨z, s3, e3, e⟩ := bnd_some e
        refine ⟨E, F3, s2, z, s3, I3, e3, fun F4 H4 u I4 le4 rz => ?_⟩
        cases hq : prD q [y, z] with
        | none => rw [hq] at e; cases e
        | some t' =>
          rw [hq] at e
          obtain ⟨b2, rfl⟩ := prBl_ok (cmp_bl h2) hq
          cases e
          exact PrS_of I4 (ry.mono (le3.trans le4)) rz hq fun F5 H5 u I5 le5 w5 => k F5 H5 u I5 (le1.trans (le2.trans (le3.trans (le4.trans le5)))) w5
      | false =>
        cases e
        exact k F3 H3 _ I3 (le1.trans (le2.trans le3)) (.bl _)
  refine SE.cmp (pe_chain (cmp_ok hu h1) (cmp_ok hu h2) ha.val hb.val hc.val hm) (pt_chain (cmp_ok hu h1) (cmp_ok hu h2) ha.val hb.val hc.val hm) imp ?_ rfl (fun _ _ _ z => by cases z) (fun _ z => by cases z)
  intro σd r σd' e
  obtain ⟨x, s1, e1, e⟩ := bnd_some e
  obtain ⟨y, s2, e2, e⟩ := bnd_some e
  split at e
  · obtain ⟨z, s3, e3, e⟩ := bnd_some e
    split at e
    · cases e; exact ⟨_, rfl⟩
    · cases e
  · cases e; exact ⟨_, rfl⟩
  · cases e
/-! slices -/
theorem fetch1 {s : S} {o : Opd} {d : D} (h : fetch s o = some d) : fetchs s [o] = some [d] := by
  unfold fetchs
  rw [h]
  rfl
theorem OR1_of {K : PySem.W.Frag} {E : En} {F H : Hp} {σ : L2.St} {σd : S} (I : SI K C E F H σ σd) {v : V} {o : Opd} {d : D} (h : OpRs K F σ [v] [o]) (e : fetch σd o = some d) : OR K C F H v d := by
  cases ORs_of I h (fetch1 e) with
  | cons a _ => exact a
def slForm (lo hi : Option Expr) : Option (Bool × Bool × List Expr) := match lo, hi with
  | none, none => some (false, false, [])
  | some l, none => some (true, false, [l])
  | none, some h => some (false, true, [h])
  | some l, some h => some (true, true, [l, h])
theorem sli_inv {lo hi : Bool} {a : Ex} {es : Exs} {σd : S} {r : Res} {σd' : S} (e : ev Φ (.sli lo hi a es) σd = some (r, σd')) : ∃ o s1 ds d l h, opd a σd (bnd (ev Φ a σd) vl) = some (o, s1) ∧ evs Φ es s1 = some (ds, σd') ∧ fetch σd' o = some d ∧ slArgs lo hi ds = some (l, h) ∧ pSl d l h = some r := by
  obtain ⟨o, s1, e1, e⟩ := bnd_some e
  obtain ⟨ds, s2, e2, e⟩ := bnd_some e
  cases f : fetch s2 o with
  | none => rw [f] at e; cases e
  | some d =>
    rw [f] at e
    cases gg : slArgs lo hi ds with
    | none => rw [gg] at e; cases e
    | some lh =>
      obtain ⟨l, h⟩ := lh
      rw [gg] at e
      cases q : pSl d l h with
      | none => dsimp only at e; rw [q] at e; cases e
      | some r' => dsimp only at e; rw [q] at e; cases e; exact ⟨o, s1, ds, d, l, h, e1, e2, f, gg, q⟩
theorem SE_sli {a : Expr} {ca : Ex} {p2 pos : Pos} {lo hi : Option Expr} {cs : Exs} {bl bh : Bool} {es : List Expr} (hf : slForm lo hi = some (bl, bh, es)) (ha : SE X C Φ a ca) (hs : SEs X C Φ es cs) :
    SE X C Φ (.Subscript a (.Slice lo hi none p2) pos) (.sli bl bh ca cs) := by
  have fin : ∀ {E : En} {F F1 F' H' : Hp} {σ : L2.St} {σd σd' : S} {v : V} {o : Opd} {d : D} {l h : Option Int} {r : Res} {Q : VK}, SI X.K C E F' H' σ σd' → OpRs X.K F1 σ [v] [o] → Fle F F1 → Fle F1 F' → fetch σd' o = some d → pSl d l h = some r →
      (∀ F' H' v, SI X.K C E F' H' σ σd' → Fle F F' → ResR X.K C E F' H' σ σd' v r → Q v H') → rSlP X C v l h H' Q := fun {E F F1 F' H' σ σd σd' v o d l h r Q} I' ro le le2 ef ep k =>
    ⟨E, F', σ, σd', d, r, I', OR1_of I' (ro.mono le2) ef, ep, fun F2 H2 v2 I2 le3 w => k F2 H2 v2 I2 (le.trans (le2.trans le3)) w⟩
  unfold slForm at hf
  split at hf
  · cases hf
    cases hs
    refine SE.plain (PE.imp (pe_slice (sl_P (C := C)) ha.o po_none po_none) fun σ H Q q => ?_) rfl rfl (fun _ z => by cases z)
    obtain ⟨E, F, σd, r, σd', I, e, k⟩ := q
    obtain ⟨o, s1, ds, d, l, h, e1, e2, ef, es, ep⟩ := sli_inv e
    cases e2
    cases es
    exact tO_of I e1 fun F1 H1 v I1 le1 ro => fin (σd := σd) I1 ro le1 (Fle.refl _) ef ep k
  · cases hf
    cases hs with | cons b hs => cases hs with | nil =>
    rename_i cl
    refine SE.plain (PE.imp (pe_slice (sl_P (C := C)) ha.o (po_some b.val) po_none) fun σ H Q q => ?_) rfl rfl (fun _ z => by cases z)
    obtain ⟨E, F, σd, r, σd', I, e, k⟩ := q
    obtain ⟨o, s1, ds, d, l, h, e1, e2, ef, es, ep⟩ := sli_inv e
    obtain ⟨d1, s2, e3, e2⟩ := bnd_some e2
    cases e2
    cases d1 <;> first | (cases es; done) | skip
    cases es
    refine tO_of I e1 fun F1 H1 v I1 le1 ro => ⟨E, F1, s1, _, _, I1, e3, fun F2 H2 w I2 le2 rw' => ?_⟩
    cases rw'
    exact ⟨_, rfl, fin (σd := σd) I2 ro le1 le2 ef ep k⟩
  · cases hf
    cases hs with | cons b hs => cases hs with | nil =>
    rename_i cl
    refine SE.plain (PE.imp (pe_slice (sl_P (C := C)) ha.o po_none (po_some b.val)) fun σ H Q q => ?_) rfl rfl (fun _ z => by cases z)
    obtain ⟨E, F, σd, r, σd', I, e, k⟩ := q
    obtain ⟨o, s1, ds, d, l, h, e1, e2, ef, es, ep⟩ := sli_inv e
    obtain ⟨d1, s2, e3, e2⟩ := bnd_some e2
    cases e2
    cases d1 <;> first | (cases es; done) | skip
    cases es
    refine tO_of I e1 fun F1 H1 v I1 le1 ro => ⟨E, F1, s1, _, _, I1, e3, fun F2 H2 w I2 le2 rw' => ?_⟩
    cases rw'
    exact ⟨_, rfl, fin (σd := σd) I2 ro le1 le2 ef ep k⟩
  · cases hf
    cases hs with | cons b hs => cases hs with | cons b2 hs => cases hs with | nil =>
    refine SE.plain (PE.imp (pe_slice (sl_P (C := C)) ha.o (po_some b.val) (po_some b2.val)) fun σ H Q q => ?_) rfl rfl (fun _ z => by cases z)
    obtain ⟨E, F, σd, r, σd', I, e, k⟩ := q
    obtain ⟨o, s1, ds, d, l, h, e1, e2, ef, es, ep⟩ := sli_inv e
    obtain ⟨d1, s2, e3, e2⟩ := bnd_some e2
    obtain ⟨ds', s3, e4, e2⟩ := bnd_some e2
    cases e2
    obtain ⟨d2, s4, e5, e4⟩ := bnd_some e4
    cases e4
    cases d1 <;> first | (cases es; done) | skip
    cases d2 <;> first | (cases es; done) | skip
    cases es
    refine tO_of I e1 fun F1 H1 v I1 le1 ro => ⟨E, F1, s1, _, s2, I1, e3, fun F2 H2 w I2 le2 rw' => ?_⟩
    cases rw'
    refine ⟨_, rfl, E, F2, s2, _, _, I2, e5, fun F3 H3 w I3 le3 rw'' => ?_⟩
    cases rw''
    exact ⟨_, rfl, fin (σd := σd) I3 ro le1 (le2.trans le3) ef ep k⟩
/-! fields -/
theorem RepO.get {K : PySem.W.Frag} {F : Hp} {x : Str} : ∀ {fv : List (Str × V)} {fd : List (Str × D)} {d : D}, RepO K F fv fd → fd.lookup x = some d → ∃ v, fv.lookup x = some v ∧ Rep K F v d
  | _, _, _, .nil, e => by cases e
  | _, _, d, .cons (k := k') (v := v) (vs := vs) (d := d') (ds := ds) a b, e => by
    rw [List.lookup_cons] at e ⊢
    cases hb : x == k' with
    | true => rw [hb] at e; cases e; exact ⟨v, rfl, a⟩
    | false => rw [hb] at e; exact RepO.get b e
theorem RepO.none {K : PySem.W.Frag} {F : Hp} {x : Str} : ∀ {fv : List (Str × V)} {fd : List (Str × D)}, RepO K F fv fd → fd.lookup x = none → fv.lookup x = none
  | _, _, .nil, e => rfl
  | _, _, .cons (k := k') (v := v) (vs := vs) (d := d') (ds := ds) a b, e => by
    rw [List.lookup_cons] at e ⊢
    cases hb : x == k' with
    | true => rw [hb] at e; cases e
    | false => rw [hb] at e; exact RepO.none b e
theorem RepO.len {K : PySem.W.Frag} {F : Hp} : ∀ {fv : List (Str × V)} {fd : List (Str × D)}, RepO K F fv fd → fv.length = fd.length
  | _, _, .nil => rfl
  | _, _, .cons _ b => congrArg (· + 1) b.len
theorem SI.objAt {E : En} {F H : Hp} {σ : L2.St} {σd : S} {K : PySem.W.Frag} (I : SI K C E F H σ σd) {i c : Nat} {fs : List (Str × D)} (h : G48.fetch σd (.inl i) = some (.obj c fs)) :
    ∃ l dx fv, σ[i]? = some (some (.ref l)) ∧ H l = some (.ins (C c) dx fv) ∧ RepO K F fv fs := by
  obtain ⟨v, h1, h2⟩ := I.fetch h
  rcases h2 with h2 | h2
  · cases h2
  · cases h2 with
    | obj a b r => exact ⟨_, _, _, h1, b, r⟩
theorem SE_fld (G : Good g Φ C k m X) {i : Nat} {x : Str} {e : Expr} {pos : Pos} (h : isVar m i e = true) (hx : x ∈ g.flds) : SE X C Φ (.Attribute e x pos) (.fld i x) := by
  have hb : attributeBase e x X.env (eval e X.env) = eval e X.env := by
    cases e with
    | Name y p => rfl
    | _ => cases h
  refine SE.plain (PE.imp (pe_fld ((SE_var G h).v i rfl) hb) fun σ H Q q => ?_) rfl rfl (fun _ z => by cases z)
  obtain ⟨E, F, σd, r, σd', I, e', k⟩ := q
  replace e' : (match fetch σd (.inl i) with
    | some (.obj _ fs) => (match fs.lookup x with
      | some d => some (((false, d) : Res), σd)
      | none => none)
    | _ => none) = some (r, σd') := e'
  split at e'
  · rename_i c fs hf
    split at e'
    · rename_i d hd
      cases e'
      obtain ⟨l, dx, fv, h1, h2, h3⟩ := I.objAt hf
      obtain ⟨v, h4, h5⟩ := h3.get hd
      obtain ⟨hc, hn⟩ := G.flds c x hx
      exact ⟨_, h1, l, C c, dx, fv, v, rfl, h2, hc, hn, h4, k F H v I (Fle.refl F) h5⟩
    · cases e'
  · cases e'
end
end G48

set_option maxHeartbeats 1000000
/-! zip of a text (of plain signs) and a tuple. -/
namespace G48
open PySem RZ
open PySem.Sem (wp)
section
variable {prog : Program} {w : World} {A : Around} {E : Value → Shared → Prop} {s : Shared}
theorem nextOf_str_item {it : Addr} {x : Str} {t : Tok} {i c : Nat} {Q : Value → Shared → Prop} (hit : s.heap.IsStrIter it "str_ascii_iterator" x t i) (hx : x.cps[i]? = some c)
    (hQ : ∀ h', h'.IsStrIter it "str_ascii_iterator" x t (i + 1) → Heap.SameBut it s.heap h' → Q (.str ⟨#[c]⟩ s.toks) { s with heap := h', toks := s.toks + 1 }) :
    wpAny (model prog w) A (Builtin.SmallTypes.nextOf (.ref it)) Q E s := by
  obtain ⟨o, ho, hc, hd⟩ := id hit
  unfold Builtin.SmallTypes.nextOf
  refine wpAny_bind (wpAny_callSpecial?_slot (name := Str.ofString "__next__") hit.typeIs F.slot_str_ascii_iterator_next
    (wpAny_call_entry F.slot_str_ascii_iterator_next hit.typeIs F.entry_str_ascii_iterator_next ?_ (F.args_str_ascii_iterator_next_1 _)))
  show wpAny _ _ (field (.ref it) 0 >>= _) _ _ s
  refine wpAny_bind (wpAny_field ho hd (x := .str x t) rfl ?_)
  show wpAny _ _ (field (.ref it) 1 >>= _) _ _ s
  refine wpAny_bind (wpAny_field ho hd (x := .int i 0) rfl ?_)
  simp only [Int.toNat_natCast, hx]
  refine wpAny_bind (wpAny_setField ho hd (by simp) (wpAny_bind (wpAny_mkStr (wpAny_pure ⟨_, rfl, wpAny_pure (hQ _ ?_ (Heap.SameBut.update ..))⟩) (by show 1 ≤ sizeLine; decide))))
  exact ⟨_, Heap.get?_update_self _ ho (Obj.isFreed_of_fields (Obj.data_mapFields hd _)), (Obj.cls_mapFields ..).trans hc, by
    rw [Obj.data_mapFields hd]; simp [rawInt]⟩
theorem nextOf_str_end {it : Addr} {x : Str} {t : Tok} {i : Nat} {Q : Value → Shared → Prop} (hh : A.handled = none)
    (hit : s.heap.IsStrIter it "str_ascii_iterator" x t i) (hx : x.cps[i]? = none)
    (hE : ∀ h' e, Heap.ExtBut it s.heap h' → (∃ o, h'.get? e = some o ∧ o.cls = .type "StopIteration") → E (.ref e) { s with heap := h' }) :
    wpAny (model prog w) A (Builtin.SmallTypes.nextOf (.ref it)) Q E s := by
  obtain ⟨o, ho, hc, hd⟩ := id hit
  unfold Builtin.SmallTypes.nextOf
  refine wpAny_bind (wpAny_callSpecial?_slot (name := Str.ofString "__next__") hit.typeIs F.slot_str_ascii_iterator_next
    (wpAny_call_entry F.slot_str_ascii_iterator_next hit.typeIs F.entry_str_ascii_iterator_next ?_ (F.args_str_ascii_iterator_next_1 _)))
  show wpAny _ _ (field (.ref it) 0 >>= _) _ _ s
  refine wpAny_bind (wpAny_field ho hd (x := .str x t) rfl ?_)
  show wpAny _ _ (field (.ref it) 1 >>= _) _ _ s
  refine wpAny_bind (wpAny_field ho hd (x := .int i 0) rfl ?_)
  simp only [Int.toNat_natCast, hx]
  refine wpAny_bind (wpAny_rule (wpAny_bind (wpAny_setField ho hd (by simp) (wpAny_bind (wpAny_letGo ?_)))))
  show wpAny _ _ (newExc (.type "StopIteration") [] >>= _) _ _ _
  refine wpAny_bind ?_
  simp only [newExc, newTuple]
  refine wpAny_bind (wpAny_newObj_type ?_ (by size_fits))
  refine wpAny_bind (m := firstArgMember _ _) (wpAny_of_eq (a := Value.none) (by first | rfl | (simp only [firstArgMember]; rfl)) ?_)
  refine wpAny_newObj_type ?_ (by size_fits)
  simp only [raiseNew]
  refine wpAny_bind (wpAny_handled ?_)
  first | rw [show A.in1.handled = none from hh] | rw [hh]
  refine wpAny_bind (wpAny_pure (wpAny_throw ?_))
  exact hE _ _ (((Heap.SameBut.update ..).extBut.push _).push _) ⟨_, Heap.get?_push_size _ rfl, rfl⟩
theorem zipS_next_item {z TI TO i1 i2 l2 : Addr} {zs : Str} {zt : Tok} {c0 k1 k2 : Nat} {ys : Array Value} {y a b : Value} {Q : Value → Shared → Prop} (D : ZipApart z TI TO i1 i2 l2 l2)
    (hz : IsZip s.heap z TI TO .none) (hTI : IsPair s.heap TI (.ref i1) (.ref i2)) (hTO : IsPair s.heap TO a b)
    (h1 : s.heap.IsStrIter i1 "str_ascii_iterator" zs zt k1) (h2 : s.heap.IsTupleIter i2 l2 k2) (hl2 : s.heap.IsTuple l2 ys) (hx : zs.cps[k1]? = some c0) (hy : ys[k2]? = some y)
    (hQ : ∀ h', IsZip h' z TI TO (rawInt s.heap.objs.size) → IsPair h' TO (.str ⟨#[c0]⟩ s.toks) y → h'.IsStrIter i1 "str_ascii_iterator" zs zt (k1 + 1) → h'.IsTupleIter i2 l2 (k2 + 1) → IsPair h' s.heap.objs.size (.str ⟨#[c0]⟩ s.toks) y → h'.objs.size = s.heap.objs.size + 1 →
      (∀ c o, c ≠ z → c ≠ TO → c ≠ i1 → c ≠ i2 → s.heap.get? c = some o → h'.get? c = some o) → Q (.ref s.heap.objs.size) { s with heap := h', toks := s.toks + 1 }) :
    wpAny (model prog w) A (Builtin.«zip.__next__» ⟨[.ref z], []⟩) (fun fin s' => ∃ v, fin = .done (.ret v) ∧ Q v s') E s := by
  show wpAny _ _ (field (.ref z) 2 >>= _) _ _ _
  refine wpAny_bind (wpAny_field hz rfl (x := .bool false) rfl ?_)
  show wpAny _ _ (field (.ref z) 3 >>= _) _ _ _
  refine wpAny_bind (wpAny_field hz rfl (x := .ref TI) rfl ?_)
  refine wpAny_bind (wpAny_seqItems hTI rfl ?_)
  show wpAny _ _ (Builtin.SmallTypes.ownedTupleIsFree (.ref z) >>= _) _ _ _
  refine wpAny_bind ?_
  unfold Builtin.SmallTypes.ownedTupleIsFree
  refine wpAny_bind (wpAny_field hz rfl (x := .none) rfl (wpAny_pure ?_))
  simp only [if_true]
  refine wpAny_bind (wpAny_rule ?_)
  refine wpAny_bind (wpAny_field hz rfl (x := .ref TO) rfl ?_)
  refine wpAny_bind (wpAny_setField_rec hz (by simp) fun h₁ hz₁ hs₁ => ?_)
  replace hz₁ : IsZip h₁ z TI TO .ellipsis := hz₁
  refine wpAny_bind ?_
  simp only [List.zipIdx_cons, List.zipIdx_nil, List.forIn_cons, List.forIn_nil]

  refine wpAny_bind (wpAny_bind (wpAny_onRaise ?_))
  show wpAny _ _ (Builtin.SmallTypes.nextOf (.ref i1) >>= _) _ _ _
  refine wpAny_bind (nextOf_str_item (h1.extBut hs₁.extBut D.i1z) hx fun h₂ h1₂ hs₂ => wpAny_pure ?_)
  have hTO₂ : IsPair h₂ TO a b := hs₂.extBut _ _ D.TOi1 (hs₁.extBut _ _ D.TOz hTO)
  refine wpAny_bind (wpAny_seqItems hTO₂ rfl ?_)
  refine wpAny_bind (wpAny_updateSeq_pair hTO₂ fun h₃ hTO₃ hs₃ => ?_)
  replace hTO₃ : IsPair h₃ TO (.str ⟨#[c0]⟩ s.toks) b := hTO₃
  refine wpAny_bind (wpAny_letGo (wpAny_pure ?_))

  refine wpAny_bind (wpAny_bind (wpAny_onRaise ?_))
  show wpAny _ _ (Builtin.SmallTypes.nextOf (.ref i2) >>= _) _ _ _
  refine wpAny_bind (nextOf_tuple_item (((h2.extBut hs₁.extBut D.i2z).extBut hs₂.extBut D.i12.symm).extBut hs₃.extBut D.TOi2.symm)
    (((hl2.extBut hs₁.extBut D.l2z).extBut hs₂.extBut D.l2i1).extBut hs₃.extBut D.l2TO) hy fun h₄ h2₄ hs₄ => wpAny_pure ?_)
  have hTO₄ : IsPair h₄ TO (.str ⟨#[c0]⟩ s.toks) b := hs₄.extBut _ _ D.TOi2 hTO₃
  refine wpAny_bind (wpAny_seqItems hTO₄ rfl ?_)
  refine wpAny_bind (wpAny_updateSeq_pair hTO₄ fun h₅ hTO₅ hs₅ => ?_)
  replace hTO₅ : IsPair h₅ TO (.str ⟨#[c0]⟩ s.toks) y := hTO₅
  refine wpAny_bind (wpAny_letGo (wpAny_pure (wpAny_pure ?_)))

  refine wpAny_bind (wpAny_seqItems hTO₅ rfl ?_)
  refine wpAny_bind (wpAny_newTuple ?_)
  have hsz : h₅.objs.size = s.heap.objs.size := by rw [hs₅.1, hs₄.1, hs₃.1, hs₂.1, hs₁.1]
  have hz₅ : IsZip h₅ z TI TO .ellipsis := hs₅.extBut _ _ D.TOz.symm (hs₄.extBut _ _ D.i2z.symm (hs₃.extBut _ _ D.TOz.symm (hs₂.extBut _ _ D.i1z.symm hz₁)))
  have hk₅ : ∀ c o, c ≠ z → c ≠ TO → c ≠ i1 → c ≠ i2 → s.heap.get? c = some o → h₅.get? c = some o := fun c o c1 c2 c3 c4 e =>
    hs₅.extBut _ _ c2 (hs₄.extBut _ _ c4 (hs₃.extBut _ _ c2 (hs₂.extBut _ _ c3 (hs₁.extBut _ _ c1 e))))
  have h1₅ : h₅.IsStrIter i1 "str_ascii_iterator" zs zt (k1 + 1) := ((h1₂.extBut hs₃.extBut D.TOi1.symm).extBut hs₄.extBut D.i12).extBut hs₅.extBut D.TOi1.symm
  have h2₅ : h₅.IsTupleIter i2 l2 (k2 + 1) := h2₄.extBut hs₅.extBut D.TOi2.symm
  have hzlt : z < h₅.objs.size := Heap.lt_size hz₅
  have hTOlt : TO < h₅.objs.size := Heap.lt_size hTO₅
  have hi1lt : i1 < h₅.objs.size := by obtain ⟨_, e, _⟩ := h1₅; exact Heap.lt_size e
  have hi2lt : i2 < h₅.objs.size := by obtain ⟨_, e, _⟩ := h2₅; exact Heap.lt_size e
  show wpAny _ _ (Builtin.SmallTypes.ownedTupleHandOut (.ref z) (.ref h₅.objs.size) >>= _) _ _ _
  refine wpAny_bind ?_
  unfold Builtin.SmallTypes.ownedTupleHandOut
  have hz₆ : IsZip (h₅.push { cls := .type "tuple", data := .seq #[.str ⟨#[c0]⟩ s.toks, y] }) z TI TO .ellipsis := Heap.get?_push_of_some _ hz₅
  refine wpAny_bind (wpAny_setField_rec hz₆ (by simp) fun h₇ hz₇ hs₇ => ?_)
  replace hz₇ : IsZip h₇ z TI TO (rawInt h₅.objs.size) := hz₇
  refine wpAny_setField_rec hz₇ (by simp) fun h₈ hz₈ hs₈ => ?_
  replace hz₈ : IsZip h₈ z TI TO (rawInt h₅.objs.size) := hz₈
  have up : ∀ c o, c ≠ z → h₅.get? c = some o → h₈.get? c = some o := fun c o c1 e => hs₈.extBut _ _ c1 (hs₇.extBut _ _ c1 (Heap.get?_push_of_some _ e))
  have hT₈ : IsPair h₈ h₅.objs.size (.str ⟨#[c0]⟩ s.toks) y := hs₈.extBut _ _ (Nat.ne_of_gt hzlt) (hs₇.extBut _ _ (Nat.ne_of_gt hzlt) (Heap.get?_push_size _ rfl))
  have hz8 : h₈.objs.size = h₅.objs.size + 1 := by rw [hs₈.1, hs₇.1, Heap.size_push]
  rw [hsz] at hz₈ hT₈ hz8
  refine wpAny_pure ⟨_, rfl, ?_⟩
  show Q (.ref h₅.objs.size) _
  rw [hsz]
  exact hQ h₈ hz₈ (up _ _ D.TOz hTO₅) (let ⟨o, e, r⟩ := h1₅; ⟨o, up _ o D.i1z e, r⟩) (h2₅.at fun o e => up _ o D.i2z e) hT₈ hz8 fun c o c1 c2 c3 c4 e => up c o c1 (hk₅ c o c1 c2 c3 c4 e)

theorem zipS_next_end {z TI TO i1 i2 l2 : Addr} {zs : Str} {zt : Tok} {k1 k2 : Nat} {ys : Array Value} {a b : Value} {Q : PySem.Fin → Shared → Prop} (hh : A.handled = none) (D : ZipApart z TI TO i1 i2 l2 l2)
    (hz : IsZip s.heap z TI TO .none) (hTI : IsPair s.heap TI (.ref i1) (.ref i2)) (hTO : IsPair s.heap TO a b)
    (h1 : s.heap.IsStrIter i1 "str_ascii_iterator" zs zt k1) (h2 : s.heap.IsTupleIter i2 l2 k2) (hl2 : s.heap.IsTuple l2 ys) (hend : zs.cps[k1]? = none ∨ ys[k2]? = none)
    (hE : ∀ h' e, (∀ c o, c ≠ z → c ≠ TO → c ≠ i1 → c ≠ i2 → s.heap.get? c = some o → h'.get? c = some o) → (∃ o, h'.get? e = some o ∧ o.cls = .type "StopIteration") → ∀ tk, E (.ref e) { s with heap := h', toks := tk }) :
    wpAny (model prog w) A (Builtin.«zip.__next__» ⟨[.ref z], []⟩) Q E s := by
  show wpAny _ _ (field (.ref z) 2 >>= _) _ _ _
  refine wpAny_bind (wpAny_field hz rfl (x := .bool false) rfl ?_)
  show wpAny _ _ (field (.ref z) 3 >>= _) _ _ _
  refine wpAny_bind (wpAny_field hz rfl (x := .ref TI) rfl ?_)
  refine wpAny_bind (wpAny_seqItems hTI rfl ?_)
  show wpAny _ _ (Builtin.SmallTypes.ownedTupleIsFree (.ref z) >>= _) _ _ _
  refine wpAny_bind ?_
  unfold Builtin.SmallTypes.ownedTupleIsFree
  refine wpAny_bind (wpAny_field hz rfl (x := .none) rfl (wpAny_pure ?_))
  simp only [if_true]
  refine wpAny_bind (wpAny_rule ?_)
  refine wpAny_bind (wpAny_field hz rfl (x := .ref TO) rfl ?_)
  refine wpAny_bind (wpAny_setField_rec hz (by simp) fun h₁ hz₁ hs₁ => ?_)
  replace hz₁ : IsZip h₁ z TI TO .ellipsis := hz₁
  refine wpAny_bind ?_
  simp only [List.zipIdx_cons, List.zipIdx_nil, List.forIn_cons, List.forIn_nil]
  refine wpAny_bind (wpAny_bind (wpAny_onRaise ?_))
  show wpAny _ _ (Builtin.SmallTypes.nextOf (.ref i1) >>= _) _ _ _
  cases hx : zs.cps[k1]? with
  | none =>
    refine wpAny_bind (nextOf_str_end hh (h1.extBut hs₁.extBut D.i1z) hx fun h₂ e hs₂ he => ?_)
    obtain ⟨oe, hoe, hce⟩ := he
    have hz₂ : IsZip h₂ z TI TO .ellipsis := hs₂ _ _ D.i1z.symm hz₁
    have hez : e ≠ z := fun x => by subst x; rw [hz₂] at hoe; cases hoe; simp at hce
    refine wpAny_setField_rec hz₂ (by simp) fun h₃ _ hs₃ => hE h₃ e (fun c o c1 _ c3 _ x => hs₃.extBut _ _ c1 (hs₂ _ _ c3 (hs₁.extBut _ _ c1 x))) ⟨oe, hs₃.extBut _ _ hez hoe, hce⟩ _
  | some c0 =>
    have hy : ys[k2]? = none := by rcases hend with h | h; rw [hx] at h; cases h; exact h
    refine wpAny_bind (nextOf_str_item (h1.extBut hs₁.extBut D.i1z) hx fun h₂ h1₂ hs₂ => wpAny_pure ?_)
    have hTO₂ : IsPair h₂ TO a b := hs₂.extBut _ _ D.TOi1 (hs₁.extBut _ _ D.TOz hTO)
    refine wpAny_bind (wpAny_seqItems hTO₂ rfl ?_)
    refine wpAny_bind (wpAny_updateSeq_pair hTO₂ fun h₃ hTO₃ hs₃ => ?_)
    refine wpAny_bind (wpAny_letGo (wpAny_pure ?_))
    refine wpAny_bind (wpAny_bind (wpAny_onRaise ?_))
    show wpAny _ _ (Builtin.SmallTypes.nextOf (.ref i2) >>= _) _ _ _
    refine wpAny_bind (nextOf_tuple_end hh (((h2.extBut hs₁.extBut D.i2z).extBut hs₂.extBut D.i12.symm).extBut hs₃.extBut D.TOi2.symm)
      (((hl2.extBut hs₁.extBut D.l2z).extBut hs₂.extBut D.l2i1).extBut hs₃.extBut D.l2TO) hy fun h₄ e hs₄ he => ?_)
    obtain ⟨oe, hoe, hce⟩ := he
    have hz₄ : IsZip h₄ z TI TO .ellipsis := hs₄ _ _ D.i2z.symm (hs₃.extBut _ _ D.TOz.symm (hs₂.extBut _ _ D.i1z.symm hz₁))
    have hez : e ≠ z := fun x => by subst x; rw [hz₄] at hoe; cases hoe; simp at hce
    refine wpAny_setField_rec hz₄ (by simp) fun h₅ _ hs₅ => hE h₅ e (fun c o c1 c2 c3 c4 x => hs₅.extBut _ _ c1 (hs₄ _ _ c4 (hs₃.extBut _ _ c2 (hs₂.extBut _ _ c3 (hs₁.extBut _ _ c1 x))))) ⟨oe, hs₅.extBut _ _ hez hoe, hce⟩ _

theorem pyNext_zipS_item {z TI TO i1 i2 l2 : Addr} {zs : Str} {zt : Tok} {c0 k1 k2 : Nat} {ys : Array Value} {y a b : Value} {Q : Option Value → Shared → Prop} (D : ZipApart z TI TO i1 i2 l2 l2)
    (hz : IsZip s.heap z TI TO .none) (hTI : IsPair s.heap TI (.ref i1) (.ref i2)) (hTO : IsPair s.heap TO a b)
    (h1 : s.heap.IsStrIter i1 "str_ascii_iterator" zs zt k1) (h2 : s.heap.IsTupleIter i2 l2 k2) (hl2 : s.heap.IsTuple l2 ys) (hx : zs.cps[k1]? = some c0) (hy : ys[k2]? = some y)
    (hQ : ∀ h', IsZip h' z TI TO (rawInt s.heap.objs.size) → IsPair h' TO (.str ⟨#[c0]⟩ s.toks) y → h'.IsStrIter i1 "str_ascii_iterator" zs zt (k1 + 1) → h'.IsTupleIter i2 l2 (k2 + 1) → IsPair h' s.heap.objs.size (.str ⟨#[c0]⟩ s.toks) y → h'.objs.size = s.heap.objs.size + 1 →
      (∀ c o, c ≠ z → c ≠ TO → c ≠ i1 → c ≠ i2 → s.heap.get? c = some o → h'.get? c = some o) → Q (some (.ref s.heap.objs.size)) { s with heap := h', toks := s.toks + 1 }) :
    wpAny (model prog w) A (pyNext (.ref z)) Q E s := by
  have hT : s.TypeIs (.ref z) "zip" := ⟨_, hz, rfl⟩
  unfold pyNext
  exact wpAny_bind (wpAny_attempt (wpAny_callSpecial?_slot (name := Str.ofString "__next__") hT F.slot_zip_next
    (wpAny_call_entry F.slot_zip_next hT F.entry_zip_next
      (zipS_next_item D hz hTI hTO h1 h2 hl2 hx hy fun h' a1 a2 a3 a4 a5 a6 a7 => wpAny_pure (hQ h' a1 a2 a3 a4 a5 a6 a7)) (F.args_zip_next_1 _))))

theorem pyNext_zipS_end {z TI TO i1 i2 l2 : Addr} {zs : Str} {zt : Tok} {k1 k2 : Nat} {ys : Array Value} {a b : Value} {Q : Option Value → Shared → Prop} (hh : A.handled = none) (D : ZipApart z TI TO i1 i2 l2 l2)
    (hz : IsZip s.heap z TI TO .none) (hTI : IsPair s.heap TI (.ref i1) (.ref i2)) (hTO : IsPair s.heap TO a b)
    (h1 : s.heap.IsStrIter i1 "str_ascii_iterator" zs zt k1) (h2 : s.heap.IsTupleIter i2 l2 k2) (hl2 : s.heap.IsTuple l2 ys) (hend : zs.cps[k1]? = none ∨ ys[k2]? = none)
    (hQ : ∀ h', (∀ c o, c ≠ z → c ≠ TO → c ≠ i1 → c ≠ i2 → s.heap.get? c = some o → h'.get? c = some o) → ∀ tk, Q none { s with heap := h', toks := tk }) : wpAny (model prog w) A (pyNext (.ref z)) Q E s := by
  have hT : s.TypeIs (.ref z) "zip" := ⟨_, hz, rfl⟩
  unfold pyNext
  refine wpAny_bind (wpAny_attempt (wpAny_callSpecial?_slot (name := Str.ofString "__next__") hT F.slot_zip_next
    (wpAny_call_entry F.slot_zip_next hT F.entry_zip_next (zipS_next_end hh D hz hTI hTO h1 h2 hl2 hend fun h' e hk he tk => ?_) (F.args_zip_next_1 _))))
  obtain ⟨o, ho, hc⟩ := he
  refine wpAny_bind (wpAny_isInstance (T := "StopIteration") (b := true) ⟨o, ho, hc⟩ isSubtype_stop ?_)
  exact wpAny_pure (hQ _ hk _)
end

abbrev zipSH1 (h : Heap) (zs : Str) (zt : Tok) : Heap := h.push { cls := .type "str_ascii_iterator", data := .fields #[.str zs zt, .int 0 0] }
abbrev zipSH2 (h : Heap) (zs : Str) (zt : Tok) (l2 : Addr) : Heap := (zipSH1 h zs zt).push { cls := .type "tuple_iterator", data := .fields #[.ref l2, .int 0 0] }
abbrev zipSH3 (h : Heap) (zs : Str) (zt : Tok) (l2 : Addr) : Heap := (zipSH2 h zs zt l2).push { cls := .type "tuple", data := .seq #[.ref h.objs.size, .ref (zipSH1 h zs zt).objs.size] }
abbrev zipSH4 (h : Heap) (zs : Str) (zt : Tok) (l2 : Addr) : Heap := (zipSH3 h zs zt l2).push { cls := .type "tuple", data := .seq #[.none, .none] }
abbrev zipSH5 (h : Heap) (zs : Str) (zt : Tok) (l2 : Addr) : Heap := (zipSH4 h zs zt l2).push { cls := .type "zip", data := .fields #[.none, .bool false, .bool false, .ref (zipSH2 h zs zt l2).objs.size, .ref (zipSH3 h zs zt l2).objs.size] }
theorem meets_zipS_new (zs : Str) (zt : Tok) (l2 : Addr) (ys : Array Value) (ha : zs.cps.all (· < 128) = true) :
    Meets (Builtin.«zip.__new__» ⟨[.type "zip", .str zs zt, .ref l2], []⟩) (fun _ R s => s.heap.IsTuple l2 ys ∧
      R (.ok (.ret (.ref (zipSH4 s.heap zs zt l2).objs.size))) { s with heap := zipSH5 s.heap zs zt l2 }) :=
  .of_wp fun prog w A R s h => by
    obtain ⟨hp, g, d, tk, os⟩ := s; obtain ⟨hl2, h⟩ := h
    have hsub := sub_zip
    have hL2 : Heap.IsTuple (Shared.heap ⟨hp.push { cls := .type "str_ascii_iterator", data := .fields #[.str zs zt, .int 0 0] }, g, d, tk, os⟩) l2 ys := Heap.IsTuple.push hl2 _
    wp_walk using wpAny_pyIter_ascii ha, wpAny_pyIter_tuple hL2
    exact ⟨_, rfl, h⟩
section
variable {prog : Program} {w : World} {A : Around} {E : Value → Shared → Prop} {s : Shared}
theorem call_zipS {zs : Str} {zt : Tok} {l2 : Addr} {ys : Array Value} {Q : Value → Shared → Prop} (ha : zs.cps.all (· < 128) = true) (hl2 : s.heap.IsTuple l2 ys)
    (h : ∀ h', IsZip h' (s.heap.objs.size + 4) (s.heap.objs.size + 2) (s.heap.objs.size + 3) .none → IsPair h' (s.heap.objs.size + 2) (.ref s.heap.objs.size) (.ref (s.heap.objs.size + 1)) →
      IsPair h' (s.heap.objs.size + 3) .none .none → h'.IsStrIter s.heap.objs.size "str_ascii_iterator" zs zt 0 → h'.IsTupleIter (s.heap.objs.size + 1) l2 0 → h'.objs.size = s.heap.objs.size + 5 →
      (∀ c o, s.heap.get? c = some o → h'.get? c = some o) → Q (.ref (s.heap.objs.size + 4)) { s with heap := h' }) :
    wpAny (model prog w) A (call (.type "zip") [.str zs zt, .ref l2]) Q E s := by
  refine callType_new F.called_zip (by decide) (F.typeCall_zip_2 _ _) (F.newCall_zip_2 _ _) (fun obj => F.args_object_init_3 obj _ _) F.entry_zip_new
    (meets_zipS_new zs zt l2 ys ha) ⟨hl2, ?_⟩
  have z1 : (zipSH1 s.heap zs zt).objs.size = s.heap.objs.size + 1 := Heap.size_push ..
  have z2 : (zipSH2 s.heap zs zt l2).objs.size = s.heap.objs.size + 2 := by rw [Heap.size_push, z1]
  have z3 : (zipSH3 s.heap zs zt l2).objs.size = s.heap.objs.size + 3 := by rw [Heap.size_push, z2]
  have z4 : (zipSH4 s.heap zs zt l2).objs.size = s.heap.objs.size + 4 := by rw [Heap.size_push, z3]
  have z5 : (zipSH5 s.heap zs zt l2).objs.size = s.heap.objs.size + 5 := by rw [Heap.size_push, z4]
  have g5 : (zipSH5 s.heap zs zt l2).get? (zipSH4 s.heap zs zt l2).objs.size = some _ := Heap.get?_push_size _ rfl
  have g4 : (zipSH5 s.heap zs zt l2).get? (zipSH3 s.heap zs zt l2).objs.size = some _ := Heap.get?_push_of_some _ (Heap.get?_push_size _ rfl)
  have g3 : (zipSH5 s.heap zs zt l2).get? (zipSH2 s.heap zs zt l2).objs.size = some _ := Heap.get?_push_of_some _ (Heap.get?_push_of_some _ (Heap.get?_push_size _ rfl))
  have g2 : (zipSH5 s.heap zs zt l2).get? (zipSH1 s.heap zs zt).objs.size = some _ := Heap.get?_push_of_some _ (Heap.get?_push_of_some _ (Heap.get?_push_of_some _ (Heap.get?_push_size _ rfl)))
  have g1 : (zipSH5 s.heap zs zt l2).get? s.heap.objs.size = some _ := Heap.get?_push_of_some _ (Heap.get?_push_of_some _ (Heap.get?_push_of_some _ (Heap.get?_push_of_some _ (Heap.get?_push_size _ rfl))))
  show _ ∧ _
  rw [z2, z3, z4] at g5
  rw [z1, z2] at g3
  rw [z3] at g4
  rw [z1] at g2
  rw [z4]
  exact ⟨⟨_, g5, rfl⟩, h _ g5 g3 g4 ⟨_, g1, rfl, rfl⟩ ⟨_, g2, rfl, rfl⟩ z5 fun c o x =>
    Heap.get?_push_of_some _ (Heap.get?_push_of_some _ (Heap.get?_push_of_some _ (Heap.get?_push_of_some _ (Heap.get?_push_of_some _ x))))⟩
end
open PySem.Spec PyProof.Rows L2
/-- the signs of z and the tuple at b, in new pairs -/
def ItzS (K : PySem.W.Frag) (z : Str) (b : Addr) : L2.It :=
  ⟨fun i H => i < z.cps.size ∧ ∃ (ys : List V) (y : V), SqT K H b ys ∧ ys[i]? = some y,
    fun i H v H' => ∃ T c y, v = .ref T ∧ H T = none ∧ H' = upd H T (.tup [.str ⟨#[c]⟩, y]) ∧ z.cps[i]? = some c ∧ ∀ ys, SqT K H b ys → ys[i]? = some y,
    fun i H => ∃ ys : List V, SqT K H b ys ∧ (z.cps.size ≤ i ∨ ys.length ≤ i)⟩
theorem turn_zipS {P : Program} {w : World} {K : PySem.W.Frag} {elts : List Expr} {kk : Nat} {tpos : Pos} {zs : Str} {zt : Tok} {b z TI TO i1 i2 : Addr} (D : ZipApart z TI TO i1 i2 b b) :
    Turn P w K (.Tuple elts kk tpos) (ItzS K zs b) [z, TI, TO, i1, i2] z (fun i h => IsZip h z TI TO .none ∧ IsPair h TI (.ref i1) (.ref i2) ∧ (∃ x y, IsPair h TO x y) ∧ h.IsStrIter i1 "str_ascii_iterator" zs zt i ∧ h.IsTupleIter i2 b i) where
  mem := by simp
  obj := fun i h st c hc => by
    obtain ⟨hz, hTI, ⟨x, y, hTO⟩, ⟨o1, e1, _, d1⟩, ⟨o2, e2, _, d2⟩⟩ := st
    have e' : c = z ∨ c = TI ∨ c = TO ∨ c = i1 ∨ c = i2 := by simpa using hc
    rcases e' with q | q | q | q | q
    · rw [q]; exact ⟨_, hz, fun v q => nomatch q⟩
    · rw [q]; exact ⟨_, hTI, fun v q => nomatch q⟩
    · rw [q]; exact ⟨_, hTO, fun v q => nomatch q⟩
    · rw [q]; exact ⟨o1, e1, fun v q => by rw [d1] at q; cases q⟩
    · rw [q]; exact ⟨o2, e2, fun v q => by rw [d2] at q; cases q⟩
  keep := fun i h h' st k => by
    obtain ⟨hz, hTI, ⟨x, y, hTO⟩, ⟨o1, e1, r1⟩, h2⟩ := st
    exact ⟨k z (by simp) _ hz, k TI (by simp) _ hTI, ⟨x, y, k TO (by simp) _ hTO⟩, ⟨o1, k i1 (by simp) o1 e1, r1⟩, h2.at fun o q => k i2 (by simp) o q⟩
  item := by
    intro X hP hw hK hc i pins s σ H E I hf st hg
    subst hP hw hK
    obtain ⟨hz, hTI, ⟨x0, y0, hTO⟩, h1, h2⟩ := st
    obtain ⟨hi, ys, y, hqy, hy⟩ := hg
    obtain ⟨its2, rv2, p2, _⟩ := I.tuple hqy
    obtain ⟨u2, hu2, ru2⟩ := rv2.get hy
    obtain ⟨c0, hx⟩ : ∃ c0, zs.cps[i]? = some c0 := ⟨zs.cps[i], Array.getElem?_eq_getElem hi⟩
    have hzl : z < s.heap.objs.size := Heap.lt_size hz
    refine pyNext_zipS_item D hz hTI hTO h1 h2 p2 (y := u2) hx (by simpa using hu2) fun h' z' TO' h1' h2' hT hsz hk => ?_
    refine ⟨_, rfl, wpAny_letOwnedTupleGo_zip (s := { s with heap := h', toks := s.toks + 1 }) z' fun h'' z'' sb => ?_⟩
    have hT2 : h''.get? s.heap.objs.size = some { cls := .type "tuple", data := .seq #[.str ⟨#[c0]⟩ s.toks, u2] } := (sb.2 _ (Nat.ne_of_gt hzl)).trans hT
    have new : ObjOk X.prog X.w (upd H s.heap.objs.size (.tup [.str ⟨#[c0]⟩, y])) h'' s.heap.objs.size (.tup [.str ⟨#[c0]⟩, y]) :=
      ⟨by show 2 ≤ sizeLine; decide, [.str ⟨#[c0]⟩ s.toks, u2], .cons ⟨_, rfl⟩ (.cons ru2 .nil), ⟨_, hT2, rfl, _, rfl⟩⟩
    have I1 : L2.Inv X pins σ (upd H s.heap.objs.size (.tup [.str ⟨#[c0]⟩, y])) { s with heap := h'', toks := s.toks + 1 } :=
      I.turnedNew (t' := s.toks + 1) (ch := [z, TI, TO, i1, i2]) (fun c o hb q => (sb.2 c (fun q' => hb (by simp [q']))).trans (hk c o (fun q' => hb (by simp [q'])) (fun q' => hb (by simp [q'])) (fun q' => hb (by simp [q'])) (fun q' => hb (by simp [q'])) q)) hf (Nat.le_refl _) new
    refine ⟨.ref s.heap.objs.size, _, I1, rfl, ⟨_, c0, y, rfl, I.hok.fresh (Nat.le_refl _), rfl, hx, fun l hl => by rw [I.tuple_inj hl hqy]; exact hy⟩, ⟨z'', ?_, ⟨.str ⟨#[c0]⟩ s.toks, u2, ?_⟩, ?_, ?_⟩, fun c hcm => ?_⟩
    · exact (sb.2 _ D.TIz).trans (hk _ _ D.TIz D.TITO D.TIi1 D.TIi2 hTI)
    · exact (sb.2 _ D.TOz).trans TO'
    · obtain ⟨o1, e1, r1⟩ := h1'
      exact ⟨o1, (sb.2 _ D.i1z).trans e1, r1⟩
    · exact h2'.at fun o q => (sb.2 _ D.i2z).trans q
    · have hlt : c < s.heap.objs.size := by
        have e' : c = z ∨ c = TI ∨ c = TO ∨ c = i1 ∨ c = i2 := by simpa using hcm
        rcases e' with q | q | q | q | q
        · rw [q]; exact hzl
        · rw [q]; exact Heap.lt_size hTI
        · rw [q]; exact Heap.lt_size hTO
        · rw [q]; obtain ⟨_, e1, _⟩ := h1; exact Heap.lt_size e1
        · rw [q]; obtain ⟨_, e2, _⟩ := h2; exact Heap.lt_size e2
      rw [upd_ne (Nat.ne_of_lt hlt)]
      exact (hf c hcm).1
  done := by
    intro X hP hw hK hc i pins s σ H E I hf st hg
    subst hP hw hK
    obtain ⟨hz, hTI, ⟨x0, y0, hTO⟩, h1, h2⟩ := st
    obtain ⟨ys, hqy, hend⟩ := hg
    obtain ⟨its2, rv2, p2, _⟩ := I.tuple hqy
    have l2 := rv2.length
    have he : zs.cps[i]? = none ∨ its2.toArray[i]? = none := by
      rcases hend with q | q
      · exact .inl (Array.getElem?_eq_none q)
      · exact .inr (by simp; omega)
    exact pyNext_zipS_end (I.ok.hd hc) D hz hTI hTO h1 h2 p2 he fun h' hk tk => ⟨rfl, I.turnedL (t' := tk) (ch := [z, TI, TO, i1, i2]) (fun c o hb q =>
      hk c o (fun q' => hb (by simp [q'])) (fun q' => hb (by simp [q'])) (fun q' => hb (by simp [q'])) (fun q' => hb (by simp [q'])) q) hf⟩
  self := fun A i s Q E st h => wpAny_pyIter_zip st.1 h
/-- zip of two lists, two tuples, a text and a tuple -/
def iZipS (K : PySem.W.Frag) (ta : TA) : TI := fun σ H R => ta σ H fun vs H1 => ∃ x b, vs = [x, .ref b] ∧ ((∃ a xs ys, x = .ref a ∧ SqL K H1 a xs ∧ SqL K H1 b ys ∧ R (Itz K a b) H1) ∨ (∃ a xs ys, x = .ref a ∧ SqT K H1 a xs ∧ SqT K H1 b ys ∧ R (ItzT K a b) H1) ∨
  (∃ z ys, x = .str z ∧ z.cps.all (· < 128) = true ∧ SqT K H1 b ys ∧ R (ItzS K z b) H1))
theorem pi_zipS {X : Cx} {e e2 : Expr} {ta : TA} {p pos tpos : Pos} {elts : List Expr} {kk : Nat} (hg : Gl X "zip") (hm : X.mg "zip" = none) (ha : PA X [e, e2] ta)
    (hs : starEach [e, e2] X.env = (false, eval e X.env) :: starEach [e2] X.env) (hpl : (backTo pos (starEach [e2] X.env)).any (·.1) = false) :
    PI X (.Tuple elts kk tpos) (.Call (.Name "zip" p) [e, e2] [] pos) (iZipS X.K ta) := by
  refine ⟨fun pins s σ H R I h => ?_⟩
  refine Call_ (ld_blt I hg hm PyProof.Rows.boot_zip (PyProof.Rows.callWith_type1 (thn (ha.run pos pins s σ H _ I h) fun us s1 ⟨vs, H1, I1, r1, q1⟩ => ?_) hs hpl))
  obtain ⟨x, b, ex, q1⟩ := q1
  subst ex
  cases r1 with
  | cons r rr =>
    cases rr with
    | cons r' rr =>
      cases rr
      cases r'
      have fresh5 : ∀ c, c ∈ [s1.heap.objs.size + 4, s1.heap.objs.size + 2, s1.heap.objs.size + 3, s1.heap.objs.size, s1.heap.objs.size + 1] → FpOk X pins H1 c := fun c hcm => by
        have e' : c = s1.heap.objs.size + 4 ∨ c = s1.heap.objs.size + 2 ∨ c = s1.heap.objs.size + 3 ∨ c = s1.heap.objs.size ∨ c = s1.heap.objs.size + 1 := by simpa using hcm
        have hle : s1.heap.objs.size ≤ c := by
          rcases e' with z | z | z | z | z <;> omega
        exact I1.fpOk hle (I1.hok.fresh hle)
      rcases q1 with ⟨a, xs, ys, rfl, hqx, hqy, q⟩ | ⟨a, xs, ys, rfl, hqx, hqy, q⟩ | ⟨z, ys, rfl, hz0, hqy, q⟩
      · cases r
        obtain ⟨its, rv, p1, _⟩ := I1.list hqx
        obtain ⟨its2, rv2, p2, _⟩ := I1.list hqy
        refine call_zip_2 p1.isList p2.isList fun h' hz hTI hTO h1 h2 hsz hk => wpAny_pyIter_zip hz ?_
        have I2 : L2.Inv X pins σ H1 { s1 with heap := h' } := I1.kept (t' := s1.toks) hk
        exact ⟨s1.heap.objs.size + 4, [s1.heap.objs.size + 4, s1.heap.objs.size + 2, s1.heap.objs.size + 3, s1.heap.objs.size, s1.heap.objs.size + 1], _, _, H1, rfl, I2, turn_zip (PySem.W.ktu_apart s1.heap.objs.size a b p1.lt p2.lt), ⟨hz, hTI, ⟨_, _, hTO⟩, h1, h2⟩, fresh5, q⟩
      · cases r
        obtain ⟨its, rv, p1, _⟩ := I1.tuple hqx
        obtain ⟨its2, rv2, p2, _⟩ := I1.tuple hqy
        obtain ⟨o1, ho1, _⟩ := id p1
        obtain ⟨o2, ho2, _⟩ := id p2
        refine call_zipT (show s1.heap.IsTuple a its.toArray from p1) (show s1.heap.IsTuple b its2.toArray from p2) fun h' hz hTI hTO h1 h2 hsz hk => wpAny_pyIter_zip hz ?_
        have I2 : L2.Inv X pins σ H1 { s1 with heap := h' } := I1.kept (t' := s1.toks) hk
        exact ⟨s1.heap.objs.size + 4, [s1.heap.objs.size + 4, s1.heap.objs.size + 2, s1.heap.objs.size + 3, s1.heap.objs.size, s1.heap.objs.size + 1], _, _, H1, rfl, I2, turn_zipT (PySem.W.ktu_apart s1.heap.objs.size a b (Heap.lt_size ho1) (Heap.lt_size ho2)), ⟨hz, hTI, ⟨_, _, hTO⟩, h1, h2⟩, fresh5, q⟩
      · obtain ⟨t, rfl⟩ := r
        obtain ⟨its2, rv2, p2, _⟩ := I1.tuple hqy
        obtain ⟨o2, ho2, _⟩ := id p2
        refine call_zipS hz0 (show s1.heap.IsTuple b its2.toArray from p2) fun h' hz hTI hTO h1 h2 hsz hk => wpAny_pyIter_zip hz ?_
        have I2 : L2.Inv X pins σ H1 { s1 with heap := h' } := I1.kept (t' := s1.toks) hk
        exact ⟨s1.heap.objs.size + 4, [s1.heap.objs.size + 4, s1.heap.objs.size + 2, s1.heap.objs.size + 3, s1.heap.objs.size, s1.heap.objs.size + 1], _, _, H1, rfl, I2, turn_zipS (PySem.W.ktu_apart s1.heap.objs.size b b (Heap.lt_size ho2) (Heap.lt_size ho2)), ⟨hz, hTI, ⟨_, _, hTO⟩, h1, h2⟩, fresh5, q⟩
end G48

set_option maxHeartbeats 4000000
/-! Calls. -/
namespace G48
open PySem L2
section
variable {K : PySem.W.Frag} {C : Nat → Addr} {E : En} {F F' H H' : Hp} {σ : L2.St} {σd σd' : S}
/-- a slot's own thing is changed (ow stays ow, io stays io); d' the new datum -/
theorem sl2_inv {i : Nat} {o : D} {s : S} (h : sl2 σd i o = some s) : ∃ d, (σd[i]? = some (.ow d) ∧ s = σd.set i (.ow o)) ∨ (σd[i]? = some (.io d) ∧ s = σd.set i (.io o)) := by
  unfold sl2 at h
  split at h
  · rename_i d hd; exact ⟨d, .inl ⟨hd, (Option.some.inj h).symm⟩⟩
  · rename_i d hd; exact ⟨d, .inr ⟨hd, (Option.some.inj h).symm⟩⟩
  · cases h
/-- the object at l changes, which no slot but i holds -/
theorem SI.chg {i : Nat} {l : Addr} {o : D} {s : S} (I : SI K C E F H σ σd) (hs : sl2 σd i o = some s) (hl : σ[i]? = some (some (.ref l))) (fin : Fin F' H') (le : Fle F F') (nw : ∀ a, F' a ≠ none → F a ≠ none ∨ H a = none)
    (fr : ∀ a u, H a = some u → a ≠ l → H' a = some u) (ow : Own K C F' H' (.ref l) o) : SI K C E F' H' σ s := by
  obtain ⟨d, hd⟩ := sl2_inv hs
  -- the slot's kind
  obtain ⟨sl, sl', hsl, hs', hown, ⟨hown', hkind⟩, hrel⟩ : ∃ sl sl' : Sl, σd[i]? = some sl ∧ s = σd.set i sl' ∧ sl.own = true ∧ (sl'.own = true ∧ sl'.isIo = sl.isIo) ∧ SlR K C F' H' (some (.ref l)) sl' := by
    rcases hd with ⟨h1, h2⟩ | ⟨h1, h2⟩
    · exact ⟨_, _, h1, h2, rfl, ⟨rfl, rfl⟩, .ow ow⟩
    · exact ⟨_, _, h1, h2, rfl, ⟨rfl, rfl⟩, .io ow⟩
  subst hs'
  have hlt : i < σd.length := (List.getElem?_eq_some_iff.mp hsl).1
  have own0 : E.H0 l = none ∨ E.IO l := I.own i l sl hl hsl hown
  obtain ⟨l', u, el, lF, lH⟩ := (I.at_ i _ sl hl hsl).get hown
  cases el
  have back : ∀ {j : Nat} {t : Sl}, (σd.set i sl')[j]? = some t → t.own = true → ∃ t', σd[j]? = some t' ∧ t'.own = true ∧ t'.isIo = t.isIo := fun {j t} h w => by
    by_cases hj : i = j
    · subst hj; rw [List.getElem?_set_self hlt] at h; cases h; exact ⟨sl, hsl, hown, hkind.symm⟩
    · rw [List.getElem?_set_ne hj] at h; exact ⟨t, h, w, rfl⟩
  refine ⟨fin, I.le.trans le, fun a h => ?_, fun a u h n => ?_, fun a h => ?_, by rw [List.length_set]; exact I.len, fun j v t a b => ?_, fun j k v s t a b c d' e1 e2 => ?_, fun j l2 t a b c => ?_, fun j l2 t a b c => ?_⟩
  · rcases nw a h with h | h
    · exact I.new a h
    · cases e : E.H0 a with
      | none => exact .inr (.inl rfl)
      | some u =>
        refine .inr (.inr (Classical.byContradiction fun n => ?_))
        rw [I.frame a u e n] at h
        cases h
  · refine fr a u (I.frame a u h n) fun z => ?_
    subst z
    rcases own0 with q | q
    · rw [h] at q; cases q
    · exact n q
  · by_cases z : a = l
    · subst z
      obtain ⟨l2, u2, e, _, q⟩ := ow.ref
      cases e
      exact ⟨u2, q⟩
    · obtain ⟨u2, q⟩ := I.ioH a h
      exact ⟨u2, fr a u2 q z⟩
  · by_cases hj : i = j
    · subst hj
      rw [List.getElem?_set_self hlt] at b
      cases b
      rw [hl] at a; cases a
      exact hrel
    · rw [List.getElem?_set_ne hj] at b
      have key : ∀ {v : V} {d : D}, Own K C F H v d → t.own = true → σ[j]? = some (some v) → Own K C F' H' v d := fun {v d} w wo e => by
        obtain ⟨l2, u2, rfl, a1, b1⟩ := w.ref
        have ne : l2 ≠ l := fun z => hj (I.dis i j _ sl t hl (by rw [e, z]) hsl b hown wo)
        refine w.keep le ?_ ((fr l2 u2 b1 ne).trans b1.symm)
        cases e : F' l2 with
        | none => rfl
        | some u' =>
          rcases nw l2 (by rw [e]; exact fun z => by cases z) with z | z
          · exact absurd a1 z
          · rw [b1] at z; cases z
      have q := I.at_ j v t a b
      cases q with
      | no => exact .no
      | va r => exact .va (r.mono le)
      | ow w => exact .ow (key w rfl a)
      | io w => exact .io (key w rfl a)
  · obtain ⟨s', c', e1', _⟩ := back c e1
    obtain ⟨t', d'', e2', _⟩ := back d' e2
    exact I.dis j k v s' t' a b c' d'' e1' e2'
  · obtain ⟨t', b', c', _⟩ := back b c
    exact I.own j l2 t' a b' c'
  · obtain ⟨t', b', c', q⟩ := back b c
    rw [← q]
    exact I.kd j l2 t' a b' c'
/-- an object of nobody's changes -/
theorem SI.other {l : Addr} (I : SI K C E F H σ σd) (no : ¬ OwnA σ σd l) (h0 : E.H0 l = none) (there : ∃ u, H' l = some u) (fin : Fin F' H') (le : Fle F F') (nw : ∀ a, F' a ≠ none → F a ≠ none ∨ H a = none)
    (fr : ∀ a u, H a = some u → a ≠ l → H' a = some u) : SI K C E F' H' σ σd := by
  refine ⟨fin, I.le.trans le, fun a h => ?_, fun a u h n => ?_, fun a h => ?_, I.len, fun j v t a b => ?_, I.dis, I.own, I.kd⟩
  · rcases nw a h with h | h
    · exact I.new a h
    · cases e : E.H0 a with
      | none => exact .inr (.inl rfl)
      | some u =>
        refine .inr (.inr (Classical.byContradiction fun n => ?_))
        rw [I.frame a u e n] at h
        cases h
  · exact fr a u (I.frame a u h n) fun z => by rw [z, h0] at h; cases h
  · by_cases z : a = l
    · rw [z]; exact there
    · obtain ⟨u2, q⟩ := I.ioH a h
      exact ⟨u2, fr a u2 q z⟩
  · have key : ∀ {v : V} {d : D}, Own K C F H v d → t.own = true → σ[j]? = some (some v) → Own K C F' H' v d := fun {v d} w wo e => by
      obtain ⟨l2, u2, rfl, a1, b1⟩ := w.ref
      have ne : l2 ≠ l := fun z => no ⟨j, t, by rw [e, z], b, wo⟩
      refine w.keep le ?_ ((fr l2 u2 b1 ne).trans b1.symm)
      cases e : F' l2 with
      | none => rfl
      | some u' =>
        rcases nw l2 (by rw [e]; exact fun z => by cases z) with z | z
        · exact absurd a1 z
        · rw [b1] at z; cases z
    have q := I.at_ j v t a b
    cases q with
    | no => exact .no
    | va r => exact .va (r.mono le)
    | ow w => exact .ow (key w rfl a)
    | io w => exact .io (key w rfl a)
/-- an operand that is one's own is a slot's -/
theorem OpRs.ownA (I : SI K C E F H σ σd) : ∀ {os : List Opd} {vs : List V} {ds : List D}, OpRs K F σ vs os → fetchs σd os = some ds → ∀ (i : Nat) (v : V) (d : D), vs[i]? = some v → ds[i]? = some d → Rep K F v d ∨ (Own K C F H v d ∧ ∃ l, v = .ref l ∧ OwnA σ σd l)
  | [], _, _, .nil, e => fun i v d h => by simp at h
  | o :: os, _, ds, h, e => fun i v d h1 h2 => by
    simp only [fetchs] at e
    cases f : fetch σd o with
    | none => rw [f] at e; cases e
    | some x =>
      rw [f] at e
      cases gg : fetchs σd os with
      | none => rw [gg] at e; cases e
      | some ds' =>
        rw [gg] at e
        cases e
        cases h with
        | sl a b =>
          cases i with
          | succ i => exact OpRs.ownA I b gg i v d (by simpa using h1) (by simpa using h2)
          | zero =>
            simp at h1 h2
            subst h1 h2
            rename_i v0 vs0 j
            have f : (match σd[j]? with
              | some s => s.get
              | none => none) = some x := f
            cases e : σd[j]? with
            | none => rw [e] at f; cases f
            | some s =>
              rw [e] at f
              have q := I.at_ j _ s a e
              cases q with
              | no => cases f
              | va r => cases f; exact .inl r
              | ow r =>
                cases f
                obtain ⟨l, u, e1, _, _⟩ := r.ref
                exact .inr ⟨r, l, e1, j, _, by rw [a, e1], e, rfl⟩
              | io r =>
                cases f
                obtain ⟨l, u, e1, _, _⟩ := r.ref
                exact .inr ⟨r, l, e1, j, _, by rw [a, e1], e, rfl⟩
        | va a b =>
          cases i with
          | succ i => exact OpRs.ownA I b gg i v d (by simpa using h1) (by simpa using h2)
          | zero =>
            simp at h1 h2
            subst h1 h2
            cases f
            exact .inl a
theorem Reps.of_get : ∀ {vs : List V} {ds : List D}, vs.length = ds.length → (∀ (i : Nat) (v : V) (d : D), vs[i]? = some v → ds[i]? = some d → Rep K F v d) → Reps K F vs ds
  | [], [], _, _ => .nil
  | v :: vs, d :: ds, hl, h => .cons (h 0 v d rfl rfl) (Reps.of_get (by simpa using hl) fun i v d h1 h2 => h (i + 1) v d (by simpa using h1) (by simpa using h2))
theorem OpRs.lenD : ∀ {os : List Opd} {vs : List V} {ds : List D}, OpRs K F σ vs os → fetchs σd os = some ds → vs.length = ds.length
  | [], _, _, .nil, e => by cases e; rfl
  | o :: os, _, ds, h, e => by
    simp only [fetchs] at e
    cases f : fetch σd o with
    | none => rw [f] at e; cases e
    | some x =>
      rw [f] at e
      cases gg : fetchs σd os with
      | none => rw [gg] at e; cases e
      | some ds' =>
        rw [gg] at e
        cases e
        cases h with
        | sl a b => exact congrArg (· + 1) (OpRs.lenD b gg)
        | va a b => exact congrArg (· + 1) (OpRs.lenD b gg)
/-- what is one's own taken as staying, for the time of a call -/
noncomputable def tmpF (F H : Hp) (σ : L2.St) (σd : S) : Hp := fun a => @ite _ (OwnA σ σd a) (Classical.propDecidable _) (H a) (F a)
theorem tmp_own {a : Addr} (h : OwnA σ σd a) : tmpF F H σ σd a = H a := by unfold tmpF; rw [if_pos h]
theorem tmp_not {a : Addr} (h : ¬ OwnA σ σd a) : tmpF F H σ σd a = F a := by unfold tmpF; rw [if_neg h]
theorem tmp_le (I : SI K C E F H σ σd) : Fin F (tmpF F H σ σd) := fun a o e => by
  have n : ¬ OwnA σ σd a := fun w => by rw [(I.ownA w).1] at e; cases e
  rw [tmp_not n]; exact e
theorem tmp_fin (I : SI K C E F H σ σd) : Fin (tmpF F H σ σd) H := fun a o e => by
  by_cases w : OwnA σ σd a
  · rw [tmp_own w] at e; exact e
  · rw [tmp_not w] at e; exact I.fin a o e
theorem tmp_rep (I : SI K C E F H σ σd) {v : V} {d : D} (h : Own K C F H v d) (w : ∃ l, v = .ref l ∧ OwnA σ σd l) (n : d.isObj = false) : Rep K (tmpF F H σ σd) v d := by
  obtain ⟨l, rfl, w⟩ := w
  have le := (tmp_le I).le
  cases h with
  | lst a b r => exact .lst ((tmp_own w).trans b) (r.mono le)
  | dK a b r => exact .dK (.inl ((tmp_own w).trans b)) (r.mono le)
  | dT a b r => exact .dT (.inl ((tmp_own w).trans b)) (r.mono le)
  | obj a b r => cases n
/-- behind such a call: what came is flat -/
theorem SI.tmpBack (I : SI K C E F H σ σd) (fin : Fin F' H') (le : Fle (tmpF F H σ σd) F') (nw : ∀ a, F' a ≠ none → tmpF F H σ σd a ≠ none ∨ H a = none) (fr : ∀ a u, H a = some u → H' a = some u) :
    ∃ F2, SI K C E F2 H' σ σd ∧ Fle F F2 := by
  refine ⟨fun a => @ite _ (OwnA σ σd a) (Classical.propDecidable _) none (F' a), I.grow (fun a o e => ?_) ?_ (fun a h => ?_) fr, ?_⟩
  · by_cases w : OwnA σ σd a
    · rw [if_pos w] at e; cases e
    · rw [if_neg w] at e; exact fin a o e
  · have n : ∀ {a u}, F a = some u → ¬ OwnA σ σd a := fun {a u} e w => by rw [(I.ownA w).1] at e; cases e
    have le0 := (tmp_le I).le
    refine ⟨fun a vs e => ?_, fun a vs e => ?_, fun a u r => ?_⟩
    · rw [if_neg (n e)]; exact le.l a vs (le0.l a vs e)
    · rw [if_neg (n e)]; exact le.t a vs (le0.t a vs e)
    · have w : ¬ OwnA σ σd a := r.elim (fun e => n e) fun ⟨_, e⟩ => n e
      have q := le.r a u (le0.r a u r)
      show (@ite _ (OwnA σ σd a) (Classical.propDecidable _) none (F' a)) = some u ∨ ∃ o, (@ite _ (OwnA σ σd a) (Classical.propDecidable _) none (F' a)) = some (HO.frz o u)
      rw [if_neg w]
      exact q
  · by_cases w : OwnA σ σd a
    · rw [if_pos w] at h; exact absurd rfl h
    · rw [if_neg w] at h
      rcases nw a h with q | q
      · rw [tmp_not w] at q; exact .inl q
      · exact .inr q
  · have n : ∀ {a u}, F a = some u → ¬ OwnA σ σd a := fun {a u} e w => by rw [(I.ownA w).1] at e; cases e
    have le0 := (tmp_le I).le
    refine ⟨fun a vs e => ?_, fun a vs e => ?_, fun a u r => ?_⟩
    · rw [if_neg (n e)]; exact le.l a vs (le0.l a vs e)
    · rw [if_neg (n e)]; exact le.t a vs (le0.t a vs e)
    · have w : ¬ OwnA σ σd a := r.elim (fun e => n e) fun ⟨_, e⟩ => n e
      have q := le.r a u (le0.r a u r)
      show (@ite _ (OwnA σ σd a) (Classical.propDecidable _) none (F' a)) = some u ∨ ∃ o, (@ite _ (OwnA σ σd a) (Classical.propDecidable _) none (F' a)) = some (HO.frz o u)
      rw [if_neg w]
      exact q
/-- operands let go -/
theorem SI.go1 (I : SI K C E F H σ σd) {o : Opd} {v : V} {d : D} {s : S} (r : OpRs K F σ [v] [o]) (e : G48.fetch σd o = some d) (h : G48.frz1 σd o = some s) :
    ∃ F', SI K C E F' H σ s ∧ Fle F F' ∧ Rep K F' v d ∧ ∀ a, F' a ≠ none → F a ≠ none ∨ OwnA σ σd a := by
  cases r with
  | va a _ => cases e; cases h; exact ⟨F, I, Fle.refl F, a, fun _ q => .inl q⟩
  | @sl v vs i os a _ =>
    replace h : (match σd[i]? with
      | some (.ow d) => if d.isObj then none else some (σd.set i (.va d))
      | some (.va _) => some σd
      | _ => none) = some s := h
    replace e : (match σd[i]? with
      | some s => s.get
      | none => none) = some d := e
    split at h
    · rename_i d' hd
      rw [hd] at e
      cases e
      split at h
      · cases h
      · rename_i no
        cases h
        obtain ⟨F', v', I', le, hv', rv, nn⟩ := I.freeze hd fun c fs z => no (by rw [z]; rfl)
        rw [a] at hv'; cases hv'
        refine ⟨F', I', le, rv, fun b q => ?_⟩
        rcases nn b q with q | q
        · exact .inl q
        · exact .inr ⟨i, _, by rw [a, q], hd, rfl⟩
    · rename_i d' hd
      rw [hd] at e
      cases e
      cases h
      obtain ⟨o, h1, h2⟩ := I.slot hd
      rw [a] at h1; cases h1
      cases h2 with
      | va r => exact ⟨F, I, Fle.refl F, r, fun _ q => .inl q⟩
    · cases h
/-- a slot behind a letting go: as it was, or let go -/
theorem frz1_slot {σ s : S} {o : Opd} (h : G48.frz1 σ o = some s) (j : Nat) : s[j]? = σ[j]? ∨ ∃ d, σ[j]? = some (.ow d) ∧ s[j]? = some (.va d) := by
  unfold G48.frz1 at h
  split at h
  · split at h
    · rename_i i _ d hd
      split at h
      · cases h
      · cases h
        by_cases hj : i = j
        · subst hj
          exact .inr ⟨d, hd, by rw [List.getElem?_set_self (List.getElem?_eq_some_iff.mp hd).1]⟩
        · exact .inl (List.getElem?_set_ne hj)
    · cases h; exact .inl rfl
    · cases h
  · cases h; exact .inl rfl
theorem frz1_fetch {σ s : S} {o : Opd} (h : G48.frz1 σ o = some s) (p : Opd) : fetch s p = fetch σ p := by
  cases p with
  | inr d => rfl
  | inl j =>
    show (match s[j]? with | some s => s.get | none => none) = match σ[j]? with | some s => s.get | none => none
    rcases frz1_slot h j with e | ⟨d, e1, e2⟩
    · rw [e]
    · rw [e1, e2]; rfl
theorem frzs_slot : ∀ {os : List Opd} {σ s : S}, frzs σ os = some s → ∀ j : Nat, s[j]? = σ[j]? ∨ ∃ d, σ[j]? = some (.ow d) ∧ s[j]? = some (.va d)
  | [], σ, s, h, j => by cases h; exact .inl rfl
  | o :: os, σ, s, h, j => by
    simp only [frzs] at h
    cases f : G48.frz1 σ o with
    | none => rw [f] at h; cases h
    | some s1 =>
      rw [f] at h
      have q := frzs_slot (os := os) (σ := s1) (s := s) h j
      rcases frz1_slot f j with e | ⟨d, e1, e2⟩
      · rw [← e]; exact q
      · rcases q with q | ⟨d', q1, q2⟩
        · exact .inr ⟨d, e1, q.trans e2⟩
        · rw [e2] at q1; cases q1
theorem frz1_own {s : S} {o : Opd} (h : G48.frz1 σd o = some s) {a : Addr} (w : OwnA σ s a) : OwnA σ σd a := by
  obtain ⟨i, t, h1, h2, h3⟩ := w
  rcases frz1_slot h i with e | ⟨d, e1, e2⟩
  · exact ⟨i, t, h1, by rw [← e]; exact h2, h3⟩
  · rw [e2] at h2; cases h2; cases h3
theorem SI.goS : ∀ {os : List Opd} {F : Hp} {σd s : S} {vs : List V} {ds : List D}, SI K C E F H σ σd → OpRs K F σ vs os → fetchs σd os = some ds → G48.frzs σd os = some s →
    ∃ F', SI K C E F' H σ s ∧ Fle F F' ∧ Reps K F' vs ds ∧ ∀ a, F' a ≠ none → F a ≠ none ∨ OwnA σ σd a
  | [], F, σd, s, vs, ds, I, r, e, h => by cases r; cases e; cases h; exact ⟨F, I, Fle.refl F, .nil, fun _ q => .inl q⟩
  | o :: os, F, σd, s, vs, ds, I, r, e, h => by
    simp only [fetchs] at e
    cases f : G48.fetch σd o with
    | none => rw [f] at e; cases e
    | some x =>
      rw [f] at e
      cases gg : fetchs σd os with
      | none => rw [gg] at e; cases e
      | some ds' =>
        rw [gg] at e
        cases e
        simp only [G48.frzs] at h
        cases f1 : G48.frz1 σd o with
        | none => rw [f1] at h; cases h
        | some s1 =>
          rw [f1] at h
          obtain ⟨v, vs', rfl, ra, rb⟩ : ∃ v vs', vs = v :: vs' ∧ OpRs K F σ [v] [o] ∧ OpRs K F σ vs' os := by
            cases r with
            | sl a b => exact ⟨_, _, rfl, .sl a .nil, b⟩
            | va a b => exact ⟨_, _, rfl, .va a .nil, b⟩
          obtain ⟨F1, I1, le1, r1, n1⟩ := I.go1 ra f f1
          have gg' : fetchs s1 os = some ds' := by
            rw [← gg]
            have : ∀ os : List Opd, fetchs s1 os = fetchs σd os := fun os => by
              induction os with
              | nil => rfl
              | cons p os ih => simp only [fetchs]; rw [frz1_fetch f1 p, ih]
            exact this os
          obtain ⟨F2, I2, le2, r2, n2⟩ := SI.goS I1 (rb.mono le1) gg' h
          refine ⟨F2, I2, le1.trans le2, .cons (r1.mono le2) r2, fun a q => ?_⟩
          rcases n2 a q with q | q
          · exact n1 a q
          · exact .inr (frz1_own f1 q)
end
end G48

set_option maxHeartbeats 4000000
/-! Calls: the rules. -/
namespace G48
open PySem L2
theorem any_all {α : Type} {p : α → Bool} : ∀ {l : List α}, l.any p = false → l.all (fun x => !p x) = true
  | [], _ => rfl
  | a :: l, h => by
    rw [List.any_cons] at h
    rw [List.all_cons]
    cases hp : p a with
    | true => rw [hp] at h; cases h
    | false => rw [hp] at h; exact any_all h
theorem few_of {es : List Expr} (h : ∀ e ∈ es, noStar e = true) (hl : decide (es.length < 30) = true) (pos : Pos) (env : Env) : methodCallForm (es.length + ([] : List Keyword).length) (backTo pos (starEach es env)) (backToKw pos (keywordEach [] env)) = true := by
  unfold methodCallForm
  have h1 := any_all (star_none h pos env)
  have h2 : (backToKw pos (keywordEach [] env)).all (fun x => x.1.isSome) = true := rfl
  have h3 : (backToKw pos (keywordEach [] env)).isEmpty = true := rfl
  have h4 : decide (es.length + ([] : List Keyword).length + (if (backToKw pos (keywordEach [] env)).isEmpty = true then 0 else 1) < 30) = true := by
    rw [h3]
    exact hl
  rw [h4, h2, h1]
  rfl
theorem methForm {o : Expr} {m : Str} {apos pos : Pos} {es : List Expr} {env : Env} (hs : notSup o = true) (h : ∀ e ∈ es, noStar e = true) (hl : decide (es.length < 30) = true) (hline : (apos.endLine == pos.line) = true) :
    eval (.Call (.Attribute o m apos) es [] pos) env = (do
      let ov ← eval o env
      standAt apos.atName
      let (f, first) ← holding [ov] (getMethod ov m (do return (← importBound o env).getD true))
      callWith pos f first (backTo pos (starEach es env)) (backToKw pos (keywordEach [] env))) := by
  rw [arm_eval_Call, supBase hs]
  refine congrArg _ (funext fun ov => congrArg _ (funext fun _ => ?_))
  unfold methodCall
  rw [few_of h hl]
  have hpos : methodCallPos true o env apos pos = pure pos := by unfold methodCallPos; simp [hline]
  rw [hpos]
  unfold calleeOf
  refine congrArg _ (funext fun r => ?_)
  obtain ⟨f, first⟩ := r
  rfl
section
variable {g : GT} {X : Cx} {C : Nat → Addr} {Φ : CF} {k : Nat} {m : Cm}
/-- the promise with the default values (none) -/
theorem tCall_of {sp : Sp} {E : XK} {t : TA} {σ : L2.St} {H : Hp} {Q : VK} (h : t σ H fun vs H1 => sp vs H1 Q E) (mono : ∀ {Q Q' : List V → Hp → Prop}, (∀ vs H, Q vs H → Q' vs H) → t σ H Q → t σ H Q') : tCall sp [] E t σ H Q :=
  mono (fun vs H1 q => by rw [List.append_nil]; exact q) h
theorem not_ioA {vs : List V} {a : Addr} : ¬ ioA vs none a := fun h => by cases h.1
/-- f(..) that changes no argument -/
theorem callNo_run {f : Nat} {os : List Opd} {E : En} {F H : Hp} {σ : L2.St} {σd σd' : S} {r : Res} {vs : List V} {Q : VK} (I : SI X.K C E F H σ σd) (ro : OpRs X.K F σ vs os) (e : callNo Φ f os σd = some (r, σd'))
    (k : ∀ F' H' v, SI X.K C E F' H' σ σd' → Fle F F' → ResR X.K C E F' H' σ σd' v r → Q v H') : spF X.K C Φ f vs H Q fun _ _ _ => False := by
  unfold callNo at e
  cases hf : fetchs σd os with
  | none => rw [hf] at e; cases e
  | some ds =>
    rw [hf] at e
    dsimp only at e
    split at e
    · rename_i r' hc
      split at e
      · rename_i hz
        cases e
        obtain ⟨h1, h2⟩ := and_t hz
        obtain ⟨h2, h3⟩ := and_t h2
        obtain ⟨fl, d⟩ := r
        cases fl with
        | true => cases h2
        | false =>
          have rr : Reps X.K (tmpF F H σ σd) vs ds := Reps.of_get (ro.lenD hf) fun i v d hv hd => by
            rcases OpRs.ownA I ro hf i v d hv hd with q | ⟨q, w⟩
            · exact q.mono (tmp_le I).le
            · refine tmp_rep I q w ?_
              have := List.all_eq_true.mp h3 d (List.mem_of_getElem? hd)
              simpa using this
          refine ⟨tmpF F H σ σd, ds, none, (false, d), tmp_fin I, rr, hc, fun F' H' v fin le nw fr _ out => ?_⟩
          have out : Rep X.K F' v d := out
          obtain ⟨F2, I2, le2⟩ := I.tmpBack fin le nw fun a u e => fr a u e not_ioA
          refine k F2 H' v I2 le2 ?_
          exact (OR.flat (C := C) (H := H') (Or.inl out) h1).2 F2
      · split at e
        · rename_i s hs
          cases e
          obtain ⟨F1, I1, le1, rr, _⟩ := SI.goS I ro hf hs
          refine ⟨F1, ds, none, r, I1.fin, rr, hc, fun F' H' v fin le nw fr _ out => ?_⟩
          have I2 := I1.grow fin le nw fun a u e => fr a u e not_ioA
          refine k F' H' v I2 (le1.trans le) ?_
          obtain ⟨fl, d⟩ := r
          cases fl with
          | false => exact out
          | true =>
            refine ⟨out.1, fun l e => ⟨I1.fresh (out.2 l e), fun w => ?_⟩⟩
            exact I1.freshOwn (out.2 l e) w
        · cases e
    · cases e
/-- .. that changes its first -/
theorem callIo_run {f i : Nat} {os : List Opd} {E : En} {F H : Hp} {σ : L2.St} {σd σd' : S} {r : Res} {v0 : V} {vs : List V} {Q : VK} (I : SI X.K C E F H σ σd) (h0 : σ[i]? = some (some v0)) (ro : OpRs X.K F σ vs os) (e : callIo Φ f i os σd = some (r, σd'))
    (k : ∀ F' H' v, SI X.K C E F' H' σ σd' → Fle F F' → ResR X.K C E F' H' σ σd' v r → Q v H') : spF X.K C Φ f (v0 :: vs) H Q fun _ _ _ => False := by
  unfold callIo at e
  cases hf : fetchs σd (.inl i :: os) with
  | none => rw [hf] at e; cases e
  | some ds =>
    rw [hf] at e
    dsimp only at e
    split at e
    · rename_i o r' hc
      split at e
      · rename_i s hs
        split at e
        · rename_i s2 hs2
          cases e
          simp only [fetchs] at hf
          cases f0 : fetch σd (.inl i) with
          | none => rw [f0] at hf; cases hf
          | some d0 =>
            rw [f0] at hf
            cases fr : fetchs σd os with
            | none => rw [fr] at hf; cases hf
            | some ds' =>
              rw [fr] at hf
              cases hf
              obtain ⟨F1, I1, le1, rr, _⟩ := SI.goS I ro fr hs
              obtain ⟨dd, hd⟩ := sl2_inv hs2
              -- the slot held it before, too
              have hown : ∃ t, s[i]? = some t ∧ t.own = true ∧ (t = .ow dd ∨ t = .io dd) := by
                rcases hd with ⟨q, _⟩ | ⟨q, _⟩
                · exact ⟨_, q, rfl, .inl rfl⟩
                · exact ⟨_, q, rfl, .inr rfl⟩
              obtain ⟨t, ht, hto, htd⟩ := hown
              have same : σd[i]? = some t := by
                rcases frzs_slot hs i with q | ⟨d1, q1, q2⟩
                · rw [← q]; exact ht
                · rw [q2] at ht; cases ht; cases hto
              have hd0 : d0 = dd := by
                have f0 : (match σd[i]? with | some s => s.get | none => none) = some d0 := f0
                rw [same] at f0
                rcases htd with rfl | rfl <;> exact (Option.some.inj f0).symm
              subst hd0
              have hrel := I1.at_ i _ t h0 ht
              have ow : Own X.K C F1 H v0 d0 := by
                rcases htd with rfl | rfl
                · cases hrel with | ow w => exact w
                · cases hrel with | io w => exact w
              obtain ⟨l, u, el, lF, lH⟩ := ow.ref
              subst el
              refine ⟨F1, d0 :: ds', some o, r, I1.fin, ⟨_, vs, d0, ds', rfl, rfl, ow, rr⟩, hc, fun F' H' v fin le nw frm io out => ?_⟩
              obtain ⟨v1, vs1, e1, ow'⟩ := io
              cases e1
              have I2 := I1.chg hs2 h0 fin le nw (fun a u e n => frm a u e fun z => n (by
                have := z.2
                simp at this
                exact this.symm)) ow'
              refine k F' H' v I2 (le1.trans le) ?_
              obtain ⟨fl, d⟩ := r
              cases fl with
              | false => exact out
              | true =>
                refine ⟨out.1, fun l' e => ⟨I1.fresh (out.2 l' e), fun w => ?_⟩⟩
                -- a new one is no slot's
                refine I1.freshOwn (out.2 l' e) ?_
                obtain ⟨j, t', w1, w2, w3⟩ := w
                rcases hd with ⟨q1, q2⟩ | ⟨q1, q2⟩
                · rw [q2] at w2
                  by_cases hj : i = j
                  · subst hj; exact ⟨i, _, w1, ht, hto⟩
                  · rw [List.getElem?_set_ne hj] at w2; exact ⟨j, t', w1, w2, w3⟩
                · rw [q2] at w2
                  by_cases hj : i = j
                  · subst hj; exact ⟨i, _, w1, ht, hto⟩
                  · rw [List.getElem?_set_ne hj] at w2; exact ⟨j, t', w1, w2, w3⟩
        · cases e
      · cases e
    · cases e
/-- a def of the top -/
def isFun (g : GT) (m : Cm) (f : Nat) (x : Str) : Bool := glb m x && (match g.fis[f]? with
  | some fi => decide (fi.name = x) && fi.cls.isNone
  | none => false)
theorem fun_ok (G : Good g Φ C k m X) {f : Nat} {x : Str} (h : isFun g m f x = true) : Gl X x ∧ (x == ("__debug__" : Str)) = false ∧ ∃ a fd ps, FnAt X C Φ k f a fd ps ∧ X.mg x = some (.ref a) ∧ PySem.W.keepIn X.K (.ref a) = true := by
  obtain ⟨h1, h2⟩ := and_t h
  obtain ⟨g1, g2⟩ := glb_ok G h1
  split at h2
  · rename_i fi hfi
    obtain ⟨h3, h4⟩ := and_t h2
    have e : fi.name = x := of_decide_eq_true h3
    obtain ⟨a, fd, ps, q1, q2, q3⟩ := G.fns f fi hfi (by simpa using h4)
    rw [e] at q2
    exact ⟨g1, g2, a, fd, ps, q1, q2, q3⟩
  · cases h2
theorem Good.room0 (G : Good g Φ C k m X) : Room k X.A := ⟨G.room.hd, by have := G.room.dp; omega, by have := G.room.un; omega⟩
theorem call_inv {f : Nat} {io : Option Nat} {es : Exs} {σd : S} {r : Res} {σd' : S} (e : ev Φ (.call f io es) σd = some (r, σd')) : ∃ os s1, evOs Φ es σd = some (os, s1) ∧ ((io = none ∧ callNo Φ f os s1 = some (r, σd')) ∨ ∃ i os', os = .inl i :: os' ∧ callIo Φ f i os' s1 = some (r, σd')) := by
  obtain ⟨os, s1, e1, e⟩ := bnd_some e
  refine ⟨os, s1, e1, ?_⟩
  split at e
  · exact .inl ⟨rfl, e⟩
  · split at e
    · exact .inr ⟨_, _, rfl, e⟩
    · cases e
theorem SE_call (G : Good g Φ C k m X) {f : Nat} {io : Option Nat} {x : Str} {es : List Expr} {cs : Exs} {p pos : Pos} (h : isFun g m f x = true) (hs : SEs X C Φ es cs) : SE X C Φ (.Call (.Name x p) es [] pos) (.call f io cs) := by
  obtain ⟨g1, g2, a, fd, ps, A, hm, hk⟩ := fun_ok G h
  have body : ∀ {σ : L2.St} {H : Hp} {Q : VK}, tE X.K C Φ (.call f io cs) σ H Q → tOsR X.K C Φ cs σ H fun vs H1 => spF X.K C Φ f vs H1 Q fun _ _ _ => False := fun {σ H Q} q => by
    obtain ⟨E, F, σd, r, σd', I, e, k⟩ := q
    obtain ⟨os, s1, e1, h⟩ := call_inv e
    refine tOs_run I e1 fun F1 H1 vs I1 le1 ro => ?_
    rcases h with ⟨_, h⟩ | ⟨i, os', rfl, h⟩
    · exact callNo_run I1 ro h fun F' H' v I' le w => k F' H' v I' (le1.trans le) w
    · cases ro with
      | sl q ro => exact callIo_run I1 q ro h fun F' H' v I' le w => k F' H' v I' (le1.trans le) w
  cases hs with
  | nil =>
    refine SE.plain (PE.imp (pe_call0 A.ok G.room0 g1 hm hk A.bd .nil pass0 g2) fun σ H Q q => ?_) rfl rfl (fun _ z => by cases z)
    exact body q
  | @cons e es c cs ha hs =>
    refine SE.plain (PE.imp (pe_call A.ok G.room0 g1 hm hk A.bd .nil pass0 (SEs.cons ha hs).paO g2 (star_cons ha.ns _ _) (star_none hs.ns _ _)) fun σ H Q q => ?_) rfl rfl (fun _ z => by cases z)
    exact tOs_mono (fun vs H1 q => by rw [List.append_nil]; exact q) (body q)
/-! methods -/
def isMeth (g : GT) (f c : Nat) (x : Str) : Bool := match g.fis[f]? with
  | some fi => decide (fi.name = x) && decide (fi.cls = some c)
  | none => false
theorem meth_ok (G : Good g Φ C k m X) {f c : Nat} {x : Str} (h : isMeth g f c x = true) : ∃ a fd ps, FnAt X C Φ k f a fd ps ∧ Cls X.K (C c) ∧ Meth X.K (C c) x a := by
  unfold isMeth at h
  split at h
  · rename_i fi hfi
    obtain ⟨h3, h4⟩ := and_t h
    have e : fi.name = x := of_decide_eq_true h3
    obtain ⟨a, fd, ps, q1, q2, q3⟩ := G.mths f fi c hfi (of_decide_eq_true h4)
    rw [e] at q3
    exact ⟨a, fd, ps, q1, q2, q3⟩
  · cases h
theorem notSupB {o : Expr} {x : Str} (h : notSup o = true) : attributeBase o x X.env (eval o X.env) = eval o X.env := supBase h x X.env _
def plainM (o : Expr) : Bool := match o with
  | .Name _ _ => true | .Call .. => notSup o | .Attribute .. => true | _ => false
theorem SE_msl (G : Good g Φ C k m X) {f c i : Nat} {x : Str} {o : Expr} {es : List Expr} {cs : Exs} {ap pos : Pos} (h : isMeth g f c x = true) (ho : isVar m i o = true) (hl : decide (es.length < 30) = true) (hline : (ap.endLine == pos.line) = true) (hs : SEs X C Φ es cs) : SE X C Φ (.Call (.Attribute o x ap) es [] pos) (.msl f c i x cs) := by
  obtain ⟨a, fd, ps, A, hc, hm⟩ := meth_ok G h
  cases o with
  | Name y yp =>
    have po := (SE_var G ho).v i rfl
    have body : ∀ {σ : L2.St} {H : Hp} {Q : VK}, tE X.K C Φ (.msl f c i x cs) σ H Q → ∃ v, σ[i]? = some (some v) ∧ ∃ a dx fs, v = .ref a ∧ H a = some (.ins (C c) dx fs) ∧ fs.lookup x = none ∧
        tOsR X.K C Φ cs σ H fun vs H1 => spF X.K C Φ f (v :: vs) H1 Q fun _ _ _ => False := fun {σ H Q} q => by
      obtain ⟨E, F, σd, r, σd', I, e, k⟩ := q
      have e : (if isCls c x (fetch σd (.inl i)) then bnd (evOs Φ cs σd) fun os σ => callIo Φ f i os σ else none) = some (r, σd') := e
      split at e
      · rename_i hcl
        obtain ⟨os, s1, e1, e⟩ := bnd_some e
        unfold isCls at hcl
        split at hcl
        · rename_i c' fs hf
          obtain ⟨q1, q2⟩ := and_t hcl
          have ec : c = c' := of_decide_eq_true q1
          subst ec
          obtain ⟨l, dx, fv, h1, h2, h3⟩ := I.objAt hf
          refine ⟨_, h1, l, dx, fv, rfl, h2, h3.none (by simpa using q2), tOs_run I e1 fun F1 H1 vs I1 le1 ro => ?_⟩
          exact callIo_run I1 h1 ro e fun F' H' v I' le w => k F' H' v I' (le1.trans le) w
        · cases hcl
      · cases e
    cases hs with
    | nil =>
      exact SE.plain (PE.imp (pe_meth0 po hc hm A.ok G.room0 A.bd .nil pass0 (methForm rfl (fun e he => by cases he) hl hline)) fun σ H Q q => body q) rfl rfl (fun _ z => by cases z)
    | @cons e es cc cs ha hs =>
      refine SE.plain (PE.imp (pe_meth po hc hm A.ok G.room0 A.bd .nil pass0 (SEs.cons ha hs).paO (star_cons ha.ns _ _) (star_none hs.ns _ _) (methForm rfl (SEs.cons ha hs).ns hl hline)) fun σ H Q q => ?_) rfl rfl (fun _ z => by cases z)
      obtain ⟨v, h1, a, dx, fs, h2, h3, h4, h5⟩ := body q
      exact ⟨v, h1, a, dx, fs, h2, h3, h4, tOs_mono (fun vs H1 q => by rw [List.append_nil]; exact q) h5⟩
  | _ => cases ho
/-! a new object -/
def isMk (g : GT) (m : Cm) (c f : Nat) (x : Str) : Bool := glb m x && decide ((x, c, f) ∈ g.mks)
theorem SE_mk (G : Good g Φ C k m X) {c f : Nat} {x : Str} {es : List Expr} {cs : Exs} {p pos : Pos} (h : isMk g m c f x = true) (hs : SEs X C Φ es cs) : SE X C Φ (.Call (.Name x p) es [] pos) (.mk c f cs) := by
  obtain ⟨h1, h2⟩ := and_t h
  obtain ⟨g1, g2⟩ := glb_ok G h1
  obtain ⟨a, fd, ps, A, hm, hk⟩ := G.mks x c f (of_decide_eq_true h2)
  have body : ∀ {σ : L2.St} {H : Hp} {Q : VK}, tE X.K C Φ (.mk c f cs) σ H Q → tVsR X.K C Φ cs σ H fun vs H1 => ∀ x dx, H1 x = none → H1 dx = none → dx ≠ x →
      spF X.K C Φ f (.ref x :: vs) (upd (upd H1 dx (.own x)) x (.ins (C c) dx [])) (fun v H2 => v = .non ∧ Q (.ref x) H2) fun _ _ _ => False := fun {σ H Q} q => by
    obtain ⟨E, F, σd, r, σd', I, e, k⟩ := q
    obtain ⟨ds, s1, e1, e⟩ := bnd_some e
    split at e
    · rename_i o hc
      cases e
      refine tVs_run I e1 fun F1 H1 vs I1 le1 rr y dx hy hdx ne => ?_
      have I2 := I1.alloc (.own y) hdx
      have hy2 : upd H1 dx (.own y) y = none := by rw [upd_ne (Ne.symm ne)]; exact hy
      have I3 := I2.alloc (.ins (C c) dx []) hy2
      refine ⟨F1, _, some o, _, I3.fin, ⟨_, vs, _, ds, rfl, rfl, .obj (I1.fin.none hy) upd_same .nil, rr⟩, hc, fun F' H' v fin le nw frm io out => ?_⟩
      cases (show Rep X.K F' v .non from out)
      refine ⟨rfl, ?_⟩
      obtain ⟨v1, vs1, q1, ow⟩ := io
      cases q1
      have old : ∀ b u, H1 b = some u → H' b = some u := fun b u e => by
        have b1 : b ≠ dx := ne_of_none e hdx
        have b2 : b ≠ y := ne_of_none e hy
        refine frm b u (by rw [upd_ne b2, upd_ne b1]; exact e) fun z => b2 ?_
        have := z.2
        simp at this
        exact this.symm
      refine k F' H' _ (I1.grow fin le (fun b q => ?_) old) (le1.trans le) ⟨ow, fun l e => by cases e; exact ⟨I1.fresh hy, I1.freshOwn hy⟩⟩
      rcases nw b q with q | q
      · exact .inl q
      · refine .inr ?_
        cases e : H1 b with
        | none => rfl
        | some u =>
          have b1 : b ≠ dx := ne_of_none e hdx
          have b2 : b ≠ y := ne_of_none e hy
          rw [upd_ne b2, upd_ne b1, e] at q
          cases q
    · cases e
  cases hs with
  | nil =>
    refine SE.plain (PE.imp (pe_make0 hk A.ok G.room g1 hm A.bd .nil pass0 g2) fun σ H Q q => ?_) rfl rfl (fun _ z => by cases z)
    exact body q
  | @cons e es cc cs ha hs =>
    refine SE.plain (PE.imp (pe_make hk A.ok G.room g1 hm A.bd .nil pass0 (SEs.cons ha hs).paV g2 (star_cons ha.ns _ _) (star_none hs.ns _ _)) fun σ H Q q => ?_) rfl rfl (fun _ z => by cases z)
    exact tVs_mono (fun vs H1 q x dx a b c => by rw [List.append_nil]; exact q x dx a b c) (body q)
/-- a new object's method -/
theorem SE_mcall (G : Good g Φ C k m X) {f c : Nat} {x : Str} {o : Expr} {co : Ex} {es : List Expr} {cs : Exs} {ap pos : Pos} (h : isMeth g f c x = true) (hn : notSup o = true) (hl : decide (es.length < 30) = true) (hline : (ap.endLine == pos.line) = true) (ho : SE X C Φ o co) (hs : SEs X C Φ es cs) :
    SE X C Φ (.Call (.Attribute o x ap) es [] pos) (.mcall f co cs) := by
  obtain ⟨a, fd, ps, A, hc, hm⟩ := meth_ok G h
  have cls : ∀ ds y, Φ f ds = some y → ∃ fs r, ds = .obj c fs :: r ∧ fs.lookup x = none := by
    unfold isMeth at h
    split at h
    · rename_i fi hfi
      obtain ⟨h3, h4⟩ := and_t h
      have e : fi.name = x := of_decide_eq_true h3
      intro ds y hy
      have := G.mcl f fi c hfi (of_decide_eq_true h4) ds y hy
      rw [e] at this
      exact this
    · cases h
  have body : ∀ {σ : L2.St} {H : Hp} {Q : VK}, tE X.K C Φ (.mcall f co cs) σ H Q → tE X.K C Φ co σ H fun v H1 => ∃ a dx fs, v = .ref a ∧ H1 a = some (.ins (C c) dx fs) ∧ fs.lookup x = none ∧
      tVsR X.K C Φ cs σ H1 fun vs H2 => spF X.K C Φ f (v :: vs) H2 Q fun _ _ _ => False := fun {σ H Q} q => by
    obtain ⟨E, F, σd, r, σd', I, e, k⟩ := q
    obtain ⟨r1, s1, e1, e⟩ := bnd_some e
    refine ⟨E, F, σd, r1, s1, I, e1, fun F1 H1 v I1 le1 w => ?_⟩
    split at e
    · rename_i c' fs
      obtain ⟨ds, s2, e2, e⟩ := bnd_some e
      split at e
      · rename_i o' r' hcall
        cases e
        obtain ⟨fs', r2, q1, q2⟩ := cls _ _ hcall
        cases q1
        obtain ⟨ow, w2⟩ := w
        obtain ⟨l, u, el, _, _⟩ := ow.ref
        subst el
        obtain ⟨l0, lno⟩ := w2 l rfl
        have ow0 := ow
        cases ow with
        | @obj _ _ dx fv _ lF lH rep =>
          refine ⟨l, dx, fv, rfl, lH, rep.none q2, tVs_run I1.local e2 fun F2 H2 vs J2 le2 rr => ?_⟩
          have I2 := I1.back J2
          have lH2 : H2 l = H1 l := by rw [lH]; exact J2.frame l _ lH lno
          have lF2 : F2 l = none := by
            cases z : F2 l with
            | none => rfl
            | some u =>
              rcases J2.new l (by rw [z]; exact fun z => by cases z) with q | q | q
              · exact absurd lF q
              · have q : H1 l = none := q
                rw [lH] at q; cases q
              · exact absurd q lno
          have lno2 : ¬ OwnA σ σd' l := fun w => by
            rcases J2.own0 w with q | q
            · have q : H1 l = none := q
              rw [lH] at q; cases q
            · exact lno q
          have ow2 := ow0.keep le2 lF2 lH2
          refine ⟨F2, _, some o', r, I2.fin, ⟨_, vs, _, ds, rfl, rfl, ow2, rr⟩, hcall, fun F' H' v fin le nw frm io out => ?_⟩
          obtain ⟨v1, vs1, q1, ow3⟩ := io
          cases q1
          obtain ⟨l3, u3, e3, _, there⟩ := ow3.ref
          cases e3
          have I3 := I2.other lno2 l0 ⟨_, there⟩ fin le nw fun a u e n => frm a u e fun z => n (by
            have := z.2
            simp at this
            exact this.symm)
          refine k F' H' v I3 (le1.trans (le2.trans le)) ?_
          obtain ⟨fl, d⟩ := r
          cases fl with
          | false => exact out
          | true => exact ⟨out.1, fun l' e => ⟨I2.fresh (out.2 l' e), I2.freshOwn (out.2 l' e)⟩⟩
      · cases e
    · cases e
  cases hs with
  | nil =>
    exact SE.plain (PE.imp (pe_meth0 ho.pe hc hm A.ok G.room0 A.bd .nil pass0 (methForm hn (fun e he => by cases he) hl hline)) fun σ H Q q => body q) rfl rfl (fun _ z => by cases z)
  | @cons e es cc cs ha hs =>
    refine SE.plain (PE.imp (pe_meth ho.pe hc hm A.ok G.room0 A.bd .nil pass0 (SEs.cons ha hs).paV (star_cons ha.ns _ _) (star_none hs.ns _ _) (methForm hn (SEs.cons ha hs).ns hl hline)) fun σ H Q q => ?_) rfl rfl (fun _ z => by cases z)
    obtain ⟨E, F, σd, r, σd', I, e, kk⟩ := body q
    refine ⟨E, F, σd, r, σd', I, e, fun F' H' v I' le w => ?_⟩
    obtain ⟨a, dx, fs, h2, h3, h4, h5⟩ := kk F' H' v I' le w
    exact ⟨a, dx, fs, h2, h3, h4, tVs_mono (fun vs H1 q => by rw [List.append_nil]; exact q) h5⟩
/-! pop -/
theorem seqIx {n : Nat} {i : Int} {j : Nat} (h : ixN n i = some j) : seqIndex? i n = some j := by
  unfold ixN at h
  unfold seqIndex?
  by_cases h0 : 0 ≤ i
  · rw [if_pos h0] at h
    have h1 : ¬ i < 0 := by omega
    split at h
    · rename_i h2
      simp only [if_neg h1, decide_eq_true h0, decide_eq_true h2, Bool.and_self, if_true]
      exact h
    · cases h
  · rw [if_neg h0] at h
    have h1 : i < 0 := by omega
    split at h
    · rename_i h2
      have h3 : 0 ≤ i + n := by omega
      have h4 : i + n < n := by omega
      simp only [if_pos h1, decide_eq_true h3, decide_eq_true h4, Bool.and_self, if_true]
      exact h
    · cases h
theorem sm_of {i : Int} (h : sm62 i = true) : -(2 ^ 62) ≤ i ∧ i < 2 ^ 62 := by
  have h1 : i.natAbs < 4611686018427387904 := of_decide_eq_true h
  omega
theorem isLst_inv {o : Option D} (h : isLst o = true) : ∃ l, o = some (.lst l) := by
  unfold isLst at h
  split at h
  · exact ⟨_, rfl⟩
  · cases h
theorem pop_inv {i : Nat} {e : Ex} {σd : S} {r : Res} {σd' : S} (h : ev Φ (.pop i e) σd = some (r, σd')) : ∃ l0 k s1 l j d, fetch σd (.inl i) = some (.lst l0) ∧ bnd (ev Φ e σd) vl = some (.int k, s1) ∧ (s1[i]? = some (.ow (.lst l)) ∨ s1[i]? = some (.io (.lst l))) ∧
    ixN l.length k = some j ∧ l[j]? = some d ∧ sm62 k = true ∧ r = (false, d) ∧ sl2 s1 i (.lst (l.eraseIdx j)) = some σd' := by
  have h : (if isLst (fetch σd (.inl i)) then bnd (bnd (ev Φ e σd) vl) (fun r σ => match r, σ[i]? with
    | .int k, some (.ow (.lst l)) => match ixN l.length k with
      | some j => match l[j]? with
        | some d => if sm62 k then some (((false, d) : Res), σ.set i (.ow (.lst (l.eraseIdx j)))) else none
        | none => none
      | none => none
    | .int k, some (.io (.lst l)) => match ixN l.length k with
      | some j => match l[j]? with
        | some d => if sm62 k then some ((false, d), σ.set i (.io (.lst (l.eraseIdx j)))) else none
        | none => none
      | none => none
    | _, _ => none) else none) = some (r, σd') := h
  split at h
  · rename_i hl
    obtain ⟨l0, h0⟩ := isLst_inv hl
    obtain ⟨x, s1, e1, h⟩ := bnd_some h
    split at h
    · rename_i k l hs
      split at h
      · rename_i j hj
        split at h
        · rename_i d hd
          split at h
          · rename_i hk
            cases h
            exact ⟨l0, k, s1, l, j, d, h0, e1, .inl hs, hj, hd, hk, rfl, by unfold sl2; rw [hs]⟩
          · cases h
        · cases h
      · cases h
    · rename_i k l hs
      split at h
      · rename_i j hj
        split at h
        · rename_i d hd
          split at h
          · rename_i hk
            cases h
            exact ⟨l0, k, s1, l, j, d, h0, e1, .inr hs, hj, hd, hk, rfl, by unfold sl2; rw [hs]⟩
          · cases h
        · cases h
      · cases h
    · cases h
  · cases h
/-- an own list at a slot -/
theorem SI.ownLst {K : PySem.W.Frag} {E : En} {F H : Hp} {σ : L2.St} {σd : S} (I : SI K C E F H σ σd) {i : Nat} {l : List D} (h : σd[i]? = some (.ow (.lst l)) ∨ σd[i]? = some (.io (.lst l))) :
    ∃ a vs, σ[i]? = some (some (.ref a)) ∧ F a = none ∧ H a = some (.lst vs) ∧ Reps K F vs l := by
  have fin : ∀ {v : V}, σ[i]? = some (some v) → Own K C F H v (.lst l) → ∃ a vs, σ[i]? = some (some (.ref a)) ∧ F a = none ∧ H a = some (.lst vs) ∧ Reps K F vs l := fun {v} h w => by
    cases w with
    | lst a b r => exact ⟨_, _, h, a, b, r⟩
  rcases h with h | h
  · obtain ⟨o, h1, h2⟩ := I.slot h
    cases h2 with | ow w => exact fin h1 w
  · obtain ⟨o, h1, h2⟩ := I.slot h
    cases h2 with | io w => exact fin h1 w
theorem SI.putAt {K : PySem.W.Frag} {E : En} {F H : Hp} {σ : L2.St} {σd s : S} (I : SI K C E F H σ σd) {i : Nat} {d : D} {a : Addr} {o : HO} (h1 : σ[i]? = some (some (.ref a))) (hF : F a = none) (hs : sl2 σd i d = some s) (ow : Own K C F (upd H a o) (.ref a) d) :
    SI K C E F (upd H a o) σ s :=
  I.chg hs h1 (fun b u e => by
    have : b ≠ a := fun z => by rw [z, hF] at e; cases e
    rw [upd_ne this]
    exact I.fin b u e) (Fle.refl F) (fun _ h => .inl h) (fun b u e n => by rw [upd_ne n]; exact e) ow
theorem SE_pop (G : Good g Φ C k m X) {i : Nat} {o e : Expr} {ce : Ex} {ap pos : Pos} (ho : isVar m i o = true) (hline : (ap.endLine == pos.line) = true) (hs : SE X C Φ e ce) : SE X C Φ (.Call (.Attribute o "pop" ap) [e] [] pos) (.pop i ce) := by
  have hb : attributeBase o "pop" X.env (eval o X.env) = eval o X.env := by
    cases o with
    | Name y p => rfl
    | _ => cases ho
  have hfew := few_of (es := [e]) (fun x hx => by cases List.mem_singleton.mp hx; exact hs.ns) rfl pos X.env
  refine SE.plain (PE.imp (pe_bm PySem.F.plainAttrs_list PySem.F.slot_list_pop PySem.F.type_list_pop (show MtR X "list.pop" rPopAt from mt_popAt) ((SE_var G ho).v i rfl) (pa_cons hs.val pa_nil (star_cons hs.ns _ _)) hb hfew hline (star_cons hs.ns _ _) rfl) fun σ H Q q => ?_) rfl rfl (fun _ z => by cases z)
  obtain ⟨E, F, σd, r, σd', I, ev', k⟩ := q
  obtain ⟨l0, kk, s1, l, j, d, h0, e1, hsl, hj, hd, hk, rfl, h2⟩ := pop_inv ev'
  obtain ⟨v, hv, orl⟩ := I.fetch h0
  obtain ⟨a, vs, rfl, ha, _⟩ := OR.lst (C := C) I.fin orl
  refine ⟨_, hv, .inl ⟨rfl, vs, SqL.of ha⟩, E, F, σd, _, s1, I, e1, fun F1 H1 w I1 le1 rw' => ?_⟩
  cases rw'
  obtain ⟨a', vs', hv', hF, hH, rr⟩ := I1.ownLst hsl
  rw [hv] at hv'; cases hv'
  obtain ⟨y, hy, ry⟩ := rr.get hd
  obtain ⟨k1, k2⟩ := sm_of hk
  refine ⟨a, vs', kk, j, y, rfl, rfl, hH, by omega, by omega, ?_, hy, ?_⟩
  · rw [rr.len]; exact seqIx hj
  · exact k F1 _ y (I1.putAt hv hF h2 (.lst hF upd_same (rr.erase j))) le1 ry
end
end G48

set_option maxHeartbeats 4000000
/-! What is walked. -/
namespace G48
open PySem L2
section
variable {g : GT} {X : Cx} {C : Nat → Addr} {Φ : CF} {k : Nat} {m : Cm}
/-- what a turn gives: a value that stays, or a new tuple of such -/
def YR (K : PySem.W.Frag) (F H : Hp) (x : V) (H' : Hp) (d : D) : Prop := (H' = H ∧ Rep K F x d) ∨ ∃ T vs l, x = .ref T ∧ H T = none ∧ H' = upd H T (.tup vs) ∧ d = .tup l ∧ Reps K F vs l
/-- J walks ds -/
structure Wk (K : PySem.W.Frag) (J : L2.It) (F : Hp) (ds : List D) : Prop where
  go : ∀ i F' H', Fle F F' → Fin F' H' → i < ds.length → J.go i H'
  stop : ∀ i F' H', Fle F F' → Fin F' H' → ds.length ≤ i → J.stop i H'
  yld : ∀ i F' H' x H'', Fle F F' → Fin F' H' → i < ds.length → J.yld i H' x H'' → ∃ d, ds[i]? = some d ∧ YR K F' H' x H'' d
theorem YR.si {K : PySem.W.Frag} {E : En} {F H H' : Hp} {σ : L2.St} {σd : S} {x : V} {d : D} (I : SI K C E F H σ σd) (y : YR K F H x H' d) : ∃ F', SI K C E F' H' σ σd ∧ Fle F F' ∧ Rep K F' x d ∧ (∀ a, F' a ≠ none → F a ≠ none ∨ H a = none) ∧ ∀ a u, H a = some u → H' a = some u := by
  rcases y with ⟨rfl, r⟩ | ⟨T, vs, l, rfl, hT, rfl, rfl, r⟩
  · exact ⟨F, I, Fle.refl F, r, fun _ h => .inl h, fun _ _ h => h⟩
  · have le : Fle F (L2.upd F T (.tup vs)) := Fle.up _ (I.fin.none hT)
    refine ⟨_, I.stay _ hT, le, .tup upd_same (r.mono le), fun a h => ?_, fun a u h => by rw [upd_ne (ne_of_none h hT)]; exact h⟩
    by_cases z : a = T
    · exact .inr (by rw [z]; exact hT)
    · rw [upd_ne z] at h; exact .inl h
/-- an iterator's text -/
def tIt (K : PySem.W.Frag) (C : Nat → Addr) (Φ : CF) (it : It) : TI := fun σ H R => ∃ (E : En) (F : Hp) (σd : S) (ds : List D) (σd' : S), SI K C E F H σ σd ∧ evIt Φ it σd = some (ds, σd') ∧
  ∀ J F' H', SI K C E F' H' σ σd' → Fle F F' → Wk K J F' ds → R J H'
theorem sqL_up {K : PySem.W.Frag} {F F' H : Hp} {a : Addr} {vs : List V} (h : SqL K F a vs) (le : Fle F F') (fin : Fin F' H) : SqL K H a vs := fin.le.sq (le.sq h)
theorem sqT_up {K : PySem.W.Frag} {F F' H : Hp} {a : Addr} {vs : List V} (h : F a = some (.tup vs)) (le : Fle F F') (fin : Fin F' H) : SqT K H a vs := .of (fin a _ (le.t a vs h))
theorem wk_list {K : PySem.W.Frag} {F : Hp} {a : Addr} {vs : List V} {ds : List D} (h : SqL K F a vs) (r : Reps K F vs ds) : Wk K (Itl K a) F ds where
  go := fun i F' H' le fin hi => by
    obtain ⟨x, hx⟩ := get_len r.len (i := i) (x := ds[i]) (List.getElem?_eq_getElem hi)
    exact ⟨vs, x, sqL_up h le fin, hx⟩
  stop := fun i F' H' le fin hi => ⟨vs, sqL_up h le fin, by rw [r.len]; exact hi⟩
  yld := fun i F' H' x H'' le fin hi y => by
    obtain ⟨rfl, y⟩ := y
    obtain ⟨d, h1, h2⟩ := (r.mono le).getV (y vs (sqL_up h le fin))
    exact ⟨d, h1, .inl ⟨rfl, h2⟩⟩
theorem wk_tup {K : PySem.W.Frag} {F : Hp} {a : Addr} {vs : List V} {ds : List D} (h : F a = some (.tup vs)) (r : Reps K F vs ds) : Wk K (Itt K a) F ds where
  go := fun i F' H' le fin hi => by
    obtain ⟨x, hx⟩ := get_len r.len (i := i) (x := ds[i]) (List.getElem?_eq_getElem hi)
    exact ⟨vs, x, sqT_up h le fin, hx⟩
  stop := fun i F' H' le fin hi => ⟨vs, sqT_up h le fin, by rw [r.len]; exact hi⟩
  yld := fun i F' H' x H'' le fin hi y => by
    obtain ⟨rfl, y⟩ := y
    obtain ⟨d, h1, h2⟩ := (r.mono le).getV (y vs (sqT_up h le fin))
    exact ⟨d, h1, .inl ⟨rfl, h2⟩⟩
theorem signs_len (z : Str) : (signs z).length = z.cps.size := by simp [signs]
theorem signs_get (z : Str) (i : Nat) : (signs z)[i]? = (z.cps[i]?).map fun c => D.str ⟨#[c]⟩ := by
  unfold signs
  rw [List.getElem?_map, Array.getElem?_toList]
theorem wk_str {K : PySem.W.Frag} {F : Hp} (z : Str) : Wk K (Its z) F (signs z) where
  go := fun i F' H' le fin hi => by rw [signs_len] at hi; exact hi
  stop := fun i F' H' le fin hi => by rw [signs_len] at hi; exact hi
  yld := fun i F' H' x H'' le fin hi y => by
    obtain ⟨rfl, c, hc, rfl⟩ := y
    exact ⟨.str ⟨#[c]⟩, by rw [signs_get, hc]; rfl, .inl ⟨rfl, .str _⟩⟩
/-- a list, a tuple, a text -/
def iOf (K : PySem.W.Frag) (tl : TE) : TI := fun σ H R => tl σ H fun x H1 => (∃ a, x = .ref a ∧ (∃ xs, SqL K H1 a xs) ∧ R (Itl K a) H1) ∨ (∃ a, x = .ref a ∧ (∃ xs, SqT K H1 a xs) ∧ R (Itt K a) H1) ∨ (∃ z, x = .str z ∧ R (Its z) H1)
theorem pi_of {tg l : Expr} {tl : TE} (hl : PE X l tl) : PI X tg l (iOf X.K tl) := by
  refine ⟨fun pins s σ H R I h => ?_⟩
  refine thn (hl.run pins s σ H _ I h) fun v s1 ⟨x, H1, I1, r1, q1⟩ => ?_
  rcases q1 with ⟨a, e, ⟨xs, hq⟩, q⟩ | ⟨a, e, ⟨xs, hq⟩, q⟩ | ⟨z, e, q⟩
  · subst e
    cases r1
    obtain ⟨its, rv, p, hz⟩ := I1.list hq
    refine wpAny_pyIter_list p.isList ?_
    exact pi_one (tk := s1.toks) I1 _ (turn_list a _) ⟨_, Heap.get?_push_size _ rfl, rfl, rfl⟩ q
  · subst e
    cases r1
    obtain ⟨its, rv, p, hz⟩ := I1.tuple hq
    refine wpAny_pyIter_tuple (show s1.heap.IsTuple a its.toArray from p) ?_
    exact pi_one (tk := s1.toks) I1 _ (turn_tuple a _) ⟨_, Heap.get?_push_size _ rfl, rfl, rfl⟩ q
  · subst e
    obtain ⟨t, rfl⟩ := r1
    cases ha : z.cps.all (· < 128)
    · exact wpAny_pyIter_wide ha (pi_one (tk := s1.toks) I1 _ (turn_str _ z t "str_iterator" (.inr rfl)) ⟨_, Heap.get?_push_size _ rfl, rfl, rfl⟩ q)
    · exact wpAny_pyIter_ascii ha (pi_one (tk := s1.toks) I1 _ (turn_str _ z t "str_ascii_iterator" (.inl rfl)) ⟨_, Heap.get?_push_size _ rfl, rfl, rfl⟩ q)
theorem PI.imp' {tg e : Expr} {t t' : TI} (h : PI X tg e t) (k : ∀ σ H R, t' σ H R → t σ H R) : PI X tg e t' := PI.imp h k
theorem PI_of {tg e : Expr} {c : Ex} (h : SE X C Φ e c) : PI X tg e (tIt X.K C Φ (.of c)) := by
  refine PI.imp (pi_of h.val) fun σ H R q => ?_
  obtain ⟨E, F, σd, ds, σd', I, e', k⟩ := q
  obtain ⟨d, s1, e1, e2⟩ := bnd_some e'
  split at e2
  · rename_i l hl
    cases e2
    refine ⟨E, F, σd, d, _, I, e1, fun F1 H1 v I1 le1 r => ?_⟩
    cases r with
    | lst a r => cases hl; exact .inl ⟨_, rfl, ⟨_, SqL.of (I1.fin _ _ a)⟩, k _ F1 H1 I1 le1 (wk_list (SqL.of a) r)⟩
    | tup a r => cases hl; exact .inr (.inl ⟨_, rfl, ⟨_, SqT.of (I1.fin _ _ a)⟩, k _ F1 H1 I1 le1 (wk_tup a r)⟩)
    | @scr a ns q => cases hl; exact .inl ⟨_, rfl, ⟨_, I1.fin.le.sq q⟩, k _ F1 H1 I1 le1 (wk_list q (Reps.ints ns))⟩
    | str z => cases hl; exact .inr (.inr ⟨z, rfl, k _ F1 H1 I1 le1 (wk_str z)⟩)
    | _ => cases hl
  · cases e2
/-! ranges -/
theorem rgI_get (n : Int) (i : Nat) (h : i < n.toNat) : (rgI n)[i]? = some (.int i) := by
  unfold rgI
  rw [List.getElem?_map, List.getElem?_range h]
  rfl
theorem rg_len (n : Int) : (rgI n).length = n.toNat := by simp [rgI]
theorem wk_rng1 {K : PySem.W.Frag} {F : Hp} (n : Int) : Wk K (Itr 0 n.toNat) F (rgI n) where
  go := fun i F' H' le fin hi => by rw [rg_len] at hi; exact hi
  stop := fun i F' H' le fin hi => by rw [rg_len] at hi; exact hi
  yld := fun i F' H' x H'' le fin hi y => by
    obtain ⟨rfl, rfl⟩ := y
    rw [rg_len] at hi
    exact ⟨_, rgI_get n i hi, .inl ⟨rfl, by rw [Int.zero_add]; exact .int _⟩⟩
theorem wk_rng2 {K : PySem.W.Frag} {F : Hp} (a : Int) (n : Nat) : Wk K (Itr a n) F ((List.range n).map fun (k : Nat) => D.int (a + k)) where
  go := fun i F' H' le fin hi => by rw [List.length_map, List.length_range] at hi; exact hi
  stop := fun i F' H' le fin hi => by rw [List.length_map, List.length_range] at hi; exact hi
  yld := fun i F' H' x H'' le fin hi y => by
    obtain ⟨rfl, rfl⟩ := y
    rw [List.length_map, List.length_range] at hi
    exact ⟨_, by rw [List.getElem?_map, List.getElem?_range hi]; rfl, .inl ⟨rfl, .int _⟩⟩
theorem wk_rng3 {K : PySem.W.Frag} {F : Hp} (a c : Int) (n : Nat) : Wk K (Itc a c n) F ((List.range n).map fun (k : Nat) => D.int (a + k * c)) where
  go := fun i F' H' le fin hi => by rw [List.length_map, List.length_range] at hi; exact hi
  stop := fun i F' H' le fin hi => by rw [List.length_map, List.length_range] at hi; exact hi
  yld := fun i F' H' x H'' le fin hi y => by
    obtain ⟨rfl, rfl⟩ := y
    rw [List.length_map, List.length_range] at hi
    exact ⟨_, by rw [List.getElem?_map, List.getElem?_range hi]; rfl, .inl ⟨rfl, .int _⟩⟩
theorem rgc_pos {i j c : Int} (b1 : -(2 ^ 62) ≤ i) (b2 : i < 2 ^ 62) (b3 : -(2 ^ 62) ≤ j) (b4 : j < 2 ^ 62) (c0 : 0 < c) (c1 : c < 1073741824) : RgC i j c (((j - i + c - 1) / c).toNat) := by
  have e : (j - i + c - 1) / c = (j - i - 1) / c + 1 := by
    have e1 : j - i + c - 1 = (j - i - 1) + 1 * c := by omega
    rw [e1, Int.add_mul_ediv_right _ _ (by omega)]
  have hs : Builtin.Range.rangeSize i j c = (((j - i + c - 1) / c).toNat : Int) := by
    unfold Builtin.Range.rangeSize
    rw [if_pos c0, e]
    by_cases h : i < j
    · rw [if_pos h]
      have := Int.ediv_nonneg (a := j - i - 1) (b := c) (by omega) (by omega)
      omega
    · rw [if_neg h]
      have : (j - i - 1) / c < 0 := Int.ediv_neg_of_neg_of_pos (by omega) c0
      omega
  have hb : 0 ≤ Builtin.Range.rangeSize i j c ∧ Builtin.Range.rangeSize i j c ≤ 2 ^ 63 - 1 := by
    unfold Builtin.Range.rangeSize
    rw [if_pos c0]
    by_cases h : i < j
    · rw [if_pos h]
      have h1 := Int.ediv_nonneg (a := j - i - 1) (b := c) (by omega) (by omega)
      have h2 := Int.ediv_le_self (a := j - i - 1) c (by omega)
      omega
    · rw [if_neg h]
      omega
  refine ⟨by omega, by omega, ?_, hs⟩
  have fits : ∀ x : Int, -(2 ^ 63) ≤ x → x < 2 ^ 63 → Builtin.Range.rangeFitsLong x = true := fun x h1 h2 => by
    unfold Builtin.Range.rangeFitsLong
    rw [decide_eq_true h1, decide_eq_true h2]
    rfl
  unfold Builtin.Range.small
  rw [fits i (by omega) (by omega), fits j (by omega) (by omega), fits c (by omega) (by omega), fits _ (by omega) (by omega), if_pos c0, fits (j + (c - 1)) (by omega) (by omega)]
  simp
def isRng (m : Cm) (x : Str) : Bool := decide (x = ("range" : Str)) && bltn m x
theorem rng_ok (G : Good g Φ C k m X) {x : Str} (h : isRng m x = true) : x = ("range" : Str) ∧ Gl X "range" ∧ X.mg "range" = none := by
  obtain ⟨h1, h2⟩ := and_t h
  have e : x = ("range" : Str) := of_decide_eq_true h1
  subst e
  obtain ⟨g1, g2, _, _⟩ := bltn_ok G h2
  exact ⟨rfl, g1, g2⟩
theorem rng_inv {cs : Exs} {σd : S} {ds : List D} {σd' : S} (h : evIt Φ (.rng cs) σd = some (ds, σd')) : ∃ as, evs Φ cs σd = some (as, σd') ∧ rngOf as = some ds := by
  obtain ⟨as, s1, e1, e2⟩ := bnd_some h
  split at e2
  · rename_i l hl
    cases e2
    exact ⟨as, e1, hl⟩
  · cases e2
theorem PI_rng (G : Good g Φ C k m X) {tg : Expr} {x : Str} {es : List Expr} {cs : Exs} {p pos : Pos} (hx : isRng m x = true) (hl : decide (es.length ≤ 3) = true) (h0 : es ≠ []) (hs : SEs X C Φ es cs) : PI X tg (.Call (.Name x p) es [] pos) (tIt X.K C Φ (.rng cs)) := by
  obtain ⟨rfl, g1, g2⟩ := rng_ok G hx
  cases hs with
  | nil => exact absurd rfl h0
  | @cons a es ca cs ha hs =>
    cases hs with
    | nil =>
      refine PI.imp (pi_range1 g1 g2 (SEs.cons ha .nil).paV (star_cons ha.ns _ _)) fun σ H R q => ?_
      obtain ⟨E, F, σd, ds, σd', I, e', k⟩ := q
      obtain ⟨as, e1, e2⟩ := rng_inv e'
      obtain ⟨d1, s1, q1, q2⟩ := bnd_some e1
      cases q2
      refine tVs_run I e1 fun F1 H1 vs I1 le1 r => ?_
      cases d1 with
      | int j =>
        obtain ⟨hz, rfl⟩ := ite_some0 (show (if sm62 j then some (rgI j) else none) = some ds from e2)
        cases r with | cons r1 r2 =>
        cases r1; cases r2
        obtain ⟨b1, b2⟩ := sm_of hz
        exact ⟨j, rfl, b1, b2, k _ F1 H1 I1 le1 (wk_rng1 j)⟩
      | _ => cases e2
    | @cons b es cb cs hb hs =>
      cases hs with
      | nil =>
        have sb : starEach [b] X.env = [(false, eval b X.env)] := star_cons hb.ns _ _
        refine PI.imp (pi_range2 g1 g2 (SEs.cons ha (.cons hb .nil)).paV (by rw [star_cons ha.ns, sb]) sb) fun σ H R q => ?_
        obtain ⟨E, F, σd, ds, σd', I, e', k⟩ := q
        obtain ⟨as, e1, e2⟩ := rng_inv e'
        obtain ⟨d1, s1, q1, q2⟩ := bnd_some e1
        obtain ⟨ds1, s2, q3, q4⟩ := bnd_some q2
        cases q4
        obtain ⟨d2, s3, q5, q6⟩ := bnd_some q3
        cases q6
        refine tVs_run I e1 fun F1 H1 vs I1 le1 r => ?_
        cases d1 with
        | int i =>
          cases d2 with
          | int j =>
            obtain ⟨hz, rfl⟩ := ite_some0 (show (if sm62 i && sm62 j then some ((List.range (j - i).toNat).map fun (k : Nat) => D.int (i + k)) else none) = some ds from e2)
            cases r with | cons r1 r2 => cases r2 with | cons r2 r3 =>
            cases r1; cases r2; cases r3
            obtain ⟨z1, z2⟩ := and_t hz
            obtain ⟨b1, b2⟩ := sm_of z1
            obtain ⟨b3, b4⟩ := sm_of z2
            exact ⟨i, j, rfl, ⟨b1, b2, b3, b4⟩, k _ F1 H1 I1 le1 (wk_rng2 i _)⟩
          | _ => cases e2
        | _ => cases e2
      | @cons c es cc cs hc hs =>
        cases hs with
        | nil =>
          refine PI.imp (pi_range3 g1 g2 (SEs.cons ha (.cons hb (.cons hc .nil))).paV (star_cons ha.ns _ _) (star_none (SEs.cons hb (.cons hc .nil)).ns _ _)) fun σ H R q => ?_
          obtain ⟨E, F, σd, ds, σd', I, e', k⟩ := q
          obtain ⟨as, e1, e2⟩ := rng_inv e'
          obtain ⟨d1, s1, q1, q2⟩ := bnd_some e1
          obtain ⟨ds1, s2, q3, q4⟩ := bnd_some q2
          cases q4
          obtain ⟨d2, s3, q5, q6⟩ := bnd_some q3
          obtain ⟨ds2, s4, q7, q8⟩ := bnd_some q6
          cases q8
          obtain ⟨d3, s5, q9, q10⟩ := bnd_some q7
          cases q10
          refine tVs_run I e1 fun F1 H1 vs I1 le1 r => ?_
          cases d1 with
          | int i =>
            cases d2 with
            | int j =>
              cases d3 with
              | int c =>
                obtain ⟨hz, rfl⟩ := ite_some0 (show (if sm62 i && (sm62 j && (decide (0 < c) && decide (c < 1073741824))) then some (rg3 i j c) else none) = some ds from e2)
                cases r with | cons r1 r2 => cases r2 with | cons r2 r3 => cases r3 with | cons r3 r4 =>
                cases r1; cases r2; cases r3; cases r4
                obtain ⟨z1, z2⟩ := and_t hz
                obtain ⟨z2, z3⟩ := and_t z2
                obtain ⟨z3, z4⟩ := and_t z3
                obtain ⟨b1, b2⟩ := sm_of z1
                obtain ⟨b3, b4⟩ := sm_of z2
                have c0 := of_decide_eq_true z3
                have c1 := of_decide_eq_true z4
                exact ⟨i, j, c, _, rfl, rgc_pos b1 b2 b3 b4 c0 c1, k _ F1 H1 I1 le1 (wk_rng3 i c _)⟩
              | _ => cases e2
            | _ => cases e2
          | _ => cases e2
        | cons hd hs => simp at hl
/-! zip, enumerate -/
theorem zipD_get : ∀ (a b : List D) (i : Nat) (x y : D), a[i]? = some x → b[i]? = some y → (zipD a b)[i]? = some (.tup [x, y])
  | [], _, _, _, _, h, _ => by simp at h
  | _ :: _, [], _, _, _, _, h => by simp at h
  | x :: xs, y :: ys, 0, _, _, h1, h2 => by simp at h1 h2; subst h1 h2; rfl
  | x :: xs, y :: ys, i + 1, a, b, h1, h2 => by
    show (zipD xs ys)[i]? = _
    exact zipD_get xs ys i a b (by simpa using h1) (by simpa using h2)
theorem zipD_len : ∀ (a b : List D), (zipD a b).length = min a.length b.length
  | [], _ => by simp [zipD]
  | _ :: _, [] => by simp [zipD]
  | x :: xs, y :: ys => by
    show (zipD xs ys).length + 1 = min (xs.length + 1) (ys.length + 1)
    rw [zipD_len xs ys]
    omega
theorem wk_zipL {K : PySem.W.Frag} {F : Hp} {a b : Addr} {vs ws : List V} {xs ys : List D} (h1 : SqL K F a vs) (h2 : SqL K F b ws) (r1 : Reps K F vs xs) (r2 : Reps K F ws ys) : Wk K (Itz K a b) F (zipD xs ys) where
  go := fun i F' H' le fin hi => by
    rw [zipD_len] at hi
    obtain ⟨x, hx⟩ := get_len r1.len (i := i) (x := xs[i]'(by omega)) (List.getElem?_eq_getElem (by omega))
    obtain ⟨y, hy⟩ := get_len r2.len (i := i) (x := ys[i]'(by omega)) (List.getElem?_eq_getElem (by omega))
    exact ⟨vs, ws, x, y, sqL_up h1 le fin, sqL_up h2 le fin, hx, hy⟩
  stop := fun i F' H' le fin hi => by
    rw [zipD_len] at hi
    exact ⟨vs, ws, sqL_up h1 le fin, sqL_up h2 le fin, by rw [r1.len, r2.len]; omega⟩
  yld := fun i F' H' x H'' le fin hi y => by
    obtain ⟨T, u, w, rfl, hT, rfl, y1, y2⟩ := y
    obtain ⟨d1, e1, q1⟩ := (r1.mono le).getV (y1 vs (sqL_up h1 le fin))
    obtain ⟨d2, e2, q2⟩ := (r2.mono le).getV (y2 ws (sqL_up h2 le fin))
    exact ⟨_, zipD_get _ _ i d1 d2 e1 e2, .inr ⟨T, [u, w], [d1, d2], rfl, hT, rfl, rfl, .cons q1 (.cons q2 .nil)⟩⟩
theorem wk_zipT {K : PySem.W.Frag} {F : Hp} {a b : Addr} {vs ws : List V} {xs ys : List D} (h1 : F a = some (.tup vs)) (h2 : F b = some (.tup ws)) (r1 : Reps K F vs xs) (r2 : Reps K F ws ys) : Wk K (RZ.ItzT K a b) F (zipD xs ys) where
  go := fun i F' H' le fin hi => by
    rw [zipD_len] at hi
    obtain ⟨x, hx⟩ := get_len r1.len (i := i) (x := xs[i]'(by omega)) (List.getElem?_eq_getElem (by omega))
    obtain ⟨y, hy⟩ := get_len r2.len (i := i) (x := ys[i]'(by omega)) (List.getElem?_eq_getElem (by omega))
    exact ⟨vs, ws, x, y, sqT_up h1 le fin, sqT_up h2 le fin, hx, hy⟩
  stop := fun i F' H' le fin hi => by
    rw [zipD_len] at hi
    exact ⟨vs, ws, sqT_up h1 le fin, sqT_up h2 le fin, by rw [r1.len, r2.len]; omega⟩
  yld := fun i F' H' x H'' le fin hi y => by
    obtain ⟨T, u, w, rfl, hT, rfl, y1, y2⟩ := y
    obtain ⟨d1, e1, q1⟩ := (r1.mono le).getV (y1 vs (sqT_up h1 le fin))
    obtain ⟨d2, e2, q2⟩ := (r2.mono le).getV (y2 ws (sqT_up h2 le fin))
    exact ⟨_, zipD_get _ _ i d1 d2 e1 e2, .inr ⟨T, [u, w], [d1, d2], rfl, hT, rfl, rfl, .cons q1 (.cons q2 .nil)⟩⟩
theorem wk_zipS {K : PySem.W.Frag} {F : Hp} {z : Str} {b : Addr} {ws : List V} {ys : List D} (h2 : F b = some (.tup ws)) (r2 : Reps K F ws ys) : Wk K (ItzS K z b) F (zipD (signs z) ys) where
  go := fun i F' H' le fin hi => by
    rw [zipD_len, signs_len] at hi
    obtain ⟨y, hy⟩ := get_len r2.len (i := i) (x := ys[i]'(by omega)) (List.getElem?_eq_getElem (by omega))
    exact ⟨by omega, ws, y, sqT_up h2 le fin, hy⟩
  stop := fun i F' H' le fin hi => by
    rw [zipD_len, signs_len] at hi
    exact ⟨ws, sqT_up h2 le fin, by rw [r2.len]; omega⟩
  yld := fun i F' H' x H'' le fin hi y => by
    obtain ⟨T, c, w, rfl, hT, rfl, y1, y2⟩ := y
    obtain ⟨d2, e2, q2⟩ := (r2.mono le).getV (y2 ws (sqT_up h2 le fin))
    exact ⟨_, zipD_get _ _ i (.str ⟨#[c]⟩) d2 (by rw [signs_get, y1]; rfl) e2, .inr ⟨T, [.str ⟨#[c]⟩, w], [.str ⟨#[c]⟩, d2], rfl, hT, rfl, rfl, .cons (.str _) (.cons q2 .nil)⟩⟩
def isZipN (m : Cm) (x : Str) : Bool := decide (x = ("zip" : Str)) && bltn m x
def isTupE : Expr → Bool
  | .Tuple .. => true | _ => false
theorem PI_zip (G : Good g Φ C k m X) {tg a b : Expr} {x : Str} {ca cb : Ex} {p pos : Pos} (hx : isZipN m x = true) (ht : isTupE tg = true) (ha : SE X C Φ a ca) (hb : SE X C Φ b cb) : PI X tg (.Call (.Name x p) [a, b] [] pos) (tIt X.K C Φ (.zip ca cb)) := by
  obtain ⟨h1, h2⟩ := and_t hx
  have e : x = ("zip" : Str) := of_decide_eq_true h1
  subst e
  obtain ⟨g1, g2, _, _⟩ := bltn_ok G h2
  cases tg with
  | Tuple elts kk tpos =>
    have sb : starEach [b] X.env = [(false, eval b X.env)] := star_cons hb.ns _ _
    refine PI.imp (pi_zipS g1 g2 (SEs.cons ha (.cons hb .nil)).paV (star_cons ha.ns _ _) (by rw [sb]; rfl)) fun σ H R q => ?_
    obtain ⟨E, F, σd, ds, σd', I, e', k⟩ := q
    obtain ⟨d1, s1, e1, e2⟩ := bnd_some e'
    obtain ⟨d2, s2, e3, e4⟩ := bnd_some e2
    split at e4
    · rename_i l hl
      cases e4
      refine ⟨E, F, σd, d1, s1, I, e1, fun F1 H1 v I1 le1 r1 => ⟨E, F1, s1, d2, _, I1, e3, fun F2 H2 w I2 le2 r2 => ?_⟩⟩
      have r1 := r1.mono le2
      have le := le1.trans le2
      unfold zipOk at hl
      split at hl
      · cases hl
        cases r1 with | lst a1 q1 => cases r2 with | lst a2 q2 =>
        exact ⟨_, _, rfl, .inl ⟨_, _, _, rfl, SqL.of (I2.fin _ _ a1), SqL.of (I2.fin _ _ a2), k _ F2 H2 I2 le (wk_zipL (SqL.of a1) (SqL.of a2) q1 q2)⟩⟩
      · cases hl
        cases r1 with | tup a1 q1 => cases r2 with | tup a2 q2 =>
        exact ⟨_, _, rfl, .inr (.inl ⟨_, _, _, rfl, SqT.of (I2.fin _ _ a1), SqT.of (I2.fin _ _ a2), k _ F2 H2 I2 le (wk_zipT a1 a2 q1 q2)⟩)⟩
      · obtain ⟨hz, rfl⟩ := ite_some0 hl
        cases r1; cases r2 with | tup a2 q2 =>
        exact ⟨_, _, rfl, .inr (.inr ⟨_, _, rfl, hz, SqT.of (I2.fin _ _ a2), k _ F2 H2 I2 le (wk_zipS a2 q2)⟩)⟩
      · cases hl
    · cases e4
  | _ => cases ht
theorem numEnum_get : ∀ (n : Nat) (l : List D) (i : Nat) (d : D), l[i]? = some d → (numEnum n l)[i]? = some (.tup [.int ((n + i : Nat) : Int), d])
  | _, [], _, _, h => by simp at h
  | n, x :: l, 0, d, h => by simp at h; subst h; rfl
  | n, x :: l, i + 1, d, h => by
    show (numEnum (n + 1) l)[i]? = _
    rw [numEnum_get (n + 1) l i d (by simpa using h)]
    have : n + 1 + i = n + (i + 1) := by omega
    rw [this]
theorem numEnum_len : ∀ (n : Nat) (l : List D), (numEnum n l).length = l.length
  | _, [] => rfl
  | n, x :: l => congrArg (· + 1) (numEnum_len (n + 1) l)
theorem wk_enum {K : PySem.W.Frag} {F : Hp} {a : Addr} {vs : List V} {xs : List D} (h : SqL K F a vs) (r : Reps K F vs xs) : Wk K (Ite K a) F (numEnum 0 xs) where
  go := fun i F' H' le fin hi => by
    rw [numEnum_len] at hi
    obtain ⟨x, hx⟩ := get_len r.len (i := i) (x := xs[i]) (List.getElem?_eq_getElem hi)
    exact ⟨vs, x, sqL_up h le fin, hx⟩
  stop := fun i F' H' le fin hi => by
    rw [numEnum_len] at hi
    exact ⟨vs, sqL_up h le fin, by rw [r.len]; exact hi⟩
  yld := fun i F' H' x H'' le fin hi y => by
    obtain ⟨T, w, rfl, hT, rfl, y1⟩ := y
    obtain ⟨d, e, q⟩ := (r.mono le).getV (y1 vs (sqL_up h le fin))
    refine ⟨_, numEnum_get 0 xs i d e, .inr ⟨T, _, _, rfl, hT, rfl, rfl, .cons ?_ (.cons q .nil)⟩⟩
    rw [Nat.zero_add]
    exact .int _
def isEnumN (m : Cm) (x : Str) : Bool := decide (x = ("enumerate" : Str)) && bltn m x
theorem PI_enum (G : Good g Φ C k m X) {tg a : Expr} {x : Str} {ca : Ex} {p pos : Pos} (hx : isEnumN m x = true) (ht : isTupE tg = true) (ha : SE X C Φ a ca) : PI X tg (.Call (.Name x p) [a] [] pos) (tIt X.K C Φ (.enum ca)) := by
  obtain ⟨h1, h2⟩ := and_t hx
  have e : x = ("enumerate" : Str) := of_decide_eq_true h1
  subst e
  obtain ⟨g1, g2, _, _⟩ := bltn_ok G h2
  cases tg with
  | Tuple elts kk tpos =>
    refine PI.imp (pi_enum g1 g2 (SEs.cons ha .nil).paV (star_cons ha.ns _ _)) fun σ H R q => ?_
    obtain ⟨E, F, σd, ds, σd', I, e', k⟩ := q
    obtain ⟨d1, s1, e1, e2⟩ := bnd_some e'
    split at e2
    · cases e2
      refine ⟨E, F, σd, _, _, I, e1, fun F1 H1 v I1 le1 r1 => ?_⟩
      cases r1 with | lst a1 q1 =>
      exact ⟨_, _, rfl, SqL.of (I1.fin _ _ a1), k _ F1 H1 I1 le1 (wk_enum (SqL.of a1) q1)⟩
    · cases e2
  | _ => cases ht
end
end G48

set_option maxHeartbeats 4000000
/-! Targets, comprehensions. -/
namespace G48
open PySem L2
section
variable {K : PySem.W.Frag} {C : Nat → Addr} {E : En} {F F' H H' : Hp} {σ : L2.St} {σd σd' : S}
/-- a slot takes a value that stays -/
theorem SI.va1 (I : SI K C E F H σ σd) {i : Nat} {v : V} {d : D} (r : Rep K F v d) (h : i < σd.length) : SI K C E F H (σ.set i (some v)) (σd.set i (.va d)) := by
  have hσ : i < σ.length := by rw [I.len]; exact h
  refine ⟨I.fin, I.le, I.new, I.frame, I.ioH, by rw [List.length_set, List.length_set]; exact I.len, fun j o s a b => ?_, fun j k o s t a b c d' e1 e2 => ?_, fun j l s a b c => ?_, fun j l s a b c => ?_⟩
  · by_cases hj : i = j
    · subst hj
      rw [List.getElem?_set_self hσ] at a
      rw [List.getElem?_set_self h] at b
      cases a; cases b
      exact .va r
    · rw [List.getElem?_set_ne hj] at a b
      exact I.at_ j o s a b
  · have nj : i ≠ j := fun z => by subst z; rw [List.getElem?_set_self h] at c; cases c; cases e1
    have nk : i ≠ k := fun z => by subst z; rw [List.getElem?_set_self h] at d'; cases d'; cases e2
    rw [List.getElem?_set_ne nj] at a c
    rw [List.getElem?_set_ne nk] at b d'
    exact I.dis j k o s t a b c d' e1 e2
  · have nj : i ≠ j := fun z => by subst z; rw [List.getElem?_set_self h] at b; cases b; cases c
    rw [List.getElem?_set_ne nj] at a b
    exact I.own j l s a b c
  · have nj : i ≠ j := fun z => by subst z; rw [List.getElem?_set_self h] at b; cases b; cases c
    rw [List.getElem?_set_ne nj] at a b
    exact I.kd j l s a b c
/-- a target's reading -/
def tTg (K : PySem.W.Frag) (C : Nat → Addr) (tg : List Nat) : TG := fun v σ H Q => ∃ (E : En) (F : Hp) (σd : S) (d : D) (σd' : S), SI K C E F H σ σd ∧ Rep K F v d ∧ asg tg d σd = some σd' ∧
  ∀ σ', SI K C E F H σ' σd' → σ'.length = σ.length → (∀ i, i ∉ tg → σ'[i]? = σ[i]?) → Q σ' H
/-- several values, several names -/
def tTgs (K : PySem.W.Frag) (C : Nat → Addr) (tg : List Nat) : TGs := fun vs σ H Q => ∃ (E : En) (F : Hp) (σd : S) (ds : List D) (σd' : S), SI K C E F H σ σd ∧ Reps K F vs ds ∧ asgs tg ds σd = some σd' ∧
  ∀ σ', SI K C E F H σ' σd' → σ'.length = σ.length → (∀ i, i ∉ tg → σ'[i]? = σ[i]?) → Q σ' H
theorem asg1_inv {i : Nat} {d : D} {s : S} (h : asg1 i d σd = some s) : i < σd.length ∧ s = σd.set i (.va d) := by
  unfold asg1 at h
  split at h
  · rename_i q
    exact ⟨q, (Option.some.inj h).symm⟩
  · cases h
theorem asgs_len : ∀ {is : List Nat} {ds : List D} {σd s : S}, asgs is ds σd = some s → is.length = ds.length
  | [], [], _, _, _ => rfl
  | [], _ :: _, _, _, h => by cases h
  | _ :: _, [], _, _, h => by cases h
  | i :: is, d :: ds, σd, s, h => by
    simp only [asgs] at h
    split at h
    · exact congrArg (· + 1) (asgs_len h)
    · cases h
end
section
variable {g : GT} {X : Cx} {C : Nat → Addr} {Φ : CF} {k : Nat} {m : Cm}
def isTgN (m : Cm) (i : Nat) : Expr → Bool
  | .Name x _ => decide (m.N[i]? = some x) && sto m x
  | _ => false
theorem sto_ok (G : Good g Φ C k m X) {x : Str} (h : sto m x = true) : Loc X.env.scope x ∧ (X.fn x = true ∨ X.env.scope.names.lookup x = some .local) := by
  unfold sto at h
  rw [G.sc]
  split at h
  · exact ⟨.inl (by assumption), .inr (by assumption)⟩
  · exact ⟨.inr (by assumption), .inl (G.fn x h)⟩
  · cases h
theorem pgN (G : Good g Φ C k m X) {i : Nat} {e : Expr} (h : isTgN m i e = true) : PG X e (gName i) := by
  cases e with
  | Name x p =>
    obtain ⟨h1, h2⟩ := and_t h
    obtain ⟨h3, h4⟩ := sto_ok G h2
    exact pg_name (by rw [G.N]; exact G.nd) (by rw [G.N]; exact of_decide_eq_true h1) h3 h4
  | _ => cases h
theorem tgN_go {i : Nat} {e : Expr} (h : isTgN m i e = true) : ∀ es : List Expr, (assignEach (e :: es) X.env).map (·.2) = assign e X.env :: (assignEach es X.env).map (·.2) ∧ ((assignEach (e :: es) X.env).findIdx? (·.1) = ((assignEach es X.env).findIdx? (·.1)).map (· + 1)) ∧ (assignEach (e :: es) X.env).length = (assignEach es X.env).length + 1 := by
  cases e with
  | Name x p => 
    intro es
    refine ⟨rfl, ?_, rfl⟩
    have : assignEach (.Name x p :: es) X.env = (false, assign (.Name x p) X.env) :: assignEach es X.env := rfl
    rw [this, List.findIdx?_cons]
    rfl
  | _ => cases h
def isTgs (m : Cm) : List Nat → List Expr → Bool
  | [], [] => true
  | i :: is, e :: es => isTgN m i e && isTgs m is es
  | _, _ => false
theorem pgsN (G : Good g Φ C k m X) : ∀ {is : List Nat} {es : List Expr}, isTgs m is es = true → PGs X es (tTgs X.K C is) ∧ (assignEach es X.env).findIdx? (·.1) = none ∧ (assignEach es X.env).length = is.length
  | [], [], _ => by
    refine ⟨⟨fun pins s σ H vs us Q I r h => ?_⟩, rfl, rfl⟩
    obtain ⟨E, F, σd, ds, σd', J, rr, e, kk⟩ := h
    cases ds with
    | nil =>
      cases rr
      cases e
      exact pgs_nil.run pins s σ H [] us Q I r ⟨rfl, kk σ J rfl fun _ _ => rfl⟩
    | cons d ds => cases e
  | i :: is, e :: es, h => by
    obtain ⟨h1, h2⟩ := and_t h
    obtain ⟨p1, p2, p3⟩ := pgsN G (is := is) (es := es) h2
    obtain ⟨q1, q2, q3⟩ := tgN_go (X := X) h1 es
    refine ⟨⟨fun pins s σ H vs us Q I r hh => ?_⟩, by rw [q2, p2]; rfl, by rw [q3, p3]; rfl⟩
    obtain ⟨E, F, σd, ds, σd', J, rr, e', kk⟩ := hh
    cases ds with
    | nil => cases e'
    | cons d ds =>
      cases rr with
      | @cons v vs _ _ r1 r2 =>
        simp only [asgs] at e'
        split at e'
        · rename_i s1 hs1
          obtain ⟨lt, rfl⟩ := asg1_inv hs1
          have J1 := J.va1 r1 lt
          refine (pgs_cons (pgN G h1) p1 q1).run pins s σ H _ us Q I r ⟨v, vs, rfl, E, F, _, ds, σd', J1, r2, e', fun σ' J' l' o' => kk σ' J' (by rw [l', List.length_set]) fun j hj => ?_⟩
          rw [o' j (fun z => hj (List.mem_cons_of_mem _ z)), List.getElem?_set_ne (fun z => hj (by rw [z]; exact List.mem_cons_self ..))]
        · cases e'
  | [], _ :: _, h => by cases h
  | _ :: _, [], h => by cases h
theorem PG.or {e : Expr} {t t' : TG} (h : PG X e t) (h' : PG X e t') : PG X e (fun v σ H Q => t v σ H Q ∨ t' v σ H Q) := ⟨fun pins s σ H v u Q I r q => q.elim (fun q => h.run pins s σ H v u Q I r q) fun q => h'.run pins s σ H v u Q I r q⟩
theorem PG.imp {e : Expr} {t t' : TG} (h : PG X e t) (kk : ∀ v σ H Q, t' v σ H Q → t v σ H Q) : PG X e t' := ⟨fun pins s σ H v u Q I r q => h.run pins s σ H v u Q I r (kk v σ H Q q)⟩
def isTg1 (m : Cm) (tg : List Nat) (e : Expr) : Bool := match tg with
  | [i] => isTgN m i e
  | _ => false
/-- a target -/
def isTg (m : Cm) (tg : List Nat) : Expr → Bool
  | .Tuple es _ _ => (match tg with | [_] => false | _ => true) && isTgs m tg es
  | e => isTg1 m tg e
theorem PG_of (G : Good g Φ C k m X) {tg : List Nat} {e : Expr} (h : isTg m tg e = true) : PG X e (tTg X.K C tg) := by
  have one : ∀ {i : Nat}, isTgN m i e = true → PG X e (tTg X.K C [i]) := fun {i} h => by
    refine PG.imp (pgN G h) fun v σ H Q q => ?_
    obtain ⟨E, F, σd, d, σd', J, r, e', kk⟩ := q
    obtain ⟨lt, rfl⟩ := asg1_inv (show asg1 i d σd = some σd' from e')
    exact kk _ (J.va1 r lt) (by rw [List.length_set]) fun j hj => List.getElem?_set_ne fun z => hj (by rw [z]; exact List.mem_singleton.mpr rfl)
  have main : isTg1 m tg e = true → PG X e (tTg X.K C tg) := fun h => by
    unfold isTg1 at h
    split at h
    · exact one h
    · cases h
  cases e with
  | Tuple es kk pos =>
    obtain ⟨h1, h2⟩ := and_t h
    obtain ⟨p1, p2, p3⟩ := pgsN G h2
    refine PG.imp (PG.or (pg_tup G.calm p1 p3 p2) (pg_unl G.calm p1 p3 p2)) fun v σ H Q q => ?_
    obtain ⟨E, F, σd, d, σd', J, r, e', kk⟩ := q
    have e' : (match (generalizing := false) d with
      | .tup l => asgs tg l σd
      | .lst l => asgs tg l σd
      | _ => none) = some σd' := by
      unfold asg at e'
      split at e'
      · cases h1
      · exact e'
    cases r with
    | tup a r => exact .inl ⟨_, _, rfl, SqT.of (J.fin _ _ a), by rw [r.len, ← asgs_len e'], E, F, σd, _, σd', J, r, e', kk⟩
    | lst a r => exact .inr ⟨_, _, rfl, SqL.of (J.fin _ _ a), by rw [r.len, ← asgs_len e'], E, F, σd, _, σd', J, r, e', kk⟩
    | _ => cases e'
  | _ => exact main h
end
end G48

set_option maxHeartbeats 4000000
/-! Comprehensions. -/
namespace G48
open PySem L2
theorem wipe_at {σ : L2.St} : ∀ {vs : List Nat} {i : Nat}, (wipe σ vs)[i]? = if i ∈ vs ∧ i < σ.length then some none else σ[i]?
  | [], i => by simp [wipe]
  | v :: vs, i => by
    unfold wipe
    by_cases h : v = i
    · subst h
      by_cases hl : v < σ.length
      · rw [List.getElem?_set_self (by rw [wipe_length]; exact hl), if_pos ⟨List.mem_cons_self .., hl⟩]
      · rw [if_neg (fun z => hl z.2), List.getElem?_eq_none (by rw [List.length_set, wipe_length]; omega), List.getElem?_eq_none (by omega)]
    · rw [List.getElem?_set_ne h, wipe_at (vs := vs)]
      by_cases hm : i ∈ vs
      · by_cases hl : i < σ.length
        · rw [if_pos ⟨hm, hl⟩, if_pos ⟨List.mem_cons_of_mem _ hm, hl⟩]
        · rw [if_neg (fun z => hl z.2), if_neg (fun z => hl z.2)]
      · rw [if_neg (fun z => hm z.1), if_neg (fun z => (List.mem_cons.mp z.1).elim (fun e => h e.symm) hm)]
theorem hide_len : ∀ {own : List Nat} {s : S}, (hide own s).length = s.length
  | [], _ => rfl
  | v :: vs, s => by
    show (hide vs (s.set v .no)).length = _
    rw [hide_len, List.length_set]
theorem hide_at : ∀ {own : List Nat} {s : S} {i : Nat}, (hide own s)[i]? = if i ∈ own ∧ i < s.length then some .no else s[i]?
  | [], s, i => by simp [hide]
  | v :: vs, s, i => by
    show (hide vs (s.set v .no))[i]? = _
    rw [hide_at (own := vs), List.length_set]
    by_cases hl : i < s.length
    · by_cases hm : i ∈ vs
      · rw [if_pos ⟨hm, hl⟩, if_pos ⟨List.mem_cons_of_mem _ hm, hl⟩]
      · rw [if_neg (fun z => hm z.1)]
        by_cases h : v = i
        · subst h
          rw [List.getElem?_set_self hl, if_pos ⟨List.mem_cons_self .., hl⟩]
        · rw [List.getElem?_set_ne h, if_neg (fun z => (List.mem_cons.mp z.1).elim (fun e => h e.symm) hm)]
    · rw [if_neg (fun z => hl z.2), if_neg (fun z => hl z.2), List.getElem?_eq_none (by rw [List.length_set]; omega), List.getElem?_eq_none (by omega)]
theorem unhide_len : ∀ {own : List Nat} {s0 s : S}, (unhide own s0 s).length = s.length
  | [], _, _ => rfl
  | v :: vs, s0, s => by
    show (unhide vs s0 (s.set v (s0.getD v .no))).length = _
    rw [unhide_len, List.length_set]
theorem unhide_at : ∀ {own : List Nat} {s0 s : S} {i : Nat}, s0.length = s.length → (unhide own s0 s)[i]? = if i ∈ own ∧ i < s.length then s0[i]? else s[i]?
  | [], s0, s, i, _ => by simp [unhide]
  | v :: vs, s0, s, i, he => by
    show (unhide vs s0 (s.set v (s0.getD v .no)))[i]? = _
    rw [unhide_at (own := vs) (by rw [List.length_set]; exact he), List.length_set]
    by_cases hl : i < s.length
    · by_cases hm : i ∈ vs
      · rw [if_pos ⟨hm, hl⟩, if_pos ⟨List.mem_cons_of_mem _ hm, hl⟩]
      · rw [if_neg (fun z => hm z.1)]
        by_cases h : v = i
        · subst h
          rw [List.getElem?_set_self hl, if_pos ⟨List.mem_cons_self .., hl⟩]
          have hl0 : v < s0.length := by omega
          rw [List.getD_eq_getElem?_getD, List.getElem?_eq_getElem hl0]
          rfl
        · rw [List.getElem?_set_ne h, if_neg (fun z => (List.mem_cons.mp z.1).elim (fun e => h e.symm) hm)]
    · rw [if_neg (fun z => hl z.2), if_neg (fun z => hl z.2), List.getElem?_eq_none (by rw [List.length_set]; omega), List.getElem?_eq_none (by omega)]
section
variable {K : PySem.W.Frag} {C : Nat → Addr} {E : En} {F F' H H' : Hp} {σ : L2.St} {σd σd' s0 : S}
theorem SI.hide (I : SI K C E F H σ σd) (vs : List Nat) : SI K C E F H (wipe σ vs) (G48.hide vs σd) := by
  have ht : ∀ {i : Nat} {s : Sl}, (G48.hide vs σd)[i]? = some s → s.own = true → σd[i]? = some s ∧ (wipe σ vs)[i]? = σ[i]? := fun {i s} h w => by
    rw [hide_at] at h
    by_cases hm : i ∈ vs ∧ i < σd.length
    · rw [if_pos hm] at h; cases h; cases w
    · rw [if_neg hm] at h
      refine ⟨h, ?_⟩
      rw [wipe_at, if_neg (by rw [I.len]; exact hm)]
  refine ⟨I.fin, I.le, I.new, I.frame, I.ioH, by rw [wipe_length, hide_len]; exact I.len, fun j o s a b => ?_, fun j k o s t a b c d' e1 e2 => ?_, fun j l s a b c => ?_, fun j l s a b c => ?_⟩
  · rw [hide_at] at b
    rw [wipe_at] at a
    by_cases hm : j ∈ vs ∧ j < σd.length
    · rw [if_pos hm] at b; cases b; exact .no
    · rw [if_neg hm] at b
      rw [if_neg (by rw [I.len]; exact hm)] at a
      exact I.at_ j o s a b
  · obtain ⟨q1, q2⟩ := ht c e1
    obtain ⟨q3, q4⟩ := ht d' e2
    exact I.dis j k o s t (by rw [← q2]; exact a) (by rw [← q4]; exact b) q1 q3 e1 e2
  · obtain ⟨q1, q2⟩ := ht b c
    exact I.own j l s (by rw [← q2]; exact a) q1 c
  · obtain ⟨q1, q2⟩ := ht b c
    exact I.kd j l s (by rw [← q2]; exact a) q1 c
theorem hidOk_at {own : List Nat} (h : hidOk own s0 = true) {i : Nat} (hi : i ∈ own) : s0[i]? = some .no ∨ ∃ d, s0[i]? = some (.va d) := by
  have := List.all_eq_true.mp h i hi
  split at this
  · exact .inl (by assumption)
  · exact .inr ⟨_, by assumption⟩
  · cases this
theorem SI.unhide {F1 H1 : Hp} (I1 : SI K C E F1 H1 σ s0) {own : List Nat} (ok : hidOk own s0 = true) (I : SI K C E F H (wipe σ own) σd) (le : Fle F1 F) : SI K C E F H σ (G48.unhide own s0 σd) := by
  have el : s0.length = σd.length := by rw [← I1.len, ← I.len, wipe_length]
  have ht : ∀ {i : Nat} {s : Sl}, (G48.unhide own s0 σd)[i]? = some s → s.own = true → σd[i]? = some s ∧ (wipe σ own)[i]? = σ[i]? := fun {i s} h w => by
    rw [unhide_at el] at h
    by_cases hm : i ∈ own ∧ i < σd.length
    · rw [if_pos hm] at h
      rcases hidOk_at ok hm.1 with q | ⟨d, q⟩
      · rw [h] at q; cases q; cases w
      · rw [h] at q; cases q; cases w
    · rw [if_neg hm] at h
      refine ⟨h, ?_⟩
      rw [wipe_at, if_neg (by rw [I1.len, el]; exact hm)]
  refine ⟨I.fin, I.le, I.new, I.frame, I.ioH, by rw [unhide_len, ← el]; exact I1.len, fun j o s a b => ?_, fun j k o s t a b c d' e1 e2 => ?_, fun j l s a b c => ?_, fun j l s a b c => ?_⟩
  · rw [unhide_at el] at b
    by_cases hm : j ∈ own ∧ j < σd.length
    · rw [if_pos hm] at b
      have q := I1.at_ j o s a b
      rcases hidOk_at ok hm.1 with q1 | ⟨d, q1⟩
      · rw [b] at q1; cases q1; exact .no
      · rw [b] at q1; cases q1
        cases q with
        | va r => exact .va (r.mono le)
    · rw [if_neg hm] at b
      refine I.at_ j o s ?_ b
      rw [wipe_at, if_neg (by rw [I1.len, el]; exact hm)]
      exact a
  · obtain ⟨q1, q2⟩ := ht c e1
    obtain ⟨q3, q4⟩ := ht d' e2
    exact I.dis j k o s t (by rw [q2]; exact a) (by rw [q4]; exact b) q1 q3 e1 e2
  · obtain ⟨q1, q2⟩ := ht b c
    exact I.own j l s (by rw [q2]; exact a) q1 c
  · obtain ⟨q1, q2⟩ := ht b c
    exact I.kd j l s (by rw [q2]; exact a) q1 c
theorem unhide_own {own : List Nat} (ok : hidOk own s0 = true) (el : s0.length = σd.length) (hl : σ.length = σd.length) {l : Addr} (w : OwnA σ (G48.unhide own s0 σd) l) : OwnA (wipe σ own) σd l := by
  obtain ⟨i, s, h1, h2, h3⟩ := w
  rw [unhide_at el] at h2
  by_cases hm : i ∈ own ∧ i < σd.length
  · rw [if_pos hm] at h2
    rcases hidOk_at ok hm.1 with q | ⟨d, q⟩
    · rw [h2] at q; cases q; cases h3
    · rw [h2] at q; cases q; cases h3
  · rw [if_neg hm] at h2
    exact ⟨i, s, by rw [wipe_at, if_neg (by rw [hl]; exact hm)]; exact h1, h2, h3⟩
theorem hide_own {own : List Nat} (hl : σ.length = σd.length) {l : Addr} (w : OwnA (wipe σ own) (G48.hide own σd) l) : OwnA σ σd l := by
  obtain ⟨i, s, h1, h2, h3⟩ := w
  rw [hide_at] at h2
  by_cases hm : i ∈ own ∧ i < σd.length
  · rw [if_pos hm] at h2; cases h2; cases h3
  · rw [if_neg hm] at h2
    rw [wipe_at, if_neg (by rw [hl]; exact hm)] at h1
    exact ⟨i, s, h1, h2, h3⟩
theorem wipe_eq {σ' : L2.St} {own tg : List Nat} (hl : σ'.length = σ.length) (h : ∀ i, i ∉ tg → σ'[i]? = σ[i]?) (sub : ∀ i ∈ tg, i ∈ own) : wipe σ' own = wipe σ own := by
  refine List.ext_getElem? fun i => ?_
  rw [wipe_at, wipe_at, hl]
  by_cases hm : i ∈ own ∧ i < σ.length
  · rw [if_pos hm, if_pos hm]
  · rw [if_neg hm, if_neg hm]
    by_cases ht : i ∈ tg
    · have : ¬ i < σ.length := fun z => hm ⟨sub i ht, z⟩
      rw [List.getElem?_eq_none (by omega), List.getElem?_eq_none (by omega)]
    · exact h i ht
theorem wipe_wipe {own : List Nat} : wipe (wipe σ own) own = wipe σ own := by
  refine List.ext_getElem? fun i => ?_
  rw [wipe_at, wipe_at, wipe_length]
  by_cases hm : i ∈ own ∧ i < σ.length
  · rw [if_pos hm, if_pos hm]
  · rw [if_neg hm, if_neg hm]
end
section
variable {g : GT} {X : Cx} {C : Nat → Addr} {Φ : CF} {k : Nat} {m : Cm}
theorem asg1_slot {i : Nat} {d : D} {σd s : S} (h : asg1 i d σd = some s) {j : Nat} {t : Sl} (e : s[j]? = some t) (w : t.own = true) : j ≠ i ∧ σd[j]? = some t := by
  obtain ⟨lt, rfl⟩ := asg1_inv h
  by_cases hj : i = j
  · subst hj; rw [List.getElem?_set_self lt] at e; cases e; cases w
  · rw [List.getElem?_set_ne hj] at e; exact ⟨fun z => hj z.symm, e⟩
theorem asgs_slot : ∀ {is : List Nat} {ds : List D} {σd s : S}, asgs is ds σd = some s → ∀ {j : Nat} {t : Sl}, s[j]? = some t → t.own = true → j ∉ is ∧ σd[j]? = some t
  | [], [], _, _, h, j, t, e, w => by cases h; exact ⟨by simp, e⟩
  | [], _ :: _, _, _, h, _, _, _, _ => by cases h
  | _ :: _, [], _, _, h, _, _, _, _ => by cases h
  | i :: is, d :: ds, σd, s, h, j, t, e, w => by
    simp only [asgs] at h
    split at h
    · rename_i s1 hs1
      obtain ⟨q1, q2⟩ := asgs_slot h e w
      obtain ⟨q3, q4⟩ := asg1_slot hs1 q2 w
      exact ⟨fun z => (List.mem_cons.mp z).elim q3 q1, q4⟩
    · cases h
theorem asg_slot {tg : List Nat} {d : D} {σd s : S} (h : asg tg d σd = some s) {j : Nat} {t : Sl} (e : s[j]? = some t) (w : t.own = true) : j ∉ tg ∧ σd[j]? = some t := by
  unfold asg at h
  split at h
  · obtain ⟨q1, q2⟩ := asg1_slot h e w
    exact ⟨fun z => q1 (List.mem_singleton.mp z), q2⟩
  · split at h
    · exact asgs_slot h e w
    · exact asgs_slot h e w
    · cases h
/-- the reading of a comprehension, from its parts' -/
theorem tLc_of {elt : Ex} {tg own : List Nat} {it : It} {c : Ex} {tt : TT} (sub : ∀ i ∈ tg, i ∈ own) (htt : ∀ {σ H} {Q : Bool → Hp → Prop}, tT X.K C Φ c σ H Q → tt σ H Q) {σ : L2.St} {H : Hp} {Q : VK} (q : tE X.K C Φ (.comp elt tg it c own) σ H Q) :
    tLc (tIt X.K C Φ it) (tTg X.K C tg) tt (tV X.K C Φ elt) own σ H Q := by
  obtain ⟨E, F, σd, r, σd', I, e, kk⟩ := q
  obtain ⟨ds, s1, e1, e⟩ := bnd_some e
  split at e
  · rename_i hok
    obtain ⟨l, s2, e2, e⟩ := bnd_some e
    split at e
    · rename_i hz
      cases e
      refine ⟨E, F, σd, ds, s1, I, e1, fun J F1 H1 I1 le1 W A hA => ?_⟩
      have hzl := szOk_le hz
      have I1w := I1.hide own
      have IA := I1w.alloc (.lst []) hA
      refine ⟨fun i mm H => mm = ds.length - i ∧ i ≤ ds.length ∧ ∃ (F : Hp) (sd : S) (acc : List V) (ad lr : List D), SI X.K C E F H (wipe σ own) sd ∧ Fle F1 F ∧ H A = some (.lst acc) ∧ F A = none ∧ Reps X.K F acc ad ∧
        compF (fun σ => bnd (ev Φ elt σ) vl) (evT Φ c) tg own (ds.drop i) sd = some (lr, s2) ∧ ad ++ lr = l ∧ ¬ OwnA (wipe σ own) sd A,
        ⟨ds.length, rfl, Nat.zero_le _, F1, _, [], [], l, IA, Fle.refl F1, upd_same, I1.fin.none hA, .nil, e2, rfl, I1w.freshOwn hA⟩, ?_⟩
      rintro i mm H2 ⟨rfl, hi, F2, sd, acc, ad, lr, I2, le2, hA2, fA2, ra, ec, el, no⟩
      by_cases hlt : i < ds.length
      · refine .inr ⟨W.go i F2 H2 le2 I2.fin hlt, fun H' => ∃ (F : Hp) (sd : S) (acc : List V) (ad lr : List D), SI X.K C E F H' (wipe σ own) sd ∧ Fle F1 F ∧ H' A = some (.lst acc) ∧ F A = none ∧ Reps X.K F acc ad ∧
          compF (fun σ => bnd (ev Φ elt σ) vl) (evT Φ c) tg own (ds.drop (i + 1)) sd = some (lr, s2) ∧ ad ++ lr = l ∧ ¬ OwnA (wipe σ own) sd A,
          fun H' h => ⟨ds.length - (i + 1), by omega, rfl, hlt, h⟩, fun x H3 y => ?_⟩
        obtain ⟨d, hd, yr⟩ := W.yld i F2 H2 x H3 le2 I2.fin hlt y
        obtain ⟨F3, I3, le3, rx, nw3, fr3⟩ := yr.si I2
        have hA3 : H3 A = some (.lst acc) := fr3 A _ hA2
        have fA3 : F3 A = none := by
          cases z : F3 A with
          | none => rfl
          | some u =>
            rcases nw3 A (by rw [z]; exact fun z => by cases z) with q | q
            · exact absurd fA2 q
            · rw [hA2] at q; cases q
        have hdrop : ds.drop i = d :: ds.drop (i + 1) := by
          rw [List.drop_eq_getElem_cons hlt]
          congr 1
          rw [List.getElem?_eq_getElem hlt] at hd
          exact Option.some.inj hd
        rw [hdrop] at ec
        simp only [compF] at ec
        cases ha : asg tg d sd with
        | none => rw [ha] at ec; cases ec
        | some sd1 =>
          rw [ha] at ec
          dsimp only at ec
          obtain ⟨b, sd2, eb, ec⟩ := bnd_some ec
          refine ⟨E, F3, sd, d, sd1, I3, rx, ha, fun σ2 I4 hl2 hs2 => ⟨(wipe_eq (own := own) hl2 hs2 sub).trans wipe_wipe, ?_⟩⟩
          have hw2 : wipe σ2 own = wipe σ own := (wipe_eq (own := own) hl2 hs2 sub).trans wipe_wipe
          have no4 : ¬ OwnA σ2 sd1 A := fun ⟨j, t, w1, w2, w3⟩ => by
            obtain ⟨q1, q2⟩ := asg_slot ha w2 w3
            rw [hs2 j q1] at w1
            exact no ⟨j, t, w1, q2, w3⟩
          refine htt ⟨_, F3, sd1, b, sd2, I4.local, eb, fun F5 H5 J5 le5 => ?_⟩
          have I5 := I4.back J5
          have hA5 : H5 A = some (.lst acc) := J5.frame A _ hA3 no4
          have fA5 : F5 A = none := by
            cases z : F5 A with
            | none => rfl
            | some u =>
              rcases J5.new A (by rw [z]; exact fun z => by cases z) with q | q | q
              · exact absurd fA3 q
              · have q : H3 A = none := q
                rw [hA3] at q; cases q
              · exact absurd q no4
          have no5 : ¬ OwnA σ2 sd2 A := fun w => by
            rcases J5.own0 w with q | q
            · have q : H3 A = none := q
              rw [hA3] at q; cases q
            · exact no4 q
          cases b with
          | false =>
            have I6 := I5.hide own
            rw [hw2] at I6
            exact ⟨F5, _, acc, ad, lr, I6, le2.trans (le3.trans le5), hA5, fA5, ra.mono (le3.trans le5), ec, el, fun w => no5 (hide_own (own := own) I5.len (by rw [hw2]; exact w))⟩
          | true =>
            dsimp only at ec
            obtain ⟨rd, sd3, er, ec⟩ := bnd_some ec
            obtain ⟨lr', s2', er', ec⟩ := bnd_some ec
            cases ec
            refine ⟨_, F5, sd2, rd, sd3, I5.local, er, fun F6 H6 v J6 le6 rv => ?_⟩
            have I6 := I5.back J6
            have hA6 : H6 A = some (.lst acc) := J6.frame A _ hA5 no5
            have fA6 : F6 A = none := by
              cases z : F6 A with
              | none => rfl
              | some u =>
                rcases J6.new A (by rw [z]; exact fun z => by cases z) with q | q | q
                · exact absurd fA5 q
                · have q : H5 A = none := q
                  rw [hA5] at q; cases q
                · exact absurd q no5
            have no6 : ¬ OwnA σ2 sd3 A := fun w => by
              rcases J6.own0 w with q | q
              · have q : H5 A = none := q
                rw [hA5] at q; cases q
              · exact no5 q
            have la : acc.length < sizeLine := by
              have q1 := ra.len
              have q2 : (ad ++ rd :: lr').length ≤ sizeLine := by rw [el]; exact hzl
              rw [List.length_append, List.length_cons] at q2
              omega
            refine ⟨acc, hA6, la, ?_⟩
            have I7 := I6.other (H' := upd H6 A (.lst (acc ++ [v]))) no6 (I1.fresh hA) ⟨_, upd_same⟩ (fun b u e => by
              have : b ≠ A := fun z => by rw [z, fA6] at e; cases e
              rw [upd_ne this]
              exact I6.fin b u e) (Fle.refl F6) (fun _ h => .inl h) (fun b u e n => by rw [upd_ne n]; exact e)
            have I8 := I7.hide own
            rw [hw2] at I8
            refine ⟨F6, _, acc ++ [v], ad ++ [rd], lr', I8, le2.trans (le3.trans (le5.trans le6)), upd_same, fA6, (ra.mono (le3.trans (le5.trans le6))).append (.cons rv .nil), er', by rw [List.append_assoc]; exact el, fun w => no6 (hide_own (own := own) I6.len (by rw [hw2]; exact w))⟩
      · have hi' : i = ds.length := by omega
        subst hi'
        rw [List.drop_length] at ec
        cases ec
        rw [List.append_nil] at el
        subst el
        refine .inl ⟨W.stop _ F2 H2 le2 I2.fin (Nat.le_refl _), ?_⟩
        have hl1 : σ.length = s2.length := by rw [← I2.len, wipe_length]
        refine kk F2 H2 _ (I1.unhide hok I2 le2) (le1.trans le2) ⟨.lst fA2 hA2 ra, fun l' el => ?_⟩
        cases el
        exact ⟨I1.fresh hA, fun w => no (unhide_own hok (by rw [← I1.len]; exact hl1) hl1 w)⟩
    · cases e
  · cases e
/-- a comprehension's text -/
structure LC where
  elt : Expr
  tg : Expr
  iter : Expr
  ifs : List Expr
  scope : Scope
def ownOf (m : Cm) (own : List Nat) : List (Str × Nat) := own.map fun i => (m.N.getD i "", i)
theorem ownOf_ix {m : Cm} {own : List Nat} : (ownOf m own).map (·.2) = own := by
  unfold ownOf
  rw [List.map_map]
  exact List.map_id' own
def lcForm (m : Cm) (tg own : List Nat) (q : LC) : Bool := isTg (m.blk q.scope) tg q.tg && (blkC m.N m.sc q.scope (ownOf m own) && (notSet q.iter && (tg.all fun i => decide (i ∈ own))))
def isYes : Ex → Bool
  | .lit (.bl true) => true | _ => false
theorem isYes_eq {c : Ex} (h : isYes c = true) : c = .lit (.bl true) := by
  unfold isYes at h
  split at h
  · rfl
  · cases h
/-- the tests of a comprehension -/
theorem PTs_none {X : Cx} {c : Ex} (h : isYes c = true) : ∃ tt, PTs X [] tt ∧ ∀ {σ H} {Q : Bool → Hp → Prop}, tT X.K C Φ c σ H Q → tt σ H Q := by
  cases isYes_eq h
  refine ⟨tYes, pts_nil, fun {σ H Q} q => ?_⟩
  obtain ⟨E, F, σd, b, σd', I, e, kk⟩ := q
  cases e
  exact kk F H I (Fle.refl F)
theorem SE_comp (G : Good g Φ C k m X) {q : LC} {elt : Ex} {tg own : List Nat} {it : It} {c : Ex} {pos : Pos} (h : lcForm m tg own q = true)
    (hi : PI X q.tg q.iter (tIt X.K C Φ it))
    (he : ∀ X', Good g Φ C k (m.blk q.scope) X' → SE X' C Φ q.elt elt)
    (hc : (q.ifs = [] ∧ isYes c = true) ∨ ∃ e, q.ifs = [e] ∧ notIf e = true ∧ ∀ X', Good g Φ C k (m.blk q.scope) X' → SE X' C Φ e c) :
    SE X C Φ (.ListComp q.elt [⟨q.tg, q.iter, q.ifs, 0⟩] q.scope pos) (.comp elt tg it c own) := by
  obtain ⟨h1, h2⟩ := and_t h
  obtain ⟨h2, h3⟩ := and_t h2
  obtain ⟨h3, h4⟩ := and_t h3
  have ok : BlkOk X.N X.env.scope q.scope (ownOf m own) := by rw [G.N, G.sc]; exact blkOk_by h2
  have sub : ∀ i ∈ tg, i ∈ own := fun i hi => of_decide_eq_true (List.all_eq_true.mp h4 i hi)
  have blk := fun (s : Shared) (H : Hp) (A : Addr) (cl : List (Str × Addr)) (fp : List Addr) => G.blk ok.kind s H A cl fp
  have hs : ∀ x, foldedSetIterable q.iter X.env x = pure x := fun x => setNone h3 X.env x
  have fin : ∀ {tt : TT}, (∀ (s : Shared) (H : Hp) (A : Addr) (cl : List (Str × Addr)) (fp : List Addr), PTs (X.blk s H q.scope (compEnvC q.scope cl A X.env) fp) q.ifs tt) → (∀ {σ H} {Q : Bool → Hp → Prop}, tT X.K C Φ c σ H Q → tt σ H Q) →
      SE X C Φ (.ListComp q.elt [⟨q.tg, q.iter, q.ifs, 0⟩] q.scope pos) (.comp elt tg it c own) := fun {tt} ht htt => by
    have P := pe_lc (te := tV X.K C Φ elt) (g := tTg X.K C tg) (tt := tt) (pos := pos) G.calm (by rw [G.N]; exact G.nd) hi ok (fun s H A cl fp => PG_of (blk s H A cl fp) h1) ht (fun s H A cl fp => (he _ (blk s H A cl fp)).val) hs
    rw [ownOf_ix] at P
    exact SE.plain (PE.imp P fun σ H Q qq => tLc_of sub htt qq) rfl rfl (fun _ z => by cases z)
  rcases hc with ⟨e1, hy⟩ | ⟨e, e1, n, hc⟩
  · rw [e1] at fin ⊢
    cases isYes_eq hy
    exact fin (tt := tYes) (fun _ _ _ _ _ => pts_nil) fun {σ H Q} q => by
      obtain ⟨E, F, σd, b, σd', I, e, kk⟩ := q
      cases e
      exact kk F H I (Fle.refl F)
  · rw [e1] at fin ⊢
    exact fin (tt := tT X.K C Φ c) (fun s H A cl fp => pts_one ((hc _ (blk s H A cl fp)).t n)) fun {σ H Q} q => q
end
end G48

set_option maxHeartbeats 4000000
/-! The check of an expression. -/
namespace G48
open PySem L2
/-! forms: the parts of a text -/
def tupF : Expr → Option (List Expr)
  | .Tuple es _ _ => some es | _ => none
def lstF : Expr → Option (List Expr)
  | .List es _ => some es | _ => none
def empF : Expr → Bool
  | .Dict [] [] _ => true | _ => false
def sliF (lo hi : Bool) : Expr → Option (Expr × List Expr)
  | .Subscript o (.Slice l h none _) _ => match slForm l h with
    | some (b1, b2, es) => if b1 == lo && b2 == hi then some (o, es) else none
    | none => none
  | _ => none
def andF : Expr → Option (Expr × Expr)
  | .BoolOp .And (x :: y :: r) p => if notIf x then match r with
      | [] => if notIf y then some (x, y) else none
      | z :: r => some (x, .BoolOp .And (y :: z :: r) p)
    else none
  | _ => none
def orF : Expr → Option (Expr × Expr)
  | .BoolOp .Or (x :: y :: r) p => if notIf x then match r with
      | [] => if notIf y then some (x, y) else none
      | z :: r => some (x, .BoolOp .Or (y :: z :: r) p)
    else none
  | _ => none
def notF : Expr → Option Expr
  | .UnaryOp .Not a _ => if notIf a then some a else none
  | _ => none
def ifeF : Expr → Option (Expr × Expr × Expr)
  | .IfExp t a b _ => if notIf t then some (t, a, b) else none
  | _ => none
def chF (p q : Pr) : Expr → Option (Expr × Expr × Expr)
  | .Compare a [op, op'] [b, c] _ => if prCmp p op && (prCmp q op' && notSet c) then some (a, b, c) else none
  | _ => none
def callF' (g : GT) (m : Cm) (f : Nat) : Expr → Option (List Expr)
  | .Call (.Name x _) es [] _ => if isFun g m f x then some es else none
  | _ => none
def mslF (g : GT) (m : Cm) (f c i : Nat) (x : Str) : Expr → Option (List Expr)
  | .Call (.Attribute o y ap) es [] pos => if decide (y = x) && (isMeth g f c x && (isVar m i o && (decide (es.length < 30) && (ap.endLine == pos.line)))) then some es else none
  | _ => none
def mkF (g : GT) (m : Cm) (c f : Nat) : Expr → Option (List Expr)
  | .Call (.Name x _) es [] _ => if isMk g m c f x then some es else none
  | _ => none
def mcallF (g : GT) (f : Nat) : Expr → Option (Expr × List Expr)
  | .Call (.Attribute o x ap) es [] pos => match g.fis[f]? with
    | some fi => match fi.cls with
      | some c => if isMeth g f c x && (notSup o && (decide (es.length < 30) && (ap.endLine == pos.line))) then some (o, es) else none
      | none => none
    | none => none
  | _ => none
def fldF (g : GT) (m : Cm) (i : Nat) (x : Str) : Expr → Bool
  | .Attribute e y _ => decide (y = x) && (isVar m i e && decide (x ∈ g.flds))
  | _ => false
def popF (m : Cm) (i : Nat) : Expr → Option Expr
  | .Call (.Attribute o y ap) [e] [] pos => if decide (y = ("pop" : Str)) && (isVar m i o && (ap.endLine == pos.line)) then some e else none
  | _ => none
def compF' (m : Cm) (tg own : List Nat) : Expr → Option LC
  | .ListComp elt [⟨t, it, ifs, 0⟩] scope _ => if lcForm m tg own ⟨elt, t, it, ifs, scope⟩ then some ⟨elt, t, it, ifs, scope⟩ else none
  | _ => none
def rngF (m : Cm) : Expr → Option (List Expr)
  | .Call (.Name x _) es [] _ => if isRng m x && (decide (es.length ≤ 3) && !es.isEmpty) then some es else none
  | _ => none
def zipF (m : Cm) (tg : Expr) : Expr → Option (Expr × Expr)
  | .Call (.Name x _) [a, b] [] _ => if isZipN m x && isTupE tg then some (a, b) else none
  | _ => none
def enumF (m : Cm) (tg : Expr) : Expr → Option Expr
  | .Call (.Name x _) [a] [] _ => if isEnumN m x && isTupE tg then some a else none
  | _ => none
def tDctF (g : GT) (m : Cm) (p : Pr) : Expr → Bool
  | .Call (.Name x _) [e] [] _ => match p with
    | .tDct t => decide (x = ("dict" : Str)) && (bltn m x && (isTabE g m t e && noStar e))
    | _ => false
  | _ => false
def isNil : Exs → Bool
  | .nil => true | _ => false
mutual
def chE (g : GT) (m : Cm) (c : Ex) (e : Expr) : Bool := match c with
  | .lit d => isLit g m d e
  | .var i => isVar m i e
  | .tup es => match tupF e with | some xs => chEs g m es xs | none => false
  | .lst es => match lstF e with | some xs => chEs g m es xs | none => false
  | .emp _ => empF e
  | .pr p es => match prForm g m p e with | some xs => chEs g m es xs | none => (match max3F m p e with | some xs => chEs g m es xs | none => tDctF g m p e && isNil es)
  | .sli lo hi a es => match sliF lo hi e with | some (o, xs) => chE g m a o && chEs g m es xs | none => false
  | .and a b => match andF e with | some (x, y) => chE g m a x && chE g m b y | none => false
  | .or a b => match orF e with | some (x, y) => chE g m a x && chE g m b y | none => false
  | .not a => match notF e with | some x => chE g m a x | none => false
  | .ife t a b => match ifeF e with | some (x, y, z) => chE g m t x && (chE g m a y && chE g m b z) | none => false
  | .ch p q a b d => match chF p q e with | some (x, y, z) => chE g m a x && (chE g m b y && chE g m d z) | none => false
  | .call f _ es => match callF' g m f e with | some xs => chEs g m es xs | none => false
  | .msl f c i x es => match mslF g m f c i x e with | some xs => chEs g m es xs | none => false
  | .mk c f es => match mkF g m c f e with | some xs => chEs g m es xs | none => false
  | .mcall f o es => match mcallF g f e with | some (x, xs) => chE g m o x && chEs g m es xs | none => false
  | .fld i x => fldF g m i x e
  | .pop i a => match popF m i e with | some x => chE g m a x | none => false
  | .comp elt tg it d own => match compF' m tg own e with
    | some q => chI g m it q.tg q.iter && (chE g (m.blk q.scope) elt q.elt && (match q.ifs with
      | [] => isYes d
      | [x] => notIf x && chE g (m.blk q.scope) d x
      | _ => false))
    | none => false
  | _ => false
def chEs (g : GT) (m : Cm) (cs : Exs) (es : List Expr) : Bool := match cs with
  | .nil => es.isEmpty
  | .cons c cs => match es with
    | e :: es => chE g m c e && chEs g m cs es
    | [] => false
def chI (g : GT) (m : Cm) (it : It) (tg e : Expr) : Bool := match it with
  | .of c => chE g m c e
  | .rng cs => match rngF m e with | some xs => chEs g m cs xs | none => false
  | .zip a b => match zipF m tg e with | some (x, y) => chE g m a x && chE g m b y | none => false
  | .enum a => match enumF m tg e with | some x => chE g m a x | none => false
  | .keys _ => false
end
/-! dict(TABLE) -/
section
variable {X : Cx} {pins : List (Addr × Obj)} {σ : L2.St} {H : Hp} {s : Shared} {a : Addr} {t : List (Str × Str)} {C : Nat → Addr}
def tabV (t : List (Str × Str)) : List (L2.Key × V) := t.map fun p => (.inr p.1, .str p.2)
theorem d_copyTab {E : Value → Shared → Prop} {Q : Value → Shared → Prop} (I : L2.Inv X pins σ H s) (T : TabOk X a t) (h : ∀ p s', H p = none → L2.Inv X pins σ (upd H p (.dK (tabV t))) s' → Q (.ref p) s') : wpAny (model X.prog X.w) X.A (call (.type "dict") [.ref a]) Q E s := by
  obtain ⟨es, n, D, P⟩ := T.ents
  have hz : t.length ≤ sizeLine := Nat.le_trans T.small (by rw [sizeLine_eq]; omega)
  -- the pairs, by value
  obtain ⟨more, hp, hkv, hk⟩ : ∃ more : List (L2.Key × Value), Pairs (mixKind X.prog X.w) es.toList more ∧ KV (tabV t) more ∧ more.map (·.1) = t.map fun p => (Sum.inr p.1 : L2.Key) := by
    have gen : ∀ {es : List DictEntry} {t : List (Str × Str)}, Paired (fun (e : DictEntry) (p : Str × Str) => (∃ tk, e.key = .str p.1 tk) ∧ ∃ tk, e.val = .str p.2 tk) es t →
        ∃ more : List (L2.Key × Value), Pairs (mixKind X.prog X.w) es more ∧ KV (tabV t) more ∧ more.map (·.1) = t.map fun p => (Sum.inr p.1 : L2.Key) := by
      intro es t P
      induction P with
      | nil => exact ⟨[], .nil, .nil, rfl⟩
      | @cons e p es t h r ih =>
        obtain ⟨more, h1, h2, h3⟩ := ih
        obtain ⟨⟨tk, e1⟩, tk2, e2⟩ := h
        refine ⟨(.inr p.1, e.val) :: more, .cons ?_ rfl h1, .cons ⟨rfl, tk2, e2⟩ h2, by rw [List.map_cons, List.map_cons, h3]⟩
        rw [e1]
        exact mixKind_str X.prog X.w p.1 tk
    exact gen P
  have hnd : (more.map (·.1)).Nodup := by
    rw [hk]
    have := T.nd
    have e : (t.map fun p => (Sum.inr p.1 : L2.Key)) = (t.map (·.1)).map Sum.inr := by rw [List.map_map]; rfl
    rw [e]
    exact List.pairwise_map.mpr (this.imp fun n z => n (Sum.inr.inj z))
  have ko : KeysOf (mixKind X.prog X.w) es := fun e he => by
    obtain ⟨x, tk, e1, e2⟩ := D.lit.all e (Array.mem_toList_iff.mpr he)
    exact ⟨.inr x, by rw [e1]; exact mixKind_str X.prog X.w x tk, e2⟩
  have dd : s.heap.DictOf (mixKind X.prog X.w) a more := ⟨_, es, n, I.kIn _ _ D.at_, ⟨rfl, rfl, rfl⟩, rfl, ko, hp, hnd⟩
  have hl : (tabV t).length = more.length := Paired.length hkv
  refine kt_call_dict D.low dd (by rw [← hl]; simpa [tabV] using hz) fun h' dd' hs => ?_
  refine h _ _ (I.hok.fresh (Nat.le_refl _)) (I.laid (a := s.heap.objs.size) (o := .dK (tabV t)) (t' := s.toks) (fun b q hq => ?_) (Nat.le_refl _) (dk_new (by simpa [tabV] using hz) (beq_eq_false_iff_ne.mpr (Ne.symm (Nat.ne_of_lt I.big))) hkv dd'))
  exact (hs.2 b (Nat.ne_of_lt (Heap.lt_size hq))).trans (Heap.get?_push_of_some _ hq)
theorem call_tDct (T : TabOk X a t) : CallR X (.type "dict") (fun xs H Q => xs = [.ref a] ∧ ∀ p, H p = none → Q (.ref p) (upd H p (.dK (tabV t)))) := by
  intro pins s σ H xs us Q I rr h
  obtain ⟨rfl, q⟩ := h
  rw [Vals.ref1 rr]
  exact d_copyTab I T fun p s' hp I' => ⟨.ref p, _, I', rfl, q p hp⟩
theorem tab_rep {K : PySem.W.Frag} {F : Hp} : ∀ t : List (Str × Str), RepK K F (tabV t) (tabK t)
  | [] => .nil
  | p :: t => .cons (.str p.2) (tab_rep t)
end
section
variable {g : GT} {X : Cx} {C : Nat → Addr} {Φ : CF} {k : Nat} {m : Cm}
theorem SE_tDct (G : Good g Φ C k m X) {p : Pr} {e : Expr} {cs : Exs} (h : tDctF g m p e = true) (hn : isNil cs = true) : SE X C Φ e (.pr p cs) := by
  unfold tDctF at h
  split at h
  · rename_i x pn a pos
    split at h
    · rename_i t
      obtain ⟨h1, h2⟩ := and_t h
      obtain ⟨h2, h3⟩ := and_t h2
      obtain ⟨h3, h4⟩ := and_t h3
      have e1 : x = ("dict" : Str) := of_decide_eq_true h1
      subst e1
      obtain ⟨ad, T, hp⟩ := tab_ok G h3
      obtain ⟨g1, g2, g3, g4⟩ := bltn_ok G h2
      cases cs with
      | nil =>
        refine SE.plain (PE.imp (pe_callTy (call_tDct T) g1 g2 boot_dctT (pa_cons hp pa_nil (star_cons h4 _ _)) g4 g3 (star_cons h4 _ _) rfl) fun σ H Q q => ?_) rfl rfl (fun _ z => by cases z)
        obtain ⟨E, F, σd, r, σd', I, e', k⟩ := q
        cases e'
        exact ⟨rfl, fun p hp => fin_dK I k (tab_rep t) p hp⟩
      | cons _ _ => cases hn
    · cases h
  · cases h
theorem SB_of {op : BoolOp} {es : List Expr} {p : Pos} {c : Ex} (h : SE X C Φ (.BoolOp op es p) c) : SB X C Φ op es p c := ⟨h.pe, h.w ⟨op, es, p, rfl⟩⟩
mutual
theorem chE_ok : ∀ (c : Ex) {m : Cm} {X : Cx} {e : Expr}, Good g Φ C k m X → chE g m c e = true → SE X C Φ e c
  | .lit d, m, X, e, G, h => SE_lit G h
  | .var i, m, X, e, G, h => SE_var G h
  | .tup es, m, X, e, G, h => by
    unfold chE at h
    split at h
    · rename_i xs hx
      unfold tupF at hx
      split at hx
      · cases hx; exact SE_tup (chEs_ok es G h)
      · cases hx
    · cases h
  | .lst es, m, X, e, G, h => by
    unfold chE at h
    split at h
    · rename_i xs hx
      unfold lstF at hx
      split at hx
      · cases hx; exact SE_lst (chEs_ok es G h)
      · cases hx
    · cases h
  | .emp t, m, X, e, G, h => by
    have h : empF e = true := h
    unfold empF at h
    split at h
    · exact SE_emp
    · cases h
  | .pr p es, m, X, e, G, h => by
    unfold chE at h
    split at h
    · rename_i xs hx
      exact SE_pr G hx (chEs_ok es G h)
    · split at h
      · rename_i xs hx
        exact SE_max3 G hx (chEs_ok es G h)
      · obtain ⟨h1, h2⟩ := and_t h
        exact SE_tDct G h1 h2
  | .sli lo hi a es, m, X, e, G, h => by
    unfold chE at h
    split at h
    · rename_i o xs hx
      obtain ⟨h1, h2⟩ := and_t h
      unfold sliF at hx
      split at hx
      · split at hx
        · rename_i b1 b2 es' hf
          obtain ⟨hb, he⟩ := ite_some0 hx
          obtain ⟨q1, q2⟩ := and_t hb
          have q1 : b1 = lo := by simpa using q1
          have q2 : b2 = hi := by simpa using q2
          subst q1 q2
          cases he
          exact SE_sli hf (chE_ok a G h1) (chEs_ok es G h2)
        · cases hx
      · cases hx
    · cases h
  | .and a b, m, X, e, G, h => by
    unfold chE at h
    split at h
    · rename_i x y hx
      obtain ⟨h1, h2⟩ := and_t h
      have ha := chE_ok a G h1
      have hb := chE_ok b G h2
      unfold andF at hx
      split at hx
      · split at hx
        · rename_i n
          split at hx
          · obtain ⟨n2, he⟩ := ite_some0 hx
            cases he
            exact (SB_and2 ha hb n n2).se (fun _ z => by cases z)
          · cases hx
            exact (SB_andC ha (SB_of hb) n).se (fun _ z => by cases z)
        · cases hx
      · cases hx
    · cases h
  | .or a b, m, X, e, G, h => by
    unfold chE at h
    split at h
    · rename_i x y hx
      obtain ⟨h1, h2⟩ := and_t h
      have ha := chE_ok a G h1
      have hb := chE_ok b G h2
      unfold orF at hx
      split at hx
      · split at hx
        · rename_i n
          split at hx
          · obtain ⟨n2, he⟩ := ite_some0 hx
            cases he
            exact (SB_or2 ha hb n n2).se (fun _ z => by cases z)
          · cases hx
            exact (SB_orC ha (SB_of hb) n).se (fun _ z => by cases z)
        · cases hx
      · cases hx
    · cases h
  | .not a, m, X, e, G, h => by
    unfold chE at h
    split at h
    · rename_i x hx
      unfold notF at hx
      split at hx
      · obtain ⟨n, he⟩ := ite_some0 hx
        cases he
        exact SE_not (chE_ok a G h) n
      · cases hx
    · cases h
  | .ife t a b, m, X, e, G, h => by
    unfold chE at h
    split at h
    · rename_i x y z hx
      obtain ⟨h1, h2⟩ := and_t h
      obtain ⟨h2, h3⟩ := and_t h2
      unfold ifeF at hx
      split at hx
      · obtain ⟨n, he⟩ := ite_some0 hx
        cases he
        exact SE_ife (chE_ok t G h1) (chE_ok a G h2) (chE_ok b G h3) n
      · cases hx
    · cases h
  | .ch p q a b d, m, X, e, G, h => by
    unfold chE at h
    split at h
    · rename_i x y z hx
      obtain ⟨h1, h2⟩ := and_t h
      obtain ⟨h2, h3⟩ := and_t h2
      unfold chF at hx
      split at hx
      · obtain ⟨n, he⟩ := ite_some0 hx
        cases he
        obtain ⟨n1, n2⟩ := and_t n
        obtain ⟨n2, n3⟩ := and_t n2
        exact SE_ch G.hu n1 n2 n3 (chE_ok a G h1) (chE_ok b G h2) (chE_ok d G h3)
      · cases hx
    · cases h
  | .call f io es, m, X, e, G, h => by
    unfold chE at h
    split at h
    · rename_i xs hx
      unfold callF' at hx
      split at hx
      · obtain ⟨n, he⟩ := ite_some0 hx
        cases he
        exact SE_call G n (chEs_ok es G h)
      · cases hx
    · cases h
  | .msl f c i x es, m, X, e, G, h => by
    unfold chE at h
    split at h
    · rename_i xs hx
      unfold mslF at hx
      split at hx
      · obtain ⟨n, he⟩ := ite_some0 hx
        cases he
        obtain ⟨n1, n2⟩ := and_t n
        obtain ⟨n2, n3⟩ := and_t n2
        obtain ⟨n3, n4⟩ := and_t n3
        obtain ⟨n4, n5⟩ := and_t n4
        have e1 := of_decide_eq_true n1
        subst e1
        exact SE_msl G n2 n3 n4 n5 (chEs_ok es G h)
      · cases hx
    · cases h
  | .mk c f es, m, X, e, G, h => by
    unfold chE at h
    split at h
    · rename_i xs hx
      unfold mkF at hx
      split at hx
      · obtain ⟨n, he⟩ := ite_some0 hx
        cases he
        exact SE_mk G n (chEs_ok es G h)
      · cases hx
    · cases h
  | .mcall f o es, m, X, e, G, h => by
    unfold chE at h
    split at h
    · rename_i x xs hx
      obtain ⟨h1, h2⟩ := and_t h
      unfold mcallF at hx
      split at hx
      · split at hx
        · split at hx
          · obtain ⟨n, he⟩ := ite_some0 hx
            cases he
            obtain ⟨n1, n2⟩ := and_t n
            obtain ⟨n2, n3⟩ := and_t n2
            obtain ⟨n3, n4⟩ := and_t n3
            exact SE_mcall G n1 n2 n3 n4 (chE_ok o G h1) (chEs_ok es G h2)
          · cases hx
        · cases hx
      · cases hx
    · cases h
  | .fld i x, m, X, e, G, h => by
    have h : fldF g m i x e = true := h
    unfold fldF at h
    split at h
    · obtain ⟨h1, h23⟩ := and_t h
      obtain ⟨h2, h3⟩ := and_t h23
      have e1 := of_decide_eq_true h1
      clear h h23 h1
      subst e1
      exact SE_fld G h2 (of_decide_eq_true h3)
    · cases h
  | .pop i a, m, X, e, G, h => by
    unfold chE at h
    split at h
    · rename_i x hx
      unfold popF at hx
      split at hx
      · obtain ⟨n, he⟩ := ite_some0 hx
        cases he
        obtain ⟨n1, n2⟩ := and_t n
        obtain ⟨n2, n3⟩ := and_t n2
        have e1 := of_decide_eq_true n1
        subst e1
        exact SE_pop G n2 n3 (chE_ok a G h)
      · cases hx
    · cases h
  | .comp elt tg it d own, m, X, e, G, h => by
    unfold chE at h
    split at h
    · rename_i q hx
      obtain ⟨h1, h2⟩ := and_t h
      obtain ⟨h2, h3⟩ := and_t h2
      unfold compF' at hx
      split at hx
      · obtain ⟨n, he⟩ := ite_some0 hx
        subst he
        refine SE_comp G n (chI_ok it G h1) (fun X' G' => chE_ok elt G' h2) ?_
        split at h3
        · rename_i hz
          exact .inl ⟨hz, h3⟩
        · rename_i x hz
          obtain ⟨h4, h5⟩ := and_t h3
          exact .inr ⟨x, hz, h4, fun X' G' => chE_ok d G' h5⟩
        · cases h3
      · cases hx
    · cases h
  | .dic _ _, m, X, e, G, h => by cases h
  | .prm _ _ _, m, X, e, G, h => by cases h
  | .tapp _ _, m, X, e, G, h => by cases h
theorem chEs_ok : ∀ (cs : Exs) {m : Cm} {X : Cx} {es : List Expr}, Good g Φ C k m X → chEs g m cs es = true → SEs X C Φ es cs
  | .nil, m, X, es, G, h => by
    have h : es.isEmpty = true := h
    cases es with
    | nil => exact .nil
    | cons _ _ => cases h
  | .cons c cs, m, X, es, G, h => by
    cases es with
    | nil => cases h
    | cons e es =>
      obtain ⟨h1, h2⟩ := and_t (show (chE g m c e && chEs g m cs es) = true from h)
      exact .cons (chE_ok c G h1) (chEs_ok cs G h2)
theorem chI_ok : ∀ (it : It) {m : Cm} {X : Cx} {tg e : Expr}, Good g Φ C k m X → chI g m it tg e = true → PI X tg e (tIt X.K C Φ it)
  | .of c, m, X, tg, e, G, h => PI_of (chE_ok c G h)
  | .rng cs, m, X, tg, e, G, h => by
    unfold chI at h
    split at h
    · rename_i xs hx
      unfold rngF at hx
      split at hx
      · obtain ⟨n, he⟩ := ite_some0 hx
        cases he
        obtain ⟨n1, n2⟩ := and_t n
        obtain ⟨n2, n3⟩ := and_t n2
        exact PI_rng G n1 n2 (fun z => by rw [z] at n3; cases n3) (chEs_ok cs G h)
      · cases hx
    · cases h
  | .zip a b, m, X, tg, e, G, h => by
    unfold chI at h
    split at h
    · rename_i x y hx
      obtain ⟨h1, h2⟩ := and_t h
      unfold zipF at hx
      split at hx
      · obtain ⟨n, he⟩ := ite_some0 hx
        cases he
        obtain ⟨n1, n2⟩ := and_t n
        exact PI_zip G n1 n2 (chE_ok a G h1) (chE_ok b G h2)
      · cases hx
    · cases h
  | .enum a, m, X, tg, e, G, h => by
    unfold chI at h
    split at h
    · rename_i x hx
      unfold enumF at hx
      split at hx
      · obtain ⟨n, he⟩ := ite_some0 hx
        cases he
        obtain ⟨n1, n2⟩ := and_t n
        exact PI_enum G n1 n2 (chE_ok a G h)
      · cases hx
    · cases h
  | .keys _, m, X, tg, e, G, h => by cases h
end
end
end G48

set_option maxHeartbeats 4000000
/-! Statements. -/
namespace G48
open PySem L2
section
variable {K : PySem.W.Frag} {C : Nat → Addr} {E : En} {F F' H H' : Hp} {σ : L2.St} {σd σd' s0 : S}
def slOf (r : Res) : Sl := if r.1 then .ow r.2 else .va r.2
/-- a name takes what came -/
theorem SI.res1 (I : SI K C E F H σ σd) {i : Nat} {v : V} {r : Res} (top : ∀ l, E.H0 l = none → E.kd false l) (w : ResR K C E F H σ σd v r) (h : i < σd.length) : SI K C E F H (σ.set i (some v)) (σd.set i (slOf r)) := by
  obtain ⟨fl, d⟩ := r
  cases fl with
  | false => exact I.va1 (show Rep K F v d from w) h
  | true =>
    obtain ⟨ow, w2⟩ := w
    obtain ⟨l, u, el, lF, lH⟩ := ow.ref
    subst el
    obtain ⟨l0, lno⟩ := w2 l rfl
    have hσ : i < σ.length := by rw [I.len]; exact h
    show SI K C E F H (σ.set i (some (.ref l))) (σd.set i (.ow d))
    -- another slot's own is not this
    have oth : ∀ {j : Nat} {t : Sl}, σ[j]? = some (some (.ref l)) → σd[j]? = some t → t.own = true → False := fun {j t} a b c => lno ⟨j, t, a, b, c⟩
    refine ⟨I.fin, I.le, I.new, I.frame, I.ioH, by rw [List.length_set, List.length_set]; exact I.len, fun j o s a b => ?_, fun j k o s t a b c d' e1 e2 => ?_, fun j l' s a b c => ?_, fun j l' s a b c => ?_⟩
    · by_cases hj : i = j
      · subst hj
        rw [List.getElem?_set_self hσ] at a
        rw [List.getElem?_set_self h] at b
        cases a; cases b
        exact .ow ow
      · rw [List.getElem?_set_ne hj] at a b
        exact I.at_ j o s a b
    · by_cases hj : i = j
      · by_cases hk : i = k
        · exact hj.symm.trans hk
        · subst hj
          rw [List.getElem?_set_self hσ] at a
          cases a
          rw [List.getElem?_set_ne hk] at b d'
          exact (oth b d' e2).elim
      · by_cases hk : i = k
        · subst hk
          rw [List.getElem?_set_self hσ] at b
          cases b
          rw [List.getElem?_set_ne hj] at a c
          exact (oth a c e1).elim
        · rw [List.getElem?_set_ne hj] at a c
          rw [List.getElem?_set_ne hk] at b d'
          exact I.dis j k o s t a b c d' e1 e2
    · by_cases hj : i = j
      · subst hj
        rw [List.getElem?_set_self hσ] at a
        cases a
        exact .inl l0
      · rw [List.getElem?_set_ne hj] at a b
        exact I.own j l' s a b c
    · by_cases hj : i = j
      · subst hj
        rw [List.getElem?_set_self hσ] at a
        rw [List.getElem?_set_self h] at b
        cases a; cases b
        exact top l l0
      · rw [List.getElem?_set_ne hj] at a b
        exact I.kd j l' s a b c
end
/-- what is wanted behind a statement -/
def Aft (K : PySem.W.Frag) (C : Nat → Addr) (E : En) (F : Hp) (D : Ends) (f : Fl) (σd' : S) : Prop := match f with
  | .nx => ∀ F' H' σ', SI K C E F' H' σ' σd' → Fle F F' → D.nx σ' H'
  | .bk => ∀ F' H' σ', SI K C E F' H' σ' σd' → Fle F F' → D.bk σ' H'
  | .ct => ∀ F' H' σ', SI K C E F' H' σ' σd' → Fle F F' → D.ct σ' H'
  | .rt r => ∀ F' H' σ' v, SI K C E F' H' σ' σd' → Fle F F' → OutE K C E F' H' v r → D.rt v H'
where
  OutE (K : PySem.W.Frag) (C : Nat → Addr) (E : En) (F H : Hp) (v : V) (r : Res) : Prop := match r with
  | (false, d) => Rep K F v d
  | (true, d) => Own K C F H v d ∧ ∀ l, v = .ref l → E.kd false l
def tS (K : PySem.W.Frag) (C : Nat → Addr) (Φ : CF) (s : St) : TS := fun D σ H => ∃ (E : En) (F : Hp) (σd : S) (f : Fl) (σd' : S), (∀ l, E.H0 l = none → E.kd false l) ∧ SI K C E F H σ σd ∧ evS Φ s σd = some (f, σd') ∧ Aft K C E F D f σd'
def tSs (K : PySem.W.Frag) (C : Nat → Addr) (Φ : CF) (s : Sts) : TS := fun D σ H => ∃ (E : En) (F : Hp) (σd : S) (f : Fl) (σd' : S), (∀ l, E.H0 l = none → E.kd false l) ∧ SI K C E F H σ σd ∧ evSs Φ s σd = some (f, σd') ∧ Aft K C E F D f σd'
section
variable {g : GT} {X : Cx} {C : Nat → Addr} {Φ : CF} {k : Nat} {m : Cm}
theorem Aft.mono {K : PySem.W.Frag} {E : En} {F F1 : Hp} {D : Ends} {f : Fl} {σd' : S} (h : Aft K C E F D f σd') (le : Fle F F1) : Aft K C E F1 D f σd' := by
  cases f with
  | nx => exact fun F' H' σ' I le2 => h F' H' σ' I (le.trans le2)
  | bk => exact fun F' H' σ' I le2 => h F' H' σ' I (le.trans le2)
  | ct => exact fun F' H' σ' I le2 => h F' H' σ' I (le.trans le2)
  | rt r => exact fun F' H' σ' v I le2 w => h F' H' σ' v I (le.trans le2) w
theorem pss_n : PSs X [] (tSs X.K C Φ .nil) := PSs.imp pss_nil fun D σ H q => by
  obtain ⟨E, F, σd, f, σd', top, I, e, a⟩ := q
  cases e
  exact a F H σ I (Fle.refl F)
theorem pss_c {st : Stmt} {rest : List Stmt} {s : St} {ss : Sts} (h1 : PS X st (tS X.K C Φ s)) (h2 : PSs X rest (tSs X.K C Φ ss)) : PSs X (st :: rest) (tSs X.K C Φ (.cons s ss)) := PSs.imp (pss_cons h1 h2) fun D σ H q => by
  obtain ⟨E, F, σd, f, σd', top, I, e, a⟩ := q
  obtain ⟨f1, s1, e1, e2⟩ := bnd_some e
  cases f1 with
  | nx => exact ⟨E, F, σd, .nx, s1, top, I, e1, fun F' H' σ' I' le => ⟨E, F', s1, f, σd', top, I', e2, a.mono le⟩⟩
  | bk => cases e2; exact ⟨E, F, σd, .bk, _, top, I, e1, a⟩
  | ct => cases e2; exact ⟨E, F, σd, .ct, _, top, I, e1, a⟩
  | rt r => cases e2; exact ⟨E, F, σd, .rt r, _, top, I, e1, a⟩
/-! name = e -/
def isN (m : Cm) (i : Nat) : Expr → Bool
  | .Name x _ => decide (m.N[i]? = some x) && sto m x
  | _ => false
theorem set_of {c : Ex} {i : Nat} {D : Ends} {σ : L2.St} {H : Hp} (q : tS X.K C Φ (.set i c) D σ H) : tAsg (tE X.K C Φ c) (gName i) D σ H := by
  obtain ⟨E, F, σd, f, σd', top, I, e, a⟩ := q
  obtain ⟨r, s1, e1, e2⟩ := bnd_some e
  split at e2
  · rename_i h
    cases e2
    exact ⟨E, F, σd, r, s1, I, e1, fun F' H' v I' le w => a F' H' _ (I'.res1 top w h) le⟩
  · cases e2
theorem ps_set1 (G : Good g Φ C k m X) {i : Nat} {tg e : Expr} {c : Ex} {pos : Pos} (h : isN m i tg = true) (hn : notLC e = true) (he : SE X C Φ e c) : PS X (.Assign [tg] e pos) (tS X.K C Φ (.set i c)) := by
  cases tg with
  | Name x p =>
    obtain ⟨h1, h2⟩ := and_t h
    obtain ⟨h3, h4⟩ := sto_ok G h2
    exact PS.imp (ps_set (by rw [G.N]; exact G.nd) (by rw [G.N]; exact of_decide_eq_true h1) h3 he.pe (swapNone hn _ _ _) h4) fun D σ H q => set_of q
  | _ => cases h
/-- the comprehension's swap -/
def swB (m : Cm) (scope : Scope) (y : Str) (py pos : Pos) : Bool := m.sc.names.lookup y == some .local && (py.line == pos.line && !(scope.names.any fun (n, k) => n == y && (k == .local || k == .cell)))
theorem sw_eq (G : Good g Φ C k m X) {elt : Expr} {gs : List Comprehension} {scope : Scope} {pos py : Pos} {y : Str} {l : Nat} : swapsWith (.ListComp elt gs scope pos) (some (.Name y py)) l X.env = pure (swB m scope y py pos) := by
  have hk : X.env.scope.kind = .function := by rw [G.sc]; exact G.kind
  have hb : X.env.blockKind = .function := by unfold Env.blockKind; rw [hk]; rfl
  have ky : X.env.kindOf y = m.sc.names.lookup y := by rw [← G.sc]; rfl
  unfold swapsWith swB
  simp only [hb, ky, Expr.pos]
  show (pure _ : Sem Bool) = pure _
  congr 1
  cases m.sc.names.lookup y == some NameKind.local <;> cases py.line == pos.line <;> rfl
/-- name = [.. for ..] -/
theorem ps_setC (G : Good g Φ C k m X) {i : Nat} {q : LC} {tg' : Expr} {elt : Ex} {tg own : List Nat} {it : It} {c : Ex} {pos spos : Pos} (ht : isN m i tg' = true) (h : lcForm m tg own q = true)
    (hi : PI X q.tg q.iter (tIt X.K C Φ it))
    (he : ∀ X', Good g Φ C k (m.blk q.scope) X' → SE X' C Φ q.elt elt)
    (hc : (q.ifs = [] ∧ isYes c = true) ∨ ∃ e, q.ifs = [e] ∧ notIf e = true ∧ ∀ X', Good g Φ C k (m.blk q.scope) X' → SE X' C Φ e c) :
    PS X (.Assign [tg'] (.ListComp q.elt [⟨q.tg, q.iter, q.ifs, 0⟩] q.scope pos) spos) (tS X.K C Φ (.set i (.comp elt tg it c own))) := by
  cases tg' with
  | Name y py =>
    obtain ⟨t1, t2⟩ := and_t ht
    have hN : X.N[i]? = some y := by rw [G.N]; exact of_decide_eq_true t1
    cases hsw : swB m q.scope y py pos with
    | false =>
      obtain ⟨h3, h4⟩ := sto_ok G t2
      exact PS.imp (ps_set (by rw [G.N]; exact G.nd) hN h3 (SE_comp (pos := pos) G h hi he hc).pe (by rw [sw_eq G, hsw]) h4) fun D σ H q => set_of q
    | true =>
      have hyl : X.env.scope.names.lookup y = some .local := by
        rw [G.sc]
        unfold swB at hsw
        obtain ⟨a, _⟩ := and_t hsw
        exact by simpa using a
      obtain ⟨h1, h2⟩ := and_t h
      obtain ⟨h2, h3⟩ := and_t h2
      obtain ⟨h3, h4⟩ := and_t h3
      have ok : BlkOk X.N X.env.scope q.scope (ownOf m own) := by rw [G.N, G.sc]; exact blkOk_by h2
      have sub : ∀ i ∈ tg, i ∈ own := fun i hi => of_decide_eq_true (List.all_eq_true.mp h4 i hi)
      have blk := fun (s : Shared) (H : Hp) (A : Addr) (cl : List (Str × Addr)) (fp : List Addr) => G.blk ok.kind s H A cl fp
      have hs : ∀ x, foldedSetIterable q.iter X.env x = pure x := fun x => setNone h3 X.env x
      have fin : ∀ {tt : TT}, (∀ (s : Shared) (H : Hp) (A : Addr) (cl : List (Str × Addr)) (fp : List Addr), PTs (X.blk s H q.scope (compEnvC q.scope cl A X.env) fp) q.ifs tt) → (∀ {σ H} {Q : Bool → Hp → Prop}, tT X.K C Φ c σ H Q → tt σ H Q) →
          PS X (.Assign [.Name y py] (.ListComp q.elt [⟨q.tg, q.iter, q.ifs, 0⟩] q.scope pos) spos) (tS X.K C Φ (.set i (.comp elt tg it c own))) := fun {tt} htt himp => by
        have P := ps_setLc (te := tV X.K C Φ elt) (g := tTg X.K C tg) (tt := tt) (py := py) (pos := pos) (spos := spos) G.calm (by rw [G.N]; exact G.nd) hN hyl (by rw [sw_eq G, hsw]) hi ok (fun s H A cl fp => PG_of (blk s H A cl fp) h1) htt (fun s H A cl fp => (he _ (blk s H A cl fp)).val) hs
        rw [ownOf_ix] at P
        refine PS.imp P fun D σ H qq => ?_
        have q1 : tE X.K C Φ (.comp elt tg it c own) σ H (fun x H1 => gName i x σ H1 D.nx) := set_of qq
        exact tLc_of sub himp q1
      rcases hc with ⟨e1, hy⟩ | ⟨e, e1, n, hc⟩
      · rw [e1] at fin ⊢
        cases isYes_eq hy
        exact fin (tt := tYes) (fun _ _ _ _ _ => pts_nil) fun {σ H Q} q => by
          obtain ⟨E, F, σd, b, σd', I, e, kk⟩ := q
          cases e
          exact kk F H I (Fle.refl F)
      · rw [e1] at fin ⊢
        exact fin (tt := tT X.K C Φ c) (fun s H A cl fp => pts_one ((hc _ (blk s H A cl fp)).t n)) fun {σ H Q} q => q
  | _ => cases ht
/-! several names -/
def notTup : Expr → Bool
  | .Tuple .. => false | _ => true
theorem swSt_none {tg e : Expr} (h : notTup e = true) : swappedStores [tg] e X.env = pure none := by
  unfold swappedStores
  cases e <;> first | (cases h; done) | (cases tg <;> rfl)
/-- a tuple that is not stored by a swap -/
def nsw (m : Cm) (tg e : Expr) : Bool := notTup e || match tg with
  | .Tuple ts _ _ => decide (3 < ts.length) || ts.any fun t => match t with
    | .Name id _ => !decide (m.sc.names.lookup id = some .local)
    | _ => false
  | _ => false
theorem fm_lt {α β : Type} (f : α → Option β) : ∀ (l : List α), (∃ x ∈ l, f x = none) → (l.filterMap f).length ≠ l.length
  | [], h => by obtain ⟨x, hx, _⟩ := h; cases hx
  | a :: l, h => by
    have le : (l.filterMap f).length ≤ l.length := List.length_filterMap_le f l
    obtain ⟨x, hx, e⟩ := h
    rcases List.mem_cons.mp hx with rfl | hx
    · rw [List.filterMap_cons, e, List.length_cons]
      dsimp only
      omega
    · have ih := fm_lt f l ⟨x, hx, e⟩
      rw [List.filterMap_cons]
      cases f a with
      | none => dsimp only; rw [List.length_cons]; omega
      | some b => dsimp only; rw [List.length_cons, List.length_cons]; omega
theorem swSt_nsw (G : Good g Φ C k m X) {tg e : Expr} (h : nsw m tg e = true) : swappedStores [tg] e X.env = pure none := by
  unfold nsw at h
  rcases Bool.or_eq_true_iff.mp h with h | h
  · exact swSt_none h
  · cases tg with
    | Tuple ts kk p =>
      have hq : (decide (3 < ts.length) || ts.any fun t => match t with
        | .Name id _ => !decide (m.sc.names.lookup id = some .local)
        | _ => false) = true := h
      cases e with
      | Tuple vs k2 p2 =>
        unfold swappedStores
        dsimp only
        split
        · rfl
        · rename_i n1
          split
          · rfl
          · split
            · rfl
            · rename_i n3
              exfalso
              rcases Bool.or_eq_true_iff.mp hq with h | h
              · apply n1
                have := of_decide_eq_true h
                have e2 : (ts.length == 2) = false := by simp; omega
                have e3 : (ts.length == 3) = false := by simp; omega
                rw [e2, e3]; rfl
              · apply n3
                obtain ⟨t, ht, hk⟩ := List.any_eq_true.mp h
                rw [Bool.or_eq_true]
                left
                rw [bne_iff_ne]
                apply fm_lt
                refine ⟨t, ht, ?_⟩
                split at hk
                · rename_i id pos
                  dsimp only
                  rw [if_neg]
                  intro hh
                  have h1 := (Bool.and_eq_true_iff.mp hh).1
                  have h2 : X.env.kindOf id = some .local := eq_of_beq h1
                  have h3 : X.env.scope.names.lookup id = some .local := h2
                  rw [G.sc] at h3
                  rw [decide_eq_true h3] at hk
                  cases hk
                · cases hk
      | _ => rfl
    | _ => cases h
theorem swSole {tg e : Expr} (h : notLC e = true) (l : Nat) : swapsWithSole [tg] e l X.env = pure false := swapNone h _ _ _
theorem ps_setT (G : Good g Φ C k m X) {is : List Nat} {tg e : Expr} {c : Ex} {pos : Pos} (h : isTupE tg = true) (h1 : isTg m is tg = true) (hl : decide (is.length ≠ 1) = true) (h2 : nsw m tg e = true) (h3 : notLC e = true) (he : SE X C Φ e c) : PS X (.Assign [tg] e pos) (tS X.K C Φ (.setT is c)) := by
  cases tg with
  | Tuple es kk p =>
    refine PS.imp (ps_asg he.val (PG_of G h1) (swSole h3 _) (swSt_nsw G h2) rfl) fun D σ H q => ?_
    obtain ⟨E, F, σd, f, σd', top, I, e', a⟩ := q
    obtain ⟨d, s1, e1, e2⟩ := bnd_some e'
    have key : asg is d s1 = some σd' ∧ f = .nx := by
      have red : asg is d s1 = (match (generalizing := false) d with
        | .tup l => asgs is l s1
        | .lst l => asgs is l s1
        | _ => none) := by
        unfold asg
        split
        · simp at hl
        · rfl
      rw [red]
      split at e2
      · split at e2
        · rename_i hs
          cases e2
          exact ⟨hs, rfl⟩
        · cases e2
      · split at e2
        · rename_i hs
          cases e2
          exact ⟨hs, rfl⟩
        · cases e2
      · cases e2
    obtain ⟨q1, rfl⟩ := key
    exact ⟨E, F, σd, d, s1, I, e1, fun F' H' v I' le r => ⟨E, F', s1, d, σd', I', r, q1, fun σ' I2 _ _ => a F' H' σ' I2 le⟩⟩
  | _ => cases h
/-! what a name holds changes -/
theorem ps_ex (G : Good g Φ C k m X) {e : Expr} {c : Ex} {pos : Pos} (h3 : notLC e = true) (he : SE X C Φ e c) : PS X (.Expr e pos) (tS X.K C Φ (.ex c)) := by
  refine PS.imp (ps_expr he.pe (swapNone h3 _ _ _)) fun D σ H q => ?_
  obtain ⟨E, F, σd, f, σd', top, I, e', a⟩ := q
  obtain ⟨r, s1, e1, e2⟩ := bnd_some e'
  cases e2
  exact ⟨E, F, σd, r, _, I, e1, fun F' H' v I' le w => a F' H' σ I' le⟩
theorem ps_ifeS {e : Expr} {a b : List Stmt} {c : Ex} {ca cb : Sts} {pos : Pos} (he : SE X C Φ e c) (n : notIf e = true) (ha : PSs X a (tSs X.K C Φ ca)) (hb : PSs X b (tSs X.K C Φ cb)) : PS X (.If e a b pos) (tS X.K C Φ (.ife c ca cb)) := by
  refine PS.imp (ps_if (he.t n) ha hb) fun D σ H q => ?_
  obtain ⟨E, F, σd, f, σd', top, I, e', a⟩ := q
  obtain ⟨t, s1, e1, e2⟩ := bnd_some e'
  refine ⟨E, F, σd, t, s1, I, e1, fun F' H' I' le => ?_⟩
  cases t with
  | true => exact ⟨E, F', s1, f, σd', top, I', e2, a.mono le⟩
  | false => exact ⟨E, F', s1, f, σd', top, I', e2, a.mono le⟩
theorem ps_retn {pos : Pos} : PS X (.Return none pos) (tS X.K C Φ .retN) := PS.imp ps_retN fun D σ H q => by
  obtain ⟨E, F, σd, f, σd', top, I, e', a⟩ := q
  cases e'
  exact a F H σ _ I (Fle.refl F) .non
theorem ps_passS {pos : Pos} : PS X (.Pass pos) (tS X.K C Φ .pass) := PS.imp ps_pass fun D σ H q => by
  obtain ⟨E, F, σd, f, σd', top, I, e', a⟩ := q
  cases e'
  exact a F H σ I (Fle.refl F)
theorem ps_raiseS {st : Stmt} : PS X st (tS X.K C Φ .raise) := PS.imp ps_never fun D σ H q => by
  obtain ⟨E, F, σd, f, σd', top, I, e', a⟩ := q
  cases e'
/-- a slot given away -/
theorem SI.drop {K : PySem.W.Frag} {E : En} {F H : Hp} {σ : L2.St} {σd : S} (I : SI K C E F H σ σd) (i : Nat) : SI K C E F H σ (σd.set i .no) := by
  have ht : ∀ {j : Nat} {s : Sl}, (σd.set i .no)[j]? = some s → s.own = true → σd[j]? = some s := fun {j s} h w => by
    by_cases hj : i = j
    · subst hj
      by_cases hl : i < σd.length
      · rw [List.getElem?_set_self hl] at h; cases h; cases w
      · rw [List.getElem?_eq_none (by rw [List.length_set]; omega)] at h; cases h
    · rw [List.getElem?_set_ne hj] at h; exact h
  refine ⟨I.fin, I.le, I.new, I.frame, I.ioH, by rw [List.length_set]; exact I.len, fun j o s a b => ?_, fun j k o s t a b c d e1 e2 => I.dis j k o s t a b (ht c e1) (ht d e2) e1 e2, fun j l s a b c => I.own j l s a (ht b c) c, fun j l s a b c => I.kd j l s a (ht b c) c⟩
  by_cases hj : i = j
  · subst hj
    by_cases hl : i < σd.length
    · rw [List.getElem?_set_self hl] at b; cases b; exact .no
    · rw [List.getElem?_eq_none (by rw [List.length_set]; omega)] at b; cases b
  · rw [List.getElem?_set_ne hj] at b; exact I.at_ j o s a b
theorem ps_retS (G : Good g Φ C k m X) {e : Expr} {c : Ex} {pos : Pos} (he : SE X C Φ e c) : PS X (.Return (some e) pos) (tS X.K C Φ (.ret c)) := by
  have gen : (∀ {σd f σd'}, evS Φ (.ret c) σd = some (f, σd') → ∃ r, ev Φ c σd = some (r, σd') ∧ f = .rt r) → PS X (.Return (some e) pos) (tS X.K C Φ (.ret c)) := fun hh => by
    refine PS.imp (ps_ret he.pe) fun D σ H q => ?_
    obtain ⟨E, F, σd, f, σd', top, I, e', a⟩ := q
    obtain ⟨r, e1, rfl⟩ := hh e'
    refine ⟨E, F, σd, r, σd', I, e1, fun F' H' v I' le w => a F' H' σ v I' le ?_⟩
    obtain ⟨fl, d⟩ := r
    cases fl with
    | false => exact w
    | true => exact ⟨w.1, fun l e => top l (w.2 l e).1⟩
  have nv : (∀ i, c ≠ .var i) → ∀ {σd f σd'}, evS Φ (.ret c) σd = some (f, σd') → ∃ r, ev Φ c σd = some (r, σd') ∧ f = .rt r := fun n {σd f σd'} h => by
    have e : evS Φ (.ret c) σd = bnd (ev Φ c σd) fun r σ => some (Fl.rt r, σ) := by
      cases c <;> first | rfl | exact absurd rfl (n _)
    rw [e] at h
    obtain ⟨r, s1, e1, e2⟩ := bnd_some h
    cases e2
    exact ⟨r, e1, rfl⟩
  cases c with
  | var i =>
    refine PS.imp (ps_ret (he.v i rfl)) fun D σ H q => ?_
    obtain ⟨E, F, σd, f, σd', top, I, e', a⟩ := q
    replace e' : (match σd[i]? with
      | some (.ow d) => some (Fl.rt (true, d), σd.set i .no)
      | some (.va d) => some (Fl.rt (false, d), σd)
      | _ => none) = some (f, σd') := e'
    split at e'
    · rename_i d hd
      cases e'
      obtain ⟨o, h1, h2⟩ := I.slot hd
      cases h2 with
      | @ow v _ w =>
        refine ⟨v, h1, a F H σ v (I.drop i) (Fle.refl F) ⟨w, fun l e => ?_⟩⟩
        exact I.kd i l _ (by rw [h1, e]) hd rfl
    · rename_i d hd
      cases e'
      obtain ⟨o, h1, h2⟩ := I.slot hd
      cases h2 with
      | @va v _ r => exact ⟨v, h1, a F H σ v I (Fle.refl F) r⟩
    · cases e'
  | _ => exact gen (nv fun i z => by cases z)
end
end G48

set_option maxHeartbeats 4000000
/-! Statements, further. -/
namespace G48
open PySem L2
section
variable {K : PySem.W.Frag} {F : Hp}
theorem RepK.any (k : Key) : ∀ {kv : List (L2.Key × V)} {kd : List (Key × D)}, RepK K F kv kd → (kv.any fun q => decide (q.1 = k)) = (kd.any fun q => decide (q.1 = k))
  | _, _, .nil => rfl
  | _, _, .cons a b => by rw [List.any_cons, List.any_cons, RepK.any k b]
theorem RepT.any (k : List Key) : ∀ {kv : List (List L2.Key × V)} {kd : List (List Key × D)}, RepT K F kv kd → (kv.any fun q => decide (q.1 = k)) = (kd.any fun q => decide (q.1 = k))
  | _, _, .nil => rfl
  | _, _, .cons a b => by rw [List.any_cons, List.any_cons, RepT.any k b]
theorem RepK.app {v : V} {d : D} {k : Key} (r : Rep K F v d) : ∀ {kv : List (L2.Key × V)} {kd : List (Key × D)}, RepK K F kv kd → RepK K F (kv ++ [(k, v)]) (kd ++ [(k, d)])
  | _, _, .nil => .cons r .nil
  | _, _, .cons a b => .cons a (RepK.app r b)
theorem RepT.app {v : V} {d : D} {k : List Key} (r : Rep K F v d) : ∀ {kv : List (List L2.Key × V)} {kd : List (List Key × D)}, RepT K F kv kd → RepT K F (kv ++ [(k, v)]) (kd ++ [(k, d)])
  | _, _, .nil => .cons r .nil
  | _, _, .cons a b => .cons a (RepT.app r b)
theorem RepK.map {v : V} {d : D} {k : Key} (r : Rep K F v d) : ∀ {kv : List (L2.Key × V)} {kd : List (Key × D)}, RepK K F kv kd → RepK K F (kv.map fun q => if q.1 = k then (q.1, v) else q) (kd.map fun q => if q.1 = k then (q.1, d) else q)
  | _, _, .nil => .nil
  | _, _, .cons (k := k') (v := v') (d := d') a b => by
    rw [List.map_cons, List.map_cons]
    by_cases e : k' = k
    · rw [if_pos e, if_pos e]; exact .cons r (RepK.map r b)
    · rw [if_neg e, if_neg e]; exact .cons a (RepK.map r b)
theorem RepT.map {v : V} {d : D} {k : List Key} (r : Rep K F v d) : ∀ {kv : List (List L2.Key × V)} {kd : List (List Key × D)}, RepT K F kv kd → RepT K F (kv.map fun q => if q.1 = k then (q.1, v) else q) (kd.map fun q => if q.1 = k then (q.1, d) else q)
  | _, _, .nil => .nil
  | _, _, .cons (k := k') (v := v') (d := d') a b => by
    rw [List.map_cons, List.map_cons]
    by_cases e : k' = k
    · rw [if_pos e, if_pos e]; exact .cons r (RepT.map r b)
    · rw [if_neg e, if_neg e]; exact .cons a (RepT.map r b)
theorem RepK.put {k : Key} {v : V} {d : D} (r : Rep K F v d) {kv : List (L2.Key × V)} {kd : List (Key × D)} (h : RepK K F kv kd) : RepK K F (putK kv k v) (kput kd k d) := by
  unfold putK kput
  rw [h.any k]
  split
  · exact RepK.map r h
  · exact RepK.app r h
theorem RepT.put {k : List Key} {v : V} {d : D} (r : Rep K F v d) {kv : List (List L2.Key × V)} {kd : List (List Key × D)} (h : RepT K F kv kd) : RepT K F (putK kv k v) (kput kd k d) := by
  unfold putK kput
  rw [h.any k]
  split
  · exact RepT.map r h
  · exact RepT.app r h
theorem RepO.put {x : Str} {v : V} {d : D} (r : Rep K F v d) : ∀ {fv : List (Str × V)} {fd : List (Str × D)}, RepO K F fv fd → RepO K F (putF x v fv) (fput x d fd)
  | _, _, .nil => .cons r .nil
  | _, _, .cons (k := k') (v := v') (d := d') a b => by
    unfold putF fput
    split
    · exact .cons r b
    · exact .cons a (RepO.put r b)
end
section
variable {g : GT} {X : Cx} {C : Nat → Addr} {Φ : CF} {k : Nat} {m : Cm}
theorem own_of_sl2 {K : PySem.W.Frag} {E : En} {F H : Hp} {σ : L2.St} {σd s : S} {i : Nat} {o d : D} (I : SI K C E F H σ σd) (h : sl2 σd i o = some s) (hf : fetch σd (.inl i) = some d) : ∃ v, σ[i]? = some (some v) ∧ Own K C F H v d := by
  obtain ⟨d', hd⟩ := sl2_inv h
  have hf : (match σd[i]? with | some s => s.get | none => none) = some d := hf
  rcases hd with ⟨h1, _⟩ | ⟨h1, _⟩
  · rw [h1] at hf
    cases hf
    obtain ⟨o, q1, q2⟩ := I.slot h1
    cases q2 with | ow w => exact ⟨_, q1, w⟩
  · rw [h1] at hf
    cases hf
    obtain ⟨o, q1, q2⟩ := I.slot h1
    cases q2 with | io w => exact ⟨_, q1, w⟩
theorem app_inv {i : Nat} {e : Ex} {σd : S} {f : Fl} {σd' : S} (h : evS Φ (.app i e) σd = some (f, σd')) : ∃ l0 d s1 l, fetch σd (.inl i) = some (.lst l0) ∧ bnd (ev Φ e σd) vl = some (d, s1) ∧ fetch s1 (.inl i) = some (.lst l) ∧ l.length < sizeLine ∧ sl2 s1 i (.lst (l ++ [d])) = some σd' ∧ f = .nx := by
  have h : (if isLst (fetch σd (.inl i)) then bnd (bnd (ev Φ e σd) vl) (fun r σ => match fetch σ (.inl i) with
    | some (.lst l) => if decide (l.length < sizeLine) then match sl2 σ i (.lst (l ++ [r])) with
        | some σ => some (Fl.nx, σ)
        | none => none
      else none
    | _ => none) else none) = some (f, σd') := h
  split at h
  · rename_i hl
    obtain ⟨l0, h0⟩ := isLst_inv hl
    obtain ⟨d, s1, e1, h⟩ := bnd_some h
    split at h
    · rename_i l hf
      split at h
      · rename_i hz
        split at h
        · rename_i s hs
          cases h
          exact ⟨l0, d, s1, l, h0, e1, hf, of_decide_eq_true hz, hs, rfl⟩
        · cases h
      · cases h
    · cases h
  · cases h
theorem ext_inv {i : Nat} {e : Ex} {σd : S} {f : Fl} {σd' : S} (h : evS Φ (.ext i e) σd = some (f, σd')) : ∃ l0 n s1 l, fetch σd (.inl i) = some (.lst l0) ∧ bnd (ev Φ e σd) vl = some (.lst n, s1) ∧ fetch s1 (.inl i) = some (.lst l) ∧ szOk (l.length + n.length) = true ∧ sl2 s1 i (.lst (l ++ n)) = some σd' ∧ f = .nx := by
  have h : (if isLst (fetch σd (.inl i)) then bnd (bnd (ev Φ e σd) vl) (fun r σ => match fetch σ (.inl i), r with
    | some (.lst l), .lst m => if szOk (l.length + m.length) then match sl2 σ i (.lst (l ++ m)) with
        | some σ => some (Fl.nx, σ)
        | none => none
      else none
    | _, _ => none) else none) = some (f, σd') := h
  split at h
  · rename_i hl
    obtain ⟨l0, h0⟩ := isLst_inv hl
    obtain ⟨d, s1, e1, h⟩ := bnd_some h
    split at h
    · rename_i l n hf
      split at h
      · rename_i hz
        split at h
        · rename_i s hs
          cases h
          exact ⟨l0, n, s1, l, h0, e1, hf, hz, hs, rfl⟩
        · cases h
      · cases h
    · cases h
  · cases h
theorem varBase {i : Nat} {o : Expr} (ho : isVar m i o = true) (x : Str) : attributeBase o x X.env (eval o X.env) = eval o X.env := by
  cases o with
  | Name y p => rfl
  | _ => cases ho
theorem ps_app (G : Good g Φ C k m X) {i : Nat} {o e : Expr} {c : Ex} {ap cp pos : Pos} (ho : isVar m i o = true) (hline : (ap.endLine == cp.line) = true) (he : SE X C Φ e c) : PS X (.Expr (.Call (.Attribute o "append" ap) [e] [] cp) pos) (tS X.K C Φ (.app i c)) := by
  have hfew := few_of (es := [e]) (fun x hx => by cases List.mem_singleton.mp hx; exact he.ns) rfl cp X.env
  refine PS.imp (ps_expr (pe_bm PySem.F.plainAttrs_list PySem.F.slot_list_append PySem.F.type_list_append (show MtR X "list.append" rAppend from mt_append) ((SE_var G ho).v i rfl) (pa_cons he.val pa_nil (star_cons he.ns _ _)) (varBase ho _) hfew hline (star_cons he.ns _ _) rfl) (swapNone rfl _ _ _)) fun D σ H q => ?_
  obtain ⟨E, F, σd, f, σd', top, I, e', a⟩ := q
  obtain ⟨l0, d, s1, l, h0, e1, hf, hz, hs, rfl⟩ := app_inv e'
  obtain ⟨v, hv, orl⟩ := I.fetch h0
  obtain ⟨ad, vs, rfl, ha, _⟩ := OR.lst (C := C) I.fin orl
  refine ⟨_, hv, .inl ⟨rfl, vs, SqL.of ha⟩, E, F, σd, d, s1, I, e1, fun F1 H1 w I1 le1 rw' => ?_⟩
  obtain ⟨v1, hv1, ow⟩ := own_of_sl2 I1 hs hf
  rw [hv] at hv1; cases hv1
  cases ow with
  | lst lF lH rr =>
    exact ⟨ad, _, w, rfl, rfl, lH, by rw [rr.len]; exact hz, a F1 _ σ (I1.putAt hv lF hs (.lst lF upd_same (rr.append (.cons rw' .nil)))) le1⟩
theorem ps_ext (G : Good g Φ C k m X) {i : Nat} {o e : Expr} {c : Ex} {ap cp pos : Pos} (ho : isVar m i o = true) (hline : (ap.endLine == cp.line) = true) (he : SE X C Φ e c) : PS X (.Expr (.Call (.Attribute o "extend" ap) [e] [] cp) pos) (tS X.K C Φ (.ext i c)) := by
  have hfew := few_of (es := [e]) (fun x hx => by cases List.mem_singleton.mp hx; exact he.ns) rfl cp X.env
  refine PS.imp (ps_expr (pe_bm PySem.F.plainAttrs_list PySem.F.slot_list_extend PySem.F.type_list_extend (show MtR X "list.extend" rExtend from mt_extend) ((SE_var G ho).v i rfl) (pa_cons he.val pa_nil (star_cons he.ns _ _)) (varBase ho _) hfew hline (star_cons he.ns _ _) rfl) (swapNone rfl _ _ _)) fun D σ H q => ?_
  obtain ⟨E, F, σd, f, σd', top, I, e', a⟩ := q
  obtain ⟨l0, n, s1, l, h0, e1, hf, hz, hs, rfl⟩ := ext_inv e'
  obtain ⟨v, hv, orl⟩ := I.fetch h0
  obtain ⟨ad, vs, rfl, ha, _⟩ := OR.lst (C := C) I.fin orl
  refine ⟨_, hv, .inl ⟨rfl, vs, SqL.of ha⟩, E, F, σd, _, s1, I, e1, fun F1 H1 w I1 le1 rw' => ?_⟩
  obtain ⟨v1, hv1, ow⟩ := own_of_sl2 I1 hs hf
  rw [hv] at hv1; cases hv1
  cases rw' with | @lst b ws _ bF r2 =>
  cases ow with
  | lst lF lH rr =>
    exact ⟨ad, b, _, ws, rfl, rfl, lH, I1.fin _ _ bF, by rw [rr.len, r2.len]; exact szOk_le hz, a F1 _ σ (I1.putAt hv lF hs (.lst lF upd_same (rr.append r2))) le1⟩
/-! fields -/
theorem fset_inv {i : Nat} {x : Str} {e : Ex} {σd : S} {f : Fl} {σd' : S} (h : evS Φ (.fset i x e) σd = some (f, σd')) : ∃ d s1 c fs, bnd (ev Φ e σd) vl = some (d, s1) ∧ fetch s1 (.inl i) = some (.obj c fs) ∧ fs.length < 100 ∧ sl2 s1 i (.obj c (fput x d fs)) = some σd' ∧ f = .nx := by
  obtain ⟨d, s1, e1, h⟩ := bnd_some h
  split at h
  · rename_i c fs hf
    split at h
    · rename_i hz
      split at h
      · rename_i s hs
        cases h
        exact ⟨d, s1, c, fs, e1, hf, of_decide_eq_true hz, hs, rfl⟩
      · cases h
    · cases h
  · cases h
theorem swAttr {e tg : Expr} (h : notLC e = true) (l : Nat) : swapsWith e (some tg) l X.env = pure false := swapNone h _ _ _
theorem ps_fset (G : Good g Φ C k m X) {i : Nat} {x : Str} {o e : Expr} {c : Ex} {ap pos : Pos} (ho : isVar m i o = true) (hx : x ∈ g.flds) (hn : notLC e = true) (he : SE X C Φ e c) : PS X (.Assign [.Attribute o x ap] e pos) (tS X.K C Φ (.fset i x c)) := by
  refine PS.imp (ps_fld ((SE_var G ho).v i rfl) he.val (swapNone hn _ _ _)) fun D σ H q => ?_
  obtain ⟨E, F, σd, f, σd', top, I, e', a⟩ := q
  obtain ⟨d, s1, cc, fs, e1, hf, hz, hs, rfl⟩ := fset_inv e'
  refine ⟨E, F, σd, d, s1, I, e1, fun F1 H1 w I1 le1 rw' => ?_⟩
  obtain ⟨v, hv, ow⟩ := own_of_sl2 I1 hs hf
  cases ow with
  | @obj l _ dx fv _ lF lH rr =>
    obtain ⟨hc, hn'⟩ := G.flds cc x hx
    refine ⟨_, hv, l, C cc, dx, fv, rfl, lH, hc, hn', by rw [rr.len]; omega, ?_⟩
    exact a F1 _ σ (I1.putAt hv lF hs (.obj lF upd_same (rr.put rw'))) le1
/-! o[i] = e -/
theorem PSet.or {t t' : TSet} (h : PSet X t) (h' : PSet X t') : PSet X (fun o i v H Q => t o i v H Q ∨ t' o i v H Q) := fun pins s σ H o i v ov iv u Q I r1 r2 r3 q => q.elim (fun q => h pins s σ H o i v ov iv u Q I r1 r2 r3 q) fun q => h' pins s σ H o i v ov iv u Q I r1 r2 r3 q
theorem put_inv {i : Nat} {kx e : Ex} {σd : S} {f : Fl} {σd' : S} (h : evS Φ (.put i kx e) σd = some (f, σd')) : ∃ d s1 kd s2 c0 c c', bnd (ev Φ e σd) vl = some (d, s1) ∧ fetch s1 (.inl i) = some c0 ∧ bnd (ev Φ kx s1) vl = some (kd, s2) ∧ fetch s2 (.inl i) = some c ∧ put1 c kd d = some c' ∧ sl2 s2 i c' = some σd' ∧ f = .nx := by
  obtain ⟨d, s1, e1, h⟩ := bnd_some h
  split at h
  · rename_i h0
    obtain ⟨c0, h0⟩ := Option.isSome_iff_exists.mp h0
    obtain ⟨kd, s2, e2, h⟩ := bnd_some h
    split at h
    · rename_i c hf
      split at h
      · rename_i c' hc
        split at h
        · rename_i s hs
          cases h
          exact ⟨d, s1, kd, s2, c0, c, c', e1, h0, e2, hf, hc, hs, rfl⟩
        · cases h
      · cases h
    · cases h
  · cases h
theorem ixV {n : Nat} {i : Int} {j : Nat} (h : G48.ixN n i = some j) : L2.ixN n i = some j := h
theorem ps_put (G : Good g Φ C k m X) {i : Nat} {o ix e : Expr} {c kc : Ex} {sp pos : Pos} (ho : isVar m i o = true) (hsl : notSl ix = true) (hn : notLC e = true) (hk : SE X C Φ ix kc) (he : SE X C Φ e c) : PS X (.Assign [.Subscript o ix sp] e pos) (tS X.K C Φ (.put i kc c)) := by
  have hw : swappedStores [.Subscript o ix sp] e X.env = pure none := by
    unfold swappedStores
    cases e <;> rfl
  have PG0 := pg_sub (pos := sp) ((SE_var (C := C) (Φ := Φ) G ho).v i rfl) hk.val (PSet.or set_list (set_dict G.hu1)) (by intro v; cases ix <;> first | rfl | cases hsl)
  refine PS.imp (ps_asg he.val PG0 (swSole hn _) hw rfl) fun D σ H q => ?_
  obtain ⟨E, F, σd, f, σd', top, I, e', a⟩ := q
  obtain ⟨d, s1, kd, s2, c0, cc, cc', e1, h0, e2, hf, hc, hs, rfl⟩ := put_inv e'
  refine ⟨E, F, σd, d, s1, I, e1, fun F1 H1 w I1 le1 rw' => ?_⟩
  obtain ⟨v, hv, _⟩ := I1.fetch h0
  refine ⟨v, hv, E, F1, s1, kd, s2, I1, e2, fun F2 H2 y I2 le2 ry => ?_⟩
  obtain ⟨v1, hv1, ow⟩ := own_of_sl2 I2 hs hf
  rw [hv] at hv1
  cases hv1
  have rw2 := rw'.mono le2
  cases ow with
  | @lst l vs ds lF lH rr =>
    cases kd with
    | int z =>
      replace hc : (match G48.ixN ds.length z with
        | some j => some (.lst (ds.set j d))
        | none => none) = some cc' := hc
      cases hj : G48.ixN ds.length z with
      | none => rw [hj] at hc; cases hc
      | some j =>
        rw [hj] at hc
        cases hc
        cases ry
        refine .inl ⟨l, vs, z, j, rfl, rfl, lH, ixV (by rw [rr.len]; exact hj), ?_⟩
        exact a F2 _ σ (I2.putAt hv lF hs (.lst lF upd_same (rr.set j rw2))) (le1.trans le2)
    | _ => cases hc
  | @dK l kv ks lF lH rr =>
    replace hc : (match keyOf kd with
      | some k => if decide (ks.length < sizeLine) then some (.dK (kput ks k d)) else none
      | none => none) = some cc' := by cases kd <;> exact hc
    cases hk : keyOf kd with
    | none => rw [hk] at hc; cases hc
    | some kk =>
      rw [hk] at hc
      obtain ⟨hz, rfl⟩ := ite_some0 hc
      have hy := kD_V ry hk
      subst hy
      refine .inr ⟨l, _, rfl, .inl ⟨kv, kk, lH, rfl, by rw [rr.len]; exact of_decide_eq_true hz, rfl⟩, ?_⟩
      exact a F2 _ σ (I2.putAt hv lF hs (.dK lF upd_same (rr.put rw2))) (le1.trans le2)
  | @dT l kv ks lF lH rr =>
    cases kd with
    | tup tl =>
      replace hc : (match keysOf tl with
        | some k => if decide (ks.length < sizeLine) then some (.dT (kput ks k d)) else none
        | none => none) = some cc' := hc
      cases hk : keysOf tl with
      | none => rw [hk] at hc; cases hc
      | some kk =>
        rw [hk] at hc
        obtain ⟨hz, rfl⟩ := ite_some0 hc
        cases ry with
        | @tup b ws _ bF br =>
          have hb := kDs_V br hk
          subst hb
          refine .inr ⟨l, _, rfl, .inr ⟨kv, kk, b, lH, rfl, I2.fin _ _ bF, by rw [rr.len]; exact of_decide_eq_true hz, rfl⟩, ?_⟩
          exact a F2 _ σ (I2.putAt hv lF hs (.dT lF upd_same (rr.put rw2))) (le1.trans le2)
    | _ => cases hc
  | obj lF lH rr => cases kd <;> cases hc
end
end G48

set_option maxHeartbeats 4000000
/-! Loops, parallel assignments. -/
namespace G48
open PySem L2
section
variable {g : GT} {X : Cx} {C : Nat → Addr} {Φ : CF} {k : Nat} {m : Cm}
theorem ps_loopS (G : Good g Φ C k m X) {tg' iter : Expr} {body : List Stmt} {tg : List Nat} {it : It} {b : Sts} {pos : Pos} (ht : isTg m tg tg' = true) (hi : PI X tg' iter (tIt X.K C Φ it)) (hb : PSs X body (tSs X.K C Φ b)) (hn : notSet iter = true) :
    PS X (.For tg' iter body [] pos) (tS X.K C Φ (.loop tg it b)) := by
  have hp : PassesOwn (model X.prog X.w) X.A X.env X.xe := by rw [G.xe]; exact PassesOwn.never
  refine PS.imp (ps_for hp G.calm hi (PG_of G ht) hb (fun x => setNone hn X.env x)) fun D σ H q => ?_
  obtain ⟨E, F, σd, f, σd', top, I, e', a⟩ := q
  obtain ⟨ds, s1, e1, e2⟩ := bnd_some e'
  refine ⟨E, F, σd, ds, s1, I, e1, fun J F1 H1 I1 le1 W => ?_⟩
  refine ⟨fun i mm σ H => mm = ds.length - i ∧ i ≤ ds.length ∧ ∃ (F2 : Hp) (sd : S), SI X.K C E F2 H σ sd ∧ Fle F1 F2 ∧ loopF (evSs Φ b) tg (ds.drop i) sd = some (f, σd'), ⟨ds.length, rfl, Nat.zero_le _, F1, s1, I1, Fle.refl F1, e2⟩, ?_⟩
  rintro i mm σ2 H2 ⟨rfl, hi', F2, sd, I2, le2, el⟩
  by_cases hlt : i < ds.length
  · refine .inr ⟨W.go i F2 H2 le2 I2.fin hlt, fun σ H => ∃ (F2 : Hp) (sd : S), SI X.K C E F2 H σ sd ∧ Fle F1 F2 ∧ loopF (evSs Φ b) tg (ds.drop (i + 1)) sd = some (f, σd'), fun σ' H' h => ⟨ds.length - (i + 1), by omega, rfl, hlt, h⟩, fun x H3 y => ?_⟩
    obtain ⟨d, hd, yr⟩ := W.yld i F2 H2 x H3 le2 I2.fin hlt y
    obtain ⟨F3, I3, le3, rx, _, _⟩ := yr.si I2
    have hdrop : ds.drop i = d :: ds.drop (i + 1) := by
      rw [List.drop_eq_getElem_cons hlt]
      congr 1
      rw [List.getElem?_eq_getElem hlt] at hd
      exact Option.some.inj hd
    rw [hdrop] at el
    simp only [loopF] at el
    cases ha : asg tg d sd with
    | none => rw [ha] at el; cases el
    | some sd1 =>
      rw [ha] at el
      dsimp only at el
      obtain ⟨fl, sd2, eb, el⟩ := bnd_some el
      refine ⟨E, F3, sd, d, sd1, I3, rx, ha, fun σ4 I4 _ _ => ⟨E, F3, sd1, fl, sd2, top, I4, eb, ?_⟩⟩
      have lle : Fle F1 F3 := le2.trans le3
      cases fl with
      | nx => exact fun F' H' σ' I' le => ⟨F', sd2, I', lle.trans le, el⟩
      | ct => exact fun F' H' σ' I' le => ⟨F', sd2, I', lle.trans le, el⟩
      | bk =>
        cases el
        exact fun F' H' σ' I' le => a F' H' σ' I' (le1.trans (lle.trans le))
      | rt r =>
        cases el
        exact fun F' H' σ' v I' le w => a F' H' σ' v I' (le1.trans (lle.trans le)) w
  · have hi2 : i = ds.length := by omega
    subst hi2
    rw [List.drop_length] at el
    cases el
    exact .inl ⟨W.stop _ F2 H2 le2 I2.fin (Nat.le_refl _), a F2 H2 σ2 I2 (le1.trans le2)⟩
theorem ps_whlS (G : Good g Φ C k m X) {e : Expr} {body : List Stmt} {c : Ex} {b : Sts} {pos : Pos} (he : SE X C Φ e c) (n : notIf e = true) (hb : PSs X body (tSs X.K C Φ b)) : PS X (.While e body [] pos) (tS X.K C Φ (.whl c b)) := by
  have hp : PassesOwn (model X.prog X.w) X.A X.env X.xe := by rw [G.xe]; exact PassesOwn.never
  refine PS.imp (ps_while hp (he.t n) hb) fun D σ H q => ?_
  obtain ⟨E, F, σd, f, σd', top, I, e', a⟩ := q
  refine ⟨fun mm σ H => ∃ (F2 : Hp) (sd : S), SI X.K C E F2 H σ sd ∧ Fle F F2 ∧ whlF (evT Φ c) (evSs Φ b) mm sd = some (f, σd'), ⟨whlMax, F, σd, I, Fle.refl F, e'⟩, ?_⟩
  rintro mm σ2 H2 ⟨F2, sd, I2, le2, el⟩
  cases mm with
  | zero => cases el
  | succ mm =>
    simp only [whlF] at el
    obtain ⟨t, sd1, et, el⟩ := bnd_some el
    refine ⟨E, F2, sd, t, sd1, I2, et, fun F3 H3 I3 le3 => ?_⟩
    cases t with
    | false =>
      cases el
      exact a F3 H3 σ2 I3 (le2.trans le3)
    | true =>
      dsimp only at el
      obtain ⟨fl, sd2, eb, el⟩ := bnd_some el
      rw [if_pos rfl]
      refine ⟨fun σ H => ∃ (F2 : Hp) (sd : S), SI X.K C E F2 H σ sd ∧ Fle F F2 ∧ whlF (evT Φ c) (evSs Φ b) mm sd = some (f, σd'), fun σ' H' h => ⟨mm, Nat.lt_succ_self _, h⟩, E, F3, sd1, fl, sd2, top, I3, eb, ?_⟩
      have lle : Fle F F3 := le2.trans le3
      cases fl with
      | nx => exact fun F' H' σ' I' le => ⟨F', sd2, I', lle.trans le, el⟩
      | ct => exact fun F' H' σ' I' le => ⟨F', sd2, I', lle.trans le, el⟩
      | bk =>
        cases el
        exact fun F' H' σ' I' le => a F' H' σ' I' (lle.trans le)
      | rt r =>
        cases el
        exact fun F' H' σ' v I' le w => a F' H' σ' v I' (lle.trans le) w
/-! a, b = x, y -/
def isStarE : Expr → Bool
  | .Starred .. => true | _ => false
theorem noStarE {e : Expr} (h : noStar e = true) : isStarE e = false := by cases e <;> first | rfl | cases h
theorem sw2 {x y : Str} {px py pt : Pos} {kt k2} {a b : Expr} {pt2 : Pos} {env : Env} (hk : env.blockKind = .function) (hx : env.kindOf x = some .local) (hy : env.kindOf y = some .local) (hl : (py.line == px.line) = true) (hxy : x ≠ y)
    (na : noStar a = true) (nb : noStar b = true) (hf : [a, b].all (foldedForSure 8) = false) (hc : [a, b].all (constantsAlone 8) = false) :
    swappedStores [.Tuple [.Name x px, .Name y py] kt pt] (.Tuple [a, b] k2 pt2) env = pure (some [x, y]) := by
  have hyx : (y == x) = false := by simpa using fun z : y = x => hxy z.symm
  have hd : [x, y].eraseDups.length = 2 := by simp [List.eraseDups_cons, hyx]
  unfold swappedStores
  simp only [hk, hx, hy, hf, hc, hl, List.filterMap_cons, List.filterMap_nil, List.length_cons, List.length_nil, List.head?_cons, Option.map_some, Option.getD_some, Expr.pos, beq_self_eq_true, Bool.and_self, if_true, hd]
  rw [if_neg (by decide), if_neg ?_, if_neg (by decide), if_neg (by decide), if_neg (by decide)]
  intro h
  simp only [List.any_cons, List.any_nil, Bool.or_false, Bool.or_eq_true] at h
  rcases h with h | h
  · cases a <;> first | (cases na; done) | (cases h; done)
  · cases b <;> first | (cases nb; done) | (cases h; done)
theorem sw3 {x y z : Str} {px py pz pt : Pos} {kt k2} {a b c : Expr} {pt2 : Pos} {env : Env} (hk : env.blockKind = .function) (hx : env.kindOf x = some .local) (hy : env.kindOf y = some .local) (hz : env.kindOf z = some .local) (hl : (py.line == px.line) = true) (hl2 : (pz.line == px.line) = true) (hxy : x ≠ y) (hxz : x ≠ z) (hyz : y ≠ z)
    (na : noStar a = true) (nb : noStar b = true) (nc : noStar c = true) (hf : [a, b, c].all (foldedForSure 8) = false) (hc : [a, b, c].all (constantsAlone 8) = false) :
    swappedStores [.Tuple [.Name x px, .Name y py, .Name z pz] kt pt] (.Tuple [a, b, c] k2 pt2) env = pure (some [x, y, z]) := by
  have hyx : (y == x) = false := by simpa using fun q : y = x => hxy q.symm
  have hzx : (z == x) = false := by simpa using fun q : z = x => hxz q.symm
  have hzy : (z == y) = false := by simpa using fun q : z = y => hyz q.symm
  have hd : [x, y, z].eraseDups.length = 3 := by simp [List.eraseDups_cons, hyx, hzx, hzy]
  unfold swappedStores
  simp only [hk, hx, hy, hz, hf, hc, hl, hl2, List.filterMap_cons, List.filterMap_nil, List.length_cons, List.length_nil, List.head?_cons, Option.map_some, Option.getD_some, Expr.pos, beq_self_eq_true, Bool.and_self, if_true, hd]
  rw [if_neg (by decide), if_neg ?_, if_neg (by decide), if_neg (by decide), if_neg (by decide)]
  intro h
  simp only [List.any_cons, List.any_nil, Bool.or_false, Bool.or_eq_true] at h
  rcases h with h | h | h
  · cases a <;> first | (cases na; done) | (cases h; done)
  · cases b <;> first | (cases nb; done) | (cases h; done)
  · cases c <;> first | (cases nc; done) | (cases h; done)
/-- what came stands while more is made -/
theorem ResR.keep {K : PySem.W.Frag} {E : En} {F F' H H' : Hp} {σ : L2.St} {σd σd' : S} {v : V} {r : Res} (I : SI K C E F H σ σd) (w : ResR K C E F H σ σd v r) (J : SI K C (locE F H σ σd) F' H' σ σd') (le : Fle F F') : ResR K C E F' H' σ σd' v r := by
  obtain ⟨fl, d⟩ := r
  cases fl with
  | false => exact (show Rep K F v d from w).mono le
  | true =>
    obtain ⟨ow, w2⟩ := w
    obtain ⟨l, u, el, lF, lH⟩ := ow.ref
    subst el
    obtain ⟨l0, lno⟩ := w2 l rfl
    have lH2 : H' l = H l := by rw [lH]; exact J.frame l _ lH lno
    have lF2 : F' l = none := by
      cases z : F' l with
      | none => rfl
      | some u =>
        rcases J.new l (by rw [z]; exact fun z => by cases z) with q | q | q
        · exact absurd lF q
        · have q : H l = none := q
          rw [lH] at q; cases q
        · exact absurd q lno
    refine ⟨ow.keep le lF2 lH2, fun l' e => ?_⟩
    cases e
    refine ⟨l0, fun w => ?_⟩
    rcases J.own0 w with q | q
    · have q : H l = none := q
      rw [lH] at q; cases q
    · exact lno q
/-- several that have come, apart from one another -/
inductive RsOk (K : PySem.W.Frag) (C : Nat → Addr) (E : En) (F H : Hp) (σ : L2.St) (σd : S) : List V → List Res → Prop where
  | nil : RsOk K C E F H σ σd [] []
  | cons {v : V} {vs : List V} {r : Res} {rs : List Res} : ResR K C E F H σ σd v r → (r.1 = true → ∀ (i : Nat) (v' : V) (r' : Res), vs[i]? = some v' → rs[i]? = some r' → r'.1 = true → v' ≠ v) → RsOk K C E F H σ σd vs rs → RsOk K C E F H σ σd (v :: vs) (r :: rs)
/-- the values kept as they come -/
def tEsR (K : PySem.W.Frag) (C : Nat → Addr) (Φ : CF) : Exs → TA
  | .nil => tNil
  | .cons e es => tCons (tE K C Φ e) (tEsR K C Φ es)
theorem RsOk.back {K : PySem.W.Frag} {E : En} {F F' H H' : Hp} {σ : L2.St} {σd σd' : S} (I : SI K C E F H σ σd) {vs : List V} {rs : List Res} (h : RsOk K C (locE F H σ σd) F' H' σ σd' vs rs) : RsOk K C E F' H' σ σd' vs rs := by
  induction h with
  | nil => exact .nil
  | cons a b c ih => exact .cons (a.back I) b ih
theorem RsOk.fresh {K : PySem.W.Frag} {E : En} {F H : Hp} {σ : L2.St} {σd : S} : ∀ {vs : List V} {rs : List Res}, RsOk K C E F H σ σd vs rs → ∀ (i : Nat) (v' : V) (r' : Res), vs[i]? = some v' → rs[i]? = some r' → r'.1 = true → ∃ l, v' = .ref l ∧ E.H0 l = none
  | _, _, .nil, i, v', r', h, _, _ => by simp at h
  | _, _, .cons (v := v) (r := r) a b c, 0, v', r', h1, h2, h3 => by
    have e1 : v = v' := by simpa using h1
    have e2 : r = r' := by simpa using h2
    subst e1
    subst e2
    obtain ⟨fl, d⟩ := r
    cases fl with
    | false => cases h3
    | true =>
      obtain ⟨ow, w⟩ := a
      obtain ⟨l, u, e, _, _⟩ := ow.ref
      exact ⟨l, e, (w l e).1⟩
  | _, _, .cons a b c, i + 1, v', r', h1, h2, h3 => RsOk.fresh c i v' r' (by simpa using h1) (by simpa using h2) h3
theorem evRs_run : ∀ {es : Exs} {E : En} {F H : Hp} {σ : L2.St} {σd : S} {rs : List Res} {σd' : S} {Q : List V → Hp → Prop}, SI X.K C E F H σ σd → evRs Φ es σd = some (rs, σd') →
    (∀ F' H' vs, SI X.K C E F' H' σ σd' → Fle F F' → RsOk X.K C E F' H' σ σd' vs rs → Q vs H') → tEsR X.K C Φ es σ H Q
  | .nil, E, F, H, σ, σd, rs, σd', Q, I, e, k => by
    cases e
    exact k F H [] I (Fle.refl F) .nil
  | .cons c cs, E, F, H, σ, σd, rs, σd', Q, I, e, k => by
    obtain ⟨r, s1, e1, e2⟩ := bnd_some e
    obtain ⟨rs', s2, e3, e4⟩ := bnd_some e2
    cases e4
    refine ⟨E, F, σd, r, s1, I, e1, fun F1 H1 v I1 le1 w => ?_⟩
    refine evRs_run I1.local e3 fun F2 H2 vs J2 le2 ro => ?_
    refine k F2 H2 (v :: vs) (I1.back J2) (le1.trans le2) (.cons (w.keep I1 J2 le2) (fun hr i v' r' h1 h2 h3 ev' => ?_) (ro.back I1))
    obtain ⟨l, el, l0⟩ := ro.fresh i v' r' h1 h2 h3
    have l0 : H1 l = none := l0
    obtain ⟨fl, d⟩ := r
    cases hr
    obtain ⟨ow, _⟩ := w
    obtain ⟨l', u, el', _, lH⟩ := ow.ref
    rw [el, el'] at ev'
    cases ev'
    rw [l0] at lH
    cases lH
def setVs (σ : L2.St) : List Nat → List V → L2.St
  | i :: is, v :: vs => setVs (σ.set i (some v)) is vs
  | _, _ => σ
theorem SI.resN : ∀ {is : List Nat} {vs : List V} {rs : List Res} {K : PySem.W.Frag} {E : En} {F H : Hp} {σ : L2.St} {σd s : S}, SI K C E F H σ σd → (∀ l, E.H0 l = none → E.kd false l) → RsOk K C E F H σ σd vs rs → setRs is rs σd = some s → SI K C E F H (setVs σ is vs) s
  | [], vs, rs, K, E, F, H, σ, σd, s, I, top, h, e => by
    cases h with
    | nil => cases e; exact I
    | cons a b c => cases e
  | i :: is, vs, rs, K, E, F, H, σ, σd, s, I, top, h, e => by
    cases h with
    | nil => cases e
    | @cons v vs r rs a b c =>
      simp only [setRs] at e
      split at e
      · rename_i lt
        have I1 := I.res1 top a lt
        refine SI.resN (is := is) I1 top ?_ e
        -- the rest is still apart
        have key : ∀ {vs : List V} {rs : List Res}, RsOk K C E F H σ σd vs rs → (r.1 = true → ∀ (i : Nat) (v' : V) (r' : Res), vs[i]? = some v' → rs[i]? = some r' → r'.1 = true → v' ≠ v) → RsOk K C E F H (σ.set i (some v)) (σd.set i (slOf r)) vs rs := by
          intro vs rs h hb
          induction h with
          | nil => exact .nil
          | @cons v2 vs2 r2 rs2 a2 b2 c2 ih =>
            refine .cons ?_ b2 (ih fun q j v' r' h1 h2 => hb q (j + 1) v' r' (by simpa using h1) (by simpa using h2))
            obtain ⟨fl2, d2⟩ := r2
            cases fl2 with
            | false => exact a2
            | true =>
              refine ⟨a2.1, fun l el => ⟨(a2.2 l el).1, fun w => ?_⟩⟩
              obtain ⟨j, t, q1, q2, q3⟩ := w
              by_cases hj : i = j
              · subst hj
                have hσ : i < σ.length := by rw [I.len]; exact lt
                rw [List.getElem?_set_self hσ] at q1
                rw [List.getElem?_set_self lt] at q2
                cases q1
                cases q2
                obtain ⟨fl, d⟩ := r
                cases fl with
                | false => cases q3
                | true => exact hb rfl 0 v2 (true, d2) rfl rfl rfl el
              · rw [List.getElem?_set_ne hj] at q1 q2
                exact (a2.2 l el).2 ⟨j, t, q1, q2, q3⟩
        exact key c b
      · cases e
end
end G48

set_option maxHeartbeats 4000000
/-! Parallel assignments; the check of statements. -/
namespace G48
open PySem L2
section
variable {g : GT} {X : Cx} {C : Nat → Addr} {Φ : CF} {k : Nat} {m : Cm}
theorem SEs.paE {es : List Expr} {cs : Exs} (h : SEs X C Φ es cs) : PA X es (tEsR X.K C Φ cs) := by
  induction h with
  | nil => exact pa_nil
  | cons a b ih => exact pa_cons a.pe ih (star_cons a.ns _ _)
def locN (m : Cm) (i : Nat) (x : Str) : Bool := decide (m.N[i]? = some x) && decide (m.sc.names.lookup x = some .local)
theorem locN_ok (G : Good g Φ C k m X) {i : Nat} {x : Str} (h : locN m i x = true) : X.N[i]? = some x ∧ X.env.scope.names.lookup x = some .local := by
  obtain ⟨h1, h2⟩ := and_t h
  rw [G.N, G.sc]
  exact ⟨of_decide_eq_true h1, of_decide_eq_true h2⟩
theorem Good.bk (G : Good g Φ C k m X) : X.env.blockKind = .function := by
  unfold Env.blockKind
  rw [G.sc, G.kind]
  rfl
theorem not_t {b : Bool} (h : (!b) = true) : b = false := by cases b <;> first | rfl | cases h
def par2B (m : Cm) (i j : Nat) (x y : Str) (px py : Pos) (a b : Expr) : Bool :=
  locN m i x && (locN m j y && (decide (i ≠ j) && (decide (x ≠ y) && ((py.line == px.line) && (noStar a && (noStar b && (!([a, b].all (foldedForSure 8)) && !([a, b].all (constantsAlone 8)))))))))
theorem par_inv {is : List Nat} {es : Exs} {σd : S} {f : Fl} {σd' : S} (h : evS Φ (.par is es) σd = some (f, σd')) : ∃ rs s1, evRs Φ es σd = some (rs, s1) ∧ setRs is rs s1 = some σd' ∧ f = .nx := by
  obtain ⟨rs, s1, e1, h⟩ := bnd_some h
  split at h
  · rename_i s hs
    cases h
    exact ⟨rs, s1, e1, hs, rfl⟩
  · cases h
theorem setRs_len : ∀ {is : List Nat} {rs : List Res} {σd s : S}, setRs is rs σd = some s → is.length = rs.length
  | [], [], _, _, _ => rfl
  | [], _ :: _, _, _, h => by cases h
  | _ :: _, [], _, _, h => by cases h
  | i :: is, r :: rs, σd, s, h => by
    simp only [setRs] at h
    split at h
    · exact congrArg (· + 1) (setRs_len h)
    · cases h
theorem RsOk.len {K : PySem.W.Frag} {E : En} {F H : Hp} {σ : L2.St} {σd : S} {vs : List V} {rs : List Res} (h : RsOk K C E F H σ σd vs rs) : vs.length = rs.length := by
  induction h with
  | nil => rfl
  | cons a b c ih => exact congrArg (· + 1) ih
theorem ps_par2 (G : Good g Φ C k m X) {i j : Nat} {x y : Str} {px py pt pt2 pos : Pos} {kt k2} {a b : Expr} {cs : Exs} (h : par2B m i j x y px py a b = true) (hs : SEs X C Φ [a, b] cs) :
    PS X (.Assign [.Tuple [.Name x px, .Name y py] kt pt] (.Tuple [a, b] k2 pt2) pos) (tS X.K C Φ (.par [i, j] cs)) := by
  obtain ⟨h1, h⟩ := and_t h
  obtain ⟨h2, h⟩ := and_t h
  obtain ⟨h3, h⟩ := and_t h
  obtain ⟨h4, h⟩ := and_t h
  obtain ⟨h5, h⟩ := and_t h
  obtain ⟨h6, h⟩ := and_t h
  obtain ⟨h7, h⟩ := and_t h
  obtain ⟨h8, h9⟩ := and_t h
  obtain ⟨a1, a2⟩ := locN_ok G h1
  obtain ⟨b1, b2⟩ := locN_ok G h2
  have hw := sw2 (kt := kt) (k2 := k2) (pt := pt) (pt2 := pt2) G.bk (show X.env.kindOf x = _ from a2) (show X.env.kindOf y = _ from b2) h5 (of_decide_eq_true h4) h6 h7 (not_t h8) (not_t h9)
  refine PS.imp (L2.ps_par G.calm (by rw [G.N]; exact G.nd) a1 b1 (of_decide_eq_true h3) a2 b2 hs.paE hw) fun D σ H q => ?_
  obtain ⟨E, F, σd, f, σd', top, I, e', a⟩ := q
  obtain ⟨rs, s1, e1, e2, rfl⟩ := par_inv e'
  refine evRs_run I e1 fun F1 H1 vs I1 le1 ro => ?_
  have hl := setRs_len e2
  have hv := ro.len
  have I2 := SI.resN I1 top ro e2
  match vs, hv with
  | [v, w], _ => exact ⟨v, w, rfl, a F1 H1 _ I2 le1⟩
  | [], hv => simp at hl hv; omega
  | [_], hv => simp at hl hv; omega
  | _ :: _ :: _ :: _, hv => simp at hl hv; omega
def par3B (m : Cm) (i j l : Nat) (x y z : Str) (px py pz : Pos) (a b c : Expr) : Bool :=
  locN m i x && (locN m j y && (locN m l z && ((decide (i ≠ j) && (decide (i ≠ l) && decide (j ≠ l))) && ((decide (x ≠ y) && (decide (x ≠ z) && decide (y ≠ z))) && (((py.line == px.line) && (pz.line == px.line)) && ((noStar a && (noStar b && noStar c)) && (!([a, b, c].all (foldedForSure 8)) && !([a, b, c].all (constantsAlone 8)))))))))
theorem ps_par3S (G : Good g Φ C k m X) {i j l : Nat} {x y z : Str} {px py pz pt pt2 pos : Pos} {kt k2} {a b c : Expr} {cs : Exs} (h : par3B m i j l x y z px py pz a b c = true) (hs : SEs X C Φ [a, b, c] cs) :
    PS X (.Assign [.Tuple [.Name x px, .Name y py, .Name z pz] kt pt] (.Tuple [a, b, c] k2 pt2) pos) (tS X.K C Φ (.par [i, j, l] cs)) := by
  obtain ⟨h1, h⟩ := and_t h
  obtain ⟨h2, h⟩ := and_t h
  obtain ⟨h3, h⟩ := and_t h
  obtain ⟨h4, h⟩ := and_t h
  obtain ⟨h5, h⟩ := and_t h
  obtain ⟨h6, h⟩ := and_t h
  obtain ⟨h7, h⟩ := and_t h
  obtain ⟨h8, h9⟩ := and_t h
  obtain ⟨i1, i2⟩ := and_t h4
  obtain ⟨i2, i3⟩ := and_t i2
  obtain ⟨n1, n2⟩ := and_t h5
  obtain ⟨n2, n3⟩ := and_t n2
  obtain ⟨l1, l2⟩ := and_t h6
  obtain ⟨t1, t2⟩ := and_t h7
  obtain ⟨t2, t3⟩ := and_t t2
  obtain ⟨a1, a2⟩ := locN_ok G h1
  obtain ⟨b1, b2⟩ := locN_ok G h2
  obtain ⟨c1, c2⟩ := locN_ok G h3
  have hw := sw3 (kt := kt) (k2 := k2) (pt := pt) (pt2 := pt2) G.bk (show X.env.kindOf x = _ from a2) (show X.env.kindOf y = _ from b2) (show X.env.kindOf z = _ from c2) l1 l2 (of_decide_eq_true n1) (of_decide_eq_true n2) (of_decide_eq_true n3) t1 t2 t3 (not_t h8) (not_t h9)
  refine PS.imp (L2.ps_par3 G.calm (by rw [G.N]; exact G.nd) a1 b1 c1 (of_decide_eq_true i1) (of_decide_eq_true i2) (of_decide_eq_true i3) a2 b2 c2 hs.paE hw) fun D σ H q => ?_
  obtain ⟨E, F, σd, f, σd', top, I, e', a⟩ := q
  obtain ⟨rs, s1, e1, e2, rfl⟩ := par_inv e'
  refine evRs_run I e1 fun F1 H1 vs I1 le1 ro => ?_
  have hl := setRs_len e2
  have hv := ro.len
  have I2 := SI.resN I1 top ro e2
  match vs, hv with
  | [u, v, w], _ => exact ⟨u, v, w, rfl, a F1 H1 _ I2 le1⟩
  | [], hv => simp at hl hv; omega
  | [_], hv => simp at hl hv; omega
  | [_, _], hv => simp at hl hv; omega
  | _ :: _ :: _ :: _ :: _, hv => simp at hl hv; omega
end
/-! forms of statements -/
def setF (m : Cm) (i : Nat) : Stmt → Option (Expr × Expr)
  | .Assign [tg] e _ => if isN m i tg then some (tg, e) else none
  | _ => none
def setTF (m : Cm) (is : List Nat) : Stmt → Option Expr
  | .Assign [tg] e _ => if isTupE tg && (isTg m is tg && (decide (is.length ≠ 1) && (nsw m tg e && notLC e))) then some e else none
  | _ => none
def parF (m : Cm) (is : List Nat) : Stmt → Option (List Expr)
  | .Assign [.Tuple [.Name x px, .Name y py] _ _] (.Tuple [a, b] _ _) _ => match is with
    | [i, j] => if par2B m i j x y px py a b then some [a, b] else none
    | _ => none
  | .Assign [.Tuple [.Name x px, .Name y py, .Name z pz] _ _] (.Tuple [a, b, c] _ _) _ => match is with
    | [i, j, l] => if par3B m i j l x y z px py pz a b c then some [a, b, c] else none
    | _ => none
  | _ => none
def methF (m : Cm) (i : Nat) (x : Str) : Stmt → Option Expr
  | .Expr (.Call (.Attribute o y ap) [e] [] cp) _ => if decide (y = x) && (isVar m i o && (ap.endLine == cp.line)) then some e else none
  | _ => none
def putF' (m : Cm) (i : Nat) : Stmt → Option (Expr × Expr)
  | .Assign [.Subscript o ix _] e _ => if isVar m i o && (notSl ix && notLC e) then some (ix, e) else none
  | _ => none
def fsetF (g : GT) (m : Cm) (i : Nat) (x : Str) : Stmt → Option Expr
  | .Assign [.Attribute o y _] e _ => if decide (y = x) && (isVar m i o && (decide (x ∈ g.flds) && notLC e)) then some e else none
  | _ => none
def exF : Stmt → Option Expr
  | .Expr e _ => if notLC e then some e else none
  | _ => none
def ifF : Stmt → Option (Expr × List Stmt × List Stmt)
  | .If e a b _ => if notIf e then some (e, a, b) else none
  | _ => none
def forF (m : Cm) (tg : List Nat) : Stmt → Option (Expr × Expr × List Stmt)
  | .For t it b [] _ => if isTg m tg t && notSet it then some (t, it, b) else none
  | _ => none
def whlF' : Stmt → Option (Expr × List Stmt)
  | .While e b [] _ => if notIf e then some (e, b) else none
  | _ => none
def retF : Stmt → Option Expr
  | .Return (some e) _ => some e
  | _ => none
def retNF : Stmt → Bool
  | .Return none _ => true
  | _ => false
def passF : Stmt → Bool
  | .Pass _ => true
  | _ => false
def docF : Stmt → Bool
  | .Expr (.Constant (.str _) _ _) _ => true
  | _ => false
def isComp : Ex → Bool
  | .comp .. => true | _ => false
mutual
def chS (g : GT) (m : Cm) (s : St) (st : Stmt) : Bool := match s with
  | .set i c => match setF m i st with
    | some (_, e) => (match c with
      | .comp elt tg it d own => (match compF' m tg own e with
        | some q => chI g m it q.tg q.iter && (chE g (m.blk q.scope) elt q.elt && (match q.ifs with
          | [] => isYes d
          | [x] => notIf x && chE g (m.blk q.scope) d x
          | _ => false))
        | none => false)
      | c => notLC e && chE g m c e)
    | none => false
  | .setT is c => match setTF m is st with | some e => chE g m c e | none => false
  | .par is cs => match parF m is st with | some es => chEs g m cs es | none => false
  | .app i c => match methF m i "append" st with | some e => chE g m c e | none => false
  | .ext i c => match methF m i "extend" st with | some e => chE g m c e | none => false
  | .put i kc c => match putF' m i st with | some (ix, e) => chE g m kc ix && chE g m c e | none => false
  | .fset i x c => match fsetF g m i x st with | some e => chE g m c e | none => false
  | .ex c => match exF st with | some e => chE g m c e | none => false
  | .ife c a b => match ifF st with | some (e, x, y) => chE g m c e && (chSs g m a x && chSs g m b y) | none => false
  | .loop tg it b => match forF m tg st with | some (t, i, x) => chI g m it t i && chSs g m b x | none => false
  | .whl c b => match whlF' st with | some (e, x) => chE g m c e && chSs g m b x | none => false
  | .ret c => match retF st with | some e => chE g m c e | none => false
  | .retN => retNF st
  | .pass => passF st
  | .raise => true
def chSs (g : GT) (m : Cm) (ss : Sts) (sts : List Stmt) : Bool := match ss with
  | .nil => sts.all docF
  | .cons s ss => match sts with
    | st :: sts => if docF st then (match sts with
        | st :: sts => chS g m s st && chSs g m ss sts
        | [] => false) else chS g m s st && chSs g m ss sts
    | [] => false
end
end G48

set_option maxHeartbeats 4000000
/-! The check of statements is sound. -/
namespace G48
open PySem L2
section
variable {g : GT} {C : Nat → Addr} {Φ : CF} {k : Nat}
theorem ps_doc1 {X : Cx} {st : Stmt} {rest : List Stmt} {t : TS} (h : docF st = true) (hr : PSs X rest t) : PSs X (st :: rest) t := by
  unfold docF at h
  split at h
  · exact PSs.imp (pss_cons ps_doc hr) fun D σ H q => q
  · cases h
theorem docs_ok {X : Cx} : ∀ {sts : List Stmt}, sts.all docF = true → PSs X sts (tSs X.K C Φ .nil)
  | [], _ => pss_n
  | st :: sts, h => by
    rw [List.all_cons] at h
    obtain ⟨h1, h2⟩ := and_t h
    exact ps_doc1 h1 (docs_ok h2)
/-- name = e -/
theorem chSet_ok {m : Cm} {X : Cx} {i : Nat} {c : Ex} {st : Stmt} (G : Good g Φ C k m X) (h : chS g m (.set i c) st = true) : PS X st (tS X.K C Φ (.set i c)) := by
  unfold chS at h
  split at h
  · rename_i e hx
    unfold setF at hx
    split at hx
    · obtain ⟨n, he⟩ := ite_some0 hx
      cases he
      split at h
      · rename_i elt tg it d own
        split at h
        · rename_i q hq
          obtain ⟨h1, h2⟩ := and_t h
          obtain ⟨h2, h3⟩ := and_t h2
          unfold compF' at hq
          split at hq
          · obtain ⟨n2, he⟩ := ite_some0 hq
            subst he
            refine ps_setC G n n2 (chI_ok it G h1) (fun X' G' => chE_ok elt G' h2) ?_
            split at h3
            · rename_i hz
              exact .inl ⟨hz, h3⟩
            · rename_i x hz
              obtain ⟨h4, h5⟩ := and_t h3
              exact .inr ⟨x, hz, h4, fun X' G' => chE_ok d G' h5⟩
            · cases h3
          · cases hq
        · cases h
      · obtain ⟨h1, h2⟩ := and_t h
        exact ps_set1 G n h1 (chE_ok _ G h2)
    · cases hx
  · cases h
mutual
theorem chS_ok : ∀ (s : St) {m : Cm} {X : Cx} {st : Stmt}, Good g Φ C k m X → chS g m s st = true → PS X st (tS X.K C Φ s)
  | .set i c, m, X, st, G, h => chSet_ok G h
  | .setT is c, m, X, st, G, h => by
    unfold chS at h
    split at h
    · rename_i e hx
      unfold setTF at hx
      split at hx
      · obtain ⟨n, he⟩ := ite_some0 hx
        cases he
        obtain ⟨n1, n⟩ := and_t n
        obtain ⟨n2, n⟩ := and_t n
        obtain ⟨n3, n⟩ := and_t n
        obtain ⟨n4, n5⟩ := and_t n
        exact ps_setT G n1 n2 n3 n4 n5 (chE_ok c G h)
      · cases hx
    · cases h
  | .par is cs, m, X, st, G, h => by
    unfold chS at h
    split at h
    · rename_i es hx
      unfold parF at hx
      split at hx
      · split at hx
        · obtain ⟨n, he⟩ := ite_some0 hx
          subst he
          exact ps_par2 G n (chEs_ok cs G h)
        · cases hx
      · split at hx
        · obtain ⟨n, he⟩ := ite_some0 hx
          subst he
          exact ps_par3S G n (chEs_ok cs G h)
        · cases hx
      · cases hx
    · cases h
  | .app i c, m, X, st, G, h => by
    unfold chS at h
    split at h
    · rename_i e hx
      unfold methF at hx
      split at hx
      · obtain ⟨n, he⟩ := ite_some0 hx
        obtain ⟨n1, n⟩ := and_t n
        obtain ⟨n2, n3⟩ := and_t n
        have e1 := of_decide_eq_true n1
        subst he
        subst e1
        exact ps_app G n2 n3 (chE_ok c G h)
      · cases hx
    · cases h
  | .ext i c, m, X, st, G, h => by
    unfold chS at h
    split at h
    · rename_i e hx
      unfold methF at hx
      split at hx
      · obtain ⟨n, he⟩ := ite_some0 hx
        obtain ⟨n1, n⟩ := and_t n
        obtain ⟨n2, n3⟩ := and_t n
        have e1 := of_decide_eq_true n1
        subst he
        subst e1
        exact ps_ext G n2 n3 (chE_ok c G h)
      · cases hx
    · cases h
  | .put i kc c, m, X, st, G, h => by
    unfold chS at h
    split at h
    · rename_i ix e hx
      obtain ⟨h1, h2⟩ := and_t h
      unfold putF' at hx
      split at hx
      · obtain ⟨n, he⟩ := ite_some0 hx
        cases he
        obtain ⟨n1, n⟩ := and_t n
        obtain ⟨n2, n3⟩ := and_t n
        exact ps_put G n1 n2 n3 (chE_ok kc G h1) (chE_ok c G h2)
      · cases hx
    · cases h
  | .fset i x c, m, X, st, G, h => by
    unfold chS at h
    split at h
    · rename_i e hx
      unfold fsetF at hx
      split at hx
      · obtain ⟨n, he⟩ := ite_some0 hx
        obtain ⟨n1, n⟩ := and_t n
        obtain ⟨n2, n⟩ := and_t n
        obtain ⟨n3, n4⟩ := and_t n
        have e1 := of_decide_eq_true n1
        have n3 := of_decide_eq_true n3
        subst he
        subst e1
        exact ps_fset G n2 n3 n4 (chE_ok c G h)
      · cases hx
    · cases h
  | .ex c, m, X, st, G, h => by
    unfold chS at h
    split at h
    · rename_i e hx
      unfold exF at hx
      split at hx
      · obtain ⟨n, he⟩ := ite_some0 hx
        cases he
        exact ps_ex G n (chE_ok c G h)
      · cases hx
    · cases h
  | .ife c a b, m, X, st, G, h => by
    unfold chS at h
    split at h
    · rename_i e x y hx
      obtain ⟨h1, h2⟩ := and_t h
      obtain ⟨h2, h3⟩ := and_t h2
      unfold ifF at hx
      split at hx
      · obtain ⟨n, he⟩ := ite_some0 hx
        cases he
        exact ps_ifeS (chE_ok c G h1) n (chSs_ok a G h2) (chSs_ok b G h3)
      · cases hx
    · cases h
  | .loop tg it b, m, X, st, G, h => by
    unfold chS at h
    split at h
    · rename_i t i x hx
      obtain ⟨h1, h2⟩ := and_t h
      unfold forF at hx
      split at hx
      · obtain ⟨n, he⟩ := ite_some0 hx
        cases he
        obtain ⟨n1, n2⟩ := and_t n
        exact ps_loopS G n1 (chI_ok it G h1) (chSs_ok b G h2) n2
      · cases hx
    · cases h
  | .whl c b, m, X, st, G, h => by
    unfold chS at h
    split at h
    · rename_i e x hx
      obtain ⟨h1, h2⟩ := and_t h
      unfold whlF' at hx
      split at hx
      · obtain ⟨n, he⟩ := ite_some0 hx
        cases he
        exact ps_whlS G (chE_ok c G h1) n (chSs_ok b G h2)
      · cases hx
    · cases h
  | .ret c, m, X, st, G, h => by
    unfold chS at h
    split at h
    · rename_i e hx
      unfold retF at hx
      split at hx
      · cases hx
        exact ps_retS G (chE_ok c G h)
      · cases hx
    · cases h
  | .retN, m, X, st, G, h => by
    have h : retNF st = true := h
    unfold retNF at h
    split at h
    · exact ps_retn
    · cases h
  | .pass, m, X, st, G, h => by
    have h : passF st = true := h
    unfold passF at h
    split at h
    · exact ps_passS
    · cases h
  | .raise, m, X, st, G, h => ps_raiseS
theorem chSs_ok : ∀ (ss : Sts) {m : Cm} {X : Cx} {sts : List Stmt}, Good g Φ C k m X → chSs g m ss sts = true → PSs X sts (tSs X.K C Φ ss)
  | .nil, m, X, sts, G, h => docs_ok h
  | .cons s ss, m, X, sts, G, h => by
    unfold chSs at h
    split at h
    · split at h
      · rename_i hd
        split at h
        · obtain ⟨h1, h2⟩ := and_t h
          exact ps_doc1 hd (pss_c (chS_ok s G h1) (chSs_ok ss G h2))
        · cases h
      · obtain ⟨h1, h2⟩ := and_t h
        exact pss_c (chS_ok s G h1) (chSs_ok ss G h2)
    · cases h
end
end
end G48

set_option maxHeartbeats 4000000
/-! Defs. -/
namespace G48
open PySem L2
section
variable {K : PySem.W.Frag} {C : Nat → Addr}
/-- the entry's frame -/
def entE (F H : Hp) (vs : List V) (o : Option D) : En := ⟨F, H, ioA vs o, fun b l => (b = false ∧ H l = none) ∨ (b = true ∧ ioA vs o l)⟩
theorem start_at {N : List Str} {vs : List V} {i : Nat} {x : Option V} (h : (L2.start N vs)[i]? = some x) : (∃ v, vs[i]? = some v ∧ x = some v) ∨ (vs[i]? = none ∧ x = none) := by
  unfold L2.start at h
  by_cases hl : i < vs.length
  · rw [List.getElem?_append_left (by rw [List.length_map]; exact hl), List.getElem?_map] at h
    rw [List.getElem?_eq_getElem hl] at h
    cases h
    exact .inl ⟨_, List.getElem?_eq_getElem hl, rfl⟩
  · rw [List.getElem?_append_right (by rw [List.length_map]; omega), List.getElem?_replicate] at h
    split at h
    · cases h
      exact .inr ⟨List.getElem?_eq_none (by omega), rfl⟩
    · cases h
/-- the slots at the entry -/
def sl0 (b : Bool) (ds : List D) : List Sl := match b, ds with
  | true, d :: r => .io d :: r.map .va
  | _, ds => ds.map .va
theorem start_eq (fd : FD) (ds : List D) : G48.start fd ds = sl0 fd.io ds ++ List.replicate (fd.n - fd.np) .no := rfl
theorem vas_at {l : List D} {j : Nat} {s : Sl} (h : (l.map Sl.va)[j]? = some s) : ∃ d, l[j]? = some d ∧ s = .va d := by
  rw [List.getElem?_map] at h
  obtain ⟨d, h1, h2⟩ := Option.map_eq_some_iff.mp h
  exact ⟨d, h1, h2.symm⟩
theorem sl0_len : ∀ (b : Bool) (ds : List D), (sl0 b ds).length = ds.length
  | true, [] => rfl
  | true, _ :: r => by simp [sl0]
  | false, ds => by simp [sl0]
theorem sl0_at : ∀ {b : Bool} {ds : List D} {i : Nat} {s : Sl}, (sl0 b ds)[i]? = some s → ∃ d, ds[i]? = some d ∧ (s = .va d ∨ (s = .io d ∧ i = 0 ∧ b = true))
  | true, [], i, s, h => by simp [sl0] at h
  | true, d :: r, 0, s, h => by
    have h : some (Sl.io d) = some s := by simpa [sl0] using h
    cases h
    exact ⟨d, rfl, .inr ⟨rfl, rfl, rfl⟩⟩
  | true, d :: r, i + 1, s, h => by
    have h : (r.map Sl.va)[i]? = some s := by simpa [sl0] using h
    obtain ⟨d', h1, h2⟩ := vas_at h
    exact ⟨d', by simpa using h1, .inl h2⟩
  | false, ds, i, s, h => by
    obtain ⟨d', h1, h2⟩ := vas_at (show (ds.map Sl.va)[i]? = some s from h)
    exact ⟨d', h1, .inl h2⟩
theorem startD_at {fd : FD} {ds : List D} {i : Nat} {s : Sl} (h : (G48.start fd ds)[i]? = some s) : (∃ d, ds[i]? = some d ∧ (s = .va d ∨ (s = .io d ∧ i = 0 ∧ fd.io = true))) ∨ (ds[i]? = none ∧ s = .no) := by
  rw [start_eq] at h
  by_cases hl : i < (sl0 fd.io ds).length
  · rw [List.getElem?_append_left hl] at h
    exact .inl (sl0_at h)
  · rw [List.getElem?_append_right (by omega), List.getElem?_replicate] at h
    rw [sl0_len] at hl
    split at h
    · cases h; exact .inr ⟨List.getElem?_eq_none (by omega), rfl⟩
    · cases h
theorem startD_len {fd : FD} {ds : List D} : (G48.start fd ds).length = ds.length + (fd.n - fd.np) := by
  rw [start_eq, List.length_append, List.length_replicate, sl0_len]
theorem ArgR.at {F H : Hp} {o : Option D} : ∀ {vs : List V} {ds : List D}, ArgR K C F H o vs ds → ∀ (i : Nat) (v : V) (d : D), vs[i]? = some v → ds[i]? = some d → Rep K F v d ∨ (i = 0 ∧ o.isSome = true ∧ Own K C F H v d) := by
  intro vs ds h i v d h1 h2
  cases o with
  | none =>
    obtain ⟨y, q1, q2⟩ := (show Reps K F vs ds from h).getV h1
    rw [h2] at q1; cases q1
    exact .inl q2
  | some _ =>
    obtain ⟨v0, vs', d0, ds', rfl, rfl, ow, r⟩ := h
    cases i with
    | zero => simp at h1 h2; subst h1 h2; exact .inr ⟨rfl, rfl, ow⟩
    | succ i =>
      obtain ⟨y, q1, q2⟩ := r.getV (by simpa using h1)
      have h2 : ds'[i]? = some d := by simpa using h2
      rw [h2] at q1; cases q1
      exact .inl q2
theorem ArgR.len {F H : Hp} {o : Option D} {vs : List V} {ds : List D} (h : ArgR K C F H o vs ds) : vs.length = ds.length := by
  cases o with
  | none => exact (show Reps K F vs ds from h).len
  | some _ =>
    obtain ⟨v0, vs', d0, ds', rfl, rfl, ow, r⟩ := h
    exact congrArg (· + 1) r.len
theorem entry_SI {F H : Hp} {o : Option D} {vs : List V} {ds : List D} {fd : FD} {N : List Str} (fin : Fin F H) (ha : ArgR K C F H o vs ds) (hio : fd.io = o.isSome) (hn : N.length = fd.n) (hnp : ds.length = fd.np) (hle : fd.np ≤ fd.n) :
    SI K C (entE F H vs o) F H (L2.start N vs) (G48.start fd ds) := by
  have hl := ha.len
  have ioc : ∀ {i : Nat} {s : Sl}, (G48.start fd ds)[i]? = some s → s.own = true → i = 0 ∧ fd.io = true ∧ s.isIo = true := fun {i s} h w => by
    rcases startD_at h with ⟨d, h1, rfl | ⟨rfl, h2, h3⟩⟩ | ⟨_, rfl⟩
    · cases w
    · exact ⟨h2, h3, rfl⟩
    · cases w
  have ioad : ∀ {i : Nat} {l : Addr} {s : Sl}, (L2.start N vs)[i]? = some (some (.ref l)) → (G48.start fd ds)[i]? = some s → s.own = true → ioA vs o l := fun {i l s} a b c => by
    obtain ⟨h0, h1, _⟩ := ioc b c
    subst h0
    rcases start_at a with ⟨v, q1, q2⟩ | ⟨_, q⟩
    · cases q2
      exact ⟨by rw [← hio]; exact h1, by rw [List.head?_eq_getElem?]; exact q1⟩
    · cases q
  refine ⟨fin, Fle.refl F, fun a h => .inl h, fun a u h _ => h, fun a h => ?_, ?_, fun i x s a b => ?_, fun i j v s t a b c d e1 e2 => ?_, fun i l s a b c => .inr (ioad a b c), fun i l s a b c => ?_⟩
  · obtain ⟨h1, h2⟩ := h
    cases o with
    | none => cases h1
    | some _ =>
      obtain ⟨v0, vs', d0, ds', rfl, rfl, ow, r⟩ := ha
      simp at h2
      subst h2
      obtain ⟨l, u, e, _, q⟩ := ow.ref
      cases e
      exact ⟨u, q⟩
  · rw [startD_len]
    unfold L2.start
    rw [List.length_append, List.length_map, List.length_replicate]
    omega
  · rcases startD_at b with ⟨d, h1, hs⟩ | ⟨h1, rfl⟩
    · rcases start_at a with ⟨v, q1, rfl⟩ | ⟨q, _⟩
      · rcases ha.at i v d q1 h1 with r | ⟨_, _, ow⟩
        · rcases hs with rfl | ⟨rfl, h0, h2⟩
          · exact .va r
          · -- the io slot's is own
            subst h0
            rw [hio] at h2
            cases o with
            | none => cases h2
            | some _ =>
              obtain ⟨v0, vs', d0, ds', rfl, rfl, ow, r'⟩ := ha
              simp at q1 h1
              subst q1 h1
              exact .io ow
        · rcases hs with rfl | ⟨rfl, h0, h2⟩
          · rename_i h0 h2
            -- a va slot at 0 with an io: not so
            exfalso
            subst h0
            have := b
            unfold G48.start at this
            rw [show fd.io = true by rw [hio]; exact h2] at this
            cases ds with
            | nil => simp at h1
            | cons d1 ds1 => simp at this
          · exact .io ow
      · exfalso
        have := List.getElem?_eq_none_iff.mp q
        have := (List.getElem?_eq_some_iff.mp h1).1
        omega
    · exact .no
  · exact (ioc c e1).1.trans (ioc d e2).1.symm
  · have := (ioc b c).2.2
    rw [this]
    exact .inr ⟨rfl, ioad a b c⟩
end
end G48

set_option maxHeartbeats 4000000
/-! Defs keep their promises. -/
namespace G48
open PySem PySem.Spec PyProof.Rows L2
structure TabK (K : PySem.W.Frag) (w : World) (a : Addr) (t : List (Str × Str)) : Prop where
  kd : ∃ es n, KDict K w a es n
  get : ∀ x, ∃ r, PySem.W.nsIn K a x = some r ∧ (match kget t x with | some y => ∃ tok, r = some (.str y tok) | none => r = none)
  ents : ∃ es n, KDict K w a es n ∧ Paired (fun (e : DictEntry) (p : Str × Str) => (∃ tk, e.key = .str p.1 tk) ∧ ∃ tk, e.val = .str p.2 tk) es.toList t
  nd : (t.map (·.1)).Nodup
  small : t.length ≤ 1000
/-- what is known of the top, at a level of calls -/
structure TopOk (g : GT) (Φ : CF) (C : Nat → Addr) (k : Nat) (P : Program) (w : World) (K : PySem.W.Frag) (mg : Str → Option Value) (base : Heap) : Prop where
  free : ∀ x ∈ bNames, mg x = none
  fns : ∀ (f : Nat) (fi : FI), g.fis[f]? = some fi → fi.cls = none → ∃ a fd ps, (FnOk P w K mg base CX0 k a fd ps (spF K C Φ f) ∧ Binds K fd ps []) ∧ mg fi.name = some (.ref a) ∧ PySem.W.keepIn K (.ref a) = true
  mths : ∀ (f : Nat) (fi : FI) (c : Nat), g.fis[f]? = some fi → fi.cls = some c → ∃ a fd ps, (FnOk P w K mg base CX0 k a fd ps (spF K C Φ f) ∧ Binds K fd ps []) ∧ Cls K (C c) ∧ Meth K (C c) fi.name a
  mcl : ∀ (f : Nat) (fi : FI) (c : Nat), g.fis[f]? = some fi → fi.cls = some c → ∀ ds x, Φ f ds = some x → ∃ fs r, ds = .obj c fs :: r ∧ fs.lookup fi.name = none
  mks : ∀ (x : Str) (c f : Nat), (x, c, f) ∈ g.mks → ∃ a fd ps, (FnOk P w K mg base CX0 k a fd ps (spF K C Φ f) ∧ Binds K fd ps []) ∧ mg x = some (.ref (C c)) ∧ Mk K (C c) a
  flds : ∀ (c : Nat) (x : Str), x ∈ g.flds → Cls K (C c) ∧ NoAttr K (C c) x
  consts : ∀ (x : Str) (d : D), (x, d) ∈ g.consts → ∃ (v : V) (u : Value), mg x = some u ∧ RelV v u ∧ ∀ F, Rep K F v d
  tabs : ∀ (x : Str) (t : List (Str × Str)), (x, t) ∈ g.tabs → ∃ a, mg x = some (.ref a) ∧ TabK K w a t
section
variable {g : GT} {Φ : CF} {C : Nat → Addr} {k : Nat} {P : Program} {w : World} {K : PySem.W.Frag} {mg : Str → Option Value} {base : Heap}
theorem good_of (T : TopOk g Φ C k P w K mg base) {N ps : List Str} {qual : Str} {scope : Scope} {f : Addr} {cd : Value} {A : Around} {outer : List Env} {s : Shared} {H : Hp} {E : XK} (S : FnScope N ps scope) (hr : Room (k + 1) (A.deeper (envOfC qual scope s.heap.objs.size f cd))) :
    Good g Φ C k ⟨N, scope, fun _ => true⟩ ((cxOf CX0 P w K mg base N qual scope f cd A outer s H E).nox) where
  N := rfl
  sc := rfl
  nd := S.nd
  kind := S.kind
  calm := rfl
  room := hr
  xe := rfl
  fn := fun _ _ => rfl
  free := T.free
  fns := fun f fi h1 h2 => let ⟨a, fd, ps, h, r⟩ := T.fns f fi h1 h2; ⟨a, fd, ps, ⟨h.1, h.2⟩, r⟩
  mths := fun f fi c h1 h2 => let ⟨a, fd, ps, h, r⟩ := T.mths f fi c h1 h2; ⟨a, fd, ps, ⟨h.1, h.2⟩, r⟩
  mcl := T.mcl
  mks := fun x c f h1 => let ⟨a, fd, ps, h, r⟩ := T.mks x c f h1; ⟨a, fd, ps, ⟨h.1, h.2⟩, r⟩
  flds := T.flds
  consts := T.consts
  tabs := fun x t h => let ⟨a, e, q⟩ := T.tabs x t h; ⟨a, e, ⟨q.kd, q.get, q.ents, q.nd, q.small⟩⟩
theorem runF_inv {fd : FD} {ds : List D} {o : Option D} {r : Res} (h : runF Φ fd ds = some (o, r)) : ds.length = fd.np ∧ clsOk fd ds = true ∧ ∃ f σ, evSs Φ fd.body (G48.start fd ds) = some (f, σ) ∧ ((f = .rt r ∧ outOf fd r σ = some (o, r)) ∨ (f = .nx ∧ r = (false, .non) ∧ outOf fd r σ = some (o, r))) := by
  unfold runF at h
  split at h
  · rename_i hc
    refine ⟨hc.1, hc.2, ?_⟩
    have outR : ∀ {r' : Res} {σ : S}, outOf fd r' σ = some (o, r) → r' = r := fun {r' σ} h => by
      unfold outOf at h
      split at h
      · cases h; rfl
      · split at h
        · cases h; rfl
        · cases h
    split at h
    · rename_i r' σ e
      have := outR h
      subst this
      exact ⟨_, σ, e, .inl ⟨rfl, h⟩⟩
    · rename_i σ e
      have := outR h
      subst this
      exact ⟨_, σ, e, .inr ⟨rfl, rfl, h⟩⟩
    · cases h
  · cases h
theorem out_io {fd : FD} {r : Res} {σ : S} {o : Option D} (h : outOf fd r σ = some (o, r)) : fd.io = o.isSome ∧ ∀ d, o = some d → σ[0]? = some (.io d) := by
  unfold outOf at h
  split at h
  · rename_i hio
    cases h
    exact ⟨hio, fun d z => by cases z⟩
  · rename_i hio
    split at h
    · rename_i d hd
      cases h
      exact ⟨hio, fun d' z => by cases z; exact hd⟩
    · cases h
/-- at a def's end -/
theorem end_io {F H F' H' : Hp} {vs : List V} {o : Option D} {σ' : L2.St} {σ : S} (I : SI K C (entE F H vs o) F' H' σ' σ) (h : ∀ d, o = some d → σ[0]? = some (.io d)) : ioR K C F' H' o vs ∧ ∀ a, ioA vs o a → F' a = none := by
  cases o with
  | none => exact ⟨trivial, fun a h => by cases h.1⟩
  | some d =>
    have h0 := h d rfl
    obtain ⟨x, h1, h2⟩ := I.slot h0
    cases h2 with
    | @io v _ ow =>
      obtain ⟨l, u, el, lF, lH⟩ := ow.ref
      subst el
      rcases I.kd 0 l _ h1 h0 rfl with ⟨z, _⟩ | ⟨_, q⟩
      · cases z
      · have q2 := q.2
        cases vs with
        | nil => cases q2
        | cons v0 vs =>
          have e : v0 = .ref l := by simpa using q2
          subst e
          refine ⟨⟨_, vs, rfl, ow⟩, fun a ha => ?_⟩
          have e : V.ref l = V.ref a := by simpa using ha.2
          cases e
          exact lF
/-- a def of the text, checked, keeps its promise -/
theorem def_ok {fds : List FD} {n f : Nat} {fd : FD} (T : TopOk g (callF fds n) C k P w K mg base) (hf : fds[f]? = some fd) {x qual : Str} {params : Arguments} {body : List Stmt} {scope : Scope} {kws : List (Str × V)} {a : Addr} {fd' : FuncData} {N ps : List Str}
    (Fd : FunD K x qual params body scope [] kws a fd') (S : FnScope N ps scope) (hc : chSs g ⟨N, scope, fun _ => true⟩ fd.body body = true) (hn : N.length = fd.n) (hp : ps.length = fd.np) (hle : fd.np ≤ fd.n) :
    FnOk P w K mg base CX0 (k + 2) a fd' ps (spF K C (callF fds (n + 1)) f) := by
  have un : ∀ {ds : List D} {o : Option D} {r : Res}, callF fds (n + 1) f ds = some (o, r) → runF (callF fds n) fd ds = some (o, r) := fun {ds o r} h => by
    have h : (match fds[f]? with
      | some fd => runF (callF fds n) fd ds
      | none => none) = some (o, r) := h
    rw [hf] at h
    exact h
  refine FunD.ok Fd S (fun vs H Q E h => ?_) fun cdv A outer s H vs Q E hr h => ?_
  · obtain ⟨F, ds, o, r, fin, ha, e, _⟩ := h
    obtain ⟨h1, _⟩ := runF_inv (un e)
    rw [ha.len, h1, hp]
  · have G := good_of (qual := qual) (f := a) (cd := cdv) (A := A) (outer := outer) (s := s) (H := H) (E := E) T S hr
    refine ⟨_, (chSs_ok (Φ := callF fds n) fd.body G hc).nox, ?_⟩
    obtain ⟨F, ds, o, r, fin, ha, e, kk⟩ := h
    obtain ⟨h1, h2, fl, σ, e1, h3⟩ := runF_inv (un e)
    have hio : fd.io = o.isSome ∧ ∀ d, o = some d → σ[0]? = some (.io d) := by
      rcases h3 with ⟨_, q⟩ | ⟨_, _, q⟩
      · exact out_io q
      · exact out_io q
    have I := entry_SI (C := C) (N := N) fin ha hio.1 hn h1 hle
    have fin' : ∀ F' H' σ' v, SI K C (entE F H vs o) F' H' σ' σ → Fle F F' → OutR K C F' H H' v r → Q v H' := fun F' H' σ' v I' le out => by
      obtain ⟨q1, q2⟩ := end_io I' hio.2
      refine kk F' H' v I'.fin le (fun b hb => ?_) (fun b u hb nb => I'.frame b u hb nb) q1 out
      rcases I'.new b hb with q | q | q
      · exact .inl q
      · exact .inr q
      · exact absurd (q2 b q) hb
    refine ⟨entE F H vs o, F, _, fl, σ, fun l hl => .inl ⟨rfl, hl⟩, I, e1, ?_⟩
    rcases h3 with ⟨rfl, _⟩ | ⟨rfl, rfl, _⟩
    · intro F' H' σ' v I' le w
      refine fin' F' H' σ' v I' le ?_
      obtain ⟨fl, d⟩ := r
      cases fl with
      | false => exact w
      | true =>
        refine ⟨w.1, fun l e => ?_⟩
        rcases w.2 l e with ⟨_, q⟩ | ⟨q, _⟩
        · exact q
        · cases q
    · intro F' H' σ' I' le
      exact fin' F' H' σ' .non I' le .non
end
end G48

set_option maxHeartbeats 4000000
/-! All defs, at every depth of calls. -/
namespace G48
open PySem PySem.Spec PyProof.Rows L2
section
variable {g : GT} {Φ : CF} {C : Nat → Addr} {k : Nat} {P : Program} {w : World} {K : PySem.W.Frag} {mg : Str → Option Value} {base : Heap} {fds : List FD}
theorem fnok_none {f : Nat} {a : Addr} {fd : FuncData} {ps : List Str} (h : ∀ ds, Φ f ds = none) : FnOk P w K mg base CX0 k a fd ps (spF K C Φ f) := by
  refine ⟨fun vs H Q E q => ?_, fun A outer s H args us vs Q E _ _ _ _ q => ?_⟩
  · obtain ⟨F, ds, o, r, _, _, e, _⟩ := q
    rw [h] at e; cases e
  · obtain ⟨F, ds, o, r, _, _, e, _⟩ := q
    rw [h] at e; cases e
/-- a def's promise at every depth -/
def Up (fds : List FD) (g : GT) (C : Nat → Addr) (P : Program) (w : World) (K : PySem.W.Frag) (mg : Str → Option Value) (base : Heap) (f : Nat) (a : Addr) (fd : FuncData) (ps : List Str) : Prop :=
  ∀ n k, TopOk g (callF fds n) C k P w K mg base → FnOk P w K mg base CX0 (k + 2) a fd ps (spF K C (callF fds (n + 1)) f)
structure Stat (fds : List FD) (g : GT) (C : Nat → Addr) (P : Program) (w : World) (K : PySem.W.Frag) (mg : Str → Option Value) (base : Heap) : Prop where
  free : ∀ x ∈ bNames, mg x = none
  fns : ∀ (f : Nat) (fi : FI), g.fis[f]? = some fi → fi.cls = none → ∃ a fd ps, (Up fds g C P w K mg base f a fd ps ∧ Binds K fd ps []) ∧ mg fi.name = some (.ref a) ∧ PySem.W.keepIn K (.ref a) = true
  mths : ∀ (f : Nat) (fi : FI) (c : Nat), g.fis[f]? = some fi → fi.cls = some c → ∃ a fd ps, (Up fds g C P w K mg base f a fd ps ∧ Binds K fd ps []) ∧ Cls K (C c) ∧ Meth K (C c) fi.name a
  mcl : ∀ (f : Nat) (fi : FI) (c : Nat), g.fis[f]? = some fi → fi.cls = some c → ∀ fd, fds[f]? = some fd → fd.cls = some (c, fi.name)
  mks : ∀ (x : Str) (c f : Nat), (x, c, f) ∈ g.mks → ∃ a fd ps, (Up fds g C P w K mg base f a fd ps ∧ Binds K fd ps []) ∧ mg x = some (.ref (C c)) ∧ Mk K (C c) a
  flds : ∀ (c : Nat) (x : Str), x ∈ g.flds → Cls K (C c) ∧ NoAttr K (C c) x
  consts : ∀ (x : Str) (d : D), (x, d) ∈ g.consts → ∃ (v : V) (u : Value), mg x = some u ∧ RelV v u ∧ ∀ F, Rep K F v d
  tabs : ∀ (x : Str) (t : List (Str × Str)), (x, t) ∈ g.tabs → ∃ a, mg x = some (.ref a) ∧ TabK K w a t
theorem call_unfold {n f : Nat} {ds : List D} {x : Option D × Res} (h : callF fds (n + 1) f ds = some x) : ∃ fd, fds[f]? = some fd ∧ runF (callF fds n) fd ds = some x := by
  have h : (match fds[f]? with
    | some fd => runF (callF fds n) fd ds
    | none => none) = some x := h
  cases e : fds[f]? with
  | none => rw [e] at h; cases h
  | some fd => rw [e] at h; exact ⟨fd, rfl, h⟩
theorem cls_inv {fd : FD} {ds : List D} {c : Nat} {m : Str} (h : clsOk fd ds = true) (e : fd.cls = some (c, m)) : ∃ fs r, ds = .obj c fs :: r ∧ fs.lookup m = none := by
  unfold clsOk at h
  rw [e] at h
  dsimp only at h
  split at h
  · rename_i c' fs r
    obtain ⟨h1, h2⟩ := and_t h
    have e1 : c = c' := of_decide_eq_true h1
    subst e1
    exact ⟨fs, r, rfl, by simpa using h2⟩
  · cases h
theorem top_ok (S : Stat fds g C P w K mg base) : ∀ n : Nat, TopOk g (callF fds n) C (2 * n) P w K mg base
  | 0 => by
    have z : ∀ f ds, callF fds 0 f ds = none := fun _ _ => rfl
    refine ⟨S.free, fun f fi h1 h2 => ?_, fun f fi c h1 h2 => ?_, fun f fi c h1 h2 ds x hx => ?_, fun x c f h => ?_, S.flds, S.consts, S.tabs⟩
    · obtain ⟨a, fd, ps, ⟨_, b⟩, r⟩ := S.fns f fi h1 h2
      exact ⟨a, fd, ps, ⟨fnok_none (z f), b⟩, r⟩
    · obtain ⟨a, fd, ps, ⟨_, b⟩, r⟩ := S.mths f fi c h1 h2
      exact ⟨a, fd, ps, ⟨fnok_none (z f), b⟩, r⟩
    · rw [z] at hx; cases hx
    · obtain ⟨a, fd, ps, ⟨_, b⟩, r⟩ := S.mks x c f h
      exact ⟨a, fd, ps, ⟨fnok_none (z f), b⟩, r⟩
  | n + 1 => by
    have T := top_ok S n
    have e2 : 2 * (n + 1) = 2 * n + 2 := by omega
    rw [e2]
    refine ⟨S.free, fun f fi h1 h2 => ?_, fun f fi c h1 h2 => ?_, fun f fi c h1 h2 ds x hx => ?_, fun x c f h => ?_, S.flds, S.consts, S.tabs⟩
    · obtain ⟨a, fd, ps, ⟨u, b⟩, r⟩ := S.fns f fi h1 h2
      exact ⟨a, fd, ps, ⟨u n _ T, b⟩, r⟩
    · obtain ⟨a, fd, ps, ⟨u, b⟩, r⟩ := S.mths f fi c h1 h2
      exact ⟨a, fd, ps, ⟨u n _ T, b⟩, r⟩
    · obtain ⟨fd, q1, q2⟩ := call_unfold hx
      have q3 := S.mcl f fi c h1 h2 fd q1
      have q4 : clsOk fd ds = true := (runF_inv (o := x.1) (r := x.2) q2).2.1
      exact cls_inv q4 q3
    · obtain ⟨a, fd, ps, ⟨u, b⟩, r⟩ := S.mks x c f h
      exact ⟨a, fd, ps, ⟨u n _ T, b⟩, r⟩
end
end G48

set_option maxHeartbeats 4000000
/-! The end: the law's call. -/
namespace G48
open PySem PySem.Spec PyProof.Rows L2
theorem sp_law {K : PySem.W.Frag} {C : Nat → Addr} {Φ : CF} {f : Nat} {ns : List Int} {H : Hp} {a : Addr} {E : XK} (h : Φ f [.scr ns] = some (none, (false, .bl true))) (hS : SqL K H a (ns.map V.int)) : spF K C Φ f [.ref a] H (fun v _ => v = .bl true) E := by
  refine ⟨H, [.scr ns], none, _, fun _ _ e => e, .cons (.scr hS) .nil, h, fun F' H' v _ _ _ _ _ out => ?_⟩
  cases (show Rep K F' v (.bl true) from out)
  rfl
/-- from TabOk's parts: a table whose entries are seen -/
def rowsB : List DictEntry → List (Str × Str) → Bool
  | [], [] => true
  | e :: es, p :: t => (match e.key, e.val with
    | .str x _, .str y _ => decide (x = p.1) && decide (y = p.2)
    | _, _ => false) && rowsB es t
  | _, _ => false
theorem rowsB_ok : ∀ {es : List DictEntry} {t : List (Str × Str)}, rowsB es t = true → Paired (fun (e : DictEntry) (p : Str × Str) => (∃ tk, e.key = .str p.1 tk) ∧ ∃ tk, e.val = .str p.2 tk) es t
  | [], [], _ => .nil
  | e :: es, p :: t, h => by
    obtain ⟨h1, h2⟩ := and_t h
    refine .cons ?_ (rowsB_ok h2)
    split at h1
    · rename_i x tk y tk2 e1 e2
      obtain ⟨q1, q2⟩ := and_t h1
      have z1 : x = p.1 := of_decide_eq_true q1
      have z2 : y = p.2 := of_decide_eq_true q2
      exact ⟨⟨tk, by rw [e1, z1]⟩, tk2, by rw [e2, z2]⟩
    · cases h1
  | [], _ :: _, h => by cases h
  | _ :: _, [], h => by cases h
end G48

set_option maxHeartbeats 4000000
/-! The head's facts, with the tables' rows. -/
namespace G48
open PySem PySem.Spec PyProof.Rows L2
def tabB (K : PySem.W.Frag) (a : Addr) (t : List (Str × Str)) : Bool := match K.lookup a with
  | some ⟨_, _, .dict es _, _⟩ => rowsB es.toList t
  | _ => false
abbrev AlU : Type := He.AlT × Bool
def obsU (fa : List He.Fa) (fn : List He.DefD) (ts : List He.Tab) (tb : List (Str × List (Str × Str))) (K : PySem.W.Frag) : AlU := (He.obsT fa fn ts K, tb.all fun p => tabB K (He.ga K p.1) p.2)
def valU (fn : List He.DefD) (ts : List He.Tab) (w : World) : AlU := (He.valT fn ts w, true)
def obsUG (n : Nat) (fa : List He.Fa) (fn : List He.DefD) (ts : List He.Tab) (tb : List (Str × List (Str × Str))) (g : Addr → Option Obj) : AlU := obsU fa fn ts tb (He.frG g (He.asD g n))
def SaysU (fa : List He.Fa) (fn : List He.DefD) (ts : List He.Tab) (tb : List (Str × List (Str × Str))) (w : World) (K : PySem.W.Frag) : Prop := obsU fa fn ts tb K = valU fn ts w
def hookU (n : Nat) (fa : List He.Fa) (fn : List He.DefD) (ts : List He.Tab) (tb : List (Str × List (Str × Str))) : PySem.W.Hook where
  α := AlU
  obs := fun s => obsUG n fa fn ts tb s.heap.get?
  val := fun w => valU fn ts w
  says := fun w h => ∃ K : PySem.W.Frag, K.In h ∧ SaysU fa fn ts tb w K
  of := fun _ _ e => ⟨_, He.frG_in, e⟩
  keeps := fun _ _ _ ⟨K, hK, c⟩ k => ⟨K, PySem.W.Frag.In.keeps hK k, c⟩
theorem obsUG_eq {n : Nat} {fa : List He.Fa} {fn : List He.DefD} {ts : List He.Tab} {tb : List (Str × List (Str × Str))} {g : Addr → Option Obj} {s : Shared} (h : ∀ a, g a = s.heap.get? a) : obsUG n fa fn ts tb g = (hookU n fa fn ts tb).obs s := by
  have e : g = s.heap.get? := funext h
  rw [e] <;> rfl
section
variable {fa : List He.Fa} {fn : List He.DefD} {ts : List He.Tab} {tb : List (Str × List (Str × Str))} {w : World} {K : PySem.W.Frag}
theorem SaysU.t (c : SaysU fa fn ts tb w K) : He.SaysT fa fn ts w K := congrArg (fun z : AlU => z.1) c
theorem SaysU.row (c : SaysU fa fn ts tb w K) {p : Str × List (Str × Str)} (hp : p ∈ tb) : tabB K (He.ga K p.1) p.2 = true := by
  have e : (tb.all fun p => tabB K (He.ga K p.1) p.2) = true := congrArg (fun z : AlU => z.2) c
  exact List.all_eq_true.mp e p hp
end
theorem find_rows {es : List DictEntry} {t : List (Str × Str)} (P : Paired (fun (e : DictEntry) (p : Str × Str) => (∃ tk, e.key = .str p.1 tk) ∧ ∃ tk, e.val = .str p.2 tk) es t) (x : Str) :
    (match kget t x with | some y => ∃ e tok, es.find? (·.key.isStr x) = some e ∧ e.val = .str y tok | none => es.find? (·.key.isStr x) = none) ∧ es.any (·.refKey) = false := by
  induction P with
  | nil => exact ⟨rfl, rfl⟩
  | @cons e p es t h r ih =>
    obtain ⟨⟨tk, e1⟩, tk2, e2⟩ := h
    obtain ⟨i1, i2⟩ := ih
    have hk : e.key.isStr x = decide (p.1 = x) := by
      rw [e1]
      show (p.1 == x) = decide (p.1 = x)
      by_cases h : p.1 = x
      · rw [decide_eq_true h, h]; exact beq_self_eq_true x
      · rw [decide_eq_false h]; exact beq_eq_false_iff_ne.mpr h
    refine ⟨?_, ?_⟩
    · by_cases hx : p.1 = x
      · have g1 : kget (p :: t) x = some p.2 := by simp [kget, hx]
        rw [g1]
        exact ⟨e, tk2, by rw [List.find?_cons, hk]; simp [hx], e2⟩
      · have g1 : kget (p :: t) x = kget t x := by simp [kget, hx]
        rw [g1]
        have g2 : (e :: es).find? (·.key.isStr x) = es.find? (·.key.isStr x) := by rw [List.find?_cons, hk]; simp [hx]
        rw [g2]
        exact i1
    · rw [List.any_cons, i2]
      have : e.refKey = false := by unfold DictEntry.refKey; rw [e1]
      rw [this]
      rfl
theorem nsIn_of {K : PySem.W.Frag} {a : Addr} {es : Array DictEntry} {n : Nat} (hl : K.lookup a = some ⟨.type "dict", none, .dict es n, #[]⟩) {t : List (Str × Str)}
    (P : Paired (fun (e : DictEntry) (p : Str × Str) => (∃ tk, e.key = .str p.1 tk) ∧ ∃ tk, e.val = .str p.2 tk) es.toList t) (x : Str) :
    ∃ r, PySem.W.nsIn K a x = some r ∧ (match kget t x with | some y => ∃ tok, r = some (.str y tok) | none => r = none) := by
  obtain ⟨h1, h2⟩ := find_rows P x
  unfold PySem.W.nsIn
  rw [hl]
  dsimp only
  cases hg : kget t x with
  | none =>
    rw [hg] at h1
    have h1 : es.toList.find? (·.key.isStr x) = none := h1
    rw [h1, h2]
    exact ⟨none, rfl, rfl⟩
  | some y =>
    rw [hg] at h1
    obtain ⟨e, tok, q1, q2⟩ := h1
    rw [q1]
    exact ⟨some e.val, rfl, tok, by rw [q2]⟩
/-- a table of the top -/
theorem tabK_of {K : PySem.W.Frag} {w : World} {a : Addr} {t : List (Str × Str)} (hk : ∃ es n, KDict K w a es n) (hr : tabB K a t = true) (nd : (t.map (·.1)).Nodup) (sm : t.length ≤ 1000) : TabK K w a t := by
  obtain ⟨es, n, D⟩ := hk
  have P : Paired (fun (e : DictEntry) (p : Str × Str) => (∃ tk, e.key = .str p.1 tk) ∧ ∃ tk, e.val = .str p.2 tk) es.toList t := by
    unfold tabB at hr
    rw [D.at_] at hr
    exact rowsB_ok hr
  exact ⟨⟨es, n, D⟩, nsIn_of D.at_ P, ⟨es, n, D, P⟩, nd, sm⟩
end G48

set_option maxHeartbeats 4000000
/-! Small facts for a law's glue. -/
namespace G48
open PySem PySem.Spec PyProof.Rows L2
theorem raise_none (Φ : CF) (np n : Nat) (io : Bool) (cls : Option (Nat × Str)) (ds : List D) : runF Φ ⟨np, n, io, cls, .cons .raise .nil⟩ ds = none := by
  unfold runF
  split
  · simp [evSs, evS, bnd]
  · rfl
theorem dead_none {Φ : CF} {ds : List D} : runF Φ ⟨0, 0, false, none, .cons .raise .nil⟩ ds = none := raise_none ..
theorem keep_def {fa : List He.Fa} {fn : List He.DefD} {ts : List He.Tab} {tb : List (Str × List (Str × Str))} {w : World} {K : PySem.W.Frag} (c : SaysU fa fn ts tb w K) (i : Nat) {d : He.DefD} (h : fn[i]? = some d) : PySem.W.keepIn K (.ref (He.fAd K d.at_)) = true := by
  obtain ⟨fd, Fd⟩ := c.t.d.def_ i h
  exact Fd.kp
end G48

set_option maxHeartbeats 1000000
/-! The evaluator, step by step: rules to simplify by. -/
namespace G48
open PySem
section
variable {α β : Type} {Φ : CF} {σ σ' : S}
theorem bnd_cg {m m' : Option (α × S)} {k : α → S → Option β} (h : m = m') : bnd m k = bnd m' k := by rw [h]
theorem bnd_s {a : α} {k : α → S → Option β} : bnd (some (a, σ)) k = k a σ := rfl
theorem bnd_n {k : α → S → Option β} : bnd (none : Option (α × S)) k = none := rfl
theorem bnd_ite {c : Prop} [Decidable c] {a b : Option (α × S)} {k : α → S → Option β} : bnd (if c then a else b) k = if c then bnd a k else bnd b k := by split <;> rfl
theorem ite_vl {c : Prop} [Decidable c] {a b : D} {σ : S} : (if c then some ((false, a), σ) else some ((false, b), σ)) = some ((false, if c then a else b), σ) := by split <;> rfl
theorem ite_bl {c : Prop} [Decidable c] {a b : Bool} : (if c then D.bl a else D.bl b) = D.bl (if c then a else b) := by split <;> rfl
theorem ite_int {c : Prop} [Decidable c] {a b : Int} : (if c then D.int a else D.int b) = D.int (if c then a else b) := by split <;> rfl
/-! slots -/
theorem sl_z {s : Sl} {l : S} : (s :: l)[0]? = some s := rfl
theorem sl_s {s : Sl} {l : S} {i : Nat} : (s :: l)[i + 1]? = l[i]? := rfl
theorem sl_n {i : Nat} : ([] : S)[i]? = none := rfl
theorem st_z {s t : Sl} {l : S} : (s :: l).set 0 t = t :: l := rfl
theorem st_s {s t : Sl} {l : S} {i : Nat} : (s :: l).set (i + 1) t = s :: l.set i t := rfl
theorem st_n {t : Sl} {i : Nat} : ([] : S).set i t = [] := rfl
theorem gd_z {s t : Sl} {l : S} : (s :: l).getD 0 t = s := rfl
theorem gd_s {s t : Sl} {l : S} {i : Nat} : (s :: l).getD (i + 1) t = l.getD i t := rfl
/-! continuations, by names -/
def varK (i : Nat) (σ : S) : Option Sl → Option (Res × S)
  | some (.va d) => some ((false, d), σ)
  | some (.ow d) => if d.isObj then none else some ((false, d), σ.set i (.va d))
  | _ => none
def tupK (ds : List D) (σ : S) : Option (Res × S) := if szOk ds.length then some ((false, .tup ds), σ) else none
def lstK (ds : List D) (σ : S) : Option (Res × S) := if szOk ds.length then some ((true, .lst ds), σ) else none
theorem tupK_ {ds : List D} : tupK ds σ = if szOk ds.length = true then some ((false, .tup ds), σ) else none := rfl
theorem lstK_ {ds : List D} : lstK ds σ = if szOk ds.length = true then some ((true, .lst ds), σ) else none := rfl
def optK (r : Option Res) (σ : S) : Option (Res × S) := match r with
  | some r => some (r, σ)
  | none => none
def prK (p : Pr) (ds : Option (List D)) (σ : S) : Option (Res × S) := match ds with
  | some ds => optK (prD p ds) σ
  | none => none
def andK (b : D) (m : Option (Res × S)) (σ : S) : Option (Res × S) := match b with
  | .bl true => m
  | .bl false => some ((false, .bl false), σ)
  | _ => none
def orK (b : D) (m : Option (Res × S)) (σ : S) : Option (Res × S) := match b with
  | .bl true => some ((false, .bl true), σ)
  | .bl false => m
  | _ => none
def notK (b : D) (σ : S) : Option (Res × S) := match b with
  | .bl b => some ((false, .bl (!b)), σ)
  | _ => none
def ifK {γ : Type} (b : Option Bool) (x y : Option γ) : Option γ := match b with
  | some true => x
  | some false => y
  | none => none
def chK2 (q : Pr) (y z : D) (σ : S) : Option (Res × S) := match prD q [y, z] with
  | some (_, .bl r) => some ((false, .bl r), σ)
  | _ => none
def chK (r : Option Res) (m : Option (Res × S)) (σ : S) : Option (Res × S) := match r with
  | some (_, .bl true) => m
  | some (_, .bl false) => some ((false, .bl false), σ)
  | _ => none
def slK (d : Option D) (lh : Option (Option Int × Option Int)) (σ : S) : Option (Res × S) := match d, lh with
  | some d, some (l, h) => optK (pSl d l h) σ
  | _, _ => none
theorem ob_non : D.isObj .non = false := rfl
theorem ob_bl {b : Bool} : D.isObj (.bl b) = false := rfl
theorem ob_int {b : Int} : D.isObj (.int b) = false := rfl
theorem ob_str {b : Str} : D.isObj (.str b) = false := rfl
theorem ob_tup {b : List D} : D.isObj (.tup b) = false := rfl
theorem ob_lst {b : List D} : D.isObj (.lst b) = false := rfl
theorem ob_scr {b : List Int} : D.isObj (.scr b) = false := rfl
theorem ob_dK {b : List (Key × D)} : D.isObj (.dK b) = false := rfl
theorem ob_dT {b : List (List Key × D)} : D.isObj (.dT b) = false := rfl
theorem ob_obj {c : Nat} {b : List (Str × D)} : D.isObj (.obj c b) = true := rfl
theorem ls_lst {b : List D} : isLst (some (.lst b)) = true := rfl
theorem ev_lit {d : D} : ev Φ (.lit d) σ = some ((false, d), σ) := rfl
theorem ev_var {i : Nat} : ev Φ (.var i) σ = varK i σ σ[i]? := rfl
theorem varK_va {i : Nat} {d : D} : varK i σ (some (.va d)) = some ((false, d), σ) := rfl
theorem varK_owl {i : Nat} {d : List D} : varK i σ (some (.ow (.lst d))) = some ((false, .lst d), σ.set i (.va (.lst d))) := rfl
theorem varK_owk {i : Nat} {d : List (Key × D)} : varK i σ (some (.ow (.dK d))) = some ((false, .dK d), σ.set i (.va (.dK d))) := rfl
theorem varK_owt {i : Nat} {d : List (List Key × D)} : varK i σ (some (.ow (.dT d))) = some ((false, .dT d), σ.set i (.va (.dT d))) := rfl
theorem ev_tup {es : Exs} : ev Φ (.tup es) σ = bnd (evs Φ es σ) tupK := rfl
theorem ev_lst {es : Exs} : ev Φ (.lst es) σ = bnd (evs Φ es σ) lstK := rfl
theorem ev_emp {t : Bool} : ev Φ (.emp t) σ = some ((true, if t then .dT [] else .dK []), σ) := rfl
def kPr (p : Pr) (os : List Opd) (σ : S) : Option (Res × S) := prK p (fetchs σ os) σ
theorem kPr_ {p : Pr} {os : List Opd} : kPr p os σ = prK p (fetchs σ os) σ := rfl
theorem evq_pr {p : Pr} {es : Exs} : ev Φ (.pr p es) σ = bnd (evOs Φ es σ) (kPr p) := rfl
def kSli2 (lo hi : Bool) (o : Opd) (ds : List D) (σ : S) : Option (Res × S) := slK (fetch σ o) (slArgs lo hi ds) σ
theorem kSli2_ {lo hi : Bool} {o : Opd} {ds : List D} : kSli2 lo hi o ds σ = slK (fetch σ o) (slArgs lo hi ds) σ := rfl
def kSli1 (Φ : CF) (lo hi : Bool) (es : Exs) (o : Opd) (σ : S) : Option (Res × S) := bnd (evs Φ es σ) (kSli2 lo hi o)
theorem kSli1_ {lo hi : Bool} {o : Opd} {es : Exs} : kSli1 Φ lo hi es o σ = bnd (evs Φ es σ) (kSli2 lo hi o) := rfl
theorem ev_sli {lo hi : Bool} {a : Ex} {es : Exs} : ev Φ (.sli lo hi a es) σ = bnd (opd a σ (bnd (ev Φ a σ) vl)) (kSli1 Φ lo hi es) := rfl
def kAnd (Φ : CF) (b : Ex) (r : Res) (σ : S) : Option (Res × S) := andK r.2 (ev Φ b σ) σ
theorem kAnd_ {b : Ex} {fl x : Bool} : kAnd Φ b (fl, .bl x) σ = if x = true then ev Φ b σ else some ((false, .bl false), σ) := by cases x <;> rfl
theorem ev_and {a b : Ex} : ev Φ (.and a b) σ = bnd (ev Φ a σ) (kAnd Φ b) := rfl
def kOr (Φ : CF) (b : Ex) (r : Res) (σ : S) : Option (Res × S) := orK r.2 (ev Φ b σ) σ
theorem kOr_ {b : Ex} {fl x : Bool} : kOr Φ b (fl, .bl x) σ = if x = true then some ((false, .bl true), σ) else ev Φ b σ := by cases x <;> rfl
theorem ev_or {a b : Ex} : ev Φ (.or a b) σ = bnd (ev Φ a σ) (kOr Φ b) := rfl
def kNot (r : Res) (σ : S) : Option (Res × S) := notK r.2 σ
theorem kNot_ {fl x : Bool} : kNot (fl, .bl x) σ = some ((false, .bl (!x)), σ) := rfl
theorem ev_not {a : Ex} : ev Φ (.not a) σ = bnd (ev Φ a σ) kNot := rfl
def kIfe (Φ : CF) (a b : Ex) (r : Res) (σ : S) : Option (Res × S) := ifK (tru r.2) (ev Φ a σ) (ev Φ b σ)
theorem kIfe_ {a b : Ex} {fl x : Bool} : kIfe Φ a b (fl, .bl x) σ = if x = true then ev Φ a σ else ev Φ b σ := by cases x <;> rfl
theorem kIfe_n {a b : Ex} {fl : Bool} : kIfe Φ a b (fl, .non) σ = ev Φ b σ := rfl
theorem ev_ife {c a b : Ex} : ev Φ (.ife c a b) σ = bnd (ev Φ c σ) (kIfe Φ a b) := rfl
def kCh3 (q : Pr) (y z : D) (σ : S) : Option (Res × S) := chK2 q y z σ
def chR (q : Pr) (Φ : CF) (c : Ex) (y : D) (r : Option Res) (σ : S) : Option (Res × S) := chK r (bnd (bnd (ev Φ c σ) vl) (kCh3 q y)) σ
theorem chR_ {q : Pr} {c : Ex} {y : D} {fl x : Bool} : chR q Φ c y (some (fl, .bl x)) σ = if x = true then bnd (bnd (ev Φ c σ) vl) (kCh3 q y) else some ((false, .bl false), σ) := by cases x <;> rfl
def chR2 (r : Option Res) (σ : S) : Option (Res × S) := match r with
  | some (_, .bl r) => some ((false, .bl r), σ)
  | _ => none
theorem chR2_ {fl x : Bool} : chR2 (some (fl, .bl x)) σ = some ((false, .bl x), σ) := rfl
theorem kCh3_ {q : Pr} {y z : D} : kCh3 q y z σ = chR2 (prD q [y, z]) σ := rfl
def kCh2 (Φ : CF) (p q : Pr) (c : Ex) (x y : D) (σ : S) : Option (Res × S) := chR q Φ c y (prD p [x, y]) σ
theorem kCh2_ {p q : Pr} {c : Ex} {x y : D} : kCh2 Φ p q c x y σ = chR q Φ c y (prD p [x, y]) σ := rfl
def kCh1 (Φ : CF) (p q : Pr) (b c : Ex) (x : D) (σ : S) : Option (Res × S) := bnd (bnd (ev Φ b σ) vl) (kCh2 Φ p q c x)
theorem kCh1_ {p q : Pr} {b c : Ex} {x : D} : kCh1 Φ p q b c x σ = bnd (bnd (ev Φ b σ) vl) (kCh2 Φ p q c x) := rfl
theorem ev_ch {p q : Pr} {a b c : Ex} : ev Φ (.ch p q a b c) σ = bnd (bnd (ev Φ a σ) vl) (kCh1 Φ p q b c) := rfl
def cioK (Φ : CF) (f : Nat) (os : List Opd) (σ : S) : Option (Res × S) := match os with
  | .inl i :: os => callIo Φ f i os σ
  | _ => none
theorem ev_callN {f : Nat} {es : Exs} : ev Φ (.call f none es) σ = bnd (evOs Φ es σ) (callNo Φ f) := rfl
theorem ev_callI {f j : Nat} {es : Exs} : ev Φ (.call f (some j) es) σ = bnd (evOs Φ es σ) (cioK Φ f) := rfl
theorem cioK_c {f i : Nat} {os : List Opd} : cioK Φ f (.inl i :: os) σ = callIo Φ f i os σ := rfl
/-- the call's end, no owner -/
def cnK (r : Option (Option D × Res)) (fl : Bool) (z : Option S) (σ : S) : Option (Res × S) := match r with
  | some (none, r) => if r.2.flat && (!r.1 && fl) then some (r, σ) else (match z with
      | some σ => some (r, σ)
      | none => none)
  | _ => none
def cnK0 (Φ : CF) (f : Nat) (os : List Opd) (σ : S) : Option (List D) → Option (Res × S)
  | none => none
  | some ds => cnK (Φ f ds) (ds.all fun d => !d.isObj) (frzs σ os) σ
theorem callNo_eq {f : Nat} {os : List Opd} : callNo Φ f os σ = cnK0 Φ f os σ (fetchs σ os) := by
  unfold callNo cnK0
  cases fetchs σ os with
  | none => rfl
  | some ds =>
    dsimp only
    unfold cnK
    rcases Φ f ds with _ | ⟨_ | _, r⟩ <;> first | rfl | (dsimp only; split <;> first | rfl | (cases frzs σ os <;> rfl))
theorem cnK0_s {f : Nat} {os : List Opd} {ds : List D} : cnK0 Φ f os σ (some ds) = cnK (Φ f ds) (ds.all fun d => !d.isObj) (frzs σ os) σ := rfl
/-- all operands stay as they are -/
theorem cnK_same {r : Res} {fl : Bool} : cnK (some (none, r)) fl (some σ) σ = some (r, σ) := by
  show (if r.2.flat && (!r.1 && fl) then some (r, σ) else some (r, σ)) = _
  rw [ite_self]
theorem cnK_int {i : Int} {z : Option S} : cnK (some (none, (false, .int i))) true z σ = some ((false, .int i), σ) := rfl
theorem cnK_bl {i : Bool} {z : Option S} : cnK (some (none, (false, .bl i))) true z σ = some ((false, .bl i), σ) := rfl
theorem cnK_non {z : Option S} : cnK (some (none, (false, .non))) true z σ = some ((false, .non), σ) := rfl
theorem cnK_str {i : Str} {z : Option S} : cnK (some (none, (false, .str i))) true z σ = some ((false, .str i), σ) := rfl
theorem cnK_tup {l : List D} {fl : Bool} {σ' : S} : cnK (some (none, (false, .tup l))) fl (some σ') σ = some ((false, .tup l), σ') := rfl
theorem cnK_lst {b : Bool} {l : List D} {fl : Bool} {σ' : S} : cnK (some (none, (b, .lst l))) fl (some σ') σ = some ((b, .lst l), σ') := rfl
theorem cnK_dK {b : Bool} {l : List (Key × D)} {fl : Bool} {σ' : S} : cnK (some (none, (b, .dK l))) fl (some σ') σ = some ((b, .dK l), σ') := rfl
theorem cnK_dT {b : Bool} {l : List (List Key × D)} {fl : Bool} {σ' : S} : cnK (some (none, (b, .dT l))) fl (some σ') σ = some ((b, .dT l), σ') := rfl
def ioK (r : Option (Option D × Res)) (z : Option S) (i : Nat) : Option (Res × S) := match r with
  | some (some o, r) => (match z with
    | some σ => (match sl2 σ i o with
      | some σ => some (r, σ)
      | none => none)
    | none => none)
  | _ => none
def ioK0 (Φ : CF) (f i : Nat) (os : List Opd) (σ : S) : Option (List D) → Option (Res × S)
  | none => none
  | some ds => ioK (Φ f ds) (frzs σ os) i
theorem callIo_eq {f i : Nat} {os : List Opd} : callIo Φ f i os σ = ioK0 Φ f i os σ (fetchs σ (.inl i :: os)) := by
  unfold callIo ioK0
  cases fetchs σ (.inl i :: os) with
  | none => rfl
  | some ds =>
    dsimp only
    unfold ioK
    rcases Φ f ds with _ | ⟨_ | o, r⟩ <;> first | rfl | (dsimp only; cases frzs σ os <;> rfl)
theorem ioK0_s {f i : Nat} {os : List Opd} {ds : List D} : ioK0 Φ f i os σ (some ds) = ioK (Φ f ds) (frzs σ os) i := rfl
def slr (z : Option S) (r : Res) : Option (Res × S) := match z with
  | some σ => some (r, σ)
  | none => none
theorem ioK_s {o : D} {r : Res} {i : Nat} : ioK (some (some o, r)) (some σ) i = slr (sl2 σ i o) r := by
  show (match sl2 σ i o with | some σ => some (r, σ) | none => none) = _
  unfold slr
  cases sl2 σ i o <;> rfl
theorem slr_s {r : Res} : slr (some σ) r = some (r, σ) := rfl
def slK2 (σ : S) (i : Nat) (o : D) : Option Sl → Option S
  | some (.ow _) => some (σ.set i (.ow o))
  | some (.io _) => some (σ.set i (.io o))
  | _ => none
theorem sl2_eq {i : Nat} {o : D} : sl2 σ i o = slK2 σ i o σ[i]? := by
  unfold sl2 slK2
  all_goals
    cases σ[i]? with
    | none => rfl
    | some s => cases s <;> rfl
theorem slK2_ow {i : Nat} {o d : D} : slK2 σ i o (some (.ow d)) = some (σ.set i (.ow o)) := rfl
theorem slK2_io {i : Nat} {o d : D} : slK2 σ i o (some (.io d)) = some (σ.set i (.io o)) := rfl
theorem ev_msl {f c i : Nat} {m : Str} {es : Exs} : ev Φ (.msl f c i m es) σ = if isCls c m (fetch σ (.inl i)) = true then bnd (evOs Φ es σ) (callIo Φ f i) else none := rfl
def mkK (r : Option (Option D × Res)) (σ : S) : Option (Res × S) := match r with
  | some (some o, (false, .non)) => some ((true, o), σ)
  | _ => none
def kMk (Φ : CF) (c f : Nat) (ds : List D) (σ : S) : Option (Res × S) := mkK (Φ f (.obj c [] :: ds)) σ
theorem kMk_ {c f : Nat} {ds : List D} : kMk Φ c f ds σ = mkK (Φ f (.obj c [] :: ds)) σ := rfl
theorem ev_mk {c f : Nat} {es : Exs} : ev Φ (.mk c f es) σ = bnd (evs Φ es σ) (kMk Φ c f) := rfl
theorem mkK_s {o : D} : mkK (some (some o, (false, .non))) σ = some ((true, o), σ) := rfl
def mcK2 (r : Option (Option D × Res)) (σ : S) : Option (Res × S) := match r with
  | some (some _, r) => some (r, σ)
  | _ => none
def kMc2 (Φ : CF) (f : Nat) (o : D) (ds : List D) (σ : S) : Option (Res × S) := mcK2 (Φ f (o :: ds)) σ
theorem kMc2_ {f : Nat} {o : D} {ds : List D} : kMc2 Φ f o ds σ = mcK2 (Φ f (o :: ds)) σ := rfl
def kMc (Φ : CF) (f : Nat) (es : Exs) (r : Res) (σ : S) : Option (Res × S) := match r with
  | (true, .obj c fs) => bnd (evs Φ es σ) (kMc2 Φ f (.obj c fs))
  | _ => none
theorem kMc_ {f c : Nat} {es : Exs} {fs : List (Str × D)} : kMc Φ f es (true, .obj c fs) σ = bnd (evs Φ es σ) (kMc2 Φ f (.obj c fs)) := rfl
theorem ev_mcall {f : Nat} {o : Ex} {es : Exs} : ev Φ (.mcall f o es) σ = bnd (ev Φ o σ) (kMc Φ f es) := by
  show bnd (ev Φ o σ) _ = _
  congr 1
theorem mcK2_s {o : D} {r : Res} : mcK2 (some (some o, r)) σ = some (r, σ) := rfl
def fldK (x : Str) (σ : S) : Option D → Option (Res × S)
  | some (.obj _ fs) => (match fs.lookup x with
    | some d => some ((false, d), σ)
    | none => none)
  | _ => none
theorem ev_fld {i : Nat} {x : Str} : ev Φ (.fld i x) σ = fldK x σ (fetch σ (.inl i)) := rfl
def vloK (r : Option D) (σ : S) : Option (Res × S) := match r with
  | some r => some ((false, r), σ)
  | none => none
theorem fldK_s {x : Str} {c : Nat} {fs : List (Str × D)} : fldK x σ (some (.obj c fs)) = vloK (fs.lookup x) σ := by
  show (match fs.lookup x with | some d => some ((false, d), σ) | none => none) = _
  unfold vloK
  cases fs.lookup x <;> rfl
theorem vloK_s {d : D} : vloK (some d) σ = some ((false, d), σ) := rfl
def cndF (Φ : CF) (c : Ex) (σ : S) : Option (Bool × S) := bnd (ev Φ c σ) fun r σ => match tru r.2 with
  | some b => some (b, σ)
  | none => none
def eltF (Φ : CF) (e : Ex) (σ : S) : Option (D × S) := bnd (ev Φ e σ) vl
def cmpK (own : List Nat) (σ : S) (l : List D) (σ' : S) : Option (Res × S) := if szOk l.length then some ((true, .lst l), unhide own σ σ') else none
def kCmp (Φ : CF) (elt : Ex) (tg : List Nat) (c : Ex) (own : List Nat) (ds : List D) (σ : S) : Option (Res × S) := if hidOk own σ = true then bnd (compF (eltF Φ elt) (cndF Φ c) tg own ds (hide own σ)) (cmpK own σ) else none
theorem kCmp_ {elt c : Ex} {tg own : List Nat} {ds : List D} : kCmp Φ elt tg c own ds σ = if hidOk own σ = true then bnd (compF (eltF Φ elt) (cndF Φ c) tg own ds (hide own σ)) (cmpK own σ) else none := rfl
theorem ev_comp {elt c : Ex} {tg own : List Nat} {it : It} : ev Φ (.comp elt tg it c own) σ = bnd (evIt Φ it σ) (kCmp Φ elt tg c own) := rfl
def popK (i : Nat) (k : Int) (σ : S) : Option Sl → Option (Res × S)
  | some (.ow (.lst l)) => (match ixN l.length k with
    | some j => (match l[j]? with
      | some d => if sm62 k then some ((false, d), σ.set i (.ow (.lst (l.eraseIdx j)))) else none
      | none => none)
    | none => none)
  | some (.io (.lst l)) => (match ixN l.length k with
    | some j => (match l[j]? with
      | some d => if sm62 k then some ((false, d), σ.set i (.io (.lst (l.eraseIdx j)))) else none
      | none => none)
    | none => none)
  | _ => none
def kPop2 (i : Nat) (r : D) (σ : S) : Option (Res × S) := match r with
  | .int k => popK i k σ σ[i]?
  | _ => none
theorem kPop2_ {i : Nat} {k : Int} : kPop2 i (.int k) σ = popK i k σ σ[i]? := rfl

theorem ev_pop {i : Nat} {e : Ex} : ev Φ (.pop i e) σ = if isLst (fetch σ (.inl i)) = true then bnd (bnd (ev Φ e σ) vl) (kPop2 i) else none := by
  show (if isLst (fetch σ (.inl i)) = true then bnd (bnd (ev Φ e σ) vl) _ else none) = _
  congr 2
  funext r σ
  cases r <;> first | rfl | skip
  show _ = popK i _ σ σ[i]?
  unfold popK
  rcases σ[i]? with _ | s
  · rfl
  · cases s with
    | ow d => cases d <;> rfl
    | io d => cases d <;> rfl
    | _ => rfl
theorem evs_nil : evs Φ .nil σ = some ([], σ) := rfl
def kEs2 (d : D) (ds : List D) (σ : S) : Option (List D × S) := some (d :: ds, σ)
theorem kEs2_ {d : D} {ds : List D} : kEs2 d ds σ = some (d :: ds, σ) := rfl
def kEs1 (Φ : CF) (es : Exs) (d : D) (σ : S) : Option (List D × S) := bnd (evs Φ es σ) (kEs2 d)
theorem kEs1_ {es : Exs} {d : D} : kEs1 Φ es d σ = bnd (evs Φ es σ) (kEs2 d) := rfl
theorem evs_cons {e : Ex} {es : Exs} : evs Φ (.cons e es) σ = bnd (bnd (ev Φ e σ) vl) (kEs1 Φ es) := rfl
theorem evOs_nil : evOs Φ .nil σ = some ([], σ) := rfl
def kOs2 (o : Opd) (os : List Opd) (σ : S) : Option (List Opd × S) := some (o :: os, σ)
theorem kOs2_ {o : Opd} {os : List Opd} : kOs2 o os σ = some (o :: os, σ) := rfl
def kOs1 (Φ : CF) (es : Exs) (o : Opd) (σ : S) : Option (List Opd × S) := bnd (evOs Φ es σ) (kOs2 o)
theorem kOs1_ {es : Exs} {o : Opd} : kOs1 Φ es o σ = bnd (evOs Φ es σ) (kOs2 o) := rfl
theorem evOs_cons {e : Ex} {es : Exs} : evOs Φ (.cons e es) σ = bnd (opd e σ (bnd (ev Φ e σ) vl)) (kOs1 Φ es) := rfl
theorem vl_f {d : D} : vl (false, d) σ = some (d, σ) := rfl
theorem vl_l {l : List D} {b : Bool} : vl (b, .lst l) σ = some (.lst l, σ) := by cases b <;> rfl
theorem vl_k {l : List (Key × D)} {b : Bool} : vl (b, .dK l) σ = some (.dK l, σ) := by cases b <;> rfl
theorem vl_t {l : List (List Key × D)} {b : Bool} : vl (b, .dT l) σ = some (.dT l, σ) := by cases b <;> rfl
def opK (i : Nat) (σ : S) : Option D → Option (Opd × S)
  | some _ => some (.inl i, σ)
  | none => none
def inr1 (d : D) (σ : S) : Option (Opd × S) := some (.inr d, σ)
theorem opd_var {i : Nat} {go : Option (D × S)} : opd (.var i) σ go = opK i σ (fetch σ (.inl i)) := rfl
theorem opK_s {i : Nat} {d : D} : opK i σ (some d) = some (.inl i, σ) := rfl
def isVarE : Ex → Bool
  | .var _ => true | _ => false
theorem opd_go {e : Ex} {go : Option (D × S)} (h : isVarE e = false) : opd e σ go = bnd go inr1 := by
  cases e <;> first | rfl | cases h
theorem inr1_s {d : D} : inr1 d σ = some (.inr d, σ) := rfl
def slG : Option Sl → Option D
  | some s => s.get
  | none => none
theorem fetch_l {i : Nat} : fetch σ (.inl i) = slG σ[i]? := by
  unfold fetch slG
  rfl
theorem fetch_r {d : D} : fetch σ (.inr d) = some d := rfl
theorem slG_va {d : D} : slG (some (.va d)) = some d := rfl
theorem slG_ow {d : D} : slG (some (.ow d)) = some d := rfl
theorem slG_io {d : D} : slG (some (.io d)) = some d := rfl
def consO (d : Option D) (r : Option (List D)) : Option (List D) := match d, r with
  | some d, some r => some (d :: r)
  | _, _ => none
theorem fetchs_nil : fetchs σ [] = some [] := rfl
theorem fetchs_cons {o : Opd} {os : List Opd} : fetchs σ (o :: os) = consO (fetch σ o) (fetchs σ os) := rfl
theorem consO_s {d : D} {r : List D} : consO (some d) (some r) = some (d :: r) := rfl
def frK (i : Nat) (σ : S) : Option Sl → Option S
  | some (.ow d) => if d.isObj then none else some (σ.set i (.va d))
  | some (.va _) => some σ
  | _ => none
def frB (z : Option S) (os : List Opd) : Option S := match z with
  | some σ => frzs σ os
  | none => none
theorem frzs_nil : frzs σ [] = some σ := rfl
theorem frzs_r {d : D} {os : List Opd} : frzs σ (.inr d :: os) = frzs σ os := rfl
theorem frzs_l {i : Nat} {os : List Opd} : frzs σ (.inl i :: os) = frB (frK i σ σ[i]?) os := by
  show (match frz1 σ (.inl i) with | some σ' => frzs σ' os | none => none) = _
  have e : frz1 σ (.inl i) = frK i σ σ[i]? := by
    unfold frz1 frK
    dsimp only
    all_goals
      cases σ[i]? with
      | none => rfl
      | some s => cases s <;> rfl
  rw [e]
  rfl
theorem frB_s {os : List Opd} : frB (some σ) os = frzs σ os := rfl
theorem frK_va {i : Nat} {d : D} : frK i σ (some (.va d)) = some σ := rfl
theorem frK_owl {i : Nat} {d : List D} : frK i σ (some (.ow (.lst d))) = some (σ.set i (.va (.lst d))) := rfl
theorem frK_owk {i : Nat} {d : List (Key × D)} : frK i σ (some (.ow (.dK d))) = some (σ.set i (.va (.dK d))) := rfl
theorem frK_owt {i : Nat} {d : List (List Key × D)} : frK i σ (some (.ow (.dT d))) = some (σ.set i (.va (.dT d))) := rfl
def ofK (r : D) (σ : S) : Option (List D × S) := match seqOf r with
  | some l => some (l, σ)
  | none => none
theorem it_of {e : Ex} : evIt Φ (.of e) σ = bnd (bnd (ev Φ e σ) vl) ofK := rfl
theorem ofK_lst {l : List D} : ofK (.lst l) σ = some (l, σ) := rfl
theorem ofK_tup {l : List D} : ofK (.tup l) σ = some (l, σ) := rfl
theorem ofK_scr {l : List Int} : ofK (.scr l) σ = some (l.map D.int, σ) := rfl
theorem ofK_str {l : Str} : ofK (.str l) σ = some (signs l, σ) := rfl
def lsK (r : Option (List D)) (σ : S) : Option (List D × S) := match r with
  | some l => some (l, σ)
  | none => none
theorem lsK_s {l : List D} : lsK (some l) σ = some (l, σ) := rfl
def kRng (ds : List D) (σ : S) : Option (List D × S) := lsK (rngOf ds) σ
theorem kRng_ {ds : List D} : kRng ds σ = lsK (rngOf ds) σ := rfl
theorem it_rng {es : Exs} : evIt Φ (.rng es) σ = bnd (evs Φ es σ) kRng := rfl
def kZip2 (x y : D) (σ : S) : Option (List D × S) := lsK (zipOk x y) σ
theorem kZip2_ {x y : D} : kZip2 x y σ = lsK (zipOk x y) σ := rfl
def kZip1 (Φ : CF) (b : Ex) (x : D) (σ : S) : Option (List D × S) := bnd (bnd (ev Φ b σ) vl) (kZip2 x)
theorem kZip1_ {b : Ex} {x : D} : kZip1 Φ b x σ = bnd (bnd (ev Φ b σ) vl) (kZip2 x) := rfl
theorem it_zip {a b : Ex} : evIt Φ (.zip a b) σ = bnd (bnd (ev Φ a σ) vl) (kZip1 Φ b) := rfl
def enK (x : D) (σ : S) : Option (List D × S) := match x with
  | .lst l => some (numEnum 0 l, σ)
  | _ => none
theorem it_enum {a : Ex} : evIt Φ (.enum a) σ = bnd (bnd (ev Φ a σ) vl) enK := rfl
theorem enK_s {l : List D} : enK (.lst l) σ = some (numEnum 0 l, σ) := rfl
/-! truths -/
theorem tru_bl {b : Bool} : tru (.bl b) = some b := rfl
theorem tru_non : tru .non = some false := rfl
theorem ifK_t {γ : Type} {x y : Option γ} : ifK (some true) x y = x := rfl
theorem ifK_f {γ : Type} {x y : Option γ} : ifK (some false) x y = y := rfl
theorem ifK_b {γ : Type} {b : Bool} {x y : Option γ} : ifK (some b) x y = if b = true then x else y := by cases b <;> rfl
theorem andK_t {m : Option (Res × S)} : andK (.bl true) m σ = m := rfl
theorem andK_f {m : Option (Res × S)} : andK (.bl false) m σ = some ((false, .bl false), σ) := rfl
theorem andK_b {a b fl : Bool} : andK (.bl a) (some ((false, .bl b), σ)) σ = some ((false, .bl (a && b)), σ) := by cases a <;> rfl
theorem andK_i {a : Bool} {m : Option (Res × S)} : andK (.bl a) m σ = if a = true then m else some ((false, .bl false), σ) := by cases a <;> rfl
theorem orK_t {m : Option (Res × S)} : orK (.bl true) m σ = some ((false, .bl true), σ) := rfl
theorem orK_f {m : Option (Res × S)} : orK (.bl false) m σ = m := rfl
theorem orK_b {a b : Bool} : orK (.bl a) (some ((false, .bl b), σ)) σ = some ((false, .bl (a || b)), σ) := by cases a <;> rfl
theorem orK_i {a : Bool} {m : Option (Res × S)} : orK (.bl a) m σ = if a = true then some ((false, .bl true), σ) else m := by cases a <;> rfl
theorem notK_b {b : Bool} : notK (.bl b) σ = some ((false, .bl (!b)), σ) := rfl
theorem chK_b {b b' fl : Bool} : chK (some (fl, .bl b)) (some ((false, .bl b'), σ)) σ = some ((false, .bl (b && b')), σ) := by cases b <;> rfl
theorem chK2_s {q : Pr} {y z : D} {fl b : Bool} (h : prD q [y, z] = some (fl, .bl b)) : chK2 q y z σ = some ((false, .bl b), σ) := by
  unfold chK2
  rw [h]
theorem optK_s {r : Res} : optK (some r) σ = some (r, σ) := rfl
theorem prK_s {p : Pr} {ds : List D} : prK p (some ds) σ = optK (prD p ds) σ := rfl
theorem slK_s {d : D} {l h : Option Int} : slK (some d) (some (l, h)) σ = optK (pSl d l h) σ := rfl
theorem slA_tt {i j : Int} : slArgs true true [.int i, .int j] = some (some i, some j) := rfl
theorem slA_tf {i : Int} : slArgs true false [.int i] = some (some i, none) := rfl
theorem slA_ft {i : Int} : slArgs false true [.int i] = some (none, some i) := rfl
theorem slA_ff : slArgs false false [] = some (none, none) := rfl
/-! statements -/
def sqK (Φ : CF) (ss : Sts) (f : Fl) (σ : S) : Option (Fl × S) := match f with
  | .nx => evSs Φ ss σ
  | f => some (f, σ)
theorem sqK_nx {ss : Sts} : sqK Φ ss .nx σ = evSs Φ ss σ := rfl
theorem sqK_rt {ss : Sts} {r : Res} : sqK Φ ss (.rt r) σ = some (.rt r, σ) := rfl
theorem ss_nil : evSs Φ .nil σ = some (.nx, σ) := rfl
theorem ss_cons {s : St} {ss : Sts} : evSs Φ (.cons s ss) σ = bnd (evS Φ s σ) (sqK Φ ss) := by
  show bnd (evS Φ s σ) _ = _
  congr 1
def setK (i : Nat) (r : Res) (σ : S) : Option (Fl × S) := if i < σ.length then some (.nx, σ.set i (if r.1 then .ow r.2 else .va r.2)) else none
theorem s_set {i : Nat} {e : Ex} : evS Φ (.set i e) σ = bnd (ev Φ e σ) (setK i) := rfl
theorem setK_f {i : Nat} {d : D} : setK i (false, d) σ = if i < σ.length then some (.nx, σ.set i (.va d)) else none := rfl
theorem setK_t {i : Nat} {d : D} : setK i (true, d) σ = if i < σ.length then some (.nx, σ.set i (.ow d)) else none := rfl
def nxK (z : Option S) : Option (Fl × S) := match z with
  | some σ => some (.nx, σ)
  | none => none
theorem nxK_s : nxK (some σ) = some (.nx, σ) := rfl
def stTK (is : List Nat) (r : D) (σ : S) : Option (Fl × S) := match r with
  | .tup l => nxK (asgs is l σ)
  | .lst l => nxK (asgs is l σ)
  | _ => none
theorem s_setT {is : List Nat} {e : Ex} : evS Φ (.setT is e) σ = bnd (bnd (ev Φ e σ) vl) (stTK is) := by
  show bnd _ _ = _
  congr 1
theorem stTK_tup {is : List Nat} {l : List D} : stTK is (.tup l) σ = nxK (asgs is l σ) := rfl
theorem stTK_lst {is : List Nat} {l : List D} : stTK is (.lst l) σ = nxK (asgs is l σ) := rfl
def kPar (is : List Nat) (rs : List Res) (σ : S) : Option (Fl × S) := nxK (setRs is rs σ)
theorem kPar_ {is : List Nat} {rs : List Res} : kPar is rs σ = nxK (setRs is rs σ) := rfl
theorem s_par {is : List Nat} {es : Exs} : evS Φ (.par is es) σ = bnd (evRs Φ es σ) (kPar is) := by
  show bnd _ _ = _
  congr 1
def fK {γ : Type} (m : Option γ) (b : Bool) : Option γ := if b then m else none
def appK2 (i : Nat) (r : D) (σ : S) : Option D → Option (Fl × S)
  | some (.lst l) => if decide (l.length < sizeLine) then nxK (sl2 σ i (.lst (l ++ [r]))) else none
  | _ => none
def kApp (i : Nat) (r : D) (σ : S) : Option (Fl × S) := appK2 i r σ (fetch σ (.inl i))
theorem kApp_ {i : Nat} {r : D} : kApp i r σ = appK2 i r σ (fetch σ (.inl i)) := rfl
theorem s_app {i : Nat} {e : Ex} : evS Φ (.app i e) σ = if isLst (fetch σ (.inl i)) = true then bnd (bnd (ev Φ e σ) vl) (kApp i) else none := by
  show (if isLst (fetch σ (.inl i)) then bnd _ _ else none) = _
  congr 2
theorem appK2_s {i : Nat} {r : D} {l : List D} : appK2 i r σ (some (.lst l)) = if l.length < sizeLine then nxK (sl2 σ i (.lst (l ++ [r]))) else none := by
  unfold appK2
  simp
def extK2 (i : Nat) (r : D) (σ : S) : Option D → Option (Fl × S)
  | some (.lst l) => (match r with
    | .lst m => if szOk (l.length + m.length) then nxK (sl2 σ i (.lst (l ++ m))) else none
    | _ => none)
  | _ => none
def kExt (i : Nat) (r : D) (σ : S) : Option (Fl × S) := extK2 i r σ (fetch σ (.inl i))
theorem kExt_ {i : Nat} {r : D} : kExt i r σ = extK2 i r σ (fetch σ (.inl i)) := rfl
theorem s_ext {i : Nat} {e : Ex} : evS Φ (.ext i e) σ = if isLst (fetch σ (.inl i)) = true then bnd (bnd (ev Φ e σ) vl) (kExt i) else none := by
  show (if isLst (fetch σ (.inl i)) then bnd _ _ else none) = _
  congr 2
  funext r σ
  unfold kExt extK2
  rcases fetch σ (.inl i) with _ | d
  · rfl
  · cases d <;> cases r <;> rfl
theorem extK2_s {i : Nat} {m l : List D} : extK2 i (.lst m) σ (some (.lst l)) = if szOk (l.length + m.length) then nxK (sl2 σ i (.lst (l ++ m))) else none := rfl
def putK2 (i : Nat) (c : Option D) (σ : S) : Option (Fl × S) := match c with
  | some c => nxK (sl2 σ i c)
  | none => none
def putK1 (i : Nat) (k r : D) (σ : S) : Option D → Option (Fl × S)
  | some c => putK2 i (put1 c k r) σ
  | none => none
def kPut2 (i : Nat) (r k : D) (σ : S) : Option (Fl × S) := putK1 i k r σ (fetch σ (.inl i))
theorem kPut2_ {i : Nat} {r k : D} : kPut2 i r k σ = putK1 i k r σ (fetch σ (.inl i)) := rfl
def kPut1 (Φ : CF) (i : Nat) (k : Ex) (r : D) (σ : S) : Option (Fl × S) := if (fetch σ (.inl i)).isSome = true then bnd (bnd (ev Φ k σ) vl) (kPut2 i r) else none
theorem kPut1_ {i : Nat} {k : Ex} {r : D} : kPut1 Φ i k r σ = if (fetch σ (.inl i)).isSome = true then bnd (bnd (ev Φ k σ) vl) (kPut2 i r) else none := rfl
theorem s_put {i : Nat} {k e : Ex} : evS Φ (.put i k e) σ = bnd (bnd (ev Φ e σ) vl) (kPut1 Φ i k) := by
  show bnd _ _ = _
  congr 1
theorem putK1_s {i : Nat} {k r c : D} : putK1 i k r σ (some c) = putK2 i (put1 c k r) σ := rfl
theorem putK2_s {i : Nat} {c : D} : putK2 i (some c) σ = nxK (sl2 σ i c) := rfl
def fstK (i : Nat) (x : Str) (r : D) (σ : S) : Option D → Option (Fl × S)
  | some (.obj c fs) => if decide (fs.length < 100) then nxK (sl2 σ i (.obj c (fput x r fs))) else none
  | _ => none
def kFst (i : Nat) (x : Str) (r : D) (σ : S) : Option (Fl × S) := fstK i x r σ (fetch σ (.inl i))
theorem kFst_ {i : Nat} {x : Str} {r : D} : kFst i x r σ = fstK i x r σ (fetch σ (.inl i)) := rfl
theorem s_fset {i : Nat} {x : Str} {e : Ex} : evS Φ (.fset i x e) σ = bnd (bnd (ev Φ e σ) vl) (kFst i x) := by
  show bnd _ _ = _
  congr 1
theorem fstK_s {i c : Nat} {x : Str} {r : D} {fs : List (Str × D)} : fstK i x r σ (some (.obj c fs)) = if fs.length < 100 then nxK (sl2 σ i (.obj c (fput x r fs))) else none := by
  unfold fstK
  simp
def nx1 (r : Res) (σ : S) : Option (Fl × S) := some (.nx, σ)
theorem s_ex {e : Ex} : evS Φ (.ex e) σ = bnd (ev Φ e σ) nx1 := rfl
theorem nx1_s {r : Res} : nx1 r σ = some (.nx, σ) := rfl
def kIf (Φ : CF) (a b : Sts) (t : Bool) (σ : S) : Option (Fl × S) := if t = true then evSs Φ a σ else evSs Φ b σ
theorem kIf_ {a b : Sts} {t : Bool} : kIf Φ a b t σ = if t = true then evSs Φ a σ else evSs Φ b σ := rfl
theorem s_ife {c : Ex} {a b : Sts} : evS Φ (.ife c a b) σ = bnd (evT Φ c σ) (kIf Φ a b) := by
  show bnd (evT Φ c σ) _ = _
  congr 1
  funext t σ
  cases t <;> rfl
def tK (b : Option Bool) (σ : S) : Option (Bool × S) := match b with
  | some b => some (b, σ)
  | none => none
def kT (r : Res) (σ : S) : Option (Bool × S) := tK (tru r.2) σ
theorem kT_b {fl x : Bool} : kT (fl, .bl x) σ = some (x, σ) := rfl
theorem kT_n {fl : Bool} : kT (fl, .non) σ = some (false, σ) := rfl
theorem evT_eq {c : Ex} : evT Φ c σ = bnd (ev Φ c σ) kT := rfl
theorem cndF_eq {c : Ex} : cndF Φ c σ = bnd (ev Φ c σ) kT := rfl
theorem eltF_eq {e : Ex} : eltF Φ e σ = bnd (ev Φ e σ) vl := rfl
theorem tK_s {b : Bool} : tK (some b) σ = some (b, σ) := rfl
def kLoop (Φ : CF) (tg : List Nat) (b : Sts) (ds : List D) (σ : S) : Option (Fl × S) := loopF (evSs Φ b) tg ds σ
theorem kLoop_ {tg : List Nat} {b : Sts} {ds : List D} : kLoop Φ tg b ds σ = loopF (evSs Φ b) tg ds σ := rfl
theorem s_loop {tg : List Nat} {it : It} {b : Sts} : evS Φ (.loop tg it b) σ = bnd (evIt Φ it σ) (kLoop Φ tg b) := rfl
theorem s_whl {c : Ex} {b : Sts} : evS Φ (.whl c b) σ = whlF (evT Φ c) (evSs Φ b) whlMax σ := rfl
def rtK (r : Res) (σ : S) : Option (Fl × S) := some (.rt r, σ)
def rtV (i : Nat) (σ : S) : Option Sl → Option (Fl × S)
  | some (.ow d) => some (.rt (true, d), σ.set i .no)
  | some (.va d) => some (.rt (false, d), σ)
  | _ => none
theorem s_retV {i : Nat} : evS Φ (.ret (.var i)) σ = rtV i σ σ[i]? := rfl
theorem rtV_ow {i : Nat} {d : D} : rtV i σ (some (.ow d)) = some (.rt (true, d), σ.set i .no) := rfl
theorem rtV_va {i : Nat} {d : D} : rtV i σ (some (.va d)) = some (.rt (false, d), σ) := rfl
theorem s_ret {e : Ex} (h : isVarE e = false) : evS Φ (.ret e) σ = bnd (ev Φ e σ) rtK := by
  cases e <;> first | rfl | cases h
theorem rtK_s {r : Res} : rtK r σ = some (.rt r, σ) := rfl
theorem s_retN : evS Φ .retN σ = some (.rt (false, .non), σ) := rfl
theorem s_pass : evS Φ .pass σ = some (.nx, σ) := rfl
theorem s_raise : evS Φ .raise σ = none := rfl
theorem evRs_nil : evRs Φ .nil σ = some ([], σ) := rfl
def kRs2 (r : Res) (rs : List Res) (σ : S) : Option (List Res × S) := some (r :: rs, σ)
theorem kRs2_ {r : Res} {rs : List Res} : kRs2 r rs σ = some (r :: rs, σ) := rfl
def kRs1 (Φ : CF) (es : Exs) (r : Res) (σ : S) : Option (List Res × S) := bnd (evRs Φ es σ) (kRs2 r)
theorem kRs1_ {es : Exs} {r : Res} : kRs1 Φ es r σ = bnd (evRs Φ es σ) (kRs2 r) := rfl
theorem evRs_cons {e : Ex} {es : Exs} : evRs Φ (.cons e es) σ = bnd (ev Φ e σ) (kRs1 Φ es) := rfl
theorem setRs_nil : setRs [] [] σ = some σ := rfl
theorem setRs_f {i : Nat} {is : List Nat} {d : D} {rs : List Res} : setRs (i :: is) ((false, d) :: rs) σ = if i < σ.length then setRs is rs (σ.set i (.va d)) else none := rfl
theorem setRs_t {i : Nat} {is : List Nat} {d : D} {rs : List Res} : setRs (i :: is) ((true, d) :: rs) σ = if i < σ.length then setRs is rs (σ.set i (.ow d)) else none := rfl
theorem asg_1 {i : Nat} {d : D} : asg [i] d σ = if i < σ.length then some (σ.set i (.va d)) else none := rfl
theorem asg_2t {i j : Nat} {is : List Nat} {l : List D} : asg (i :: j :: is) (.tup l) σ = asgs (i :: j :: is) l σ := rfl
theorem asg_2l {i j : Nat} {is : List Nat} {l : List D} : asg (i :: j :: is) (.lst l) σ = asgs (i :: j :: is) l σ := rfl
theorem asgs_nil : asgs [] [] σ = some σ := rfl
def asK (is : List Nat) (ds : List D) (z : Option S) : Option S := match z with
  | some σ => asgs is ds σ
  | none => none
theorem asgs_cons {i : Nat} {is : List Nat} {d : D} {ds : List D} : asgs (i :: is) (d :: ds) σ = if i < σ.length then asgs is ds (σ.set i (.va d)) else none := by
  show (match (if i < σ.length then some (σ.set i (.va d)) else none) with | some σ' => asgs is ds σ' | none => none) = _
  by_cases h : i < σ.length
  · rw [if_pos h, if_pos h]
  · rw [if_neg h, if_neg h]
/-! loops over what is known -/
def lpK (body : S → Option (Fl × S)) (tg : List Nat) (ds : List D) (f : Fl) (σ : S) : Option (Fl × S) := match f with
  | .nx => loopF body tg ds σ
  | .ct => loopF body tg ds σ
  | .bk => some (.nx, σ)
  | .rt r => some (.rt r, σ)
def lp0 (body : S → Option (Fl × S)) (tg : List Nat) (ds : List D) (z : Option S) : Option (Fl × S) := match z with
  | none => none
  | some σ1 => bnd (body σ1) (lpK body tg ds)
theorem loop_nil {body : S → Option (Fl × S)} {tg : List Nat} : loopF body tg [] σ = some (.nx, σ) := rfl
theorem loop_cons {body : S → Option (Fl × S)} {tg : List Nat} {d : D} {ds : List D} : loopF body tg (d :: ds) σ = lp0 body tg ds (asg tg d σ) := by
  show (match asg tg d σ with | none => none | some σ1 => bnd (body σ1) _) = _
  unfold lp0
  cases asg tg d σ with
  | none => rfl
  | some σ1 =>
    show bnd _ _ = bnd _ _
    congr 1
theorem lp0_s {body : S → Option (Fl × S)} {tg : List Nat} {ds : List D} : lp0 body tg ds (some σ) = bnd (body σ) (lpK body tg ds) := rfl
theorem lpK_nx {body : S → Option (Fl × S)} {tg : List Nat} {ds : List D} : lpK body tg ds .nx σ = loopF body tg ds σ := rfl
theorem lpK_rt {body : S → Option (Fl × S)} {tg : List Nat} {ds : List D} {r : Res} : lpK body tg ds (.rt r) σ = some (.rt r, σ) := rfl
/-! comprehensions over what is known -/
def kCp2 (r : D) (l : List D) (σ : S) : Option (List D × S) := some (r :: l, σ)
theorem kCp2_ {r : D} {l : List D} : kCp2 r l σ = some (r :: l, σ) := rfl
def kCp1 (elt : S → Option (D × S)) (cond : S → Option (Bool × S)) (tg own : List Nat) (ds : List D) (r : D) (σ : S) : Option (List D × S) := bnd (compF elt cond tg own ds (hide own σ)) (kCp2 r)
theorem kCp1_ {elt : S → Option (D × S)} {cond : S → Option (Bool × S)} {tg own : List Nat} {ds : List D} {r : D} : kCp1 elt cond tg own ds r σ = bnd (compF elt cond tg own ds (hide own σ)) (kCp2 r) := rfl
def kCp0 (elt : S → Option (D × S)) (cond : S → Option (Bool × S)) (tg own : List Nat) (ds : List D) (b : Bool) (σ : S) : Option (List D × S) := if b = true then bnd (elt σ) (kCp1 elt cond tg own ds) else compF elt cond tg own ds (hide own σ)
theorem kCp0_ {elt : S → Option (D × S)} {cond : S → Option (Bool × S)} {tg own : List Nat} {ds : List D} {b : Bool} : kCp0 elt cond tg own ds b σ = if b = true then bnd (elt σ) (kCp1 elt cond tg own ds) else compF elt cond tg own ds (hide own σ) := rfl
def cp0 (elt : S → Option (D × S)) (cond : S → Option (Bool × S)) (tg own : List Nat) (ds : List D) (z : Option S) : Option (List D × S) := match z with
  | none => none
  | some σ1 => bnd (cond σ1) (kCp0 elt cond tg own ds)
theorem comp_nil {elt : S → Option (D × S)} {cond : S → Option (Bool × S)} {tg own : List Nat} : compF elt cond tg own [] σ = some ([], σ) := rfl
theorem comp_cons {elt : S → Option (D × S)} {cond : S → Option (Bool × S)} {tg own : List Nat} {d : D} {ds : List D} : compF elt cond tg own (d :: ds) σ = cp0 elt cond tg own ds (asg tg d σ) := by
  show (match asg tg d σ with | none => none | some σ1 => bnd (cond σ1) _) = _
  unfold cp0
  cases asg tg d σ with
  | none => rfl
  | some σ1 =>
    show bnd _ _ = bnd _ _
    congr 1
    funext b σ2
    cases b <;> rfl
theorem cp0_s {elt : S → Option (D × S)} {cond : S → Option (Bool × S)} {tg own : List Nat} {ds : List D} : cp0 elt cond tg own ds (some σ) = bnd (cond σ) (kCp0 elt cond tg own ds) := rfl
theorem hide_nil : hide [] σ = σ := rfl
theorem hide_cons {i : Nat} {is : List Nat} : hide (i :: is) σ = hide is (σ.set i .no) := rfl
theorem unhide_nil : unhide [] σ σ' = σ' := rfl
theorem unhide_cons {i : Nat} {is : List Nat} : unhide (i :: is) σ σ' = unhide is σ (σ'.set i (σ.getD i .no)) := rfl
def hidO : Option Sl → Bool
  | some .no => true | some (.va _) => true | _ => false
theorem hidOk_nil : hidOk [] σ = true := rfl
theorem hidOk_cons {i : Nat} {is : List Nat} : hidOk (i :: is) σ = (hidO σ[i]? && hidOk is σ) := by
  unfold hidOk hidO
  rw [List.all_cons]
  all_goals rfl
theorem hidO_no : hidO (some .no) = true := rfl
theorem hidO_va {d : D} : hidO (some (.va d)) = true := rfl
theorem cmpK_s {own : List Nat} {l : List D} : cmpK own σ l σ' = if szOk l.length then some ((true, .lst l), unhide own σ σ') else none := rfl
/-! defs -/
def ouK (r : Res) : Option Sl → Option (Option D × Res)
  | some (.io d) => some (some d, r)
  | _ => none
theorem ouK_s {r : Res} {d : D} : ouK r (some (.io d)) = some (some d, r) := rfl
def outB (io : Bool) (r : Res) (σ : S) : Option (Option D × Res) := match io with
  | false => some (none, r)
  | true => ouK r σ[0]?
theorem outB_f {r : Res} : outB false r σ = some (none, r) := rfl
theorem outB_t {r : Res} : outB true r σ = ouK r σ[0]? := rfl
def endB (io : Bool) (z : Option (Fl × S)) : Option (Option D × Res) := match z with
  | some (.rt r, σ) => outB io r σ
  | some (.nx, σ) => outB io (false, .non) σ
  | _ => none
theorem outB_eq {fd : FD} {r : Res} : outOf fd r σ = outB fd.io r σ := by
  unfold outOf outB ouK
  cases fd.io with
  | false => rfl
  | true =>
    dsimp only
    all_goals
      cases σ[0]? with
      | none => rfl
      | some s => cases s <;> rfl
def startB (io : Bool) (np n : Nat) (ds : List D) : S := (match io, ds with
  | true, d :: r => .io d :: r.map .va
  | _, ds => ds.map .va) ++ List.replicate (n - np) .no
theorem startB_f {np n : Nat} {ds : List D} : startB false np n ds = ds.map .va ++ List.replicate (n - np) .no := rfl
theorem startB_t {np n : Nat} {d : D} {ds : List D} : startB true np n (d :: ds) = .io d :: (ds.map .va ++ List.replicate (n - np) .no) := rfl
theorem runF_eq {fd : FD} {ds : List D} (h1 : ds.length = fd.np) (h2 : clsOk fd ds = true) : runF Φ fd ds = endB fd.io (evSs Φ fd.body (startB fd.io fd.np fd.n ds)) := by
  unfold runF endB
  rw [if_pos ⟨h1, h2⟩]
  rw [show startB fd.io fd.np fd.n ds = start fd ds from rfl]
  rcases evSs Φ fd.body (start fd ds) with _ | ⟨f, σ⟩
  · rfl
  · cases f <;> first | rfl | exact outB_eq
theorem endB_rt {io : Bool} {r : Res} : endB io (some (.rt r, σ)) = outB io r σ := rfl
theorem endB_nx {io : Bool} : endB io (some (.nx, σ)) = outB io (false, .non) σ := rfl
theorem endB_ite {io : Bool} {c : Prop} [Decidable c] {a b : Option (Fl × S)} : endB io (if c then a else b) = if c then endB io a else endB io b := by split <;> rfl
/-! what ifs come to -/
theorem if_andE {x y : Bool} : (if x = true then some ((false, D.bl y), σ) else some ((false, D.bl false), σ)) = some ((false, D.bl (x && y)), σ) := by cases x <;> rfl
theorem if_orE {x y : Bool} : (if x = true then some ((false, D.bl true), σ) else some ((false, D.bl y), σ)) = some ((false, D.bl (x || y)), σ) := by cases x <;> rfl
theorem if_some {c : Prop} [Decidable c] {x y : α} : (if c then some x else some y) = some (if c then x else y) := by split <;> rfl
end
end G48

set_option maxHeartbeats 1000000
/-! What primitives come to. -/
namespace G48
open PySem
section
variable {i j k : Int} {x y : Str} {b c : Bool} {l m : List D} {d e : D}
theorem p_add : prD .add [.int i, .int j] = some (false, .int (i + j)) := rfl
theorem p_sub : prD .sub [.int i, .int j] = some (false, .int (i - j)) := rfl
theorem p_mulR (h : big64 j = true) : prD .mul [.int i, .int j] = some (false, .int (i * j)) := by
  show (if big64 i || big64 j then some (false, D.int (i * j)) else none) = _
  rw [h, Bool.or_true, if_pos rfl]
theorem p_mulL (h : big64 i = true) : prD .mul [.int i, .int j] = some (false, .int (i * j)) := by
  show (if big64 i || big64 j then some (false, D.int (i * j)) else none) = _
  rw [h, Bool.true_or, if_pos rfl]
theorem p_fdiv (h : 0 < j) (h' : j < 1073741824) : prD .fdiv [.int i, .int j] = some (false, .int (i / j)) := by
  show ((if decide (0 < j) && decide (j < 1073741824) then some (D.int (i / j)) else none).map fun d => (false, d)) = _
  rw [decide_eq_true h, decide_eq_true h']; rfl
theorem p_mod (h : 0 < j) : prD .mod [.int i, .int j] = some (false, .int (i % j)) := by
  show ((if decide (0 < j) then some (D.int (i % j)) else none).map fun d => (false, d)) = _
  rw [decide_eq_true h]; rfl
theorem p_pow {n : Int} (h0 : (0 : Int) ≤ j) (h : j ≤ 1000000) (h' : i.natAbs < 2 ^ 64) (e : i ^ j.toNat = n) : prD .pow [.int i, .int j] = some (false, .int n) := by
  show ((if decide (0 ≤ j) && (decide (j ≤ 1000000) && decide (i.natAbs < 2 ^ 64)) then some (D.int (i ^ j.toNat)) else none).map fun d => (false, d)) = _
  rw [decide_eq_true h0, decide_eq_true h, decide_eq_true h', e]; rfl
theorem p_pow18 : prD .pow [.int 10, .int 18] = some (false, .int 1000000000000000000) := p_pow (by decide) (by decide) (by decide) (by decide)
theorem p_pow20 : prD .pow [.int 10, .int 20] = some (false, .int 100000000000000000000) := p_pow (by decide) (by decide) (by decide) (by decide)
theorem p_neg : prD .neg [.int i] = some (false, .int (-i)) := rfl
theorem p_addL (h : l.length + m.length ≤ sizeLine) : prD .add [.lst l, .lst m] = some (true, .lst (l ++ m)) := by
  show (if szOk (l.length + m.length) then some (true, D.lst (l ++ m)) else none) = _
  rw [show szOk (l.length + m.length) = true from decide_eq_true h]; rfl
theorem p_addT (h : l.length + m.length ≤ sizeLine) : prD .add [.tup l, .tup m] = some (false, .tup (l ++ m)) := by
  show (if szOk (l.length + m.length) then some (false, D.tup (l ++ m)) else none) = _
  rw [show szOk (l.length + m.length) = true from decide_eq_true h]; rfl
theorem p_eqI : prD .eq [.int i, .int j] = some (false, .bl (decide (i = j))) := by
  rfl
theorem p_neI : prD .ne [.int i, .int j] = some (false, .bl (!decide (i = j))) := rfl
theorem p_lt : prD .lt [.int i, .int j] = some (false, .bl (decide (i < j))) := rfl
theorem p_le : prD .le [.int i, .int j] = some (false, .bl (decide (i ≤ j))) := rfl
theorem p_gt : prD .gt [.int i, .int j] = some (false, .bl (decide (j < i))) := rfl
theorem p_ge : prD .ge [.int i, .int j] = some (false, .bl (decide (j ≤ i))) := rfl
theorem eqD_str (hx : PyData.strOk x = true) (hy : PyData.strOk y = true) : eqD (.str x) (.str y) = some (decide (x = y)) := by
  have h : ∀ z : Str, PyData.strOk z = true → SeqAt.shaped (.str z) = true := fun z hz => by
    unfold SeqAt.shaped
    simp [PyData.canLay0, hz, PyData.depth]
  show (if true && (true && (SeqAt.shaped (.str x) && SeqAt.shaped (.str y))) then some (x == y) else none) = _
  rw [h x hx, h y hy]
  rfl
theorem p_eqS (hx : PyData.strOk x = true) (hy : PyData.strOk y = true) : prD .eq [.str x, .str y] = some (false, .bl (decide (x = y))) := by
  show (eqD _ _).map _ = _
  rw [eqD_str hx hy]; rfl
theorem p_neS (hx : PyData.strOk x = true) (hy : PyData.strOk y = true) : prD .ne [.str x, .str y] = some (false, .bl (!decide (x = y))) := by
  show (eqD _ _).map _ = _
  rw [eqD_str hx hy]; rfl
theorem p_eqD (h : eqD d e = some b) : prD .eq [d, e] = some (false, .bl b) := by
  show (eqD _ _).map _ = _
  rw [h]; rfl
theorem p_neD (h : eqD d e = some b) : prD .ne [d, e] = some (false, .bl (!b)) := by
  show (eqD _ _).map _ = _
  rw [h]; rfl
theorem p_eqNil : prD .eq [.lst [], .lst []] = some (false, .bl true) := rfl
theorem p_neNil : prD .ne [.lst [], .lst []] = some (false, .bl false) := rfl
theorem p_isN_non : prD .isN [.non] = some (false, .bl true) := rfl
theorem p_isN_bl : prD .isN [.bl b] = some (false, .bl false) := rfl
theorem p_isN_int : prD .isN [.int i] = some (false, .bl false) := rfl
theorem p_isN_str : prD .isN [.str x] = some (false, .bl false) := rfl
theorem p_isN_tup : prD .isN [.tup l] = some (false, .bl false) := rfl
theorem p_isN_lst : prD .isN [.lst l] = some (false, .bl false) := rfl
theorem p_notN_non : prD .notN [.non] = some (false, .bl false) := rfl
theorem p_notN_bl : prD .notN [.bl b] = some (false, .bl true) := rfl
theorem p_notN_int : prD .notN [.int i] = some (false, .bl true) := rfl
theorem p_notN_tup : prD .notN [.tup l] = some (false, .bl true) := rfl
theorem p_isB_bl : prD .isB [.bl b, .bl c] = some (false, .bl (decide (b = c))) := rfl
theorem p_isB_non : prD .isB [.non, .bl c] = some (false, .bl false) := rfl
theorem p_notB_bl : prD .notB [.bl b, .bl c] = some (false, .bl (!decide (b = c))) := rfl
theorem p_notB_non : prD .notB [.non, .bl c] = some (false, .bl true) := rfl
theorem p_ty {t : Ty} (h : isTy t d = some b) : prD (.isI t) [d] = some (false, .bl b) := by
  show (isTy t d).map _ = _
  rw [h]; rfl
theorem p_lenL : prD .len [.lst l] = some (false, .int l.length) := rfl
theorem p_lenT : prD .len [.tup l] = some (false, .int l.length) := rfl
theorem p_lenSc {s : List Int} : prD .len [.scr s] = some (false, .int s.length) := rfl
theorem p_toIntI : prD .toInt [.int i] = some (false, .int i) := rfl
theorem p_toIntB : prD .toInt [.bl b] = some (false, .int (if b then 1 else 0)) := rfl
theorem p_toTupL : prD .toTup [.lst l] = some (false, .tup l) := rfl
theorem p_toTupT : prD .toTup [.tup l] = some (false, .tup l) := rfl
theorem p_toLstL : prD .toLst [.lst l] = some (true, .lst l) := rfl
theorem p_toLstT : prD .toLst [.tup l] = some (true, .lst l) := rfl
theorem p_min2 : prD .min2 [.int i, .int j] = some (false, .int (if j < i then j else i)) := rfl
theorem p_max2 : prD .max2 [.int i, .int j] = some (false, .int (if j > i then j else i)) := rfl
theorem atI_nat {α : Type} {xs : List α} {n : Nat} {a : α} (h : xs[n]? = some a) : atI xs (n : Int) = some a := by
  have := (List.getElem?_eq_some_iff.mp h).1
  unfold atI ixN
  rw [if_pos (by omega), if_pos (by omega)]
  exact h
theorem atI_ok {α : Type} {xs : List α} {a : α} (h0 : 0 ≤ i) (h : xs[i.toNat]? = some a) : atI xs i = some a := by
  obtain ⟨n, rfl⟩ := Int.eq_ofNat_of_zero_le h0
  exact atI_nat h
theorem p_idxL (h0 : 0 ≤ i) (h : l[i.toNat]? = some d) : prD .idx [.lst l, .int i] = some (false, d) := by
  show (atI l i).map _ = _
  rw [atI_ok h0 h]; rfl
theorem p_idxT (h0 : 0 ≤ i) (h : l[i.toNat]? = some d) : prD .idx [.tup l, .int i] = some (false, d) := by
  show (atI l i).map _ = _
  rw [atI_ok h0 h]; rfl
/-! of literal places -/
theorem at0 {α : Type} {a : α} {l : List α} : atI (a :: l) 0 = some a := atI_nat (n := 0) rfl
theorem at1 {α : Type} {a b : α} {l : List α} : atI (a :: b :: l) 1 = some b := atI_nat (n := 1) rfl
theorem at2 {α : Type} {a b c : α} {l : List α} : atI (a :: b :: c :: l) 2 = some c := atI_nat (n := 2) rfl
theorem at3 {α : Type} {a b c d : α} {l : List α} : atI (a :: b :: c :: d :: l) 3 = some d := atI_nat (n := 3) rfl
theorem at4 {α : Type} {a b c d e : α} {l : List α} : atI (a :: b :: c :: d :: e :: l) 4 = some e := atI_nat (n := 4) rfl
def fD (d : Option D) : Option Res := match d with
  | some d => some (false, d)
  | none => none
theorem fD_s : fD (some d) = some (false, d) := rfl
theorem p_idxLa : prD .idx [.lst l, .int i] = fD (atI l i) := by
  show (atI l i).map _ = _
  unfold fD; cases atI l i <;> rfl
theorem p_idxTa : prD .idx [.tup l, .int i] = fD (atI l i) := by
  show (atI l i).map _ = _
  unfold fD; cases atI l i <;> rfl
theorem p_idxS {s : List Int} : prD .idx [.scr s, .int i] = fD ((atI s i).map D.int) := by
  show (atI s i).map _ = _
  unfold fD; cases atI s i <;> rfl
def blK (b : Option Bool) : Option Res := match b with
  | some b => some (false, .bl b)
  | none => none
def nbK (b : Option Bool) : Option Res := match b with
  | some b => some (false, .bl (!b))
  | none => none
theorem blK_s : blK (some b) = some (false, .bl b) := rfl
theorem nbK_s : nbK (some b) = some (false, .bl (!b)) := rfl
theorem p_in : prD .isIn [d, e] = blK (inD d e) := by
  show (inD d e).map _ = _
  unfold blK; cases inD d e <;> rfl
theorem p_nin : prD .notIn [d, e] = nbK (inD d e) := by
  show (inD d e).map _ = _
  unfold nbK; cases inD d e <;> rfl
theorem p_tIn {t : List (Str × Str)} : prD (.tIn t) [.str x] = some (false, .bl (kget t x).isSome) := rfl
theorem p_tNotIn {t : List (Str × Str)} : prD (.tNotIn t) [.str x] = some (false, .bl (!(kget t x).isSome)) := rfl
theorem p_tGet {t : List (Str × Str)} (h : kget t x = some y) : prD (.tGet t) [.str x] = some (false, .str y) := by
  show (kget t x).map _ = _
  rw [h]; rfl
theorem p_tDct {t : List (Str × Str)} : prD (.tDct t) [] = some (true, .dK (tabK t)) := rfl
theorem pSl_t {lo hi : Option Int} : pSl (.tup l) lo hi = some (false, .tup (cutL l lo hi)) := rfl
theorem pSl_l {lo hi : Option Int} : pSl (.lst l) lo hi = some (true, .lst (cutL l lo hi)) := rfl
theorem cut_from {α : Type} {l : List α} {n : Nat} (h : n ≤ l.length) : cutL l (some (n : Int)) none = l.drop n := by
  have e : sIx l.length 0 (some (n : Int)) = n := by
    show (if (n : Int) < 0 then ((n : Int) + (l.length : Int)).toNat else min (n : Int).toNat l.length) = n
    rw [if_neg (by omega)]
    simp; omega
  unfold cutL
  rw [e]
  exact List.take_of_length_le (by simp [sIx])
theorem cut1 {α : Type} {a : α} {l : List α} : cutL (a :: l) (some 1) none = l := cut_from (n := 1) (by simp)
theorem cut3 {α : Type} {a b c : α} {l : List α} : cutL (a :: b :: c :: l) (some 3) none = l := cut_from (n := 3) (by simp)
theorem szOk_of {n : Nat} (h : n ≤ sizeLine) : szOk n = true := decide_eq_true h
theorem sz24 : sizeLine = 16777216 := rfl
theorem szOk_k {n : Nat} (h : n ≤ 16777216) : szOk n = true := decide_eq_true (Nat.le_trans h (Nat.le_of_eq sz24.symm))
theorem p_is_int_int : prD (.isI .int) [.int i] = some (false, .bl true) := rfl
theorem p_is_int_bool : prD (.isI .int) [.bl b] = some (false, .bl true) := rfl
theorem p_is_int_non : prD (.isI .int) [.non] = some (false, .bl false) := rfl
theorem p_is_int_str : prD (.isI .int) [.str x] = some (false, .bl false) := rfl
theorem p_is_int_tuple : prD (.isI .int) [.tup l] = some (false, .bl false) := rfl
theorem p_is_int_list : prD (.isI .int) [.lst l] = some (false, .bl false) := rfl
theorem p_is_bool_int : prD (.isI .bool) [.int i] = some (false, .bl false) := rfl
theorem p_is_bool_bool : prD (.isI .bool) [.bl b] = some (false, .bl true) := rfl
theorem p_is_bool_non : prD (.isI .bool) [.non] = some (false, .bl false) := rfl
theorem p_is_bool_str : prD (.isI .bool) [.str x] = some (false, .bl false) := rfl
theorem p_is_bool_tuple : prD (.isI .bool) [.tup l] = some (false, .bl false) := rfl
theorem p_is_bool_list : prD (.isI .bool) [.lst l] = some (false, .bl false) := rfl
theorem p_is_str_int : prD (.isI .str) [.int i] = some (false, .bl false) := rfl
theorem p_is_str_bool : prD (.isI .str) [.bl b] = some (false, .bl false) := rfl
theorem p_is_str_non : prD (.isI .str) [.non] = some (false, .bl false) := rfl
theorem p_is_str_str : prD (.isI .str) [.str x] = some (false, .bl true) := rfl
theorem p_is_str_tuple : prD (.isI .str) [.tup l] = some (false, .bl false) := rfl
theorem p_is_str_list : prD (.isI .str) [.lst l] = some (false, .bl false) := rfl
theorem p_is_tuple_int : prD (.isI .tuple) [.int i] = some (false, .bl false) := rfl
theorem p_is_tuple_bool : prD (.isI .tuple) [.bl b] = some (false, .bl false) := rfl
theorem p_is_tuple_non : prD (.isI .tuple) [.non] = some (false, .bl false) := rfl
theorem p_is_tuple_str : prD (.isI .tuple) [.str x] = some (false, .bl false) := rfl
theorem p_is_tuple_tuple : prD (.isI .tuple) [.tup l] = some (false, .bl true) := rfl
theorem p_is_tuple_list : prD (.isI .tuple) [.lst l] = some (false, .bl false) := rfl
theorem p_is_list_int : prD (.isI .list) [.int i] = some (false, .bl false) := rfl
theorem p_is_list_bool : prD (.isI .list) [.bl b] = some (false, .bl false) := rfl
theorem p_is_list_non : prD (.isI .list) [.non] = some (false, .bl false) := rfl
theorem p_is_list_str : prD (.isI .list) [.str x] = some (false, .bl false) := rfl
theorem p_is_list_tuple : prD (.isI .list) [.tup l] = some (false, .bl false) := rfl
theorem p_is_list_list : prD (.isI .list) [.lst l] = some (false, .bl true) := rfl
theorem p_isLT_t : prD .isLT [.tup l] = some (false, .bl true) := rfl
theorem p_isLT_l : prD .isLT [.lst l] = some (false, .bl true) := rfl
theorem p_isLT_i : prD .isLT [.int i] = some (false, .bl false) := rfl
theorem in_str {z : List D} (h : (z.all D.flat) = true) : inD (.str x) (.tup z) = some (z.any fun y => eqFl y (.str x)) := by
  show (if (D.flat (.str x)) && z.all D.flat then some (z.any fun y => eqFl y (.str x)) else none) = _
  rw [h]; rfl
theorem eqFl_s : eqFl (.str x) (.str y) = (x == y) := rfl
theorem in_dK {kv : List (Key × D)} : inD (.str x) (.dK kv) = some (kget kv (.inr x)).isSome := rfl
theorem p_idxK {kv : List (Key × D)} : prD .idx [.dK kv, .str x] = fD (kget kv (.inr x)) := by
  show (kget kv (.inr x)).map _ = _
  unfold fD; cases kget kv (.inr x) <;> rfl
end
end G48

set_option maxHeartbeats 1000000
/-! Cells, rows, parts, conditions: as Lean has them, and as data. -/
namespace G48
open PySem
inductive Cell where
  | num (i : Int) | gap (n : Int)
  deriving DecidableEq, Inhabited
def Cell.d : Cell → D
  | .num i => .int i
  | .gap n => .tup [.str "gap", .int n]
def Cell.ok : Cell → Prop
  | .num _ => True
  | .gap n => 0 ≤ n ∧ n ≤ 9
/-- what a table's row holds -/
def cellT (c : Cell) : Prop := match c with | .num i => 0 ≤ i ∧ i ≤ 99 | .gap x => 0 ≤ x ∧ x ≤ 9
abbrev Row := List Cell
def Row.d (r : Row) : D := .tup (r.map Cell.d)
def wD : Option Cell → D
  | none => .non
  | some c => c.d
def tD : Option Bool → D
  | none => .non
  | some b => .bl b
inductive Part where
  | col (c : Nat) | num (i : Int) | plus (a b : Part) | take (a b : Part)
  deriving DecidableEq, Inhabited
def Part.d : Part → D
  | .col c => .tup [.str "col", .int c]
  | .num i => .tup [.str "num", .int i]
  | .plus a b => .tup [.str "plus", a.d, b.d]
  | .take a b => .tup [.str "take", a.d, b.d]
def Part.ok (w : Nat) : Part → Prop
  | .col c => c < w
  | .num i => 0 ≤ i ∧ i ≤ 99
  | .plus a b => a.ok w ∧ b.ok w
  | .take a b => a.ok w ∧ b.ok w
def Part.deep : Part → Nat
  | .plus a b => max a.deep b.deep + 1
  | .take a b => max a.deep b.deep + 1
  | _ => 0
def Part.size : Part → Nat
  | .plus a b => a.size + b.size + 1
  | .take a b => a.size + b.size + 1
  | _ => 1
inductive Cond where
  | is (a b : Part) | less (a b : Part) | lacks (a : Part) | not (c : Cond) | tru (c : Cond) | and (a b : Cond) | or (a b : Cond)
  deriving DecidableEq, Inhabited
def Cond.d : Cond → D
  | .is a b => .tup [.str "is", a.d, b.d]
  | .less a b => .tup [.str "less", a.d, b.d]
  | .lacks a => .tup [.str "lacks", a.d]
  | .not c => .tup [.str "not", c.d]
  | .tru c => .tup [.str "true", c.d]
  | .and a b => .tup [.str "and", a.d, b.d]
  | .or a b => .tup [.str "or", a.d, b.d]
def Cond.ok (w : Nat) : Cond → Prop
  | .is a b => a.ok w ∧ b.ok w
  | .less a b => a.ok w ∧ b.ok w
  | .lacks a => a.ok w
  | .not c => c.ok w
  | .tru c => c.ok w
  | .and a b => a.ok w ∧ b.ok w
  | .or a b => a.ok w ∧ b.ok w
/-- how deep calls go, parts and all -/
def Cond.deep : Cond → Nat
  | .is a b => max a.deep b.deep + 1
  | .less a b => max a.deep b.deep + 1
  | .lacks a => a.deep + 1
  | .not c => c.deep + 1
  | .tru c => c.deep + 1
  | .and a b => max a.deep b.deep + 1
  | .or a b => max a.deep b.deep + 1
def Cond.size : Cond → Nat
  | .is a b => a.size + b.size + 1
  | .less a b => a.size + b.size + 1
  | .lacks a => a.size + 1
  | .not c => c.size + 1
  | .tru c => c.size + 1
  | .and a b => a.size + b.size + 1
  | .or a b => a.size + b.size + 1
/-- levels of conditions -/
def Cond.lev : Cond → Nat
  | .not c => c.lev + 1
  | .tru c => c.lev + 1
  | .and a b => max a.lev b.lev + 1
  | .or a b => max a.lev b.lev + 1
  | _ => 0
/-- without lacks and true -/
def Cond.safe : Cond → Prop
  | .lacks _ => False
  | .tru _ => False
  | .not c => c.safe
  | .and a b => a.safe ∧ b.safe
  | .or a b => a.safe ∧ b.safe
  | _ => True
def isNumW : Option Cell → Bool
  | some (.num _) => true | _ => false
def sameW : Option Cell → Option Cell → Option Bool
  | some (.num i), some (.num j) => some (decide (i = j))
  | some (.gap x), some (.gap y) => if x = y then some true else none
  | _, _ => none
def lessW : Option Cell → Option Cell → Option Bool
  | some (.num i), some (.num j) => some (decide (i < j))
  | some (.gap x), some (.gap y) => if x = y then some false else none
  | _, _ => none
def worth (r : Row) : Part → Option Cell
  | .col c => r[c]?
  | .num i => some (.num i)
  | .plus a b => match worth r a, worth r b with
    | some (.num i), some (.num j) => some (.num (i + j))
    | _, _ => none
  | .take a b => match worth r a, worth r b with
    | some (.num i), some (.num j) => some (.num (i - j))
    | _, _ => none
def noT : Option Bool → Option Bool
  | none => none
  | some b => some (!b)
def both2 : Option Bool → Option Bool → Option Bool
  | some false, _ => some false
  | _, some false => some false
  | some true, some true => some true
  | _, _ => none
def any2 : Option Bool → Option Bool → Option Bool
  | some true, _ => some true
  | _, some true => some true
  | some false, some false => some false
  | _, _ => none
def truth (r : Row) : Cond → Option Bool
  | .is a b => sameW (worth r a) (worth r b)
  | .less a b => lessW (worth r a) (worth r b)
  | .lacks a => some (!isNumW (worth r a))
  | .not c => noT (truth r c)
  | .tru c => some (decide (truth r c = some true))
  | .and a b => both2 (truth r a) (truth r b)
  | .or a b => any2 (truth r a) (truth r b)
def n3 : Option Bool → Int
  | some false => 0
  | none => 1
  | some true => 2
theorem cd_n {i : Int} : (Cell.num i).d = .int i := rfl
theorem cd_g {i : Int} : (Cell.gap i).d = .tup [.str "gap", .int i] := rfl
theorem wD_n : wD none = .non := rfl
theorem wD_i {i : Int} : wD (some (.num i)) = .int i := rfl
theorem wD_g {i : Int} : wD (some (.gap i)) = .tup [.str "gap", .int i] := rfl
theorem tD_n : tD none = .non := rfl
theorem tD_b {b : Bool} : tD (some b) = .bl b := rfl
theorem iN_n : isNumW none = false := rfl
theorem iN_i {i : Int} : isNumW (some (.num i)) = true := rfl
theorem iN_g {i : Int} : isNumW (some (.gap i)) = false := rfl
/-- the truth of all of some -/
def bothOf (l : List (Option Bool)) : Option Bool := if some false ∈ l then some false else if none ∈ l then none else some true
def anyOf (l : List (Option Bool)) : Option Bool := noT (bothOf (l.map noT))
theorem both2_eq (a b : Option Bool) : both2 a b = bothOf [a, b] := by
  rcases a with _ | ⟨_ | _⟩ <;> rcases b with _ | ⟨_ | _⟩ <;> rfl
theorem any2_eq (a b : Option Bool) : any2 a b = anyOf [a, b] := by
  rcases a with _ | ⟨_ | _⟩ <;> rcases b with _ | ⟨_ | _⟩ <;> rfl
theorem cnK_tD {t : Option Bool} {z : Option S} {σ : S} : cnK (some (none, (false, tD t))) true z σ = some ((false, tD t), σ) := by rcases t with _ | b <;> rfl
end G48

set_option maxHeartbeats 1000000
/-! Words; all rules in one. -/
namespace G48
open PySem
def okS (x : Str) : Bool := PyData.strOk x
def neS (x y : Str) : Bool := PyData.strOk x && (PyData.strOk y && !decide (x = y))
theorem ne_ne {x y : Str} (h : neS x y = true) : decide (x = y) = false := by
  unfold neS at h
  cases e : decide (x = y) with
  | false => rfl
  | true => rw [e] at h; simp at h
theorem pe_s {x : Str} (h : okS x = true) : prD .eq [.str x, .str x] = some (false, .bl true) := (p_eqS h h).trans (by rw [decide_eq_true rfl])
theorem pe_d {x y : Str} (h : neS x y = true) : prD .eq [.str x, .str y] = some (false, .bl false) := by
  have e := ne_ne h
  unfold neS at h
  simp only [Bool.and_eq_true] at h
  rw [p_eqS h.1 h.2.1, e]
theorem pn_s {x : Str} (h : okS x = true) : prD .ne [.str x, .str x] = some (false, .bl false) := (p_neS h h).trans (by rw [decide_eq_true rfl]; rfl)
theorem pn_d {x y : Str} (h : neS x y = true) : prD .ne [.str x, .str y] = some (false, .bl true) := by
  have e := ne_ne h
  unfold neS at h
  simp only [Bool.and_eq_true] at h
  rw [p_neS h.1 h.2.1, e]; rfl
theorem bq_s {x : Str} : (x == x) = true := beq_self_eq_true x
theorem bq_d {x y : Str} (h : neS x y = true) : (x == y) = false := ne_ne h
theorem dq_s {x : Str} : decide (x = x) = true := decide_eq_true rfl
theorem dq_d {x y : Str} (h : neS x y = true) : decide (x = y) = false := ne_ne h
theorem RUN : type_of% (And.intro @bnd_s (And.intro @bnd_n (And.intro @bnd_ite (And.intro @sl_z (And.intro @sl_s (And.intro @sl_n (And.intro @st_z (And.intro @st_s (And.intro @st_n (And.intro @gd_z (And.intro @gd_s (And.intro @tupK_ (And.intro @lstK_ (And.intro @ob_non (And.intro @ob_bl (And.intro @ob_int (And.intro @ob_str (And.intro @ob_tup (And.intro @ob_lst (And.intro @ob_scr (And.intro @ob_dK (And.intro @ob_dT (And.intro @ob_obj (And.intro @ls_lst (And.intro @ev_lit (And.intro @ev_var (And.intro @varK_va (And.intro @varK_owl (And.intro @varK_owk (And.intro @varK_owt (And.intro @ev_tup (And.intro @ev_lst (And.intro @ev_emp (And.intro @kPr_ (And.intro @evq_pr (And.intro @kSli2_ (And.intro @kSli1_ (And.intro @ev_sli (And.intro @kAnd_ (And.intro @ev_and (And.intro @kOr_ (And.intro @ev_or (And.intro @kNot_ (And.intro @ev_not (And.intro @kIfe_ (And.intro @kIfe_n (And.intro @ev_ife (And.intro @chR_ (And.intro @chR2_ (And.intro @kCh3_ (And.intro @kCh2_ (And.intro @kCh1_ (And.intro @ev_ch (And.intro @ev_callN (And.intro @ev_callI (And.intro @cioK_c (And.intro @callNo_eq (And.intro @cnK0_s (And.intro @cnK_same (And.intro @cnK_int (And.intro @cnK_bl (And.intro @cnK_non (And.intro @cnK_str (And.intro @cnK_tup (And.intro @cnK_lst (And.intro @cnK_dK (And.intro @cnK_dT (And.intro @callIo_eq (And.intro @ioK0_s (And.intro @ioK_s (And.intro @slr_s (And.intro @sl2_eq (And.intro @slK2_ow (And.intro @slK2_io (And.intro @ev_msl (And.intro @kMk_ (And.intro @ev_mk (And.intro @mkK_s (And.intro @kMc2_ (And.intro @kMc_ (And.intro @ev_mcall (And.intro @mcK2_s (And.intro @ev_fld (And.intro @fldK_s (And.intro @vloK_s (And.intro @kCmp_ (And.intro @ev_comp (And.intro @kPop2_ (And.intro @ev_pop (And.intro @evs_nil (And.intro @kEs2_ (And.intro @kEs1_ (And.intro @evs_cons (And.intro @evOs_nil (And.intro @kOs2_ (And.intro @kOs1_ (And.intro @evOs_cons (And.intro @vl_f (And.intro @vl_l (And.intro @vl_k (And.intro @vl_t (And.intro @opd_var (And.intro @opK_s (And.intro @inr1_s (And.intro @fetch_l (And.intro @fetch_r (And.intro @slG_va (And.intro @slG_ow (And.intro @slG_io (And.intro @fetchs_nil (And.intro @fetchs_cons (And.intro @consO_s (And.intro @frzs_nil (And.intro @frzs_r (And.intro @frzs_l (And.intro @frB_s (And.intro @frK_va (And.intro @frK_owl (And.intro @frK_owk (And.intro @frK_owt (And.intro @it_of (And.intro @ofK_lst (And.intro @ofK_tup (And.intro @ofK_scr (And.intro @ofK_str (And.intro @lsK_s (And.intro @kRng_ (And.intro @it_rng (And.intro @kZip2_ (And.intro @kZip1_ (And.intro @it_zip (And.intro @it_enum (And.intro @enK_s (And.intro @tru_bl (And.intro @tru_non (And.intro @ifK_t (And.intro @ifK_f (And.intro @ifK_b (And.intro @notK_b (And.intro @chK_b (And.intro @optK_s (And.intro @prK_s (And.intro @slK_s (And.intro @slA_tt (And.intro @slA_tf (And.intro @slA_ft (And.intro @slA_ff (And.intro @sqK_nx (And.intro @sqK_rt (And.intro @ss_nil (And.intro @ss_cons (And.intro @s_set (And.intro @setK_f (And.intro @setK_t (And.intro @nxK_s (And.intro @s_setT (And.intro @stTK_tup (And.intro @stTK_lst (And.intro @kPar_ (And.intro @s_par (And.intro @kApp_ (And.intro @s_app (And.intro @appK2_s (And.intro @kExt_ (And.intro @s_ext (And.intro @extK2_s (And.intro @kPut2_ (And.intro @kPut1_ (And.intro @s_put (And.intro @putK1_s (And.intro @putK2_s (And.intro @kFst_ (And.intro @s_fset (And.intro @fstK_s (And.intro @s_ex (And.intro @nx1_s (And.intro @kIf_ (And.intro @s_ife (And.intro @kT_b (And.intro @kT_n (And.intro @evT_eq (And.intro @cndF_eq (And.intro @eltF_eq (And.intro @tK_s (And.intro @kLoop_ (And.intro @s_loop (And.intro @s_whl (And.intro @s_retV (And.intro @rtV_ow (And.intro @rtV_va (And.intro @rtK_s (And.intro @s_retN (And.intro @s_pass (And.intro @s_raise (And.intro @evRs_nil (And.intro @kRs2_ (And.intro @kRs1_ (And.intro @evRs_cons (And.intro @setRs_nil (And.intro @setRs_f (And.intro @setRs_t (And.intro @asg_1 (And.intro @asg_2t (And.intro @asg_2l (And.intro @asgs_nil (And.intro @asgs_cons (And.intro @loop_nil (And.intro @loop_cons (And.intro @lp0_s (And.intro @lpK_nx (And.intro @lpK_rt (And.intro @kCp2_ (And.intro @kCp1_ (And.intro @kCp0_ (And.intro @comp_nil (And.intro @comp_cons (And.intro @cp0_s (And.intro @hide_nil (And.intro @hide_cons (And.intro @unhide_nil (And.intro @unhide_cons (And.intro @hidOk_nil (And.intro @hidOk_cons (And.intro @hidO_no (And.intro @hidO_va (And.intro @cmpK_s (And.intro @ouK_s (And.intro @outB_f (And.intro @outB_t (And.intro @outB_eq (And.intro @startB_f (And.intro @startB_t (And.intro @endB_rt (And.intro @endB_nx (And.intro @endB_ite (And.intro @if_andE (And.intro @if_orE (And.intro @p_add (And.intro @p_sub (And.intro @p_neg (And.intro @p_eqI (And.intro @p_neI (And.intro @p_lt (And.intro @p_le (And.intro @p_gt (And.intro @p_ge (And.intro @p_eqNil (And.intro @p_neNil (And.intro @p_isN_non (And.intro @p_isN_bl (And.intro @p_isN_int (And.intro @p_isN_str (And.intro @p_isN_tup (And.intro @p_isN_lst (And.intro @p_pow18 (And.intro @p_pow20 (And.intro @p_notN_non (And.intro @p_notN_bl (And.intro @p_notN_int (And.intro @p_notN_tup (And.intro @p_isB_bl (And.intro @p_isB_non (And.intro @p_notB_bl (And.intro @p_notB_non (And.intro @p_lenL (And.intro @p_lenT (And.intro @p_lenSc (And.intro @p_toIntI (And.intro @p_toIntB (And.intro @p_toTupL (And.intro @p_toTupT (And.intro @p_toLstL (And.intro @p_toLstT (And.intro @p_min2 (And.intro @p_max2 (And.intro @at0 (And.intro @at1 (And.intro @at2 (And.intro @at3 (And.intro @at4 (And.intro @fD_s (And.intro @p_idxLa (And.intro @p_idxTa (And.intro @p_idxS (And.intro @blK_s (And.intro @nbK_s (And.intro @p_in (And.intro @p_nin (And.intro @p_tIn (And.intro @p_tNotIn (And.intro @p_tDct (And.intro @pSl_t (And.intro @pSl_l (And.intro @cut1 (And.intro @cut3 (And.intro @eqFl_s (And.intro @in_dK (And.intro @p_idxK (And.intro @cnK_tD (And.intro @cd_n (And.intro @cd_g (And.intro @wD_n (And.intro @wD_i (And.intro @wD_g (And.intro @tD_n (And.intro @tD_b (And.intro @iN_n (And.intro @iN_i (And.intro @iN_g (And.intro @p_is_int_int (And.intro @p_is_int_bool (And.intro @p_is_int_non (And.intro @p_is_int_str (And.intro @p_is_int_tuple (And.intro @p_is_int_list (And.intro @p_is_bool_int (And.intro @p_is_bool_bool (And.intro @p_is_bool_non (And.intro @p_is_bool_str (And.intro @p_is_bool_tuple (And.intro @p_is_bool_list (And.intro @p_is_str_int (And.intro @p_is_str_bool (And.intro @p_is_str_non (And.intro @p_is_str_str (And.intro @p_is_str_tuple (And.intro @p_is_str_list (And.intro @p_is_tuple_int (And.intro @p_is_tuple_bool (And.intro @p_is_tuple_non (And.intro @p_is_tuple_str (And.intro @p_is_tuple_tuple (And.intro @p_is_tuple_list (And.intro @p_is_list_int (And.intro @p_is_list_bool (And.intro @p_is_list_non (And.intro @p_is_list_str (And.intro @p_is_list_tuple (And.intro @p_is_list_list (And.intro @p_isLT_t (And.intro @p_isLT_l (And.intro @p_isLT_i (And.intro @Bool.and_true (And.intro @Bool.true_and (And.intro @Bool.and_false (And.intro @Bool.false_and (And.intro @Bool.or_true (And.intro @Bool.true_or (And.intro @Bool.or_false (And.intro @Bool.false_or (And.intro @Bool.not_true (And.intro @Bool.not_false (And.intro @decide_true (And.intro @decide_false (And.intro @Bool.false_eq_true @Nat.zero_add))))))))))))))))))))))))))))))))))))))))))))))))))))))))))))))))))))))))))))))))))))))))))))))))))))))))))))))))))))))))))))))))))))))))))))))))))))))))))))))))))))))))))))))))))))))))))))))))))))))))))))))))))))))))))))))))))))))))))))))))))))))))))))))))))))))))))))))))))))))))))))))))))))))))))))))))))))))))))))))))))))))))))))))))))))))))))))))))))) := (And.intro @bnd_s (And.intro @bnd_n (And.intro @bnd_ite (And.intro @sl_z (And.intro @sl_s (And.intro @sl_n (And.intro @st_z (And.intro @st_s (And.intro @st_n (And.intro @gd_z (And.intro @gd_s (And.intro @tupK_ (And.intro @lstK_ (And.intro @ob_non (And.intro @ob_bl (And.intro @ob_int (And.intro @ob_str (And.intro @ob_tup (And.intro @ob_lst (And.intro @ob_scr (And.intro @ob_dK (And.intro @ob_dT (And.intro @ob_obj (And.intro @ls_lst (And.intro @ev_lit (And.intro @ev_var (And.intro @varK_va (And.intro @varK_owl (And.intro @varK_owk (And.intro @varK_owt (And.intro @ev_tup (And.intro @ev_lst (And.intro @ev_emp (And.intro @kPr_ (And.intro @evq_pr (And.intro @kSli2_ (And.intro @kSli1_ (And.intro @ev_sli (And.intro @kAnd_ (And.intro @ev_and (And.intro @kOr_ (And.intro @ev_or (And.intro @kNot_ (And.intro @ev_not (And.intro @kIfe_ (And.intro @kIfe_n (And.intro @ev_ife (And.intro @chR_ (And.intro @chR2_ (And.intro @kCh3_ (And.intro @kCh2_ (And.intro @kCh1_ (And.intro @ev_ch (And.intro @ev_callN (And.intro @ev_callI (And.intro @cioK_c (And.intro @callNo_eq (And.intro @cnK0_s (And.intro @cnK_same (And.intro @cnK_int (And.intro @cnK_bl (And.intro @cnK_non (And.intro @cnK_str (And.intro @cnK_tup (And.intro @cnK_lst (And.intro @cnK_dK (And.intro @cnK_dT (And.intro @callIo_eq (And.intro @ioK0_s (And.intro @ioK_s (And.intro @slr_s (And.intro @sl2_eq (And.intro @slK2_ow (And.intro @slK2_io (And.intro @ev_msl (And.intro @kMk_ (And.intro @ev_mk (And.intro @mkK_s (And.intro @kMc2_ (And.intro @kMc_ (And.intro @ev_mcall (And.intro @mcK2_s (And.intro @ev_fld (And.intro @fldK_s (And.intro @vloK_s (And.intro @kCmp_ (And.intro @ev_comp (And.intro @kPop2_ (And.intro @ev_pop (And.intro @evs_nil (And.intro @kEs2_ (And.intro @kEs1_ (And.intro @evs_cons (And.intro @evOs_nil (And.intro @kOs2_ (And.intro @kOs1_ (And.intro @evOs_cons (And.intro @vl_f (And.intro @vl_l (And.intro @vl_k (And.intro @vl_t (And.intro @opd_var (And.intro @opK_s (And.intro @inr1_s (And.intro @fetch_l (And.intro @fetch_r (And.intro @slG_va (And.intro @slG_ow (And.intro @slG_io (And.intro @fetchs_nil (And.intro @fetchs_cons (And.intro @consO_s (And.intro @frzs_nil (And.intro @frzs_r (And.intro @frzs_l (And.intro @frB_s (And.intro @frK_va (And.intro @frK_owl (And.intro @frK_owk (And.intro @frK_owt (And.intro @it_of (And.intro @ofK_lst (And.intro @ofK_tup (And.intro @ofK_scr (And.intro @ofK_str (And.intro @lsK_s (And.intro @kRng_ (And.intro @it_rng (And.intro @kZip2_ (And.intro @kZip1_ (And.intro @it_zip (And.intro @it_enum (And.intro @enK_s (And.intro @tru_bl (And.intro @tru_non (And.intro @ifK_t (And.intro @ifK_f (And.intro @ifK_b (And.intro @notK_b (And.intro @chK_b (And.intro @optK_s (And.intro @prK_s (And.intro @slK_s (And.intro @slA_tt (And.intro @slA_tf (And.intro @slA_ft (And.intro @slA_ff (And.intro @sqK_nx (And.intro @sqK_rt (And.intro @ss_nil (And.intro @ss_cons (And.intro @s_set (And.intro @setK_f (And.intro @setK_t (And.intro @nxK_s (And.intro @s_setT (And.intro @stTK_tup (And.intro @stTK_lst (And.intro @kPar_ (And.intro @s_par (And.intro @kApp_ (And.intro @s_app (And.intro @appK2_s (And.intro @kExt_ (And.intro @s_ext (And.intro @extK2_s (And.intro @kPut2_ (And.intro @kPut1_ (And.intro @s_put (And.intro @putK1_s (And.intro @putK2_s (And.intro @kFst_ (And.intro @s_fset (And.intro @fstK_s (And.intro @s_ex (And.intro @nx1_s (And.intro @kIf_ (And.intro @s_ife (And.intro @kT_b (And.intro @kT_n (And.intro @evT_eq (And.intro @cndF_eq (And.intro @eltF_eq (And.intro @tK_s (And.intro @kLoop_ (And.intro @s_loop (And.intro @s_whl (And.intro @s_retV (And.intro @rtV_ow (And.intro @rtV_va (And.intro @rtK_s (And.intro @s_retN (And.intro @s_pass (And.intro @s_raise (And.intro @evRs_nil (And.intro @kRs2_ (And.intro @kRs1_ (And.intro @evRs_cons (And.intro @setRs_nil (And.intro @setRs_f (And.intro @setRs_t (And.intro @asg_1 (And.intro @asg_2t (And.intro @asg_2l (And.intro @asgs_nil (And.intro @asgs_cons (And.intro @loop_nil (And.intro @loop_cons (And.intro @lp0_s (And.intro @lpK_nx (And.intro @lpK_rt (And.intro @kCp2_ (And.intro @kCp1_ (And.intro @kCp0_ (And.intro @comp_nil (And.intro @comp_cons (And.intro @cp0_s (And.intro @hide_nil (And.intro @hide_cons (And.intro @unhide_nil (And.intro @unhide_cons (And.intro @hidOk_nil (And.intro @hidOk_cons (And.intro @hidO_no (And.intro @hidO_va (And.intro @cmpK_s (And.intro @ouK_s (And.intro @outB_f (And.intro @outB_t (And.intro @outB_eq (And.intro @startB_f (And.intro @startB_t (And.intro @endB_rt (And.intro @endB_nx (And.intro @endB_ite (And.intro @if_andE (And.intro @if_orE (And.intro @p_add (And.intro @p_sub (And.intro @p_neg (And.intro @p_eqI (And.intro @p_neI (And.intro @p_lt (And.intro @p_le (And.intro @p_gt (And.intro @p_ge (And.intro @p_eqNil (And.intro @p_neNil (And.intro @p_isN_non (And.intro @p_isN_bl (And.intro @p_isN_int (And.intro @p_isN_str (And.intro @p_isN_tup (And.intro @p_isN_lst (And.intro @p_pow18 (And.intro @p_pow20 (And.intro @p_notN_non (And.intro @p_notN_bl (And.intro @p_notN_int (And.intro @p_notN_tup (And.intro @p_isB_bl (And.intro @p_isB_non (And.intro @p_notB_bl (And.intro @p_notB_non (And.intro @p_lenL (And.intro @p_lenT (And.intro @p_lenSc (And.intro @p_toIntI (And.intro @p_toIntB (And.intro @p_toTupL (And.intro @p_toTupT (And.intro @p_toLstL (And.intro @p_toLstT (And.intro @p_min2 (And.intro @p_max2 (And.intro @at0 (And.intro @at1 (And.intro @at2 (And.intro @at3 (And.intro @at4 (And.intro @fD_s (And.intro @p_idxLa (And.intro @p_idxTa (And.intro @p_idxS (And.intro @blK_s (And.intro @nbK_s (And.intro @p_in (And.intro @p_nin (And.intro @p_tIn (And.intro @p_tNotIn (And.intro @p_tDct (And.intro @pSl_t (And.intro @pSl_l (And.intro @cut1 (And.intro @cut3 (And.intro @eqFl_s (And.intro @in_dK (And.intro @p_idxK (And.intro @cnK_tD (And.intro @cd_n (And.intro @cd_g (And.intro @wD_n (And.intro @wD_i (And.intro @wD_g (And.intro @tD_n (And.intro @tD_b (And.intro @iN_n (And.intro @iN_i (And.intro @iN_g (And.intro @p_is_int_int (And.intro @p_is_int_bool (And.intro @p_is_int_non (And.intro @p_is_int_str (And.intro @p_is_int_tuple (And.intro @p_is_int_list (And.intro @p_is_bool_int (And.intro @p_is_bool_bool (And.intro @p_is_bool_non (And.intro @p_is_bool_str (And.intro @p_is_bool_tuple (And.intro @p_is_bool_list (And.intro @p_is_str_int (And.intro @p_is_str_bool (And.intro @p_is_str_non (And.intro @p_is_str_str (And.intro @p_is_str_tuple (And.intro @p_is_str_list (And.intro @p_is_tuple_int (And.intro @p_is_tuple_bool (And.intro @p_is_tuple_non (And.intro @p_is_tuple_str (And.intro @p_is_tuple_tuple (And.intro @p_is_tuple_list (And.intro @p_is_list_int (And.intro @p_is_list_bool (And.intro @p_is_list_non (And.intro @p_is_list_str (And.intro @p_is_list_tuple (And.intro @p_is_list_list (And.intro @p_isLT_t (And.intro @p_isLT_l (And.intro @p_isLT_i (And.intro @Bool.and_true (And.intro @Bool.true_and (And.intro @Bool.and_false (And.intro @Bool.false_and (And.intro @Bool.or_true (And.intro @Bool.true_or (And.intro @Bool.or_false (And.intro @Bool.false_or (And.intro @Bool.not_true (And.intro @Bool.not_false (And.intro @decide_true (And.intro @decide_false (And.intro @Bool.false_eq_true @Nat.zero_add)))))))))))))))))))))))))))))))))))))))))))))))))))))))))))))))))))))))))))))))))))))))))))))))))))))))))))))))))))))))))))))))))))))))))))))))))))))))))))))))))))))))))))))))))))))))))))))))))))))))))))))))))))))))))))))))))))))))))))))))))))))))))))))))))))))))))))))))))))))))))))))))))))))))))))))))))))))))))))))))))))))))))))))))))))))))))))))))))))
theorem NFW : type_of% (And.intro @cd_n (And.intro @cd_g (And.intro @wD_n (And.intro @wD_i (And.intro @wD_g (And.intro @tD_n (And.intro @tD_b (And.intro @iN_n (And.intro @iN_i @iN_g))))))))) := (And.intro @cd_n (And.intro @cd_g (And.intro @wD_n (And.intro @wD_i (And.intro @wD_g (And.intro @tD_n (And.intro @tD_b (And.intro @iN_n (And.intro @iN_i @iN_g)))))))))
/-- with side conditions -/
theorem RUNC : type_of% (And.intro @opd_go (And.intro @s_ret (And.intro @p_mulR (And.intro @p_mulL (And.intro @p_fdiv (And.intro @p_mod (And.intro @szOk_k (And.intro @in_str (And.intro @pe_s (And.intro @pe_d (And.intro @pn_s (And.intro @pn_d (And.intro @bq_s (And.intro @bq_d (And.intro @dq_s @dq_d))))))))))))))) := (And.intro @opd_go (And.intro @s_ret (And.intro @p_mulR (And.intro @p_mulL (And.intro @p_fdiv (And.intro @p_mod (And.intro @szOk_k (And.intro @in_str (And.intro @pe_s (And.intro @pe_d (And.intro @pn_s (And.intro @pn_d (And.intro @bq_s (And.intro @bq_d (And.intro @dq_s @dq_d)))))))))))))))
end G48

set_option maxHeartbeats 1000000
/-! Comprehensions, loops. -/
namespace G48
open PySem
section
variable {α β : Type} {elt : S → Option (D × S)} {cond : S → Option (Bool × S)} {tg own : List Nat} {σ0 : S}
/-- one turn of a comprehension -/
def kC2 (own : List Nat) (r : D) (σ : S) : Option (Option D × S) := some (some r, hide own σ)
theorem kC2_ {own : List Nat} {r : D} {σ : S} : kC2 own r σ = some (some r, hide own σ) := rfl
def kC1 (elt : S → Option (D × S)) (own : List Nat) (b : Bool) (σ : S) : Option (Option D × S) := if b = true then bnd (elt σ) (kC2 own) else some (none, hide own σ)
theorem kC1_ {b : Bool} {σ : S} : kC1 elt own b σ = if b = true then bnd (elt σ) (kC2 own) else some (none, hide own σ) := rfl
def kC0 (elt : S → Option (D × S)) (cond : S → Option (Bool × S)) (own : List Nat) (z : Option S) : Option (Option D × S) := match z with
  | some σ => bnd (cond σ) (kC1 elt own)
  | none => none
theorem kC0_ {σ : S} : kC0 elt cond own (some σ) = bnd (cond σ) (kC1 elt own) := rfl
def cstep (elt : S → Option (D × S)) (cond : S → Option (Bool × S)) (tg own : List Nat) (d : D) (σ : S) : Option (Option D × S) := kC0 elt cond own (asg tg d σ)
theorem cstep_ {d : D} {σ : S} : cstep elt cond tg own d σ = kC0 elt cond own (asg tg d σ) := rfl
theorem cstep_t {d r : D} {ds : List D} {σ σ' : S} (h : cstep elt cond tg own d σ = some (some r, σ')) : compF elt cond tg own (d :: ds) σ = bnd (compF elt cond tg own ds σ') (kCp2 r) := by
  rw [comp_cons]
  unfold cstep kC0 at h
  unfold cp0
  cases ha : asg tg d σ with
  | none => rw [ha] at h; cases h
  | some σ1 =>
    rw [ha] at h
    dsimp only at h ⊢
    rcases hc : cond σ1 with _ | ⟨b, σ2⟩
    · rw [hc] at h; cases h
    · rw [hc, bnd_s] at h
      rw [bnd_s]
      unfold kC1 at h
      rw [kCp0_]
      by_cases hb : b = true
      · rw [if_pos hb] at h ⊢
        rcases he : elt σ2 with _ | ⟨r', σ3⟩
        · rw [he] at h; cases h
        · rw [he, bnd_s, kC2_] at h
          cases h
          rw [bnd_s, kCp1_]
      · rw [if_neg hb] at h; cases h
theorem cstep_f {d : D} {ds : List D} {σ σ' : S} (h : cstep elt cond tg own d σ = some (none, σ')) : compF elt cond tg own (d :: ds) σ = compF elt cond tg own ds σ' := by
  rw [comp_cons]
  unfold cstep kC0 at h
  unfold cp0
  cases ha : asg tg d σ with
  | none => rw [ha] at h; cases h
  | some σ1 =>
    rw [ha] at h
    dsimp only at h ⊢
    rcases hc : cond σ1 with _ | ⟨b, σ2⟩
    · rw [hc] at h; cases h
    · rw [hc, bnd_s] at h
      rw [bnd_s]
      unfold kC1 at h
      rw [kCp0_]
      by_cases hb : b = true
      · rw [if_pos hb] at h
        rcases he : elt σ2 with _ | ⟨r', σ3⟩
        · rw [he] at h; cases h
        · rw [he, bnd_s, kC2_] at h; cases h
      · rw [if_neg hb] at h ⊢; cases h; rfl
/-- a comprehension without effects -/
theorem compF_map (xs : List α) (f : α → D) (c : α → Bool) (g : α → D)
    (h : ∀ x ∈ xs, cstep elt cond tg own (f x) σ0 = some (if c x = true then some (g x) else none, σ0)) :
    compF elt cond tg own (xs.map f) σ0 = some ((xs.filter c).map g, σ0) := by
  induction xs with
  | nil => rfl
  | cons x xs ih =>
    have h1 := h x (List.mem_cons_self ..)
    have ih := ih fun y hy => h y (List.mem_cons_of_mem _ hy)
    rw [List.map_cons]
    by_cases hc : c x = true
    · rw [if_pos hc] at h1
      rw [cstep_t h1, ih, bnd_s, kCp2_, List.filter_cons_of_pos hc, List.map_cons]
    · rw [if_neg hc] at h1
      rw [cstep_f h1, ih, List.filter_cons_of_neg hc]
/-- all are taken -/
theorem compF_all (xs : List α) (f : α → D) (g : α → D)
    (h : ∀ x ∈ xs, cstep elt cond tg own (f x) σ0 = some (some (g x), σ0)) :
    compF elt cond tg own (xs.map f) σ0 = some (xs.map g, σ0) := by
  have := compF_map (elt := elt) (cond := cond) (tg := tg) (own := own) (σ0 := σ0) xs f (fun _ => true) g fun x hx => by
    rw [h x hx]; rfl
  rw [this, List.filter_eq_self.mpr fun _ _ => rfl]
/-- none is taken -/
theorem compF_none (xs : List α) (f : α → D) (h : ∀ x ∈ xs, cstep elt cond tg own (f x) σ0 = some (none, σ0)) :
    compF elt cond tg own (xs.map f) σ0 = some ([], σ0) := by
  have := compF_map (elt := elt) (cond := cond) (tg := tg) (own := own) (σ0 := σ0) xs f (fun _ => false) (fun _ => .non) fun x hx => by
    rw [h x hx]; rfl
  rw [this, List.filter_eq_nil_iff.mpr fun _ _ h => by cases h]; rfl
/-- a comprehension with a state: each of them yields what is so -/
theorem compF_st {ι : Type} (St : ι → S) (R : α → β → Prop) (g : β → D) (f : α → D) : ∀ (xs : List α)
    (_ : ∀ x ∈ xs, ∀ q, ∃ q' y, R x y ∧ cstep elt cond tg own (f x) (St q) = some (some (g y), St q')) (q : ι),
    ∃ (q' : ι) (ys : List β), ys.length = xs.length ∧ (∀ y ∈ ys, ∃ x ∈ xs, R x y) ∧ compF elt cond tg own (xs.map f) (St q) = some (ys.map g, St q')
  | [], _, q => ⟨q, [], rfl, fun _ h => absurd h List.not_mem_nil, rfl⟩
  | x :: xs, h, q => by
    obtain ⟨q1, y, r, h1⟩ := h x (List.mem_cons_self ..) q
    obtain ⟨q2, ys, l, m, e⟩ := compF_st St R g f xs (fun z hz => h z (List.mem_cons_of_mem _ hz)) q1
    refine ⟨q2, y :: ys, by simp [l], fun z hz => ?_, ?_⟩
    · rcases List.mem_cons.mp hz with rfl | hz
      · exact ⟨x, List.mem_cons_self .., r⟩
      · obtain ⟨w, hw, rw⟩ := m z hz
        exact ⟨w, List.mem_cons_of_mem _ hw, rw⟩
    · rw [List.map_cons, cstep_t h1, e, bnd_s, kCp2_]; rfl
theorem compF_s {ι : Type} (St : ι → S) (R : α → β → Prop) (g : β → D) (f : α → D) {xs : List α} {q : ι} {L : Option (List D × S)} (hL : compF elt cond tg own (xs.map f) (St q) = L)
    (h : ∀ x ∈ xs, ∀ q, ∃ q' y, R x y ∧ cstep elt cond tg own (f x) (St q) = some (some (g y), St q')) :
    ∃ (q' : ι) (ys : List β), ys.length = xs.length ∧ (∀ y ∈ ys, ∃ x ∈ xs, R x y) ∧ L = some (ys.map g, St q') := by
  obtain ⟨q', ys, h1, h2, h3⟩ := compF_st St R g f xs h q
  exact ⟨q', ys, h1, h2, hL.symm.trans h3⟩
variable {body : S → Option (Fl × S)}
/-- one turn of a loop -/
def kL0 (body : S → Option (Fl × S)) (z : Option S) : Option (Fl × S) := match z with
  | some σ => body σ
  | none => none
theorem kL0_ {σ : S} : kL0 body (some σ) = body σ := rfl
def lstep (body : S → Option (Fl × S)) (tg : List Nat) (d : D) (σ : S) : Option (Fl × S) := kL0 body (asg tg d σ)
theorem lstep_ {d : D} {σ : S} : lstep body tg d σ = kL0 body (asg tg d σ) := rfl
theorem lstep_nx {d : D} {ds : List D} {σ σ' : S} (h : lstep body tg d σ = some (.nx, σ')) : loopF body tg (d :: ds) σ = loopF body tg ds σ' := by
  rw [loop_cons]
  unfold lstep kL0 at h
  unfold lp0
  cases ha : asg tg d σ with
  | none => rw [ha] at h; cases h
  | some σ1 =>
    rw [ha] at h
    dsimp only at h ⊢
    rw [h, bnd_s, lpK_nx]
theorem lstep_rt {d : D} {ds : List D} {σ σ' : S} {r : Res} (h : lstep body tg d σ = some (.rt r, σ')) : loopF body tg (d :: ds) σ = some (.rt r, σ') := by
  rw [loop_cons]
  unfold lstep kL0 at h
  unfold lp0
  cases ha : asg tg d σ with
  | none => rw [ha] at h; cases h
  | some σ1 =>
    rw [ha] at h
    dsimp only at h ⊢
    rw [h, bnd_s, lpK_rt]
/-- a loop that goes on -/
theorem loopF_inv (f : α → D) (P : List α → S → Prop) : ∀ (xs : List α) (σ : S),
    (∀ x rest σ, P (x :: rest) σ → x ∈ xs → ∃ σ2, lstep body tg (f x) σ = some (.nx, σ2) ∧ P rest σ2) → P xs σ →
    ∃ σ', loopF body tg (xs.map f) σ = some (.nx, σ') ∧ P [] σ'
  | [], σ, _, h => ⟨σ, rfl, h⟩
  | x :: xs, σ, h, p => by
    obtain ⟨σ2, h1, h3⟩ := h x xs σ p (List.mem_cons_self ..)
    obtain ⟨σ', e, p'⟩ := loopF_inv f P xs σ2 (fun y r σ q m => h y r σ q (List.mem_cons_of_mem _ m)) h3
    exact ⟨σ', by rw [List.map_cons, lstep_nx h1, e], p'⟩
theorem loopF_i (f : α → D) {xs : List α} {σ : S} {L : Option (Fl × S)} (hL : loopF body tg (xs.map f) σ = L) (P : List α → S → Prop)
    (p : P xs σ) (h : ∀ x rest σ, P (x :: rest) σ → x ∈ xs → ∃ σ2, lstep body tg (f x) σ = some (.nx, σ2) ∧ P rest σ2) : ∃ σ', L = some (.nx, σ') ∧ P [] σ' := by
  obtain ⟨σ', e, q⟩ := loopF_inv f P xs σ h p
  exact ⟨σ', hL.symm.trans e, q⟩
/-- a loop that may end by a return -/
theorem loopF_ret (f : α → D) (P : List α → S → Prop) (Q : Res → S → Prop) : ∀ (xs : List α) (σ : S),
    (∀ x rest σ, P (x :: rest) σ → x ∈ xs → ∃ σ2, (lstep body tg (f x) σ = some (.nx, σ2) ∧ P rest σ2) ∨ ∃ r, lstep body tg (f x) σ = some (.rt r, σ2) ∧ Q r σ2) → P xs σ →
    (∃ σ', loopF body tg (xs.map f) σ = some (.nx, σ') ∧ P [] σ') ∨ ∃ r σ', loopF body tg (xs.map f) σ = some (.rt r, σ') ∧ Q r σ'
  | [], σ, _, h => .inl ⟨σ, rfl, h⟩
  | x :: xs, σ, h, p => by
    obtain ⟨σ2, h1⟩ := h x xs σ p (List.mem_cons_self ..)
    rw [List.map_cons]
    rcases h1 with ⟨h2, h3⟩ | ⟨r, h2, h3⟩
    · rw [lstep_nx h2]
      exact loopF_ret f P Q xs σ2 (fun y r σ q m => h y r σ q (List.mem_cons_of_mem _ m)) h3
    · exact .inr ⟨r, σ2, lstep_rt h2, h3⟩
theorem ex_nx {L : Option (Fl × S)} {P : S → Prop} {σ2 : S} (e : L = some (.nx, σ2)) (p : P σ2) : ∃ σ2, L = some (.nx, σ2) ∧ P σ2 := ⟨_, e, p⟩
/-- one turn of a while -/
def kW2 (c : S → Option (Bool × S)) (body : S → Option (Fl × S)) (n : Nat) (f : Fl) (σ : S) : Option (Fl × S) := match f with
  | .nx => whlF c body n σ
  | .ct => whlF c body n σ
  | .bk => some (.nx, σ)
  | .rt r => some (.rt r, σ)
theorem kW2_ {c : S → Option (Bool × S)} {n : Nat} {σ : S} : kW2 c body n .nx σ = whlF c body n σ := rfl
def kW1 (c : S → Option (Bool × S)) (body : S → Option (Fl × S)) (n : Nat) (b : Bool) (σ : S) : Option (Fl × S) := if b = true then bnd (body σ) (kW2 c body n) else some (.nx, σ)
theorem kW1_ {c : S → Option (Bool × S)} {n : Nat} {b : Bool} {σ : S} : kW1 c body n b σ = if b = true then bnd (body σ) (kW2 c body n) else some (.nx, σ) := rfl
theorem whl_s {c : S → Option (Bool × S)} {n : Nat} {σ : S} : whlF c body (n + 1) σ = bnd (c σ) (kW1 c body n) := by
  show bnd (c σ) _ = _
  congr 1
  funext b σ1
  cases b <;> rfl
/-- a while: a measure that falls -/
theorem whlF_inv {c : S → Option (Bool × S)} (P : Nat → S → Prop) : ∀ (m n : Nat) (σ : S), m < n →
    (∀ k σ, P k σ → ∃ b σ1, c σ = some (b, σ1) ∧ (b = true → ∃ σ2 j, body σ1 = some (.nx, σ2) ∧ j < k ∧ P j σ2) ∧ (b = false → P 0 σ1)) → P m σ →
    ∃ σ', whlF c body n σ = some (.nx, σ') ∧ P 0 σ' := by
  intro m
  induction m using Nat.strongRecOn with
  | ind m ih =>
    intro n σ hn h p
    obtain ⟨n, rfl⟩ : ∃ k, n = k + 1 := ⟨n - 1, by omega⟩
    obtain ⟨b, σ1, h1, h2, h3⟩ := h m σ p
    cases b with
    | false => exact ⟨σ1, by simp [whlF, h1, bnd], h3 rfl⟩
    | true =>
      obtain ⟨σ2, j, h4, h5, h6⟩ := h2 rfl
      obtain ⟨σ', e, p'⟩ := ih j h5 n σ2 (by omega) h h6
      exact ⟨σ', by simp [whlF, h1, h4, bnd, e], p'⟩
theorem whlF_i {c : S → Option (Bool × S)} {n : Nat} {σ : S} {L : Option (Fl × S)} (hL : whlF c body n σ = L) (P : Nat → S → Prop) (m : Nat) (hm : m < n) (p : P m σ)
    (h : ∀ k σ, P k σ → ∃ b σ1, c σ = some (b, σ1) ∧ (b = true → ∃ σ2 j, body σ1 = some (.nx, σ2) ∧ j < k ∧ P j σ2) ∧ (b = false → P 0 σ1)) : ∃ σ', L = some (.nx, σ') ∧ P 0 σ' := by
  obtain ⟨σ', e, q⟩ := whlF_inv P m n σ hm h p
  exact ⟨σ', hL.symm.trans e, q⟩
end
/-! truths within a list -/
theorem tD_flat (t : Option Bool) : (tD t).flat = true := by rcases t with _ | b <;> rfl
theorem eqFl_tD (t u : Option Bool) : eqFl (tD t) (tD u) = decide (t = u) := by
  rcases t with _ | ⟨_ | _⟩ <;> rcases u with _ | ⟨_ | _⟩ <;> rfl
theorem inD_tD {u : Option Bool} (l : List (Option Bool)) : inD (tD u) (.lst (l.map tD)) = some (decide (u ∈ l)) := by
  have h1 : (l.map tD).all D.flat = true := List.all_eq_true.mpr fun x hx => by
    obtain ⟨t, _, rfl⟩ := List.mem_map.mp hx
    exact tD_flat t
  show (if (tD u).flat && (l.map tD).all D.flat then some ((l.map tD).any fun y => eqFl y (tD u)) else none) = _
  rw [tD_flat, h1]
  show some ((l.map tD).any fun y => eqFl y (tD u)) = _
  congr 1
  rw [List.any_map]
  induction l with
  | nil => rfl
  | cons t l ih =>
    have ih := ih (by rw [List.map_cons, List.all_cons] at h1; exact (Bool.and_eq_true_iff.mp h1).2)
    rw [List.any_cons, ih]
    show (eqFl (tD t) (tD u) || _) = _
    rw [eqFl_tD]
    by_cases h : t = u
    · subst h; simp
    · have h' : u ≠ t := fun e => h e.symm
      by_cases m : u ∈ l <;> simp [h, h', m]
/-! equality of data -/
/-- can be compared; k: how deep at most -/
structure Gd (k : Nat) (d : D) : Prop where
  pl : d.pl = true
  lay : d.py.canLay0 = true
  dep : d.py.depth ≤ k
theorem Gd.mono {k m : Nat} {d : D} (h : Gd k d) (hk : k ≤ m) : Gd m d := ⟨h.pl, h.lay, Nat.le_trans h.dep hk⟩
theorem gd_int {k : Nat} (i : Int) : Gd k (.int i) := ⟨rfl, by simp [D.py, PyData.canLay0], by simp [D.py, PyData.depth]⟩
theorem gd_bl {k : Nat} (i : Bool) : Gd k (.bl i) := ⟨rfl, by simp [D.py, PyData.canLay0], by simp [D.py, PyData.depth]⟩
theorem gd_non {k : Nat} : Gd k .non := ⟨rfl, by simp [D.py, PyData.canLay0], by simp [D.py, PyData.depth]⟩
theorem gd_str {k : Nat} {x : Str} (h : okS x = true) : Gd k (.str x) := ⟨rfl, by simp only [D.py, PyData.canLay0]; exact h, by simp [D.py, PyData.depth]⟩
theorem gds {k : Nat} : ∀ {l : List D}, (∀ d ∈ l, Gd k d) → D.pls l = true ∧ PyData.canLayAll0 (D.pys l) = true ∧ PyData.depthAll (D.pys l) ≤ k
  | [], _ => ⟨rfl, by simp [D.pys, PyData.canLayAll0], by simp [D.pys, PyData.depthAll]⟩
  | d :: l, h => by
    obtain ⟨h1, h2, h3⟩ := gds fun x hx => h x (List.mem_cons_of_mem _ hx)
    obtain ⟨g1, g2, g3⟩ := h d (List.mem_cons_self ..)
    refine ⟨by simp [D.pls, g1, h1], by simp [D.pys, PyData.canLayAll0, g2, h2], ?_⟩
    simp only [D.pys, PyData.depthAll]
    omega
theorem gd_tup {k : Nat} {l : List D} (h : ∀ d ∈ l, Gd k d) : Gd (k + 1) (.tup l) := by
  obtain ⟨h1, h2, h3⟩ := gds h
  exact ⟨by simpa [D.pl] using h1, by simpa [D.py, PyData.canLay0] using h2, by simp only [D.py, PyData.depth]; omega⟩
theorem gd_lst {k : Nat} {l : List D} (h : ∀ d ∈ l, Gd k d) : Gd (k + 1) (.lst l) := by
  obtain ⟨h1, h2, h3⟩ := gds h
  exact ⟨by simpa [D.pl] using h1, by simpa [D.py, PyData.canLay0] using h2, by simp only [D.py, PyData.depth]; omega⟩
theorem gd_shaped {d : D} (h : Gd 64 d) : SeqAt.shaped d.py = true := by
  unfold SeqAt.shaped
  rw [h.lay, decide_eq_true h.dep]; rfl
def eqvD (a b : D) : Bool := PyData.eqv a.py b.py
theorem eqD_gd {a b : D} (ha : Gd 64 a) (hb : Gd 64 b) : eqD a b = some (eqvD a b) := by
  unfold eqD eqvD
  rw [ha.pl, hb.pl, gd_shaped ha, gd_shaped hb]; rfl
def eqvDs (a b : List D) : Bool := PyData.eqvAll (D.pys a) (D.pys b)
theorem ev_ii {i j : Int} : eqvD (.int i) (.int j) = decide (i = j) := by
  unfold eqvD
  simp only [D.py, PyData.eqv]
  rfl
theorem ev_ss {i j : Str} : eqvD (.str i) (.str j) = decide (i = j) := by
  unfold eqvD
  simp only [D.py, PyData.eqv]
  rfl
theorem ev_tt {a b : List D} : eqvD (.tup a) (.tup b) = eqvDs a b := by
  unfold eqvD eqvDs
  simp only [D.py, PyData.eqv]
theorem ev_ll {a b : List D} : eqvD (.lst a) (.lst b) = eqvDs a b := by
  unfold eqvD eqvDs
  simp only [D.py, PyData.eqv]
theorem ev_bb {i j : Bool} : eqvD (.bl i) (.bl j) = (i == j) := by
  unfold eqvD
  simp only [D.py, PyData.eqv]
theorem ev_nn : eqvD .non .non = true := by
  unfold eqvD
  simp only [D.py, PyData.eqv]
theorem ev_it {i : Int} {a : List D} : eqvD (.int i) (.tup a) = false := by
  unfold eqvD
  simp only [D.py, PyData.eqv]
theorem ev_ti {i : Int} {a : List D} : eqvD (.tup a) (.int i) = false := by
  unfold eqvD
  simp only [D.py, PyData.eqv]
theorem ev_nt {a : List D} : eqvD .non (.tup a) = false := by
  unfold eqvD
  simp only [D.py, PyData.eqv]
theorem ev_tn {a : List D} : eqvD (.tup a) .non = false := by
  unfold eqvD
  simp only [D.py, PyData.eqv]
theorem ev_nb {b : Bool} : eqvD .non (.bl b) = false := by
  unfold eqvD
  simp only [D.py, PyData.eqv]
theorem ev_bn {b : Bool} : eqvD (.bl b) .non = false := by
  unfold eqvD
  simp only [D.py, PyData.eqv]
theorem ev_tl {a b : List D} : eqvD (.tup a) (.lst b) = false := by
  unfold eqvD
  simp only [D.py, PyData.eqv]
theorem ev_st {x : Str} {b : List D} : eqvD (.str x) (.tup b) = false := by
  unfold eqvD
  simp only [D.py, PyData.eqv]
theorem ev_ts {x : Str} {b : List D} : eqvD (.tup b) (.str x) = false := by
  unfold eqvD
  simp only [D.py, PyData.eqv]
theorem evs_00 : eqvDs [] [] = true := by
  unfold eqvDs
  simp only [D.pys, PyData.eqvAll]
theorem evs_0c {a : D} {l : List D} : eqvDs [] (a :: l) = false := by
  unfold eqvDs
  simp only [D.pys, PyData.eqvAll]
theorem evs_c0 {a : D} {l : List D} : eqvDs (a :: l) [] = false := by
  unfold eqvDs
  simp only [D.pys, PyData.eqvAll]
theorem evs_cc {a b : D} {l m : List D} : eqvDs (a :: l) (b :: m) = (eqvD a b && eqvDs l m) := by
  unfold eqvDs
  simp only [D.pys, PyData.eqvAll]
  rfl
theorem evs_map {α : Type} [DecidableEq α] {enc : α → D} (h : ∀ a b, eqvD (enc a) (enc b) = decide (a = b)) : ∀ l m : List α, eqvDs (l.map enc) (m.map enc) = decide (l = m)
  | [], [] => by simp [evs_00]
  | [], a :: l => by simp [evs_0c]
  | a :: l, [] => by simp [evs_c0]
  | a :: l, b :: m => by
    rw [List.map_cons, List.map_cons, evs_cc, h, evs_map h l m]
    by_cases e1 : a = b <;> by_cases e2 : l = m <;> simp [e1, e2]
theorem dec_cell (a b : Cell) : eqvD a.d b.d = decide (a = b) := by
  cases a <;> cases b
  · simp [Cell.d, ev_ii]
  · simp [Cell.d, ev_it]
  · simp [Cell.d, ev_ti]
  · rename_i x y
    simp only [Cell.d, ev_tt, evs_cc, evs_00, ev_ss, ev_ii]
    by_cases e : x = y <;> simp [e]
theorem dec_w (a b : Option Cell) : eqvD (wD a) (wD b) = decide (a = b) := by
  rcases a with _ | a <;> rcases b with _ | b
  · simp [wD, ev_nn]
  · cases b <;> simp [wD, Cell.d, ev_nt]
    unfold eqvD; simp [D.py, PyData.eqv]
  · cases a <;> simp [wD, Cell.d, ev_tn]
    unfold eqvD; simp [D.py, PyData.eqv]
  · show eqvD a.d b.d = _
    rw [dec_cell]; simp
theorem dec_row (a b : Row) : eqvD a.d b.d = decide (a = b) := by
  show eqvD (.tup _) (.tup _) = _
  rw [ev_tt, evs_map dec_cell]
theorem gd_cell {k : Nat} (c : Cell) : Gd (k + 1) c.d := by
  cases c with
  | num i => exact gd_int i
  | gap x =>
    refine gd_tup fun d hd => ?_
    rcases List.mem_cons.mp hd with rfl | hd
    · exact gd_str (by decide +kernel)
    · rw [List.mem_singleton.mp hd]; exact gd_int x
theorem gd_w {k : Nat} (c : Option Cell) : Gd (k + 1) (wD c) := by
  rcases c with _ | c
  · exact gd_non
  · exact gd_cell c
theorem gd_row {k : Nat} (r : Row) : Gd (k + 2) r.d := gd_tup fun d hd => by
  obtain ⟨c, _, rfl⟩ := List.mem_map.mp hd
  exact gd_cell c
theorem eqD_cell (a b : Cell) : eqD a.d b.d = some (decide (a = b)) := by rw [eqD_gd (gd_cell a) (gd_cell b), dec_cell]
theorem eqD_w (a b : Option Cell) : eqD (wD a) (wD b) = some (decide (a = b)) := by rw [eqD_gd (gd_w a) (gd_w b), dec_w]
theorem eqD_row (a b : Row) : eqD a.d b.d = some (decide (a = b)) := by rw [eqD_gd (gd_row a) (gd_row b), dec_row]
end G48

set_option maxHeartbeats 1000000
/-! Texts' signs; the looker. -/
namespace G48
open PySem
/-- the looker: widths, how many things were seen -/
def looker (w : D) (k : Nat) : D := .obj 0 [("widths", w), ("seen", .int (k : Int))]
section
variable {w : D} {k : Nat} {Φ : CF} {σ : S}
theorem lk_seen : fldK "seen" σ (some (looker w k)) = some ((false, .int (k : Int)), σ) := by
  unfold looker
  rw [fldK_s, show List.lookup ("seen" : Str) [(("widths" : Str), w), ("seen", .int (k : Int))] = some (.int (k : Int)) from rfl, vloK_s]
theorem lk_wid : fldK "widths" σ (some (looker w k)) = some ((false, w), σ) := by
  unfold looker
  rw [fldK_s, show List.lookup ("widths" : Str) [(("widths" : Str), w), ("seen", .int (k : Int))] = some w from rfl, vloK_s]
theorem lk_set {i : Nat} : fstK i "seen" (.int ((k : Int) + 1)) σ (some (looker w k)) = nxK (sl2 σ i (looker w (k + 1))) := by
  unfold looker
  rw [fstK_s, if_pos (by simp)]
  rw [show fput ("seen" : Str) (.int ((k : Int) + 1)) [(("widths" : Str), w), ("seen", .int (k : Int))] = [(("widths" : Str), w), ("seen", .int ((k + 1 : Nat) : Int))] from rfl]
theorem lk_ob : (looker w k).isObj = true := rfl
theorem lk_cls {m : Str} (h : okS m = true) (h1 : neS m "widths" = true) (h2 : neS m "seen" = true) : isCls 0 m (some (looker w k)) = true := by
  have e1 := bq_d h1
  have e2 := bq_d h2
  show (decide (0 = 0) && (List.lookup m [(("widths" : Str), w), ("seen", .int (k : Int))]).isNone) = true
  rw [List.lookup_cons, e1, List.lookup_cons, e2]
  rfl
theorem lk_mc {f : Nat} {es : Exs} : kMc Φ f es (true, looker w k) σ = bnd (evs Φ es σ) (kMc2 Φ f (looker w k)) := rfl
end
/-! a zip of a text and a tuple -/
def pairD (p : Str × D) : D := .tup [.str p.1, p.2]
theorem zip_st {z : Str} {ps : List D} (xs : List (Str × D)) (h1 : signs z = xs.map fun p => .str p.1) (h2 : ps = xs.map (·.2)) (h3 : z.cps.all (· < 128) = true) : zipOk (.str z) (.tup ps) = some (xs.map pairD) := by
  show (if z.cps.all (· < 128) then some (zipD (signs z) ps) else none) = _
  rw [h3, h1, h2]
  show some _ = _
  congr 1
  clear h1 h2
  induction xs with
  | nil => rfl
  | cons p xs ih => simp [zipD, pairD, ih]
/-- numbers that a sentence may hold -/
def sml (i : Int) : Prop := -100000000000000000000 ≤ i ∧ i ≤ 100000000000000000000
def kOk (p : Str × D) : Prop := (p.1 = "x" ∨ p.1 = "c" ∨ p.1 = "s") ∨ (p.1 = "n" ∧ ∃ i : Int, p.2 = .int i ∧ sml i) ∨ (p.1 = "l" ∧ ∃ l : List Int, p.2 = .tup (l.map D.int) ∧ ∀ i ∈ l, sml i) ∨ (p.1 = "p" ∧ ∃ l : List (Int × Int), p.2 = .tup (l.map fun q => .tup [.int q.1, .int q.2]) ∧ ∀ q ∈ l, sml q.1 ∧ sml q.2)
end G48

set_option maxHeartbeats 1000000
/-! Dice. -/
namespace G48
open PySem
structure Dq where
  a : Nat
  b : Int
  c : Int
def dice (s : List Int) (q : Dq) : D := .lst [.scr s, .int (q.a : Int), .int q.b, .int q.c]
def nxV (s : List Int) (q : Dq) (m : Int) : Int :=
  if 0 < q.c then q.c % m else if q.a + 1 ≤ s.length then s.getD q.a 0 % m else q.b * 48271 % 2147483647 / 7 % m
def nxQ (s : List Int) (q : Dq) (m : Int) : Dq :=
  if 0 < q.c then ⟨q.a, q.b, q.c / m⟩ else if q.a + 1 ≤ s.length then ⟨q.a + 1, q.b, if 1000000000000000000 ≤ s.getD q.a 0 then s.getD q.a 0 / m else 0⟩ else ⟨q.a + 1, q.b * 48271 % 2147483647, q.c⟩
theorem nxV_lo {s : List Int} {q : Dq} {m : Int} (h : 0 < m) : 0 ≤ nxV s q m := by
  unfold nxV
  split
  · exact Int.emod_nonneg _ (by omega)
  · split <;> exact Int.emod_nonneg _ (by omega)
theorem nxV_hi {s : List Int} {q : Dq} {m : Int} (h : 0 < m) : nxV s q m < m := by
  unfold nxV
  split
  · exact Int.emod_lt_of_pos _ h
  · split <;> exact Int.emod_lt_of_pos _ h
theorem put4_3 {a b c d v : D} : put1 (.lst [a, b, c, d]) (.int 3) v = some (.lst [a, b, c, v]) := rfl
theorem put4_2 {a b c d v : D} : put1 (.lst [a, b, c, d]) (.int 2) v = some (.lst [a, b, v, d]) := rfl
theorem put4_1 {a b c d v : D} : put1 (.lst [a, b, c, d]) (.int 1) v = some (.lst [a, v, c, d]) := rfl
theorem dc_ob {s : List Int} {q : Dq} : (dice s q).isObj = false := rfl
/-- a place of a list -/
theorem atI_mem {α : Type} (l : List α) (v : Int) (h0 : 0 ≤ v) (h1 : v < l.length) : ∃ x ∈ l, atI l v = some x := by
  obtain ⟨n, rfl⟩ := Int.eq_ofNat_of_zero_le h0
  have hl : n < l.length := by omega
  exact ⟨l[n], List.getElem_mem hl, atI_nat (List.getElem?_eq_getElem hl)⟩
theorem atQ_map {α : Type} (l : List α) (f : α → D) (v : Int) (h0 : 0 ≤ v) (h1 : v < l.length) : ∃ x ∈ l, atI (l.map f) v = some (f x) := by
  obtain ⟨n, rfl⟩ := Int.eq_ofNat_of_zero_le h0
  have hl : n < l.length := by omega
  exact ⟨l[n], List.getElem_mem hl, atI_nat (by simp [hl])⟩
theorem big01 (b : Bool) : big64 (if b = true then 1 else 0) = true := by cases b <;> decide +kernel
/-! shapes of texts -/
theorem Part.shape (p : Part) : ∃ w l, p.d = .tup (.str w :: l) ∧ okS w = true := by
  cases p <;> exact ⟨_, _, rfl, by decide +kernel⟩
theorem Cond.shape (p : Cond) : ∃ w l, p.d = .tup (.str w :: l) ∧ okS w = true := by
  cases p <;> exact ⟨_, _, rfl, by decide +kernel⟩
theorem gd_cons {k : Nat} {a : D} {l : List D} (ha : Gd k a) (hl : ∀ d ∈ l, Gd k d) : ∀ d ∈ a :: l, Gd k d := fun d hd => by
  rcases List.mem_cons.mp hd with rfl | hd
  · exact ha
  · exact hl d hd
theorem gd_nil {k : Nat} : ∀ d ∈ ([] : List D), Gd k d := fun _ h => absurd h List.not_mem_nil
theorem gd_part : ∀ p : Part, Gd (p.deep + 1) p.d
  | .col c => gd_tup (gd_cons (gd_str (by decide +kernel)) (gd_cons (gd_int _) gd_nil))
  | .num c => gd_tup (gd_cons (gd_str (by decide +kernel)) (gd_cons (gd_int _) gd_nil))
  | .plus a b => gd_tup (gd_cons (gd_str (by decide +kernel)) (gd_cons ((gd_part a).mono (by simp only [Part.deep]; omega)) (gd_cons ((gd_part b).mono (by simp only [Part.deep]; omega)) gd_nil)))
  | .take a b => gd_tup (gd_cons (gd_str (by decide +kernel)) (gd_cons ((gd_part a).mono (by simp only [Part.deep]; omega)) (gd_cons ((gd_part b).mono (by simp only [Part.deep]; omega)) gd_nil)))
theorem gd_cond : ∀ p : Cond, Gd (p.deep + 1) p.d
  | .is a b => gd_tup (gd_cons (gd_str (by decide +kernel)) (gd_cons ((gd_part a).mono (by simp only [Cond.deep]; omega)) (gd_cons ((gd_part b).mono (by simp only [Cond.deep]; omega)) gd_nil)))
  | .less a b => gd_tup (gd_cons (gd_str (by decide +kernel)) (gd_cons ((gd_part a).mono (by simp only [Cond.deep]; omega)) (gd_cons ((gd_part b).mono (by simp only [Cond.deep]; omega)) gd_nil)))
  | .and a b => gd_tup (gd_cons (gd_str (by decide +kernel)) (gd_cons ((gd_cond a).mono (by simp only [Cond.deep]; omega)) (gd_cons ((gd_cond b).mono (by simp only [Cond.deep]; omega)) gd_nil)))
  | .or a b => gd_tup (gd_cons (gd_str (by decide +kernel)) (gd_cons ((gd_cond a).mono (by simp only [Cond.deep]; omega)) (gd_cons ((gd_cond b).mono (by simp only [Cond.deep]; omega)) gd_nil)))
  | .lacks a => gd_tup (gd_cons (gd_str (by decide +kernel)) (gd_cons ((gd_part a).mono (by simp only [Cond.deep]; omega)) gd_nil))
  | .not a => gd_tup (gd_cons (gd_str (by decide +kernel)) (gd_cons ((gd_cond a).mono (by simp only [Cond.deep]; omega)) gd_nil))
  | .tru a => gd_tup (gd_cons (gd_str (by decide +kernel)) (gd_cons ((gd_cond a).mono (by simp only [Cond.deep]; omega)) gd_nil))
/-- is not the empty tuple -/
theorem ne_nil {k : Nat} {a : D} {l : List D} (h : Gd k (.tup (a :: l))) (hk : k ≤ 64) : prD .ne [.tup (a :: l), .tup []] = some (false, .bl true) :=
  p_neD (b := false) (by rw [eqD_gd (h.mono hk) ((gd_tup (k := 0) gd_nil).mono (by omega)), ev_tt, evs_c0])
/-! rules for laws -/
theorem rng_1 {j : Int} (h0 : -1000000 ≤ j) (h1 : j ≤ 1000000) : rngOf [.int j] = some ((List.range j.toNat).map fun (i : Nat) => D.int (i : Int)) := by
  show (if sm62 j then some (rgI j) else none) = _
  have : sm62 j = true := by
    unfold sm62
    exact decide_eq_true (by omega)
  rw [this]; rfl
theorem ne_l1 (a : Option Cell) : prD .ne [.lst [wD a], .lst []] = some (false, .bl true) :=
  p_neD (b := false) (by rw [eqD_gd ((gd_lst (gd_cons (gd_w (k := 0) a) gd_nil)).mono (by omega)) ((gd_lst (k := 0) gd_nil).mono (by omega)), ev_ll, evs_c0])
theorem ne_l2 (a b : Option Cell) : prD .ne [.lst [wD a, wD b], .lst []] = some (false, .bl true) :=
  p_neD (b := false) (by rw [eqD_gd ((gd_lst (gd_cons (gd_w (k := 0) a) (gd_cons (gd_w (k := 0) b) gd_nil))).mono (by omega)) ((gd_lst (k := 0) gd_nil).mono (by omega)), ev_ll, evs_c0])
theorem p_min1_2 {a b : Int} : prD .min1 [.lst [.int a, .int b]] = some (false, .int (min a b)) := rfl
theorem p_max1_2 {a b : Int} : prD .max1 [.lst [.int a, .int b]] = some (false, .int (max a b)) := rfl
theorem n3_b (b : Bool) : 2 * (if b = true then 1 else 0) = n3 (some b) := by cases b <;> rfl
theorem n3_no (t : Option Bool) : 2 - n3 t = n3 (noT t) := by rcases t with _ | ⟨_ | _⟩ <;> rfl
theorem n3_tru (t : Option Bool) : 2 * (n3 t / 2) = n3 (some (decide (t = some true))) := by rcases t with _ | ⟨_ | _⟩ <;> rfl
theorem n3_and (a b : Option Bool) : min (n3 a) (n3 b) = n3 (both2 a b) := by rcases a with _ | ⟨_ | _⟩ <;> rcases b with _ | ⟨_ | _⟩ <;> rfl
theorem n3_or (a b : Option Bool) : max (n3 a) (n3 b) = n3 (any2 a b) := by rcases a with _ | ⟨_ | _⟩ <;> rcases b with _ | ⟨_ | _⟩ <;> rfl
theorem n3_at (t : Option Bool) : atI [D.bl false, D.non, D.bl true] (n3 t) = some (tD t) := by rcases t with _ | ⟨_ | _⟩ <;> rfl
theorem p_eqB {b c : Bool} : prD .eq [.bl b, .bl c] = some (false, .bl (b == c)) := p_eqD (by rw [eqD_gd (gd_bl b) (gd_bl c), ev_bb])
/-- let go, or one's own -/
def fz (b : Bool) (d : D) : Sl := if b = true then .va d else .ow d
theorem fz_t {d : D} : fz true d = .va d := rfl
theorem fz_f {d : D} : fz false d = .ow d := rfl
/-- a loop that looks for the first -/
theorem loopF_find {α ι : Type} {body : S → Option (Fl × S)} {tg : List Nat} (St : ι → S) (p : α → Bool) (res : α → Res) (f : α → D) : ∀ (xs : List α) (i0 : ι),
    (∀ x ∈ xs, ∀ i, (p x = true ∧ ∃ σ, lstep body tg (f x) (St i) = some (.rt (res x), σ)) ∨ (p x = false ∧ ∃ i', lstep body tg (f x) (St i) = some (.nx, St i'))) →
    (xs.find? p = none ∧ ∃ i, loopF body tg (xs.map f) (St i0) = some (.nx, St i)) ∨ ∃ x σ, xs.find? p = some x ∧ loopF body tg (xs.map f) (St i0) = some (.rt (res x), σ)
  | [], i0, _ => .inl ⟨rfl, i0, rfl⟩
  | x :: xs, i0, h => by
    rcases h x (List.mem_cons_self ..) i0 with ⟨h1, σ, h2⟩ | ⟨h1, i, h2⟩
    · exact .inr ⟨x, σ, by rw [List.find?_cons_of_pos h1], by rw [List.map_cons, lstep_rt h2]⟩
    · rcases loopF_find St p res f xs i (fun y hy => h y (List.mem_cons_of_mem _ hy)) with ⟨e1, i', e2⟩ | ⟨y, σ, e1, e2⟩
      · exact .inl ⟨by rw [List.find?_cons_of_neg (by rw [h1]; simp), e1], i', by rw [List.map_cons, lstep_nx h2, e2]⟩
      · exact .inr ⟨y, σ, by rw [List.find?_cons_of_neg (by rw [h1]; simp), e1], by rw [List.map_cons, lstep_nx h2, e2]⟩
theorem loopF_fi {α ι : Type} {body : S → Option (Fl × S)} {tg : List Nat} (St : ι → S) (p : α → Bool) (res : α → Res) (f : α → D) {xs : List α} {i0 : ι} {L : Option (Fl × S)} (hL : loopF body tg (xs.map f) (St i0) = L)
    (h : ∀ x ∈ xs, ∀ i, (p x = true ∧ ∃ σ, lstep body tg (f x) (St i) = some (.rt (res x), σ)) ∨ (p x = false ∧ ∃ i', lstep body tg (f x) (St i) = some (.nx, St i'))) :
    (xs.find? p = none ∧ ∃ i, L = some (.nx, St i)) ∨ ∃ x σ, xs.find? p = some x ∧ L = some (.rt (res x), σ) := by
  subst hL
  exact loopF_find St p res f xs i0 h
/-- a loop that folds -/
theorem loopF_fold {α β ι : Type} {body : S → Option (Fl × S)} {tg : List Nat} (St : ι → β → S) (step : β → α → β) (f : α → D) (ok : List α → β → Prop) : ∀ (xs : List α) (i0 : ι) (b : β), ok xs b →
    (∀ x rest b, x ∈ xs → ok (x :: rest) b → ok rest (step b x) ∧ ∀ i, ∃ i', lstep body tg (f x) (St i b) = some (.nx, St i' (step b x))) →
    ∃ i, loopF body tg (xs.map f) (St i0 b) = some (.nx, St i (xs.foldl step b)) ∧ ok [] (xs.foldl step b)
  | [], i0, b, o, _ => ⟨i0, rfl, o⟩
  | x :: xs, i0, b, o, h => by
    obtain ⟨h1, h2⟩ := h x xs b (List.mem_cons_self ..) o
    obtain ⟨i, h2⟩ := h2 i0
    obtain ⟨i', e, o'⟩ := loopF_fold St step f ok xs i (step b x) h1 (fun y r c hy => h y r c (List.mem_cons_of_mem _ hy))
    exact ⟨i', by rw [List.map_cons, lstep_nx h2, e]; rfl, o'⟩
theorem loopF_fo {α β ι : Type} {body : S → Option (Fl × S)} {tg : List Nat} (St : ι → β → S) (step : β → α → β) (f : α → D) (ok : List α → β → Prop) {xs : List α} {i0 : ι} {b : β} {L : Option (Fl × S)} (hL : loopF body tg (xs.map f) (St i0 b) = L) (o : ok xs b)
    (h : ∀ x rest b, x ∈ xs → ok (x :: rest) b → ok rest (step b x) ∧ ∀ i, ∃ i', lstep body tg (f x) (St i b) = some (.nx, St i' (step b x))) :
    ∃ i, L = some (.nx, St i (xs.foldl step b)) ∧ ok [] (xs.foldl step b) := by
  subst hL
  exact loopF_fold St step f ok xs i0 b o h
theorem p_rng {j : Int} (h0 : 0 ≤ j) (h1 : j ≤ 16777216) : prD .rng [.int j] = some (true, .lst ((List.range j.toNat).map fun (i : Nat) => D.int (i : Int))) := by
  show (if decide (0 ≤ j) && decide (j ≤ 16777216) then some (true, D.lst (rgI j)) else none) = _
  rw [decide_eq_true h0, decide_eq_true h1]; rfl
/-! rows of all cells -/
def triedC (top : Nat) : List Cell := [.gap 0, .gap 1] ++ (List.range (top + 1)).map fun (i : Nat) => Cell.num (i : Int)
def extR (cs : List Cell) (rs : List Row) : List Row := rs.flatMap fun r => cs.map fun c => r ++ [c]
def allR (cs : List Cell) : Nat → List Row
  | 0 => [[]]
  | k + 1 => extR cs (allR cs k)
theorem triedC_len (top : Nat) : (triedC top).length = top + 3 := by simp [triedC]
theorem extR_len (cs : List Cell) (rs : List Row) : (extR cs rs).length = rs.length * cs.length := by
  unfold extR
  induction rs with
  | nil => simp
  | cons r rs ih => rw [List.flatMap_cons, List.length_append, ih, List.length_map, List.length_cons, Nat.add_mul]; omega
theorem allR_len (cs : List Cell) : ∀ k, (allR cs k).length = cs.length ^ k
  | 0 => rfl
  | k + 1 => by rw [allR, extR_len, allR_len cs k, Nat.pow_succ]
theorem allR_mem {cs : List Cell} : ∀ {k : Nat} {r : Row}, r ∈ allR cs k ↔ r.length = k ∧ ∀ c ∈ r, c ∈ cs
  | 0, r => by
    constructor
    · intro h
      rw [List.mem_singleton.mp h]
      exact ⟨rfl, fun c hc => absurd hc List.not_mem_nil⟩
    · rintro ⟨h, _⟩
      rw [List.length_eq_zero_iff.mp h]
      exact List.mem_singleton.mpr rfl
  | k + 1, r => by
    unfold allR extR
    rw [List.mem_flatMap]
    constructor
    · rintro ⟨r', h1, h2⟩
      obtain ⟨c, hc, rfl⟩ := List.mem_map.mp h2
      obtain ⟨h3, h4⟩ := allR_mem.mp h1
      refine ⟨by simp [h3], fun d hd => ?_⟩
      rcases List.mem_append.mp hd with hd | hd
      · exact h4 d hd
      · rw [List.mem_singleton.mp hd]; exact hc
    · rintro ⟨h1, h2⟩
      have hne : r ≠ [] := fun e => by rw [e] at h1; simp at h1
      refine ⟨r.dropLast, allR_mem.mpr ⟨by simp [h1], fun c hc => h2 c (List.dropLast_subset _ hc)⟩, List.mem_map.mpr ⟨r.getLast hne, h2 _ (List.getLast_mem hne), List.dropLast_concat_getLast hne⟩⟩
theorem triedC_T {top : Nat} (h : top ≤ 3) {c : Cell} (hc : c ∈ triedC top) : cellT c := by
  unfold triedC at hc
  rcases List.mem_append.mp hc with hc | hc
  · simp only [List.mem_cons, List.not_mem_nil, or_false] at hc
    rcases hc with rfl | rfl <;> simp [cellT]
  · obtain ⟨i, hi, rfl⟩ := List.mem_map.mp hc
    have := List.mem_range.mp hi
    show 0 ≤ (i : Int) ∧ (i : Int) ≤ 99
    omega
/-- the first row that parts two conditions -/
def partW (a b : Cond) (wide top : Nat) : Option Row := (allR (triedC top) wide).find? fun r => !decide (truth r a = truth r b)
def rowO : Option Row → D
  | none => .non
  | some r => r.d
/-- a number taken many times, up to 2001 -/
def pwr (b : Nat) : Nat → Nat
  | 0 => 1
  | k + 1 => if 2001 < pwr b k * b then 2001 else pwr b k * b
theorem pwr_s {b k : Nat} : pwr b (k + 1) = if 2001 < pwr b k * b then 2001 else pwr b k * b := rfl
theorem pwr_le (b : Nat) : ∀ k, pwr b k ≤ 2001
  | 0 => by simp [pwr]
  | k + 1 => by unfold pwr; split <;> omega
theorem eqD_t (a b : Option Bool) : eqD (tD a) (tD b) = some (decide (a = b)) := by
  have g : ∀ t : Option Bool, Gd 64 (tD t) := fun t => by rcases t with _ | t; exact gd_non; exact gd_bl t
  rw [eqD_gd (g a) (g b)]
  rcases a with _ | ⟨_ | _⟩ <;> rcases b with _ | ⟨_ | _⟩ <;> simp [tD, ev_nn, ev_bb, ev_nb, ev_bn]
theorem extR_snoc (cs : List Cell) (l : List Row) (r : Row) : extR cs (l ++ [r]) = extR cs l ++ cs.map fun c => r ++ [c] := by
  unfold extR
  rw [List.flatMap_append, List.flatMap_cons, List.flatMap_nil, List.append_nil]
theorem row_snoc (r : Row) (c : Cell) : D.tup (r.map Cell.d ++ [c.d]) = Row.d (r ++ [c]) := by
  unfold Row.d
  rw [List.map_append]; rfl
theorem pwr_big (b k : Nat) : big64 ((pwr b k : Nat) : Int) = true := by
  have hp := pwr_le b k
  generalize pwr b k = p at *
  unfold big64
  exact decide_eq_true (by omega)
theorem pwr_i (b k : Nat) :  (if ((pwr b k : Nat) : Int) * (b : Int) < 2001 then ((pwr b k : Nat) : Int) * (b : Int) else 2001) = ((pwr b (k + 1) : Nat) : Int) := by
  rw [pwr_s]
  generalize pwr b k = p at *
  have hc : ((p * b : Nat) : Int) = (p : Int) * (b : Int) := by simp
  rw [← hc]
  generalize p * b = m at *
  split <;> split <;> omega
theorem at5 {α : Type} {a b c d e f : α} {l : List α} : atI (a :: b :: c :: d :: e :: f :: l) 5 = some f := atI_nat (n := 5) rfl
theorem at6 {α : Type} {a b c d e f g : α} {l : List α} : atI (a :: b :: c :: d :: e :: f :: g :: l) 6 = some g := atI_nat (n := 6) rfl
def isT : Option Bool → Option Bool
  | some true => some true
  | _ => some false
theorem truth_tru (r : Row) (c : Cond) : truth r (.tru c) = isT (truth r c) := by
  show some (decide (truth r c = some true)) = _
  rcases truth r c with _ | ⟨_ | _⟩ <;> rfl
theorem truth_not (r : Row) (c : Cond) : truth r (.not c) = noT (truth r c) := rfl
theorem truth_and (r : Row) (a b : Cond) : truth r (.and a b) = both2 (truth r a) (truth r b) := rfl
theorem truth_or (r : Row) (a b : Cond) : truth r (.or a b) = any2 (truth r a) (truth r b) := rfl
theorem tried_add (top : Nat) (ht : top ≤ 1000) : prD .add [.lst [.tup [.str "gap", .int 0], .tup [.str "gap", .int 1]], .lst ((List.range (top + 1)).map fun (i : Nat) => D.int (i : Int))] = some (true, .lst ((triedC top).map Cell.d)) := by
  rw [p_addL (by rw [sz24]; simp; omega)]
  simp [triedC, Cell.d]
theorem p_isN_row (o : Option Row) : prD .isN [rowO o] = some (false, .bl o.isNone) := by cases o <;> rfl
end G48

set_option maxHeartbeats 1000000
/-! Tables, sentences, entries. -/
namespace G48
open PySem
structure Tab where
  wide : Nat
  rows : List Row
  deriving DecidableEq, Inhabited
def rowsD (l : List Row) : D := .lst (l.map Row.d)
def Tab.d (t : Tab) : D := .tup [.int (t.wide : Int), rowsD t.rows]
def tabsD (ts : List Tab) : D := .lst (ts.map Tab.d)
/-- tables that are let by -/
structure Tab.ok (t : Tab) : Prop where
  lo : 1 ≤ t.wide
  hi : t.wide ≤ 4
  few : t.rows.length ≤ 6
  row : ∀ r ∈ t.rows, r.length = t.wide ∧ ∀ c ∈ r, cellT c
inductive Sent where
  | rows (t : Nat) | keep (s : Sent) (c : Cond) | pick (s : Sent) (cs : List Nat) | join (a b : Sent) (ps : List (Nat × Nat)) | both (a b : Sent) | without (a b : Sent)
  deriving DecidableEq, Inhabited
def natsD (l : List Nat) : D := .tup (l.map fun (i : Nat) => D.int (i : Int))
def pairD2 (p : Nat × Nat) : D := .tup [.int (p.1 : Int), .int (p.2 : Int)]
def pairsD (l : List (Nat × Nat)) : D := .tup (l.map pairD2)
def Sent.d : Sent → D
  | .rows t => .tup [.str "rows", .int (t : Int)]
  | .keep s c => .tup [.str "keep", s.d, c.d]
  | .pick s cs => .tup [.str "pick", s.d, natsD cs]
  | .join a b ps => .tup [.str "join", a.d, b.d, pairsD ps]
  | .both a b => .tup [.str "both", a.d, b.d]
  | .without a b => .tup [.str "without", a.d, b.d]
def Sent.wide (ws : List Nat) : Sent → Nat
  | .rows t => ws.getD t 0
  | .keep s _ => s.wide ws
  | .pick _ cs => cs.length
  | .join a b _ => a.wide ws + b.wide ws
  | .both a _ => a.wide ws
  | .without a _ => a.wide ws
def Sent.ok (ws : List Nat) : Sent → Prop
  | .rows t => t < ws.length
  | .keep s c => s.ok ws ∧ c.ok (s.wide ws)
  | .pick s cs => s.ok ws ∧ 1 ≤ cs.length ∧ cs.length ≤ 8 ∧ ∀ c ∈ cs, c < s.wide ws
  | .join a b ps => a.ok ws ∧ b.ok ws ∧ a.wide ws + b.wide ws ≤ 8 ∧ ps.length ≤ 100 ∧ ∀ p ∈ ps, p.1 < a.wide ws ∧ p.2 < b.wide ws
  | .both a b => a.ok ws ∧ b.ok ws ∧ a.wide ws = b.wide ws
  | .without a b => a.ok ws ∧ b.ok ws ∧ a.wide ws = b.wide ws
def Sent.size : Sent → Nat
  | .rows _ => 1
  | .keep s c => s.size + c.size + 1
  | .pick s _ => s.size + 1
  | .join a b _ => a.size + b.size + 1
  | .both a b => a.size + b.size + 1
  | .without a b => a.size + b.size + 1
/-- how deep calls go -/
def Sent.deep : Sent → Nat
  | .rows _ => 0
  | .keep s c => max s.deep c.deep + 1
  | .pick s _ => s.deep + 1
  | .join a b _ => max a.deep b.deep + 1
  | .both a b => max a.deep b.deep + 1
  | .without a b => max a.deep b.deep + 1
/-- levels -/
def Sent.lev : Sent → Nat
  | .rows _ => 0
  | .keep s _ => s.lev + 1
  | .pick s _ => s.lev + 1
  | .join a b _ => max a.lev b.lev + 1
  | .both a b => max a.lev b.lev + 1
  | .without a b => max a.lev b.lev + 1
/-- levels of two -/
def Sent.jl : Sent → Nat
  | .rows _ => 0
  | .keep s _ => s.jl
  | .pick s _ => s.jl
  | .join a b _ => max a.jl b.jl + 1
  | .both a b => max a.jl b.jl + 1
  | .without a b => max a.jl b.jl + 1
def Sent.safe : Sent → Prop
  | .rows _ => True
  | .keep s c => s.safe ∧ c.safe
  | .pick s _ => s.safe
  | .join a b _ => a.safe ∧ b.safe
  | .both a b => a.safe ∧ b.safe
  | .without a b => a.safe ∧ b.safe
/-- how many rows there may be, at any place within -/
def Sent.many (ts : List Tab) : Sent → Nat
  | .rows t => ((ts[t]?).map fun t => t.rows.length).getD 0
  | .keep s _ => s.many ts
  | .pick s _ => s.many ts
  | .join a b _ => max (max (a.many ts) (b.many ts)) (a.many ts * b.many ts)
  | .both a b => max (max (a.many ts) (b.many ts)) (a.many ts + b.many ts)
  | .without a b => max (a.many ts) (b.many ts)
abbrev Ent := Row × Option Bool
def Ent.d (e : Ent) : D := .tup [Row.d e.1, tD e.2]
def notFalse (l : List (Row × List (Option Bool))) : List Ent := (l.map fun p => (p.1, bothOf p.2)).filter fun e => !decide (e.2 = some false)
def sameC (a b : Cell) : Option Bool := sameW (some a) (some b)
def rowsSame (a b : Row) : Option Bool := bothOf (List.zipWith sameC a b)
def isAmong (r : Row) (l : List Ent) : Option Bool := anyOf (l.map fun e => bothOf [e.2, rowsSame r e.1])
def cellAt (r : Row) (i : Nat) : Cell := r.getD i default
/-- two rows side by side -/
def jrow (ps : List (Nat × Nat)) (e f : Ent) : Row × List (Option Bool) := (e.1 ++ f.1, [e.2, f.2] ++ ps.map fun p => sameC (cellAt e.1 p.1) (cellAt f.1 p.2))
def jrows (ps : List (Nat × Nat)) (b : List Ent) (e : Ent) : List (Row × List (Option Bool)) := b.map (jrow ps e)
def joinE (a b : List Ent) (ps : List (Nat × Nat)) : List Ent := notFalse (a.flatMap (jrows ps b))
def pickR (cs : List Nat) (r : Row) : Row := cs.map (cellAt r)
def entries (ts : List Tab) : Sent → List Ent
  | .rows t => ((ts[t]?).map fun t => t.rows.map fun r => (r, some true)).getD []
  | .keep s c => notFalse ((entries ts s).map fun e => (e.1, [e.2, truth e.1 c]))
  | .pick s cs => (entries ts s).map fun e => (pickR cs e.1, e.2)
  | .join a b ps => joinE (entries ts a) (entries ts b) ps
  | .both a b => entries ts a ++ entries ts b
  | .without a b => notFalse ((entries ts a).map fun e => (e.1, [e.2, noT (isAmong e.1 (entries ts b))]))
theorem notFalse_len (l : List (Row × List (Option Bool))) : (notFalse l).length ≤ l.length := by
  unfold notFalse
  exact Nat.le_trans (List.length_filter_le ..) (by simp)
theorem flatMap_len {α β : Type} (f : α → List β) (n : Nat) : ∀ (l : List α), (∀ x ∈ l, (f x).length = n) → (l.flatMap f).length = l.length * n
  | [], _ => by simp
  | x :: l, h => by
    rw [List.flatMap_cons, List.length_append, h x (List.mem_cons_self ..), flatMap_len f n l fun y hy => h y (List.mem_cons_of_mem _ hy), List.length_cons, Nat.add_mul]
    omega
theorem entries_len (ts : List Tab) : ∀ s : Sent, (entries ts s).length ≤ s.many ts
  | .rows t => by
    unfold entries Sent.many
    cases ts[t]? <;> simp
  | .keep s c => by
    have := entries_len ts s
    have h2 := notFalse_len ((entries ts s).map fun e => (e.1, [e.2, truth e.1 c]))
    simp only [List.length_map] at h2
    unfold entries Sent.many
    omega
  | .pick s cs => by
    have := entries_len ts s
    unfold entries Sent.many
    rw [List.length_map]; exact this
  | .join a b ps => by
    have h1 := entries_len ts a
    have h2 := entries_len ts b
    have h3 := notFalse_len ((entries ts a).flatMap (jrows ps (entries ts b)))
    rw [flatMap_len _ (entries ts b).length _ (fun x _ => by simp [jrows])] at h3
    have h4 := Nat.mul_le_mul h1 h2
    unfold entries Sent.many joinE
    omega
  | .both a b => by
    have h1 := entries_len ts a
    have h2 := entries_len ts b
    unfold entries Sent.many
    rw [List.length_append]
    omega
  | .without a b => by
    have h1 := entries_len ts a
    have h2 := notFalse_len ((entries ts a).map fun e => (e.1, [e.2, noT (isAmong e.1 (entries ts b))]))
    simp only [List.length_map] at h2
    unfold entries Sent.many
    omega
/-- what an entry is -/
def entOk (w : Nat) (e : Ent) : Prop := e.1.length = w ∧ (∀ c ∈ e.1, cellT c) ∧ e.2 ≠ some false
theorem cellAt_T {r : Row} (h : ∀ c ∈ r, cellT c) {i : Nat} (hi : i < r.length) : cellT (cellAt r i) := by
  unfold cellAt
  rw [List.getD_eq_getElem?_getD, List.getElem?_eq_getElem hi]
  exact h _ (List.getElem_mem hi)
theorem notFalse_mem {l : List (Row × List (Option Bool))} {e : Ent} (h : e ∈ notFalse l) : e.2 ≠ some false ∧ ∃ p ∈ l, e.1 = p.1 := by
  unfold notFalse at h
  obtain ⟨h1, h2⟩ := List.mem_filter.mp h
  obtain ⟨p, hp, rfl⟩ := List.mem_map.mp h1
  exact ⟨by simpa using h2, p, hp, rfl⟩
theorem entries_ok {ts : List Tab} (ht : ∀ t ∈ ts, t.ok) : ∀ (s : Sent), s.ok (ts.map Tab.wide) → ∀ e ∈ entries ts s, entOk (s.wide (ts.map Tab.wide)) e
  | .rows t, hs, e, he => by
    have hs : t < (ts.map Tab.wide).length := hs
    rw [List.length_map] at hs
    unfold entries at he
    rw [List.getElem?_eq_getElem hs] at he
    simp only [Option.map_some, Option.getD_some, List.mem_map] at he
    obtain ⟨r, hr, rfl⟩ := he
    have := (ht _ (List.getElem_mem hs)).row r hr
    refine ⟨?_, this.2, by simp⟩
    show r.length = (ts.map Tab.wide).getD t 0
    rw [List.getD_eq_getElem?_getD, List.getElem?_map, List.getElem?_eq_getElem hs]
    exact this.1
  | .keep s c, hs, e, he => by
    obtain ⟨h1, p, hp, h2⟩ := notFalse_mem he
    obtain ⟨f, hf, rfl⟩ := List.mem_map.mp hp
    obtain ⟨q1, q2, _⟩ := entries_ok ht s hs.1 f hf
    have h2 : e.1 = f.1 := h2
    exact ⟨by rw [h2]; exact q1, by rw [h2]; exact q2, h1⟩
  | .pick s cs, hs, e, he => by
    obtain ⟨f, hf, rfl⟩ := List.mem_map.mp he
    obtain ⟨q1, q2, q3⟩ := entries_ok ht s hs.1 f hf
    refine ⟨by simp [pickR, Sent.wide], fun c hc => ?_, q3⟩
    obtain ⟨i, hi, rfl⟩ := List.mem_map.mp hc
    exact cellAt_T q2 (by rw [q1]; exact hs.2.2.2 i hi)
  | .join a b ps, hs, e, he => by
    obtain ⟨h1, p, hp, h2⟩ := notFalse_mem he
    obtain ⟨f, hf, hp⟩ := List.mem_flatMap.mp hp
    obtain ⟨g, hg, rfl⟩ := List.mem_map.mp hp
    obtain ⟨q1, q2, _⟩ := entries_ok ht a hs.1 f hf
    obtain ⟨r1, r2, _⟩ := entries_ok ht b hs.2.1 g hg
    have h2 : e.1 = f.1 ++ g.1 := h2
    refine ⟨by rw [h2, List.length_append, q1, r1]; rfl, fun c hc => ?_, h1⟩
    rw [h2] at hc
    rcases List.mem_append.mp hc with hc | hc
    · exact q2 c hc
    · exact r2 c hc
  | .both a b, hs, e, he => by
    rcases List.mem_append.mp he with he | he
    · exact entries_ok ht a hs.1 e he
    · have := entries_ok ht b hs.2.1 e he
      rw [← hs.2.2] at this
      exact this
  | .without a b, hs, e, he => by
    obtain ⟨h1, p, hp, h2⟩ := notFalse_mem he
    obtain ⟨f, hf, rfl⟩ := List.mem_map.mp hp
    obtain ⟨q1, q2, _⟩ := entries_ok ht a hs.1 f hf
    have h2 : e.1 = f.1 := h2
    exact ⟨by rw [h2]; exact q1, by rw [h2]; exact q2, h1⟩
theorem numEnum_map {α : Type} (f : α → D) : ∀ (l : List α) (n : Nat), numEnum n (l.map f) = (l.zipIdx n).map fun p => D.tup [.int (p.2 : Int), f p.1]
  | [], _ => rfl
  | a :: l, n => by
    rw [List.map_cons, List.zipIdx_cons, List.map_cons, ← numEnum_map f l (n + 1)]
    rfl
def widD (ws : List Nat) : D := .lst (ws.map fun (i : Nat) => D.int (i : Int))
theorem Sent.wide_le {ws : List Nat} (hw : ∀ w ∈ ws, w ≤ 8) : ∀ (s : Sent), s.ok ws → s.wide ws ≤ 8
  | .rows t, h => by
    have h : t < ws.length := h
    show ws.getD t 0 ≤ 8
    rw [List.getD_eq_getElem?_getD, List.getElem?_eq_getElem h]
    exact hw _ (List.getElem_mem h)
  | .keep s c, h => Sent.wide_le hw s h.1
  | .pick s cs, h => h.2.2.1
  | .join a b ps, h => h.2.2.1
  | .both a b, h => Sent.wide_le hw a h.1
  | .without a b, h => Sent.wide_le hw a h.1
theorem zipD_map {α β : Type} (f : α → D) (g : β → D) : ∀ (a : List α) (b : List β), zipD (a.map f) (b.map g) = (List.zip a b).map fun p => D.tup [f p.1, g p.2]
  | [], _ => by simp [zipD]
  | _ :: _, [] => by simp [zipD]
  | x :: a, y :: b => by simp [zipD, zipD_map f g a b]
theorem zip_tt {α β : Type} (f : α → D) (g : β → D) (a : List α) (b : List β) : zipOk (.tup (a.map f)) (.tup (b.map g)) = some ((List.zip a b).map fun p => D.tup [f p.1, g p.2]) := by
  rw [← zipD_map]; rfl
theorem zw_map {α β γ : Type} (f : α → β → γ) : ∀ (a : List α) (b : List β), List.zipWith f a b = (List.zip a b).map fun p => f p.1 p.2
  | [], _ => by simp
  | _ :: _, [] => by simp
  | x :: a, y :: b => by simp [zw_map f a b]
theorem idx_cell {r : Row} {i : Nat} (h : i < r.length) : prD .idx [r.d, .int (i : Int)] = some (false, (cellAt r i).d) := by
  unfold Row.d
  rw [p_idxTa, atI_nat (n := i) (a := (cellAt r i).d) (by simp [cellAt, List.getElem?_eq_getElem h]), fD_s]
/-- what not_false is handed -/
def nfD (p : Row × List (Option Bool)) : D := .tup [Row.d p.1, .lst (p.2.map tD)]
theorem add_rows {a b : Row} (h : a.length + b.length ≤ 1000) : prD .add [a.d, b.d] = some (false, Row.d (a ++ b)) := by
  unfold Row.d
  rw [p_addT (by rw [sz24]; simp; omega), List.map_append]
theorem row_ob {r : Row} : (Row.d r).isObj = false := rfl
theorem tD_ob {t : Option Bool} : (tD t).isObj = false := by rcases t with _ | b <;> rfl
theorem cell_ob {c : Cell} : c.d.isObj = false := by cases c <;> rfl
theorem wD_ob {c : Option Cell} : (wD c).isObj = false := by rcases c with _ | c; rfl; cases c <;> rfl
theorem part_ob {c : Part} : c.d.isObj = false := by cases c <;> rfl
theorem cond_ob {c : Cond} : c.d.isObj = false := by cases c <;> rfl
theorem sent_ob {c : Sent} : c.d.isObj = false := by cases c <;> rfl
theorem tabs_ob {c : List Tab} : (tabsD c).isObj = false := rfl
theorem tab_ob {c : Tab} : c.d.isObj = false := rfl
theorem nats_ob {c : List Nat} : (natsD c).isObj = false := rfl
theorem pairs_ob {c : List (Nat × Nat)} : (pairsD c).isObj = false := rfl
theorem wid_ob {c : List Nat} : (widD c).isObj = false := rfl
theorem OB : type_of% (And.intro @row_ob (And.intro @tD_ob (And.intro @cell_ob (And.intro @wD_ob (And.intro @part_ob (And.intro @cond_ob (And.intro @sent_ob (And.intro @tabs_ob (And.intro @tab_ob (And.intro @nats_ob (And.intro @pairs_ob (And.intro @wid_ob @dc_ob)))))))))))) := (And.intro @row_ob (And.intro @tD_ob (And.intro @cell_ob (And.intro @wD_ob (And.intro @part_ob (And.intro @cond_ob (And.intro @sent_ob (And.intro @tabs_ob (And.intro @tab_ob (And.intro @nats_ob (And.intro @pairs_ob (And.intro @wid_ob @dc_ob))))))))))))
theorem Sent.wide_pos {ws : List Nat} (hw : ∀ w ∈ ws, 1 ≤ w) : ∀ (s : Sent), s.ok ws → 1 ≤ s.wide ws
  | .rows t, h => by
    have h : t < ws.length := h
    show 1 ≤ ws.getD t 0
    rw [List.getD_eq_getElem?_getD, List.getElem?_eq_getElem h]
    exact hw _ (List.getElem_mem h)
  | .keep s c, h => Sent.wide_pos hw s h.1
  | .pick s cs, h => h.2.1
  | .join a b ps, h => Nat.le_trans (Sent.wide_pos hw a h.1) (Nat.le_add_right ..)
  | .both a b, h => Sent.wide_pos hw a h.1
  | .without a b, h => Sent.wide_pos hw a h.1
/-- what law_any makes -/
structure anyOk (ws : List Nat) (dp : Nat) (sf : Bool) (p : Sent) : Prop where
  ok : p.ok ws
  lev : p.lev ≤ 2 * dp
  deep : p.deep ≤ 2 * dp + 7
  safe : sf = true → p.safe
  jl : p.jl ≤ dp
theorem compF_p {α β ι : Type} {elt : S → Option (D × S)} {cond : S → Option (Bool × S)} {tg own : List Nat} (St : ι → S) (P : List α → ι → Prop) (R : β → Prop) (g : β → D) (f : α → D) : ∀ (xs : List α) (q : ι), P xs q →
    (∀ x rest q, P (x :: rest) q → ∃ q' y, R y ∧ P rest q' ∧ cstep elt cond tg own (f x) (St q) = some (some (g y), St q')) →
    ∃ (q' : ι) (ys : List β), ys.length = xs.length ∧ (∀ y ∈ ys, R y) ∧ P [] q' ∧ compF elt cond tg own (xs.map f) (St q) = some (ys.map g, St q')
  | [], q, p, h => ⟨q, [], rfl, fun _ h => absurd h List.not_mem_nil, p, rfl⟩
  | x :: xs, q, p, h => by
    obtain ⟨q1, y, r, p1, h1⟩ := h x xs q p
    obtain ⟨q2, ys, l, m, p2, e⟩ := compF_p St P R g f xs q1 p1 h
    refine ⟨q2, y :: ys, by simp [l], fun z hz => ?_, p2, ?_⟩
    · rcases List.mem_cons.mp hz with rfl | hz
      · exact r
      · exact m z hz
    · rw [List.map_cons, cstep_t h1, e, bnd_s, kCp2_]; rfl
theorem compF_pi {α β ι : Type} {elt : S → Option (D × S)} {cond : S → Option (Bool × S)} {tg own : List Nat} (St : ι → S) (P : List α → ι → Prop) (R : β → Prop) (g : β → D) (f : α → D) {xs : List α} {q : ι} {L : Option (List D × S)} (hL : compF elt cond tg own (xs.map f) (St q) = L) (p : P xs q)
    (h : ∀ x rest q, P (x :: rest) q → ∃ q' y, R y ∧ P rest q' ∧ cstep elt cond tg own (f x) (St q) = some (some (g y), St q')) :
    ∃ (q' : ι) (ys : List β), ys.length = xs.length ∧ (∀ y ∈ ys, R y) ∧ P [] q' ∧ L = some (ys.map g, St q') := by
  subst hL
  exact compF_p St P R g f xs q p h
theorem er_map {α β : Type} (f : α → β) : ∀ (l : List α) (n : Nat), (l.map f).eraseIdx n = (l.eraseIdx n).map f
  | [], n => by simp
  | x :: l, 0 => rfl
  | x :: l, n + 1 => by simp [er_map f l n]
theorem pop_ints (ls : List Int) (k : Int) (h0 : 0 ≤ k) (h1 : k < ls.length) (hs : ls.length ≤ 1000) (i : Nat) : ∃ x ∈ ls, ∃ ls' : List Int, ls'.length + 1 = ls.length ∧ (∀ y ∈ ls', y ∈ ls) ∧ ∀ σ : S, popK i k σ (some (.ow (.lst (ls.map D.int)))) = some ((false, .int x), σ.set i (.ow (.lst (ls'.map D.int)))) := by
  obtain ⟨n, rfl⟩ := Int.eq_ofNat_of_zero_le h0
  have hl : n < ls.length := by omega
  refine ⟨ls[n], List.getElem_mem hl, ls.eraseIdx n, by rw [List.length_eraseIdx_of_lt hl]; omega, fun y hy => List.mem_of_mem_eraseIdx hy, fun σ => ?_⟩
  have e1 : ixN (ls.map D.int).length (n : Int) = some n := by
    unfold ixN
    rw [if_pos (by omega), if_pos (by simp; omega)]
    simp
  have e2 : (ls.map D.int)[n]? = some (.int ls[n]) := by simp [hl]
  have e3 : sm62 (n : Int) = true := by
    unfold sm62
    exact decide_eq_true (by omega)
  have e4 : (ls.map D.int).eraseIdx n = (ls.eraseIdx n).map D.int := er_map _ _ _
  rw [← e4]
  generalize ls.map D.int = l at *
  show (match ixN l.length (n : Int) with
    | some j => (match l[j]? with
      | some d => if sm62 (n : Int) then some ((false, d), σ.set i (.ow (.lst (l.eraseIdx j)))) else none
      | none => none)
    | none => none) = _
  rw [e1]
  show (match l[n]? with
      | some d => if sm62 (n : Int) then some ((false, d), σ.set i (.ow (.lst (l.eraseIdx n)))) else none
      | none => none) = _
  rw [e2]
  show (if sm62 (n : Int) = true then _ else none) = _
  rw [e3, if_pos rfl]
theorem ne_rows (l : List Row) : prD .ne [.lst (l.map Row.d), .lst []] = some (false, .bl (!decide (l = []))) := by
  apply p_neD
  rw [eqD_gd ((gd_lst (k := 2) fun d hd => by
    obtain ⟨r, _, rfl⟩ := List.mem_map.mp hd
    exact gd_row (k := 0) r).mono (by omega)) ((gd_lst (k := 0) gd_nil).mono (by omega)), ev_ll]
  cases l with
  | nil => simp [evs_00]
  | cons a l => simp [evs_c0]
theorem six_le {a b : Nat} (h : a ≤ b) : 6 ^ 2 ^ a ≤ 6 ^ 2 ^ b := Nat.pow_le_pow_right (by omega) (Nat.pow_le_pow_right (by omega) h)
theorem six_sq (k : Nat) : 6 ^ 2 ^ (k + 1) = 6 ^ 2 ^ k * 6 ^ 2 ^ k := by
  rw [Nat.pow_succ 2 k, Nat.mul_two, Nat.pow_add]
theorem six_ge (k : Nat) : 6 ≤ 6 ^ 2 ^ k := by
  have := six_le (Nat.zero_le k)
  simpa using this
theorem many_le {ts : List Tab} (ht : ∀ t ∈ ts, t.rows.length ≤ 6) : ∀ s : Sent, s.many ts ≤ 6 ^ 2 ^ s.jl
  | .rows t => by
    simp only [Sent.many, Sent.jl]
    cases e : ts[t]? with
    | none => simp
    | some x => exact ht x (List.mem_of_getElem? e)
  | .keep s _ => many_le ht s
  | .pick s _ => many_le ht s
  | .join a b _ => by
    have h1 := Nat.le_trans (many_le ht a) (six_le (Nat.le_max_left a.jl b.jl))
    have h2 := Nat.le_trans (many_le ht b) (six_le (Nat.le_max_right a.jl b.jl))
    have h3 := Nat.mul_le_mul h1 h2
    have h4 := six_le (Nat.le_succ (max a.jl b.jl))
    simp only [Sent.many, Sent.jl]
    rw [six_sq] at h4 ⊢
    omega
  | .both a b => by
    have h1 := Nat.le_trans (many_le ht a) (six_le (Nat.le_max_left a.jl b.jl))
    have h2 := Nat.le_trans (many_le ht b) (six_le (Nat.le_max_right a.jl b.jl))
    have h3 := six_ge (max a.jl b.jl)
    have h4 : 2 * 6 ^ 2 ^ (max a.jl b.jl) ≤ 6 ^ 2 ^ (max a.jl b.jl) * 6 ^ 2 ^ (max a.jl b.jl) := Nat.mul_le_mul_right _ (by omega)
    simp only [Sent.many, Sent.jl]
    rw [six_sq]
    omega
  | .without a b => by
    have h1 := Nat.le_trans (many_le ht a) (six_le (Nat.le_max_left a.jl b.jl))
    have h2 := Nat.le_trans (many_le ht b) (six_le (Nat.le_max_right a.jl b.jl))
    have h4 := six_le (Nat.le_succ (max a.jl b.jl))
    simp only [Sent.many, Sent.jl]
    have h5 : Nat.succ (max a.jl b.jl) = max a.jl b.jl + 1 := rfl
    rw [h5] at h4
    omega
theorem many_big {ts : List Tab} (ht : ∀ t ∈ ts, t.rows.length ≤ 6) (s : Sent) (h : s.jl ≤ 4) : big64 (s.many ts : Int) = true := by
  have h1 := Nat.le_trans (many_le ht s) (six_le h)
  have h2 : (6 : Nat) ^ 2 ^ 4 = 2821109907456 := by decide
  rw [h2] at h1
  unfold big64
  exact decide_eq_true (by omega)
theorem p_max3 {a b c : Int} : prD .max3 [.int a, .int b, .int c] = some (false, .int (max (max a b) c)) := rfl
theorem gd_nats {k : Nat} (l : List Nat) : Gd (k + 1) (natsD l) := gd_tup fun d hd => by
  obtain ⟨i, _, rfl⟩ := List.mem_map.mp hd
  exact gd_int _
theorem gd_pairs {k : Nat} (l : List (Nat × Nat)) : Gd (k + 2) (pairsD l) := gd_tup fun d hd => by
  obtain ⟨i, _, rfl⟩ := List.mem_map.mp hd
  exact gd_tup (gd_cons (gd_int _) (gd_cons (gd_int _) gd_nil))
theorem gd_sent : ∀ s : Sent, Gd (s.deep + 3) s.d
  | .rows t => gd_tup (gd_cons (gd_str (by decide +kernel)) (gd_cons (gd_int _) gd_nil))
  | .keep s c => gd_tup (gd_cons (gd_str (by decide +kernel)) (gd_cons ((gd_sent s).mono (by simp only [Sent.deep]; omega)) (gd_cons ((gd_cond c).mono (by simp only [Sent.deep]; omega)) gd_nil)))
  | .pick s cs => gd_tup (gd_cons (gd_str (by decide +kernel)) (gd_cons ((gd_sent s).mono (by simp only [Sent.deep]; omega)) (gd_cons ((gd_nats (k := 0) cs).mono (by simp only [Sent.deep]; omega)) gd_nil)))
  | .join a b ps => gd_tup (gd_cons (gd_str (by decide +kernel)) (gd_cons ((gd_sent a).mono (by simp only [Sent.deep]; omega)) (gd_cons ((gd_sent b).mono (by simp only [Sent.deep]; omega)) (gd_cons ((gd_pairs (k := 0) ps).mono (by simp only [Sent.deep]; omega)) gd_nil))))
  | .both a b => gd_tup (gd_cons (gd_str (by decide +kernel)) (gd_cons ((gd_sent a).mono (by simp only [Sent.deep]; omega)) (gd_cons ((gd_sent b).mono (by simp only [Sent.deep]; omega)) gd_nil)))
  | .without a b => gd_tup (gd_cons (gd_str (by decide +kernel)) (gd_cons ((gd_sent a).mono (by simp only [Sent.deep]; omega)) (gd_cons ((gd_sent b).mono (by simp only [Sent.deep]; omega)) gd_nil)))
theorem Sent.shape (p : Sent) : ∃ w l, p.d = .tup (.str w :: l) ∧ okS w = true := by
  cases p <;> exact ⟨_, _, rfl, by decide +kernel⟩
theorem ne_nats (l : List Nat) : prD .ne [.tup (l.map fun (i : Nat) => D.int (i : Int)), .tup []] = some (false, .bl (!decide (l = []))) := by
  apply p_neD
  have g := gd_nats (k := 63) l
  unfold natsD at g
  rw [eqD_gd g ((gd_tup (k := 0) gd_nil).mono (by omega)), ev_tt]
  cases l with
  | nil => simp [evs_00]
  | cons a l => simp [evs_c0]
theorem ne_pairs (l : List (Nat × Nat)) : prD .ne [.tup (l.map pairD2), .tup []] = some (false, .bl (!decide (l = []))) := by
  apply p_neD
  have g := gd_pairs (k := 62) l
  unfold pairsD at g
  rw [eqD_gd g ((gd_tup (k := 0) gd_nil).mono (by omega)), ev_tt]
  cases l with
  | nil => simp [evs_00]
  | cons a l => simp [evs_c0]
end G48

set_option maxHeartbeats 1000000
/-! Truths as numbers, over lists; likeness. -/
namespace G48
open PySem
def lrD (e : Ent) : D := .lst [Row.d e.1, .int (n3 e.2)]
theorem bothOf_mem {l m : List (Option Bool)} (h : ∀ x, x ∈ l ↔ x ∈ m) : bothOf l = bothOf m := by
  unfold bothOf
  by_cases a : some false ∈ l
  · rw [if_pos a, if_pos ((h _).mp a)]
  · rw [if_neg a, if_neg (fun z => a ((h _).mpr z))]
    by_cases b : none ∈ l
    · rw [if_pos b, if_pos ((h _).mp b)]
    · rw [if_neg b, if_neg (fun z => b ((h _).mpr z))]
theorem bothOf_swap (a b : List (Option Bool)) : bothOf (a ++ b) = bothOf (b ++ a) := bothOf_mem fun x => by simp [or_comm]
theorem bothOf_cons (a : Option Bool) (l : List (Option Bool)) : bothOf (a :: l) = both2 a (bothOf l) := by
  unfold bothOf
  rcases a with _ | ⟨_ | _⟩ <;> by_cases h1 : some false ∈ l <;> by_cases h2 : none ∈ l <;> simp [h1, h2, both2]
theorem n3_lo (t : Option Bool) : 0 ≤ n3 t := by rcases t with _ | ⟨_ | _⟩ <;> decide
theorem n3_hi (t : Option Bool) : n3 t ≤ 2 := by rcases t with _ | ⟨_ | _⟩ <;> decide
theorem minI_n3 : ∀ (l : List (Option Bool)), l ≠ [] → minI (l.map n3) = n3 (bothOf l)
  | [], h => absurd rfl h
  | [a], _ => by
    rw [bothOf_cons]
    show n3 a = _
    rcases a with _ | ⟨_ | _⟩ <;> rfl
  | a :: b :: l, _ => by
    have ih := minI_n3 (b :: l) (by simp)
    rw [bothOf_cons a, ← n3_and, ← ih]
    rfl
theorem p_min1_n3 {l : List (Option Bool)} (h : l ≠ []) : prD .min1 [.lst (l.map fun t => D.int (n3 t))] = some (false, .int (n3 (bothOf l))) := by
  have e : intsOf (l.map fun t => D.int (n3 t)) = some (l.map n3) := by
    clear h
    induction l with
    | nil => rfl
    | cons a l ih => simp [intsOf, ih]
  show (match intsOf (l.map fun t => D.int (n3 t)) with
    | some ns => (if ns.isEmpty then none else some (D.int (minI ns))).map fun d => (false, d)
    | none => none) = _
  rw [e]
  show (if (l.map n3).isEmpty = true then none else some (D.int (minI (l.map n3)))).map (fun d => (false, d)) = _
  rw [if_neg (by simp [h]), minI_n3 l h]; rfl
theorem n3_min2 (a b : Option Bool) : (if n3 b < n3 a then n3 b else n3 a) = n3 (bothOf [a, b]) := by
  rcases a with _ | ⟨_ | _⟩ <;> rcases b with _ | ⟨_ | _⟩ <;> decide
theorem n3_max2 (a b : Option Bool) : (if n3 b > n3 a then n3 b else n3 a) = n3 (any2 a b) := by
  rcases a with _ | ⟨_ | _⟩ <;> rcases b with _ | ⟨_ | _⟩ <;> decide
theorem n3_pos (t : Option Bool) : decide (0 < n3 t) = !decide (t = some false) := by
  rcases t with _ | ⟨_ | _⟩ <;> rfl
theorem noT_noT (a : Option Bool) : noT (noT a) = a := by rcases a with _ | ⟨_ | _⟩ <;> rfl
theorem anyOf_cons (a : Option Bool) (l : List (Option Bool)) : anyOf (a :: l) = any2 a (anyOf l) := by
  unfold anyOf
  rw [List.map_cons, bothOf_cons]
  rcases a with _ | ⟨_ | _⟩ <;> rcases bothOf (l.map noT) with _ | ⟨_ | _⟩ <;> rfl
theorem any2_assoc (a b c : Option Bool) : any2 (any2 a b) c = any2 a (any2 b c) := by
  rcases a with _ | ⟨_ | _⟩ <;> rcases b with _ | ⟨_ | _⟩ <;> rcases c with _ | ⟨_ | _⟩ <;> rfl
theorem any2_f (a : Option Bool) : any2 a (some false) = a := by rcases a with _ | ⟨_ | _⟩ <;> rfl
theorem any2_f' (a : Option Bool) : any2 (some false) a = a := by rcases a with _ | ⟨_ | _⟩ <;> rfl
theorem anyOf_snoc (l : List (Option Bool)) (a : Option Bool) : anyOf (l ++ [a]) = any2 (anyOf l) a := by
  induction l with
  | nil =>
    show anyOf [a] = any2 (anyOf []) a
    rw [anyOf_cons, show anyOf [] = some false from rfl, any2_f, any2_f']
  | cons b l ih => rw [List.cons_append, anyOf_cons, ih, anyOf_cons, any2_assoc]
/-! likeness -/
def Lk0 (d : D) : Prop := d = .non ∨ (∃ b, d = .bl b) ∨ (∃ i, d = .int i) ∨ ∃ x, d = .str x ∧ okS x = true
def Lk : Nat → D → Prop
  | 0, d => Lk0 d
  | k + 1, d => Lk0 d ∨ ∃ l : List D, (d = .tup l ∨ d = .lst l) ∧ l.length ≤ 1000000 ∧ ∀ x ∈ l, Lk k x
theorem Lk.s {k : Nat} {d : D} (h : Lk (k + 1) d) : Lk0 d ∨ ∃ l : List D, (d = .tup l ∨ d = .lst l) ∧ l.length ≤ 1000000 ∧ ∀ x ∈ l, Lk k x := h
theorem Lk.b {k : Nat} {d : D} (h : Lk0 d) : Lk k d := by
  cases k with
  | zero => exact h
  | succ k => exact Or.inl h
theorem Lk.up : ∀ {k : Nat} {d : D}, Lk k d → Lk (k + 1) d
  | 0, d, h => Or.inl h
  | k + 1, d, h => by
    rcases h.s with h | ⟨l, h1, h2, h3⟩
    · exact Or.inl h
    · exact Or.inr ⟨l, h1, h2, fun x hx => (h3 x hx).up⟩
theorem lk_int (k : Nat) (i : Int) : Lk k (.int i) := Lk.b (Or.inr (Or.inr (Or.inl ⟨i, rfl⟩)))
theorem lk_str (k : Nat) {x : Str} (h : okS x = true) : Lk k (.str x) := Lk.b (Or.inr (Or.inr (Or.inr ⟨x, rfl, h⟩)))
theorem lk_tup {k : Nat} {l : List D} (h1 : l.length ≤ 1000000) (h : ∀ x ∈ l, Lk k x) : Lk (k + 1) (.tup l) := Or.inr ⟨l, Or.inl rfl, h1, h⟩
theorem lk_lst {k : Nat} {l : List D} (h1 : l.length ≤ 1000000) (h : ∀ x ∈ l, Lk k x) : Lk (k + 1) (.lst l) := Or.inr ⟨l, Or.inr rfl, h1, h⟩
theorem lk_cell (k : Nat) (c : Cell) : Lk (k + 1) c.d := by
  cases c with
  | num i => exact lk_int _ i
  | gap x =>
    refine lk_tup (by simp) fun d hd => ?_
    simp only [List.mem_cons, List.not_mem_nil, or_false] at hd
    rcases hd with rfl | rfl
    · exact lk_str _ (by decide +kernel)
    · exact lk_int _ _
theorem lk_row (k : Nat) (r : Row) (h : r.length ≤ 1000000) : Lk (k + 2) r.d := lk_tup (by simpa using h) fun d hd => by
  obtain ⟨c, _, rfl⟩ := List.mem_map.mp hd
  exact lk_cell _ c
/-! a thing is the same as itself -/
mutual
theorem eqv_self : ∀ d : PyData, d.canLay0 = true → PyData.eqv d d = true
  | .none, _ => by simp [PyData.eqv]
  | .bool b, _ => by simp [PyData.eqv]
  | .int i, _ => by simp [PyData.eqv]
  | .str x, _ => by simp [PyData.eqv]
  | .list l, h => by
    simp only [PyData.eqv]
    exact eqvs_self l (by simpa [PyData.canLay0] using h)
  | .tuple l, h => by
    simp only [PyData.eqv]
    exact eqvs_self l (by simpa [PyData.canLay0] using h)
  | .dict _, h => by simp [PyData.canLay0] at h
theorem eqvs_self : ∀ l : List PyData, PyData.canLayAll0 l = true → PyData.eqvAll l l = true
  | [], _ => by simp [PyData.eqvAll]
  | d :: l, h => by
    simp only [PyData.canLayAll0, Bool.and_eq_true] at h
    simp only [PyData.eqvAll, Bool.and_eq_true]
    exact ⟨eqv_self d h.1, eqvs_self l h.2⟩
end
theorem ne_self {k : Nat} {d : D} (h : Gd k d) (hk : k ≤ 64) : prD .ne [d, d] = some (false, .bl false) :=
  p_neD (b := true) (by rw [eqD_gd (h.mono hk) (h.mono hk)]; exact congrArg some (eqv_self d.py h.lay))
theorem eqs_self {k : Nat} {d : D} (h : Gd k d) (hk : k ≤ 64) : prD .eq [d, d] = some (false, .bl true) :=
  p_eqD (b := true) (by rw [eqD_gd (h.mono hk) (h.mono hk)]; exact congrArg some (eqv_self d.py h.lay))
theorem gd_rows (l : List Row) : Gd 3 (rowsD l) := gd_lst fun d hd => by
  obtain ⟨r, _, rfl⟩ := List.mem_map.mp hd
  exact gd_row (k := 0) r
theorem gd_tab (t : Tab) : Gd 4 t.d := gd_tup (gd_cons (gd_int _) (gd_cons (gd_rows _) gd_nil))
theorem gd_tabs (ts : List Tab) : Gd 5 (tabsD ts) := gd_lst fun d hd => by
  obtain ⟨t, _, rfl⟩ := List.mem_map.mp hd
  exact gd_tab t
def markS (t : Option Bool) : Str := if t = some true then "sure" else "maybe"
def runD (l : List Ent) : D := .lst (l.map fun e => D.tup [Row.d e.1, .str (markS e.2)])
theorem mark_at {t : Option Bool} (h : t ≠ some false) : atI [D.str "maybe", D.str "sure"] (n3 t - 1) = some (.str (markS t)) := by
  rcases t with _ | ⟨_ | _⟩
  · rfl
  · exact absurd rfl h
  · rfl
theorem lk_run (l : List Ent) (h : l.length ≤ 1000000) (hr : ∀ e ∈ l, e.1.length ≤ 1000) : Lk 4 (runD l) := lk_lst (by simpa using h) fun d hd => by
  obtain ⟨e, he, rfl⟩ := List.mem_map.mp hd
  refine lk_tup (by simp) fun x hx => ?_
  simp only [List.mem_cons, List.not_mem_nil, or_false] at hx
  rcases hx with rfl | rfl
  · exact lk_row 0 e.1 (by have := hr e he; omega)
  · refine lk_str _ ?_
    unfold markS
    split <;> decide +kernel
end G48
namespace G48
open PySem
/-! sentences that are the same -/
/-- rows kept by a truth of their own -/
def keepF (g : Row → Option Bool) (l : List Ent) : List Ent := notFalse (l.map fun e => (e.1, [e.2, g e.1]))
theorem notFalse_cons (p : Row × List (Option Bool)) (l : List (Row × List (Option Bool))) : notFalse (p :: l) = if bothOf p.2 = some false then notFalse l else (p.1, bothOf p.2) :: notFalse l := by
  unfold notFalse
  rw [List.map_cons, List.filter_cons]
  by_cases h : bothOf p.2 = some false
  · simp [h]
  · simp [h]
theorem notFalse_app (a b : List (Row × List (Option Bool))) : notFalse (a ++ b) = notFalse a ++ notFalse b := by
  unfold notFalse
  rw [List.map_append, List.filter_append]
theorem keepF_cons (g : Row → Option Bool) (e : Ent) (l : List Ent) : keepF g (e :: l) = if both2 e.2 (g e.1) = some false then keepF g l else (e.1, both2 e.2 (g e.1)) :: keepF g l := by
  unfold keepF
  rw [List.map_cons, notFalse_cons, ← both2_eq]
theorem keepF_nf (g : Row → Option Bool) : ∀ xs : List (Row × List (Option Bool)), notFalse (xs.map fun p => (p.1, p.2 ++ [g p.1])) = keepF g (notFalse xs)
  | [] => rfl
  | p :: xs => by
    rw [List.map_cons, notFalse_cons, notFalse_cons, keepF_nf g xs]
    have e : bothOf (p.2 ++ [g p.1]) = both2 (bothOf p.2) (g p.1) := by
      rw [bothOf_swap, show [g p.1] ++ p.2 = g p.1 :: p.2 from rfl, bothOf_cons]
      rcases g p.1 with _ | ⟨_ | _⟩ <;> rcases bothOf p.2 with _ | ⟨_ | _⟩ <;> rfl
    dsimp only
    rw [e]
    by_cases h : bothOf p.2 = some false
    · rw [if_pos h, h, if_pos (by rfl)]
    · rw [if_neg h, keepF_cons]
theorem keepF_two (g h : Row → Option Bool) (l : List Ent) : keepF h (keepF g l) = keepF (fun r => both2 (g r) (h r)) l := by
  induction l with
  | nil => rfl
  | cons e l ih =>
    rw [keepF_cons g, keepF_cons]
    by_cases c : both2 e.2 (g e.1) = some false
    · rw [if_pos c, ih]
      have : both2 e.2 (both2 (g e.1) (h e.1)) = some false := by
        revert c
        rcases e.2 with _ | ⟨_ | _⟩ <;> rcases g e.1 with _ | ⟨_ | _⟩ <;> rcases h e.1 with _ | ⟨_ | _⟩ <;> simp [both2]
      rw [if_pos this]
    · rw [if_neg c, keepF_cons, ih]
      have : both2 (both2 e.2 (g e.1)) (h e.1) = both2 e.2 (both2 (g e.1) (h e.1)) := by
        rcases e.2 with _ | ⟨_ | _⟩ <;> rcases g e.1 with _ | ⟨_ | _⟩ <;> rcases h e.1 with _ | ⟨_ | _⟩ <;> rfl
      dsimp only
      rw [this]
theorem keepF_app (g : Row → Option Bool) (a b : List Ent) : keepF g (a ++ b) = keepF g a ++ keepF g b := by
  unfold keepF
  rw [List.map_append, notFalse_app]
theorem keepF_cg {g h : Row → Option Bool} {l : List Ent} (e : ∀ x ∈ l, g x.1 = h x.1) : keepF g l = keepF h l := by
  unfold keepF
  congr 1
  exact List.map_congr_left fun x hx => by rw [e x hx]
theorem isAmong_app (r : Row) (a b : List Ent) : isAmong r (a ++ b) = any2 (isAmong r a) (isAmong r b) := by
  unfold isAmong
  rw [List.map_append]
  generalize a.map (fun e => bothOf [e.2, rowsSame r e.1]) = x
  generalize b.map (fun e => bothOf [e.2, rowsSame r e.1]) = y
  induction x with
  | nil => rw [List.nil_append, show anyOf [] = some false from rfl, any2_f']
  | cons c x ih => rw [List.cons_append, anyOf_cons, ih, anyOf_cons, any2_assoc]
theorem en_keep (ts : List Tab) (s : Sent) (c : Cond) : entries ts (.keep s c) = keepF (fun r => truth r c) (entries ts s) := rfl
theorem en_without (ts : List Tab) (a b : Sent) : entries ts (.without a b) = keepF (fun r => noT (isAmong r (entries ts b))) (entries ts a) := rfl
theorem en_both (ts : List Tab) (a b : Sent) : entries ts (.both a b) = entries ts a ++ entries ts b := rfl
theorem same0 (ts : List Tab) (a : Sent) (c e : Cond) : entries ts (.keep (.keep a c) e) = entries ts (.keep a (.and c e)) := by
  rw [en_keep, en_keep, en_keep, keepF_two]
  rfl
theorem same1 (ts : List Tab) (a b : Sent) (c : Cond) : entries ts (.keep (.both a b) c) = entries ts (.both (.keep a c) (.keep b c)) := by
  rw [en_keep, en_both, en_both, en_keep, en_keep, keepF_app]
theorem same2 (ts : List Tab) (a : Sent) (two places : List Nat) (h : ∀ k ∈ places, k < two.length) : entries ts (.pick (.pick a two) places) = entries ts (.pick a (places.map fun k => two.getD k 0)) := by
  show ((entries ts a).map fun e => ((pickR two e.1, e.2) : Ent)).map (fun e => ((pickR places e.1, e.2) : Ent)) = (entries ts a).map fun e => ((pickR (places.map fun k => two.getD k 0) e.1, e.2) : Ent)
  rw [List.map_map]
  refine List.map_congr_left fun e _ => ?_
  show (pickR places (pickR two e.1), e.2) = _
  congr 1
  unfold pickR
  rw [List.map_map]
  refine List.map_congr_left fun k hk => ?_
  have := h k hk
  simp [cellAt, List.getD_eq_getElem?_getD, this]
theorem same3 {ts : List Tab} (ht : ∀ t ∈ ts, t.ok) (a b : Sent) (ha : a.ok (ts.map Tab.wide)) (hb : b.ok (ts.map Tab.wide)) (i j : Nat) (hi : i < a.wide (ts.map Tab.wide)) (hj : j < b.wide (ts.map Tab.wide)) :
    entries ts (.join a b [(i, j)]) = entries ts (.keep (.join a b []) (.is (.col i) (.col (a.wide (ts.map Tab.wide) + j)))) := by
  rw [en_keep]
  show notFalse ((entries ts a).flatMap (jrows [(i, j)] (entries ts b))) = keepF _ (notFalse ((entries ts a).flatMap (jrows [] (entries ts b))))
  rw [← keepF_nf]
  congr 1
  rw [List.map_flatMap]
  refine congrArg List.flatten (List.map_congr_left fun e he => ?_)
  unfold jrows
  rw [List.map_map]
  refine List.map_congr_left fun f hf => ?_
  have e1 := (entries_ok ht a ha e he).1
  have f1 := (entries_ok ht b hb f hf).1
  show (e.1 ++ f.1, _) = (e.1 ++ f.1, _)
  congr 1
  simp only [List.map_cons, List.map_nil, List.append_nil, List.cons_append, List.nil_append, Function.comp]
  show _ = [e.2, f.2, sameW (worth (e.1 ++ f.1) (.col i)) (worth (e.1 ++ f.1) (.col (a.wide (ts.map Tab.wide) + j)))]
  simp only [worth, sameC]
  rw [List.getElem?_append_left (by omega), ← e1, List.getElem?_append_right (by omega), Nat.add_sub_cancel_left]
  rw [List.getElem?_eq_getElem (show i < e.1.length by omega), List.getElem?_eq_getElem (show j < f.1.length by omega)]
  simp [cellAt, List.getD_eq_getElem?_getD, show i < e.1.length by omega, show j < f.1.length by omega]
theorem same4 (ts : List Tab) (a b : Sent) : entries ts (.without (.without a b) b) = entries ts (.without a b) := by
  rw [en_without, en_without, keepF_two]
  refine keepF_cg fun x _ => ?_
  rcases noT (isAmong x.1 (entries ts b)) with _ | ⟨_ | _⟩ <;> rfl
theorem same5 (ts : List Tab) (a b : Sent) (c : Cond) : entries ts (.without (.keep a c) b) = entries ts (.keep (.without a b) c) := by
  rw [en_without, en_keep, en_keep, en_without, keepF_two, keepF_two]
  refine keepF_cg fun x _ => ?_
  rcases noT (isAmong x.1 (entries ts b)) with _ | ⟨_ | _⟩ <;> rcases truth x.1 c with _ | ⟨_ | _⟩ <;> rfl
theorem same6 (ts : List Tab) (a b c : Sent) : entries ts (.without a (.both b c)) = entries ts (.without (.without a b) c) := by
  rw [en_without, en_without, en_without, en_both, keepF_two]
  refine keepF_cg fun x _ => ?_
  rw [isAmong_app]
  rcases isAmong x.1 (entries ts b) with _ | ⟨_ | _⟩ <;> rcases isAmong x.1 (entries ts c) with _ | ⟨_ | _⟩ <;> rfl
end G48
namespace G48
open PySem
theorem gd_run (l : List Ent) : Gd 4 (runD l) := gd_lst fun d hd => by
  obtain ⟨e, _, rfl⟩ := List.mem_map.mp hd
  refine gd_tup (gd_cons (gd_row (k := 0) e.1) (gd_cons (gd_str ?_) gd_nil))
  unfold markS
  split <;> decide +kernel
end G48

namespace G48k17
open PySem G48
def T_PARTS : List (Str × Str) := [("col", "n"), ("num", "n"), ("plus", "xx"), ("take", "xx")]
def T_CONDITIONS : List (Str × Str) := [("is", "xx"), ("less", "xx"), ("lacks", "x"), ("not", "c"), ("true", "c"), ("and", "cc"), ("or", "cc")]
def T_SENTENCES : List (Str × Str) := [("rows", "n"), ("keep", "sc"), ("pick", "sl"), ("join", "ssp"), ("both", "ss"), ("without", "ss")]
abbrev i_BadTables_init : Nat := 0
abbrev i_BadSentence_init : Nat := 1
abbrev i_is_between : Nat := 2
abbrev i_is_gap : Nat := 3
abbrev i_is_row : Nat := 4
abbrev i_need_tables : Nat := 5
abbrev i_widths_of : Nat := 6
abbrev i_no : Nat := 7
abbrev i_both_of : Nat := 8
abbrev i_any_of : Nat := 9
abbrev i_is_number : Nat := 10
abbrev i_same : Nat := 11
abbrev i_less : Nat := 12
abbrev i_worth : Nat := 13
abbrev i_truth_of : Nat := 14
abbrev i_rows_same : Nat := 15
abbrev i_is_list : Nat := 16
abbrev i_is_pairs : Nat := 17
abbrev i_Looker_init : Nat := 18
abbrev i_Looker_begin : Nat := 19
abbrev i_Looker_part : Nat := 20
abbrev i_Looker_condition : Nat := 21
abbrev i_Looker_sentence : Nat := 22
abbrev i_Looker_picked : Nat := 23
abbrev i_Looker_joined : Nat := 24
abbrev i_wide_of : Nat := 25
abbrev i_entries : Nat := 26
abbrev i_not_false : Nat := 27
abbrev i_joined : Nat := 28
abbrev i_is_among : Nat := 29
abbrev i_run : Nat := 30
abbrev i_law_dice : Nat := 31
abbrev i_law_next : Nat := 32
abbrev i_law_cell : Nat := 33
abbrev i_law_tables : Nat := 34
abbrev i_law_part : Nat := 35
abbrev i_law_condition : Nat := 36
abbrev i_law_sized : Nat := 37
abbrev i_law_any : Nat := 38
abbrev i_law_things : Nat := 39
abbrev i_law_many : Nat := 40
abbrev i_law_pair : Nat := 41
abbrev i_law : Nat := 42
def F_BadTables_init : FD := ⟨0, 0, false, none, .cons .raise .nil⟩
def F_BadSentence_init : FD := ⟨0, 0, false, none, .cons .raise .nil⟩
def F_is_between : FD := ⟨3, 3, false, none, (.cons (.ret (.and (.pr (.isI .int) (.cons (.var 0) .nil)) (.and (.not (.pr (.isI .bool) (.cons (.var 0) .nil))) (.ch .le .le (.var 1) (.var 0) (.var 2))))) .nil)⟩
def F_is_gap : FD := ⟨1, 1, false, none, (.cons (.ife (.or (.not (.pr (.isI .tuple) (.cons (.var 0) .nil))) (.or (.pr .ne (.cons (.pr .len (.cons (.var 0) .nil)) (.cons (.lit (.int 2)) .nil))) (.not (.pr (.isI .str) (.cons (.pr .idx (.cons (.var 0) (.cons (.lit (.int 0)) .nil))) .nil))))) (.cons (.ret (.lit (.bl false))) .nil) .nil) (.cons (.ret (.and (.pr .eq (.cons (.pr .idx (.cons (.var 0) (.cons (.lit (.int 0)) .nil))) (.cons (.lit (.str "gap")) .nil))) (.call i_is_between none (.cons (.pr .idx (.cons (.var 0) (.cons (.lit (.int 1)) .nil))) (.cons (.lit (.int 0)) (.cons (.lit (.int 9)) .nil)))))) .nil))⟩
def F_is_row : FD := ⟨2, 3, false, none, (.cons (.ife (.or (.not (.pr (.isI .tuple) (.cons (.var 0) .nil))) (.pr .ne (.cons (.pr .len (.cons (.var 0) .nil)) (.cons (.var 1) .nil)))) (.cons (.ret (.lit (.bl false))) .nil) .nil) (.cons (.ret (.pr .eq (.cons (.comp (.var 2) [2] (.of (.var 0)) (.and (.not (.call i_is_between none (.cons (.var 2) (.cons (.lit (.int 0)) (.cons (.lit (.int 99)) .nil))))) (.not (.call i_is_gap none (.cons (.var 2) .nil)))) [2]) (.cons (.lst .nil) .nil)))) .nil))⟩
def F_need_tables : FD := ⟨1, 7, false, none, (.cons (.ife (.not (.ch .le .le (.lit (.int 1)) (.pr .len (.cons (.var 0) .nil)) (.lit (.int 3)))) (.cons .raise .nil) .nil) (.cons (.loop [1, 2] (.enum (.var 0)) (.cons (.setT [3, 4] (.var 2)) (.cons (.ife (.or (.not (.call i_is_between none (.cons (.var 3) (.cons (.lit (.int 1)) (.cons (.lit (.int 4)) .nil))))) (.pr .gt (.cons (.pr .len (.cons (.var 4) .nil)) (.cons (.lit (.int 6)) .nil)))) (.cons .raise .nil) .nil) (.cons (.loop [5, 6] (.enum (.var 4)) (.cons (.ife (.not (.call i_is_row none (.cons (.var 6) (.cons (.var 3) .nil)))) (.cons .raise .nil) .nil) .nil)) .nil)))) .nil))⟩
def F_widths_of : FD := ⟨1, 3, false, none, (.cons (.ret (.comp (.var 1) [1, 2] (.of (.var 0)) (.lit (.bl true)) [1, 2])) .nil)⟩
def F_no : FD := ⟨1, 1, false, none, (.cons (.ret (.ife (.pr .isN (.cons (.var 0) .nil)) (.lit .non) (.not (.var 0)))) .nil)⟩
def F_both_of : FD := ⟨1, 1, false, none, (.cons (.ife (.pr .isIn (.cons (.lit (.bl false)) (.cons (.var 0) .nil))) (.cons (.ret (.lit (.bl false))) .nil) .nil) (.cons (.ret (.ife (.pr .isIn (.cons (.lit .non) (.cons (.var 0) .nil))) (.lit .non) (.lit (.bl true)))) .nil))⟩
def F_any_of : FD := ⟨1, 2, false, none, (.cons (.ret (.call i_no none (.cons (.call i_both_of none (.cons (.comp (.call i_no none (.cons (.var 1) .nil)) [1] (.of (.var 0)) (.lit (.bl true)) [1]) .nil)) .nil))) .nil)⟩
def F_is_number : FD := ⟨1, 1, false, none, (.cons (.ret (.pr (.isI .int) (.cons (.var 0) .nil))) .nil)⟩
def F_same : FD := ⟨2, 2, false, none, (.cons (.ife (.and (.call i_is_number none (.cons (.var 0) .nil)) (.call i_is_number none (.cons (.var 1) .nil))) (.cons (.ret (.pr .eq (.cons (.var 0) (.cons (.var 1) .nil)))) .nil) .nil) (.cons (.ret (.ife (.and (.call i_is_gap none (.cons (.var 0) .nil)) (.pr .eq (.cons (.var 0) (.cons (.var 1) .nil)))) (.lit (.bl true)) (.lit .non))) .nil))⟩
def F_less : FD := ⟨2, 2, false, none, (.cons (.ife (.and (.call i_is_number none (.cons (.var 0) .nil)) (.call i_is_number none (.cons (.var 1) .nil))) (.cons (.ret (.pr .lt (.cons (.var 0) (.cons (.var 1) .nil)))) .nil) .nil) (.cons (.ret (.ife (.and (.call i_is_gap none (.cons (.var 0) .nil)) (.pr .eq (.cons (.var 0) (.cons (.var 1) .nil)))) (.lit (.bl false)) (.lit .non))) .nil))⟩
def F_worth : FD := ⟨2, 4, false, none, (.cons (.ife (.pr .eq (.cons (.pr .idx (.cons (.var 0) (.cons (.lit (.int 0)) .nil))) (.cons (.lit (.str "col")) .nil))) (.cons (.ret (.pr .idx (.cons (.var 1) (.cons (.pr .idx (.cons (.var 0) (.cons (.lit (.int 1)) .nil))) .nil)))) .nil) .nil) (.cons (.ife (.pr .eq (.cons (.pr .idx (.cons (.var 0) (.cons (.lit (.int 0)) .nil))) (.cons (.lit (.str "num")) .nil))) (.cons (.ret (.pr .idx (.cons (.var 0) (.cons (.lit (.int 1)) .nil)))) .nil) .nil) (.cons (.par [2, 3] (.cons (.call i_worth none (.cons (.pr .idx (.cons (.var 0) (.cons (.lit (.int 1)) .nil))) (.cons (.var 1) .nil))) (.cons (.call i_worth none (.cons (.pr .idx (.cons (.var 0) (.cons (.lit (.int 2)) .nil))) (.cons (.var 1) .nil))) .nil))) (.cons (.ife (.or (.not (.call i_is_number none (.cons (.var 2) .nil))) (.not (.call i_is_number none (.cons (.var 3) .nil)))) (.cons (.ret (.lit .non)) .nil) .nil) (.cons (.ret (.ife (.pr .eq (.cons (.pr .idx (.cons (.var 0) (.cons (.lit (.int 0)) .nil))) (.cons (.lit (.str "plus")) .nil))) (.pr .add (.cons (.var 2) (.cons (.var 3) .nil))) (.pr .sub (.cons (.var 2) (.cons (.var 3) .nil))))) .nil)))))⟩
def F_truth_of : FD := ⟨2, 5, false, none, (.cons (.set 2 (.pr .idx (.cons (.var 0) (.cons (.lit (.int 0)) .nil)))) (.cons (.ife (.pr .eq (.cons (.var 2) (.cons (.lit (.str "is")) .nil))) (.cons (.ret (.call i_same none (.cons (.call i_worth none (.cons (.pr .idx (.cons (.var 0) (.cons (.lit (.int 1)) .nil))) (.cons (.var 1) .nil))) (.cons (.call i_worth none (.cons (.pr .idx (.cons (.var 0) (.cons (.lit (.int 2)) .nil))) (.cons (.var 1) .nil))) .nil)))) .nil) .nil) (.cons (.ife (.pr .eq (.cons (.var 2) (.cons (.lit (.str "less")) .nil))) (.cons (.ret (.call i_less none (.cons (.call i_worth none (.cons (.pr .idx (.cons (.var 0) (.cons (.lit (.int 1)) .nil))) (.cons (.var 1) .nil))) (.cons (.call i_worth none (.cons (.pr .idx (.cons (.var 0) (.cons (.lit (.int 2)) .nil))) (.cons (.var 1) .nil))) .nil)))) .nil) .nil) (.cons (.ife (.pr .eq (.cons (.var 2) (.cons (.lit (.str "lacks")) .nil))) (.cons (.ret (.not (.call i_is_number none (.cons (.call i_worth none (.cons (.pr .idx (.cons (.var 0) (.cons (.lit (.int 1)) .nil))) (.cons (.var 1) .nil))) .nil)))) .nil) .nil) (.cons (.set 3 (.comp (.call i_truth_of none (.cons (.var 4) (.cons (.var 1) .nil))) [4] (.of (.sli true false (.var 0) (.cons (.lit (.int 1)) .nil))) (.lit (.bl true)) [4])) (.cons (.ife (.pr .eq (.cons (.var 2) (.cons (.lit (.str "not")) .nil))) (.cons (.ret (.call i_no none (.cons (.pr .idx (.cons (.var 3) (.cons (.lit (.int 0)) .nil))) .nil))) .nil) .nil) (.cons (.ife (.pr .eq (.cons (.var 2) (.cons (.lit (.str "true")) .nil))) (.cons (.ret (.pr .isB (.cons (.pr .idx (.cons (.var 3) (.cons (.lit (.int 0)) .nil))) (.cons (.lit (.bl true)) .nil)))) .nil) .nil) (.cons (.ret (.ife (.pr .eq (.cons (.var 2) (.cons (.lit (.str "and")) .nil))) (.call i_both_of none (.cons (.var 3) .nil)) (.call i_any_of none (.cons (.var 3) .nil)))) .nil))))))))⟩
def F_rows_same : FD := ⟨2, 4, false, none, (.cons (.ret (.call i_both_of none (.cons (.comp (.call i_same none (.cons (.var 2) (.cons (.var 3) .nil))) [2, 3] (.zip (.var 0) (.var 1)) (.lit (.bl true)) [2, 3]) .nil))) .nil)⟩
def F_is_list : FD := ⟨1, 2, false, none, (.cons (.ret (.and (.pr (.isI .tuple) (.cons (.var 0) .nil)) (.pr .eq (.cons (.comp (.var 1) [1] (.of (.var 0)) (.not (.call i_is_between none (.cons (.var 1) (.cons (.pr .sub (.cons (.lit (.int 0)) (.cons (.pr .pow (.cons (.lit (.int 10)) (.cons (.lit (.int 20)) .nil))) .nil))) (.cons (.pr .pow (.cons (.lit (.int 10)) (.cons (.lit (.int 20)) .nil))) .nil))))) [1]) (.cons (.lst .nil) .nil))))) .nil)⟩
def F_is_pairs : FD := ⟨1, 2, false, none, (.cons (.ret (.and (.pr (.isI .tuple) (.cons (.var 0) .nil)) (.pr .eq (.cons (.comp (.var 1) [1] (.of (.var 0)) (.or (.not (.call i_is_list none (.cons (.var 1) .nil))) (.pr .ne (.cons (.pr .len (.cons (.var 1) .nil)) (.cons (.lit (.int 2)) .nil)))) [1]) (.cons (.lst .nil) .nil))))) .nil)⟩
def F_Looker_init : FD := ⟨2, 2, true, some (0, "__init__"), (.cons (.fset 0 "widths" (.var 1)) (.cons (.fset 0 "seen" (.lit (.int 0))) .nil))⟩
def F_Looker_begin : FD := ⟨3, 7, true, some (0, "begin"), (.cons (.set 3 (.fld 0 "seen")) (.cons (.ife (.pr .eq (.cons (.var 3) (.cons (.lit (.int 60)) .nil))) (.cons .raise .nil) .nil) (.cons (.fset 0 "seen" (.pr .add (.cons (.var 3) (.cons (.lit (.int 1)) .nil)))) (.cons (.ife (.or (.not (.pr (.isI .tuple) (.cons (.var 1) .nil))) (.or (.pr .eq (.cons (.pr .len (.cons (.var 1) .nil)) (.cons (.lit (.int 0)) .nil))) (.or (.not (.pr (.isI .str) (.cons (.pr .idx (.cons (.var 1) (.cons (.lit (.int 0)) .nil))) .nil))) (.pr .notIn (.cons (.pr .idx (.cons (.var 1) (.cons (.lit (.int 0)) .nil))) (.cons (.var 2) .nil)))))) (.cons .raise .nil) .nil) (.cons (.set 4 (.pr .idx (.cons (.var 2) (.cons (.pr .idx (.cons (.var 1) (.cons (.lit (.int 0)) .nil))) .nil)))) (.cons (.ife (.pr .ne (.cons (.pr .len (.cons (.var 1) .nil)) (.cons (.pr .add (.cons (.pr .len (.cons (.var 4) .nil)) (.cons (.lit (.int 1)) .nil))) .nil))) (.cons .raise .nil) .nil) (.cons (.loop [5, 6] (.zip (.var 4) (.sli true false (.var 1) (.cons (.lit (.int 1)) .nil))) (.cons (.ife (.or (.and (.pr .eq (.cons (.var 5) (.cons (.lit (.str "n")) .nil))) (.not (.call i_is_list none (.cons (.tup (.cons (.var 6) .nil)) .nil)))) (.and (.pr .eq (.cons (.var 5) (.cons (.lit (.str "l")) .nil))) (.not (.call i_is_list none (.cons (.var 6) .nil))))) (.cons .raise .nil) .nil) (.cons (.ife (.and (.pr .eq (.cons (.var 5) (.cons (.lit (.str "p")) .nil))) (.not (.call i_is_pairs none (.cons (.var 6) .nil)))) (.cons .raise .nil) .nil) .nil))) (.cons (.ret (.var 3)) .nil))))))))⟩
def F_Looker_part : FD := ⟨3, 4, true, some (0, "part"), (.cons (.set 3 (.msl i_Looker_begin 0 0 "begin" (.cons (.var 1) (.cons (.pr (.tDct T_PARTS) .nil) .nil)))) (.cons (.ife (.and (.pr .eq (.cons (.pr .idx (.cons (.var 1) (.cons (.lit (.int 0)) .nil))) (.cons (.lit (.str "col")) .nil))) (.not (.ch .le .lt (.lit (.int 0)) (.pr .idx (.cons (.var 1) (.cons (.lit (.int 1)) .nil))) (.var 2)))) (.cons .raise .nil) .nil) (.cons (.ife (.and (.pr .eq (.cons (.pr .idx (.cons (.var 1) (.cons (.lit (.int 0)) .nil))) (.cons (.lit (.str "num")) .nil))) (.not (.ch .le .le (.lit (.int 0)) (.pr .idx (.cons (.var 1) (.cons (.lit (.int 1)) .nil))) (.lit (.int 99))))) (.cons .raise .nil) .nil) (.cons (.ife (.pr .isIn (.cons (.pr .idx (.cons (.var 1) (.cons (.lit (.int 0)) .nil))) (.cons (.tup (.cons (.lit (.str "plus")) (.cons (.lit (.str "take")) .nil))) .nil))) (.cons (.ex (.msl i_Looker_part 0 0 "part" (.cons (.pr .idx (.cons (.var 1) (.cons (.lit (.int 1)) .nil))) (.cons (.var 2) .nil)))) (.cons (.ex (.msl i_Looker_part 0 0 "part" (.cons (.pr .idx (.cons (.var 1) (.cons (.lit (.int 2)) .nil))) (.cons (.var 2) .nil)))) .nil)) .nil) .nil))))⟩
def F_Looker_condition : FD := ⟨3, 5, true, some (0, "condition"), (.cons (.ex (.msl i_Looker_begin 0 0 "begin" (.cons (.var 1) (.cons (.pr (.tDct T_CONDITIONS) .nil) .nil)))) (.cons (.loop [3, 4] (.zip (.pr (.tGet T_CONDITIONS) (.cons (.pr .idx (.cons (.var 1) (.cons (.lit (.int 0)) .nil))) .nil)) (.sli true false (.var 1) (.cons (.lit (.int 1)) .nil))) (.cons (.ife (.pr .eq (.cons (.var 3) (.cons (.lit (.str "x")) .nil))) (.cons (.ex (.msl i_Looker_part 0 0 "part" (.cons (.var 4) (.cons (.var 2) .nil)))) .nil) (.cons (.ex (.msl i_Looker_condition 0 0 "condition" (.cons (.var 4) (.cons (.var 2) .nil)))) .nil)) .nil)) .nil))⟩
def F_Looker_sentence : FD := ⟨2, 6, true, some (0, "sentence"), (.cons (.set 2 (.msl i_Looker_begin 0 0 "begin" (.cons (.var 1) (.cons (.pr (.tDct T_SENTENCES) .nil) .nil)))) (.cons (.set 3 (.pr .idx (.cons (.var 1) (.cons (.lit (.int 0)) .nil)))) (.cons (.ife (.pr .eq (.cons (.var 3) (.cons (.lit (.str "rows")) .nil))) (.cons (.ife (.not (.ch .le .lt (.lit (.int 0)) (.pr .idx (.cons (.var 1) (.cons (.lit (.int 1)) .nil))) (.pr .len (.cons (.fld 0 "widths") .nil)))) (.cons .raise .nil) .nil) (.cons (.ret (.pr .idx (.cons (.fld 0 "widths") (.cons (.pr .idx (.cons (.var 1) (.cons (.lit (.int 1)) .nil))) .nil)))) .nil)) .nil) (.cons (.set 4 (.msl i_Looker_sentence 0 0 "sentence" (.cons (.pr .idx (.cons (.var 1) (.cons (.lit (.int 1)) .nil))) .nil))) (.cons (.ife (.pr .eq (.cons (.var 3) (.cons (.lit (.str "keep")) .nil))) (.cons (.ex (.msl i_Looker_condition 0 0 "condition" (.cons (.pr .idx (.cons (.var 1) (.cons (.lit (.int 2)) .nil))) (.cons (.var 4) .nil)))) (.cons (.ret (.var 4)) .nil)) .nil) (.cons (.ife (.pr .eq (.cons (.var 3) (.cons (.lit (.str "pick")) .nil))) (.cons (.ret (.msl i_Looker_picked 0 0 "picked" (.cons (.pr .idx (.cons (.var 1) (.cons (.lit (.int 2)) .nil))) (.cons (.var 4) (.cons (.var 2) .nil))))) .nil) .nil) (.cons (.set 5 (.msl i_Looker_sentence 0 0 "sentence" (.cons (.pr .idx (.cons (.var 1) (.cons (.lit (.int 2)) .nil))) .nil))) (.cons (.ife (.pr .eq (.cons (.var 3) (.cons (.lit (.str "join")) .nil))) (.cons (.ret (.msl i_Looker_joined 0 0 "joined" (.cons (.pr .idx (.cons (.var 1) (.cons (.lit (.int 3)) .nil))) (.cons (.var 4) (.cons (.var 5) (.cons (.var 2) .nil)))))) .nil) .nil) (.cons (.ife (.pr .ne (.cons (.var 4) (.cons (.var 5) .nil))) (.cons .raise .nil) .nil) (.cons (.ret (.var 4)) .nil))))))))))⟩
def F_Looker_picked : FD := ⟨4, 5, true, some (0, "picked"), (.cons (.ife (.not (.ch .le .le (.lit (.int 1)) (.pr .len (.cons (.var 1) .nil)) (.lit (.int 8)))) (.cons .raise .nil) .nil) (.cons (.ife (.pr .ne (.cons (.comp (.var 4) [4] (.of (.var 1)) (.not (.ch .le .lt (.lit (.int 0)) (.var 4) (.var 2))) [4]) (.cons (.lst .nil) .nil))) (.cons .raise .nil) .nil) (.cons (.ret (.pr .len (.cons (.var 1) .nil))) .nil)))⟩
def F_Looker_joined : FD := ⟨5, 6, true, some (0, "joined"), (.cons (.ife (.pr .gt (.cons (.pr .add (.cons (.var 2) (.cons (.var 3) .nil))) (.cons (.lit (.int 8)) .nil))) (.cons .raise .nil) .nil) (.cons (.ife (.pr .ne (.cons (.comp (.var 5) [5] (.of (.var 1)) (.or (.not (.ch .le .lt (.lit (.int 0)) (.pr .idx (.cons (.var 5) (.cons (.lit (.int 0)) .nil))) (.var 2))) (.not (.ch .le .lt (.lit (.int 0)) (.pr .idx (.cons (.var 5) (.cons (.lit (.int 1)) .nil))) (.var 3)))) [5]) (.cons (.lst .nil) .nil))) (.cons .raise .nil) .nil) (.cons (.ret (.pr .add (.cons (.var 2) (.cons (.var 3) .nil)))) .nil)))⟩
def F_wide_of : FD := ⟨2, 2, false, none, (.cons (.ret (.mcall i_Looker_sentence (.mk 0 i_Looker_init (.cons (.var 1) .nil)) (.cons (.var 0) .nil))) .nil)⟩
def F_entries : FD := ⟨2, 8, false, none, (.cons (.set 2 (.pr .idx (.cons (.var 0) (.cons (.lit (.int 0)) .nil)))) (.cons (.ife (.pr .eq (.cons (.var 2) (.cons (.lit (.str "rows")) .nil))) (.cons (.ret (.comp (.tup (.cons (.var 5) (.cons (.lit (.bl true)) .nil))) [5] (.of (.pr .idx (.cons (.pr .idx (.cons (.var 1) (.cons (.pr .idx (.cons (.var 0) (.cons (.lit (.int 1)) .nil))) .nil))) (.cons (.lit (.int 1)) .nil)))) (.lit (.bl true)) [5])) .nil) .nil) (.cons (.set 3 (.call i_entries none (.cons (.pr .idx (.cons (.var 0) (.cons (.lit (.int 1)) .nil))) (.cons (.var 1) .nil)))) (.cons (.ife (.pr .eq (.cons (.var 2) (.cons (.lit (.str "keep")) .nil))) (.cons (.ret (.call i_not_false none (.cons (.comp (.tup (.cons (.var 5) (.cons (.lst (.cons (.var 6) (.cons (.call i_truth_of none (.cons (.pr .idx (.cons (.var 0) (.cons (.lit (.int 2)) .nil))) (.cons (.var 5) .nil))) .nil))) .nil))) [5, 6] (.of (.var 3)) (.lit (.bl true)) [5, 6]) .nil))) .nil) .nil) (.cons (.ife (.pr .eq (.cons (.var 2) (.cons (.lit (.str "pick")) .nil))) (.cons (.ret (.comp (.tup (.cons (.pr .toTup (.cons (.comp (.pr .idx (.cons (.var 5) (.cons (.var 7) .nil))) [7] (.of (.pr .idx (.cons (.var 0) (.cons (.lit (.int 2)) .nil)))) (.lit (.bl true)) [7]) .nil)) (.cons (.var 6) .nil))) [5, 6] (.of (.var 3)) (.lit (.bl true)) [5, 6])) .nil) .nil) (.cons (.set 4 (.call i_entries none (.cons (.pr .idx (.cons (.var 0) (.cons (.lit (.int 2)) .nil))) (.cons (.var 1) .nil)))) (.cons (.ife (.pr .eq (.cons (.var 2) (.cons (.lit (.str "both")) .nil))) (.cons (.ret (.pr .add (.cons (.var 3) (.cons (.var 4) .nil)))) .nil) .nil) (.cons (.ife (.pr .eq (.cons (.var 2) (.cons (.lit (.str "join")) .nil))) (.cons (.ret (.call i_joined none (.cons (.var 3) (.cons (.var 4) (.cons (.pr .idx (.cons (.var 0) (.cons (.lit (.int 3)) .nil))) .nil))))) .nil) .nil) (.cons (.ret (.call i_not_false none (.cons (.comp (.tup (.cons (.var 5) (.cons (.lst (.cons (.var 6) (.cons (.call i_no none (.cons (.call i_is_among none (.cons (.var 5) (.cons (.var 4) .nil))) .nil)) .nil))) .nil))) [5, 6] (.of (.var 3)) (.lit (.bl true)) [5, 6]) .nil))) .nil)))))))))⟩
def F_not_false : FD := ⟨1, 5, false, none, (.cons (.set 1 (.comp (.tup (.cons (.var 2) (.cons (.call i_both_of none (.cons (.var 3) .nil)) .nil))) [2, 3] (.of (.var 0)) (.lit (.bl true)) [2, 3])) (.cons (.ret (.comp (.tup (.cons (.var 2) (.cons (.var 4) .nil))) [2, 4] (.of (.var 1)) (.pr .notB (.cons (.var 4) (.cons (.lit (.bl false)) .nil))) [2, 4])) .nil))⟩
def F_joined : FD := ⟨3, 10, false, none, (.cons (.set 3 (.lst .nil)) (.cons (.loop [4, 5] (.of (.var 0)) (.cons (.loop [6, 7] (.of (.var 1)) (.cons (.app 3 (.tup (.cons (.pr .add (.cons (.var 4) (.cons (.var 6) .nil))) (.cons (.pr .add (.cons (.lst (.cons (.var 5) (.cons (.var 7) .nil))) (.cons (.comp (.call i_same none (.cons (.pr .idx (.cons (.var 4) (.cons (.var 8) .nil))) (.cons (.pr .idx (.cons (.var 6) (.cons (.var 9) .nil))) .nil))) [8, 9] (.of (.var 2)) (.lit (.bl true)) [8, 9]) .nil))) .nil)))) .nil)) .nil)) (.cons (.ret (.call i_not_false none (.cons (.var 3) .nil))) .nil)))⟩
def F_is_among : FD := ⟨2, 4, false, none, (.cons (.ret (.call i_any_of none (.cons (.comp (.call i_both_of none (.cons (.lst (.cons (.var 3) (.cons (.call i_rows_same none (.cons (.var 0) (.cons (.var 2) .nil))) .nil))) .nil)) [2, 3] (.of (.var 1)) (.lit (.bl true)) [2, 3]) .nil))) .nil)⟩
def F_run : FD := ⟨2, 4, false, none, (.cons (.ex (.call i_need_tables none (.cons (.var 1) .nil))) (.cons (.ex (.call i_wide_of none (.cons (.var 0) (.cons (.call i_widths_of none (.cons (.var 1) .nil)) .nil)))) (.cons (.ret (.comp (.tup (.cons (.var 2) (.cons (.ife (.var 3) (.lit (.str "sure")) (.lit (.str "maybe"))) .nil))) [2, 3] (.of (.call i_entries none (.cons (.var 0) (.cons (.var 1) .nil)))) (.lit (.bl true)) [2, 3])) .nil)))⟩
def F_law_dice : FD := ⟨1, 3, false, none, (.cons (.set 1 (.lit (.int 0))) (.cons (.loop [2] (.of (.var 0)) (.cons (.set 1 (.pr .mod (.cons (.pr .add (.cons (.pr .add (.cons (.pr .mul (.cons (.var 1) (.cons (.lit (.int 48271)) .nil))) (.cons (.pr .mul (.cons (.pr .mod (.cons (.var 2) (.cons (.lit (.int 2147483647)) .nil))) (.cons (.lit (.int 69621)) .nil))) .nil))) (.cons (.lit (.int 11)) .nil))) (.cons (.lit (.int 2147483647)) .nil)))) .nil)) (.cons (.ret (.lst (.cons (.var 0) (.cons (.lit (.int 0)) (.cons (.pr .mul (.cons (.var 1) (.cons (.pr .toInt (.cons (.pr .gt (.cons (.pr .len (.cons (.var 0) .nil)) (.cons (.lit (.int 2)) .nil))) .nil)) .nil))) (.cons (.lit (.int 0)) .nil)))))) .nil)))⟩
def F_law_next : FD := ⟨2, 4, true, none, (.cons (.ife (.pr .gt (.cons (.pr .idx (.cons (.var 0) (.cons (.lit (.int 3)) .nil))) (.cons (.lit (.int 0)) .nil))) (.cons (.set 2 (.pr .mod (.cons (.pr .idx (.cons (.var 0) (.cons (.lit (.int 3)) .nil))) (.cons (.var 1) .nil)))) (.cons (.put 0 (.lit (.int 3)) (.pr .fdiv (.cons (.pr .idx (.cons (.var 0) (.cons (.lit (.int 3)) .nil))) (.cons (.var 1) .nil)))) (.cons (.ret (.var 2)) .nil))) .nil) (.cons (.put 0 (.lit (.int 1)) (.pr .add (.cons (.pr .idx (.cons (.var 0) (.cons (.lit (.int 1)) .nil))) (.cons (.lit (.int 1)) .nil)))) (.cons (.ife (.pr .le (.cons (.pr .idx (.cons (.var 0) (.cons (.lit (.int 1)) .nil))) (.cons (.pr .len (.cons (.pr .idx (.cons (.var 0) (.cons (.lit (.int 0)) .nil))) .nil)) .nil))) (.cons (.set 3 (.pr .idx (.cons (.pr .idx (.cons (.var 0) (.cons (.lit (.int 0)) .nil))) (.cons (.pr .sub (.cons (.pr .idx (.cons (.var 0) (.cons (.lit (.int 1)) .nil))) (.cons (.lit (.int 1)) .nil))) .nil)))) (.cons (.put 0 (.lit (.int 3)) (.ife (.pr .ge (.cons (.var 3) (.cons (.pr .pow (.cons (.lit (.int 10)) (.cons (.lit (.int 18)) .nil))) .nil))) (.pr .fdiv (.cons (.var 3) (.cons (.var 1) .nil))) (.lit (.int 0)))) (.cons (.ret (.pr .mod (.cons (.var 3) (.cons (.var 1) .nil)))) .nil))) .nil) (.cons (.put 0 (.lit (.int 2)) (.pr .mod (.cons (.pr .mul (.cons (.pr .idx (.cons (.var 0) (.cons (.lit (.int 2)) .nil))) (.cons (.lit (.int 48271)) .nil))) (.cons (.lit (.int 2147483647)) .nil)))) (.cons (.ret (.pr .mod (.cons (.pr .fdiv (.cons (.pr .idx (.cons (.var 0) (.cons (.lit (.int 2)) .nil))) (.cons (.lit (.int 7)) .nil))) (.cons (.var 1) .nil)))) .nil)))))⟩
def F_law_cell : FD := ⟨2, 3, true, none, (.cons (.set 2 (.call i_law_next (some 0) (.cons (.var 0) (.cons (.lit (.int 8)) .nil)))) (.cons (.ife (.pr .lt (.cons (.var 2) (.cons (.lit (.int 4)) .nil))) (.cons (.ret (.call i_law_next (some 0) (.cons (.var 0) (.cons (.lit (.int 3)) .nil)))) .nil) .nil) (.cons (.ife (.pr .eq (.cons (.var 2) (.cons (.lit (.int 4)) .nil))) (.cons (.ret (.pr .idx (.cons (.lst (.cons (.call i_law_next (some 0) (.cons (.var 0) (.cons (.lit (.int 100)) .nil))) (.cons (.lit (.int 99)) (.cons (.lit (.int 3)) .nil)))) (.cons (.call i_law_next (some 0) (.cons (.var 0) (.cons (.lit (.int 3)) .nil))) .nil)))) .nil) .nil) (.cons (.ret (.tup (.cons (.lit (.str "gap")) (.cons (.pr .idx (.cons (.var 1) (.cons (.call i_law_next (some 0) (.cons (.var 0) (.cons (.pr .len (.cons (.var 1) .nil)) .nil))) .nil))) .nil)))) .nil))))⟩
def F_law_tables : FD := ⟨3, 12, true, none, (.cons (.set 3 (.pr .rng (.cons (.lit (.int 10)) .nil))) (.cons (.set 4 (.comp (.pop 3 (.call i_law_next (some 0) (.cons (.var 0) (.cons (.pr .len (.cons (.var 3) .nil)) .nil)))) [10] (.rng (.cons (.pr .add (.cons (.lit (.int 1)) (.cons (.call i_law_next (some 0) (.cons (.var 0) (.cons (.var 1) .nil))) .nil))) .nil)) (.lit (.bl true)) [10])) (.cons (.set 5 (.lst .nil)) (.cons (.loop [6] (.rng (.cons (.pr .add (.cons (.lit (.int 1)) (.cons (.call i_law_next (some 0) (.cons (.var 0) (.cons (.lit (.int 3)) .nil))) .nil))) .nil)) (.cons (.set 7 (.pr .add (.cons (.lit (.int 1)) (.cons (.call i_law_next (some 0) (.cons (.var 0) (.cons (.pr .idx (.cons (.lst (.cons (.lit (.int 2)) (.cons (.lit (.int 4)) .nil))) (.cons (.call i_law_next (some 0) (.cons (.var 0) (.cons (.lit (.int 2)) .nil))) .nil))) .nil))) .nil)))) (.cons (.set 8 (.lst .nil)) (.cons (.loop [9] (.rng (.cons (.call i_law_next (some 0) (.cons (.var 0) (.cons (.pr .add (.cons (.var 2) (.cons (.lit (.int 1)) .nil))) .nil))) .nil)) (.cons (.set 11 (.pr .toTup (.cons (.comp (.call i_law_cell (some 0) (.cons (.var 0) (.cons (.var 4) .nil))) [10] (.rng (.cons (.var 7) .nil)) (.lit (.bl true)) [10]) .nil))) (.cons (.app 8 (.ife (.and (.pr .ne (.cons (.var 8) (.cons (.lst .nil) .nil))) (.pr .eq (.cons (.call i_law_next (some 0) (.cons (.var 0) (.cons (.lit (.int 5)) .nil))) (.cons (.lit (.int 0)) .nil)))) (.pr .idx (.cons (.var 8) (.cons (.call i_law_next (some 0) (.cons (.var 0) (.cons (.pr .len (.cons (.var 8) .nil)) .nil))) .nil))) (.var 11))) .nil))) (.cons (.app 5 (.tup (.cons (.var 7) (.cons (.var 8) .nil)))) .nil))))) (.cons (.ret (.var 5)) .nil)))))⟩
def F_law_part : FD := ⟨3, 4, true, none, (.cons (.set 3 (.call i_law_next (some 0) (.cons (.var 0) (.cons (.lit (.int 8)) .nil)))) (.cons (.ife (.or (.pr .lt (.cons (.var 3) (.cons (.lit (.int 5)) .nil))) (.and (.pr .eq (.cons (.var 2) (.cons (.lit (.int 0)) .nil))) (.pr .gt (.cons (.var 3) (.cons (.lit (.int 6)) .nil))))) (.cons (.ret (.tup (.cons (.lit (.str "col")) (.cons (.call i_law_next (some 0) (.cons (.var 0) (.cons (.var 1) .nil))) .nil)))) .nil) .nil) (.cons (.ife (.pr .lt (.cons (.var 3) (.cons (.lit (.int 7)) .nil))) (.cons (.ret (.tup (.cons (.lit (.str "num")) (.cons (.pr .idx (.cons (.lst (.cons (.call i_law_next (some 0) (.cons (.var 0) (.cons (.lit (.int 4)) .nil))) (.cons (.call i_law_next (some 0) (.cons (.var 0) (.cons (.lit (.int 100)) .nil))) .nil))) (.cons (.pr .toInt (.cons (.pr .eq (.cons (.call i_law_next (some 0) (.cons (.var 0) (.cons (.lit (.int 6)) .nil))) (.cons (.lit (.int 5)) .nil))) .nil)) .nil))) .nil)))) .nil) .nil) (.cons (.ret (.tup (.cons (.pr .idx (.cons (.lst (.cons (.lit (.str "plus")) (.cons (.lit (.str "take")) .nil))) (.cons (.call i_law_next (some 0) (.cons (.var 0) (.cons (.lit (.int 2)) .nil))) .nil))) (.cons (.call i_law_part (some 0) (.cons (.var 0) (.cons (.var 1) (.cons (.pr .sub (.cons (.var 2) (.cons (.lit (.int 1)) .nil))) .nil)))) (.cons (.call i_law_part (some 0) (.cons (.var 0) (.cons (.var 1) (.cons (.pr .sub (.cons (.var 2) (.cons (.lit (.int 1)) .nil))) .nil)))) .nil))))) .nil))))⟩
def F_law_condition : FD := ⟨4, 7, true, none, (.cons (.set 4 (.call i_law_next (some 0) (.cons (.var 0) (.cons (.lit (.int 9)) .nil)))) (.cons (.set 5 (.pr .idx (.cons (.lst (.cons (.lit (.int 1)) (.cons (.lit (.int 1)) (.cons (.lit (.int 1)) (.cons (.lit (.int 3)) .nil))))) (.cons (.call i_law_next (some 0) (.cons (.var 0) (.cons (.lit (.int 4)) .nil))) .nil)))) (.cons (.ife (.or (.pr .eq (.cons (.var 2) (.cons (.lit (.int 0)) .nil))) (.pr .lt (.cons (.var 4) (.cons (.lit (.int 4)) .nil)))) (.cons (.ife (.and (.not (.var 3)) (.pr .eq (.cons (.call i_law_next (some 0) (.cons (.var 0) (.cons (.lit (.int 5)) .nil))) (.cons (.lit (.int 0)) .nil)))) (.cons (.ret (.tup (.cons (.lit (.str "lacks")) (.cons (.call i_law_part (some 0) (.cons (.var 0) (.cons (.var 1) (.cons (.var 5) .nil)))) .nil)))) .nil) .nil) (.cons (.set 6 (.pr .idx (.cons (.lst (.cons (.lit (.str "is")) (.cons (.lit (.str "less")) .nil))) (.cons (.call i_law_next (some 0) (.cons (.var 0) (.cons (.lit (.int 2)) .nil))) .nil)))) (.cons (.ret (.tup (.cons (.var 6) (.cons (.call i_law_part (some 0) (.cons (.var 0) (.cons (.var 1) (.cons (.var 5) .nil)))) (.cons (.call i_law_part (some 0) (.cons (.var 0) (.cons (.var 1) (.cons (.var 5) .nil)))) .nil))))) .nil))) .nil) (.cons (.ife (.or (.pr .lt (.cons (.var 4) (.cons (.lit (.int 6)) .nil))) (.and (.pr .eq (.cons (.var 4) (.cons (.lit (.int 6)) .nil))) (.var 3))) (.cons (.ret (.tup (.cons (.lit (.str "not")) (.cons (.call i_law_condition (some 0) (.cons (.var 0) (.cons (.var 1) (.cons (.pr .sub (.cons (.var 2) (.cons (.lit (.int 1)) .nil))) (.cons (.var 3) .nil))))) .nil)))) .nil) .nil) (.cons (.ife (.pr .eq (.cons (.var 4) (.cons (.lit (.int 6)) .nil))) (.cons (.ret (.tup (.cons (.lit (.str "true")) (.cons (.call i_law_condition (some 0) (.cons (.var 0) (.cons (.var 1) (.cons (.pr .sub (.cons (.var 2) (.cons (.lit (.int 1)) .nil))) (.cons (.var 3) .nil))))) .nil)))) .nil) .nil) (.cons (.set 6 (.pr .idx (.cons (.lst (.cons (.lit (.str "and")) (.cons (.lit (.str "or")) .nil))) (.cons (.pr .sub (.cons (.var 4) (.cons (.lit (.int 7)) .nil))) .nil)))) (.cons (.ret (.tup (.cons (.var 6) (.cons (.call i_law_condition (some 0) (.cons (.var 0) (.cons (.var 1) (.cons (.pr .sub (.cons (.var 2) (.cons (.lit (.int 1)) .nil))) (.cons (.var 3) .nil))))) (.cons (.call i_law_condition (some 0) (.cons (.var 0) (.cons (.var 1) (.cons (.pr .sub (.cons (.var 2) (.cons (.lit (.int 1)) .nil))) (.cons (.var 3) .nil))))) .nil))))) .nil)))))))⟩
def F_law_sized : FD := ⟨5, 8, true, none, (.cons (.setT [5, 6] (.call i_law_any (some 0) (.cons (.var 0) (.cons (.var 4) (.cons (.var 2) (.cons (.var 3) .nil)))))) (.cons (.ife (.pr .eq (.cons (.var 6) (.cons (.var 1) .nil))) (.cons (.ret (.var 5)) .nil) .nil) (.cons (.ret (.tup (.cons (.lit (.str "pick")) (.cons (.var 5) (.cons (.pr .toTup (.cons (.comp (.call i_law_next (some 0) (.cons (.var 0) (.cons (.var 6) .nil))) [7] (.rng (.cons (.var 1) .nil)) (.lit (.bl true)) [7]) .nil)) .nil))))) .nil)))⟩
def F_law_any : FD := ⟨4, 14, true, none, (.cons (.set 4 (.call i_law_next (some 0) (.cons (.var 0) (.cons (.lit (.int 8)) .nil)))) (.cons (.ife (.or (.pr .eq (.cons (.var 2) (.cons (.lit (.int 0)) .nil))) (.pr .eq (.cons (.var 4) (.cons (.lit (.int 0)) .nil)))) (.cons (.set 6 (.call i_law_next (some 0) (.cons (.var 0) (.cons (.pr .len (.cons (.var 1) .nil)) .nil)))) (.cons (.ret (.tup (.cons (.tup (.cons (.lit (.str "rows")) (.cons (.var 6) .nil))) (.cons (.pr .idx (.cons (.var 1) (.cons (.var 6) .nil))) .nil)))) .nil)) .nil) (.cons (.setT [7, 8] (.call i_law_any (some 0) (.cons (.var 0) (.cons (.var 1) (.cons (.pr .sub (.cons (.var 2) (.cons (.lit (.int 1)) .nil))) (.cons (.var 3) .nil)))))) (.cons (.ife (.pr .lt (.cons (.var 4) (.cons (.lit (.int 3)) .nil))) (.cons (.ret (.tup (.cons (.tup (.cons (.lit (.str "keep")) (.cons (.var 7) (.cons (.call i_law_condition (some 0) (.cons (.var 0) (.cons (.var 8) (.cons (.lit (.int 2)) (.cons (.var 3) .nil))))) .nil)))) (.cons (.var 8) .nil)))) .nil) .nil) (.cons (.ife (.pr .eq (.cons (.var 4) (.cons (.lit (.int 3)) .nil))) (.cons (.set 9 (.pr .add (.cons (.lit (.int 1)) (.cons (.call i_law_next (some 0) (.cons (.var 0) (.cons (.lit (.int 3)) .nil))) .nil)))) (.cons (.ret (.tup (.cons (.tup (.cons (.lit (.str "pick")) (.cons (.var 7) (.cons (.pr .toTup (.cons (.comp (.call i_law_next (some 0) (.cons (.var 0) (.cons (.var 8) .nil))) [13] (.rng (.cons (.var 9) .nil)) (.lit (.bl true)) [13]) .nil)) .nil)))) (.cons (.var 9) .nil)))) .nil)) .nil) (.cons (.ife (.and (.pr .lt (.cons (.var 4) (.cons (.lit (.int 6)) .nil))) (.pr .lt (.cons (.var 8) (.cons (.lit (.int 5)) .nil)))) (.cons (.setT [10, 11] (.call i_law_any (some 0) (.cons (.var 0) (.cons (.var 1) (.cons (.pr .sub (.cons (.var 2) (.cons (.lit (.int 1)) .nil))) (.cons (.var 3) .nil)))))) (.cons (.ife (.pr .le (.cons (.pr .add (.cons (.var 11) (.cons (.var 8) .nil))) (.cons (.lit (.int 8)) .nil))) (.cons (.set 12 (.comp (.tup (.cons (.call i_law_next (some 0) (.cons (.var 0) (.cons (.var 8) .nil))) (.cons (.call i_law_next (some 0) (.cons (.var 0) (.cons (.var 11) .nil))) .nil))) [13] (.rng (.cons (.call i_law_next (some 0) (.cons (.var 0) (.cons (.lit (.int 5)) .nil))) .nil)) (.lit (.bl true)) [13])) (.cons (.ret (.tup (.cons (.tup (.cons (.lit (.str "join")) (.cons (.var 7) (.cons (.var 10) (.cons (.pr .toTup (.cons (.var 12) .nil)) .nil))))) (.cons (.pr .add (.cons (.var 8) (.cons (.var 11) .nil))) .nil)))) .nil)) .nil) .nil)) .nil) (.cons (.set 5 (.pr .idx (.cons (.lst (.cons (.lit (.str "both")) (.cons (.lit (.str "without")) .nil))) (.cons (.pr .mod (.cons (.var 4) (.cons (.lit (.int 2)) .nil))) .nil)))) (.cons (.ret (.tup (.cons (.tup (.cons (.var 5) (.cons (.var 7) (.cons (.call i_law_sized (some 0) (.cons (.var 0) (.cons (.var 8) (.cons (.pr .sub (.cons (.var 2) (.cons (.lit (.int 1)) .nil))) (.cons (.var 3) (.cons (.var 1) .nil)))))) .nil)))) (.cons (.var 8) .nil)))) .nil))))))))⟩
def F_law_things : FD := ⟨1, 3, false, none, (.cons (.set 1 (.lit (.int 1))) (.cons (.loop [2] (.of (.sli true false (.var 0) (.cons (.lit (.int 1)) .nil))) (.cons (.ife (.and (.pr (.isI .tuple) (.cons (.var 2) .nil)) (.and (.pr .ne (.cons (.var 2) (.cons (.tup .nil) .nil))) (.pr (.isI .str) (.cons (.pr .idx (.cons (.var 2) (.cons (.lit (.int 0)) .nil))) .nil)))) (.cons (.set 1 (.pr .add (.cons (.var 1) (.cons (.call i_law_things none (.cons (.var 2) .nil)) .nil)))) .nil) .nil) .nil)) (.cons (.ret (.var 1)) .nil)))⟩
def F_law_many : FD := ⟨2, 4, false, none, (.cons (.ife (.pr .eq (.cons (.pr .idx (.cons (.var 0) (.cons (.lit (.int 0)) .nil))) (.cons (.lit (.str "rows")) .nil))) (.cons (.ret (.pr .len (.cons (.pr .idx (.cons (.pr .idx (.cons (.var 1) (.cons (.pr .idx (.cons (.var 0) (.cons (.lit (.int 1)) .nil))) .nil))) (.cons (.lit (.int 1)) .nil))) .nil))) .nil) .nil) (.cons (.set 2 (.call i_law_many none (.cons (.pr .idx (.cons (.var 0) (.cons (.lit (.int 1)) .nil))) (.cons (.var 1) .nil)))) (.cons (.ife (.pr .isIn (.cons (.pr .idx (.cons (.var 0) (.cons (.lit (.int 0)) .nil))) (.cons (.tup (.cons (.lit (.str "keep")) (.cons (.lit (.str "pick")) .nil))) .nil))) (.cons (.ret (.var 2)) .nil) .nil) (.cons (.set 3 (.call i_law_many none (.cons (.pr .idx (.cons (.var 0) (.cons (.lit (.int 2)) .nil))) (.cons (.var 1) .nil)))) (.cons (.ife (.pr .eq (.cons (.pr .idx (.cons (.var 0) (.cons (.lit (.int 0)) .nil))) (.cons (.lit (.str "without")) .nil))) (.cons (.ret (.pr .max2 (.cons (.var 2) (.cons (.var 3) .nil)))) .nil) .nil) (.cons (.ret (.pr .max3 (.cons (.var 2) (.cons (.var 3) (.cons (.ife (.pr .eq (.cons (.pr .idx (.cons (.var 0) (.cons (.lit (.int 0)) .nil))) (.cons (.lit (.str "both")) .nil))) (.pr .add (.cons (.var 2) (.cons (.var 3) .nil))) (.pr .mul (.cons (.var 2) (.cons (.var 3) .nil)))) .nil))))) .nil))))))⟩
def F_law_pair : FD := ⟨2, 15, true, none, (.cons (.setT [5, 6] (.call i_law_any (some 0) (.cons (.var 0) (.cons (.var 1) (.cons (.lit (.int 2)) (.cons (.lit (.bl false)) .nil)))))) (.cons (.par [7, 8] (.cons (.call i_law_condition (some 0) (.cons (.var 0) (.cons (.var 6) (.cons (.lit (.int 1)) (.cons (.lit (.bl false)) .nil))))) (.cons (.call i_law_condition (some 0) (.cons (.var 0) (.cons (.var 6) (.cons (.lit (.int 1)) (.cons (.lit (.bl false)) .nil))))) .nil))) (.cons (.set 2 (.call i_law_sized (some 0) (.cons (.var 0) (.cons (.var 6) (.cons (.lit (.int 1)) (.cons (.lit (.bl false)) (.cons (.var 1) .nil))))))) (.cons (.set 3 (.call i_law_next (some 0) (.cons (.var 0) (.cons (.lit (.int 7)) .nil)))) (.cons (.ife (.pr .eq (.cons (.var 3) (.cons (.lit (.int 0)) .nil))) (.cons (.ret (.tup (.cons (.tup (.cons (.lit (.str "keep")) (.cons (.tup (.cons (.lit (.str "keep")) (.cons (.var 5) (.cons (.var 7) .nil)))) (.cons (.var 8) .nil)))) (.cons (.tup (.cons (.lit (.str "keep")) (.cons (.var 5) (.cons (.tup (.cons (.lit (.str "and")) (.cons (.var 7) (.cons (.var 8) .nil)))) .nil)))) .nil)))) .nil) .nil) (.cons (.ife (.pr .eq (.cons (.var 3) (.cons (.lit (.int 1)) .nil))) (.cons (.ret (.tup (.cons (.tup (.cons (.lit (.str "keep")) (.cons (.tup (.cons (.lit (.str "both")) (.cons (.var 5) (.cons (.var 2) .nil)))) (.cons (.var 7) .nil)))) (.cons (.tup (.cons (.lit (.str "both")) (.cons (.tup (.cons (.lit (.str "keep")) (.cons (.var 5) (.cons (.var 7) .nil)))) (.cons (.tup (.cons (.lit (.str "keep")) (.cons (.var 2) (.cons (.var 7) .nil)))) .nil)))) .nil)))) .nil) .nil) (.cons (.ife (.pr .eq (.cons (.var 3) (.cons (.lit (.int 2)) .nil))) (.cons (.set 9 (.pr .toTup (.cons (.comp (.call i_law_next (some 0) (.cons (.var 0) (.cons (.var 6) .nil))) [14] (.rng (.cons (.lit (.int 3)) .nil)) (.lit (.bl true)) [14]) .nil))) (.cons (.set 10 (.pr .toTup (.cons (.comp (.call i_law_next (some 0) (.cons (.var 0) (.cons (.lit (.int 3)) .nil))) [14] (.rng (.cons (.lit (.int 2)) .nil)) (.lit (.bl true)) [14]) .nil))) (.cons (.ret (.tup (.cons (.tup (.cons (.lit (.str "pick")) (.cons (.tup (.cons (.lit (.str "pick")) (.cons (.var 5) (.cons (.var 9) .nil)))) (.cons (.var 10) .nil)))) (.cons (.tup (.cons (.lit (.str "pick")) (.cons (.var 5) (.cons (.pr .toTup (.cons (.comp (.pr .idx (.cons (.var 9) (.cons (.var 14) .nil))) [14] (.of (.var 10)) (.lit (.bl true)) [14]) .nil)) .nil)))) .nil)))) .nil))) .nil) (.cons (.ife (.and (.pr .eq (.cons (.var 3) (.cons (.lit (.int 3)) .nil))) (.pr .lt (.cons (.var 6) (.cons (.lit (.int 3)) .nil)))) (.cons (.par [12, 13] (.cons (.call i_law_next (some 0) (.cons (.var 0) (.cons (.var 6) .nil))) (.cons (.call i_law_next (some 0) (.cons (.var 0) (.cons (.var 6) .nil))) .nil))) (.cons (.set 11 (.tup (.cons (.lit (.str "keep")) (.cons (.tup (.cons (.lit (.str "join")) (.cons (.var 5) (.cons (.var 2) (.cons (.tup .nil) .nil))))) (.cons (.tup (.cons (.lit (.str "is")) (.cons (.tup (.cons (.lit (.str "col")) (.cons (.var 12) .nil))) (.cons (.tup (.cons (.lit (.str "col")) (.cons (.pr .add (.cons (.var 6) (.cons (.var 13) .nil))) .nil))) .nil)))) .nil))))) (.cons (.ret (.tup (.cons (.tup (.cons (.lit (.str "join")) (.cons (.var 5) (.cons (.var 2) (.cons (.tup (.cons (.tup (.cons (.var 12) (.cons (.var 13) .nil))) .nil)) .nil))))) (.cons (.var 11) .nil)))) .nil))) .nil) (.cons (.ife (.pr .eq (.cons (.var 3) (.cons (.lit (.int 4)) .nil))) (.cons (.ret (.tup (.cons (.tup (.cons (.lit (.str "without")) (.cons (.tup (.cons (.lit (.str "without")) (.cons (.var 5) (.cons (.var 2) .nil)))) (.cons (.var 2) .nil)))) (.cons (.tup (.cons (.lit (.str "without")) (.cons (.var 5) (.cons (.var 2) .nil)))) .nil)))) .nil) .nil) (.cons (.ife (.pr .eq (.cons (.var 3) (.cons (.lit (.int 5)) .nil))) (.cons (.ret (.tup (.cons (.tup (.cons (.lit (.str "without")) (.cons (.tup (.cons (.lit (.str "keep")) (.cons (.var 5) (.cons (.var 7) .nil)))) (.cons (.var 2) .nil)))) (.cons (.tup (.cons (.lit (.str "keep")) (.cons (.tup (.cons (.lit (.str "without")) (.cons (.var 5) (.cons (.var 2) .nil)))) (.cons (.var 7) .nil)))) .nil)))) .nil) .nil) (.cons (.set 4 (.call i_law_sized (some 0) (.cons (.var 0) (.cons (.var 6) (.cons (.lit (.int 1)) (.cons (.lit (.bl false)) (.cons (.var 1) .nil))))))) (.cons (.ret (.tup (.cons (.tup (.cons (.lit (.str "without")) (.cons (.var 5) (.cons (.tup (.cons (.lit (.str "both")) (.cons (.var 2) (.cons (.var 4) .nil)))) .nil)))) (.cons (.tup (.cons (.lit (.str "without")) (.cons (.tup (.cons (.lit (.str "without")) (.cons (.var 5) (.cons (.var 2) .nil)))) (.cons (.var 4) .nil)))) .nil)))) .nil))))))))))))⟩
def F_law : FD := ⟨1, 9, false, none, (.cons (.set 1 (.call i_law_dice none (.cons (.var 0) .nil))) (.cons (.loop [2] (.rng (.cons (.lit (.int 5)) .nil)) (.cons (.set 3 (.call i_law_tables (some 0) (.cons (.var 1) (.cons (.lit (.int 4)) (.cons (.lit (.int 4)) .nil))))) (.cons (.setT [5, 6] (.call i_law_pair (some 0) (.cons (.var 1) (.cons (.comp (.pr .idx (.cons (.var 7) (.cons (.lit (.int 0)) .nil))) [7] (.of (.var 3)) (.lit (.bl true)) [7]) .nil)))) (.cons (.set 4 (.lst (.cons (.var 5) (.cons (.var 6) .nil)))) (.cons (.ife (.and (.pr .lt (.cons (.pr .max1 (.cons (.comp (.call i_law_many none (.cons (.var 8) (.cons (.var 3) .nil))) [8] (.of (.var 4)) (.lit (.bl true)) [8]) .nil)) (.cons (.lit (.int 300)) .nil))) (.pr .lt (.cons (.pr .max1 (.cons (.comp (.call i_law_things none (.cons (.var 8) .nil)) [8] (.of (.var 4)) (.lit (.bl true)) [8]) .nil)) (.cons (.lit (.int 61)) .nil)))) (.cons (.ife (.pr .ne (.cons (.call i_run none (.cons (.var 5) (.cons (.var 3) .nil))) (.cons (.call i_run none (.cons (.var 6) (.cons (.var 3) .nil))) .nil))) (.cons (.ret (.lit (.bl false))) .nil) .nil) .nil) .nil) .nil))))) (.cons (.ret (.lit (.bl true))) .nil)))⟩
def fds : List FD := [F_BadTables_init, F_BadSentence_init, F_is_between, F_is_gap, F_is_row, F_need_tables, F_widths_of, F_no, F_both_of, F_any_of, F_is_number, F_same, F_less, F_worth, F_truth_of, F_rows_same, F_is_list, F_is_pairs, F_Looker_init, F_Looker_begin, F_Looker_part, F_Looker_condition, F_Looker_sentence, F_Looker_picked, F_Looker_joined, F_wide_of, F_entries, F_not_false, F_joined, F_is_among, F_run, F_law_dice, F_law_next, F_law_cell, F_law_tables, F_law_part, F_law_condition, F_law_sized, F_law_any, F_law_things, F_law_many, F_law_pair, F_law]
theorem call_BadTables_init (n : Nat) (ds : List D) : callF fds (n + 1) i_BadTables_init ds = runF (callF fds n) F_BadTables_init ds := rfl
theorem call_BadSentence_init (n : Nat) (ds : List D) : callF fds (n + 1) i_BadSentence_init ds = runF (callF fds n) F_BadSentence_init ds := rfl
theorem call_is_between (n : Nat) (ds : List D) : callF fds (n + 1) i_is_between ds = runF (callF fds n) F_is_between ds := rfl
theorem call_is_gap (n : Nat) (ds : List D) : callF fds (n + 1) i_is_gap ds = runF (callF fds n) F_is_gap ds := rfl
theorem call_is_row (n : Nat) (ds : List D) : callF fds (n + 1) i_is_row ds = runF (callF fds n) F_is_row ds := rfl
theorem call_need_tables (n : Nat) (ds : List D) : callF fds (n + 1) i_need_tables ds = runF (callF fds n) F_need_tables ds := rfl
theorem call_widths_of (n : Nat) (ds : List D) : callF fds (n + 1) i_widths_of ds = runF (callF fds n) F_widths_of ds := rfl
theorem call_no (n : Nat) (ds : List D) : callF fds (n + 1) i_no ds = runF (callF fds n) F_no ds := rfl
theorem call_both_of (n : Nat) (ds : List D) : callF fds (n + 1) i_both_of ds = runF (callF fds n) F_both_of ds := rfl
theorem call_any_of (n : Nat) (ds : List D) : callF fds (n + 1) i_any_of ds = runF (callF fds n) F_any_of ds := rfl
theorem call_is_number (n : Nat) (ds : List D) : callF fds (n + 1) i_is_number ds = runF (callF fds n) F_is_number ds := rfl
theorem call_same (n : Nat) (ds : List D) : callF fds (n + 1) i_same ds = runF (callF fds n) F_same ds := rfl
theorem call_less (n : Nat) (ds : List D) : callF fds (n + 1) i_less ds = runF (callF fds n) F_less ds := rfl
theorem call_worth (n : Nat) (ds : List D) : callF fds (n + 1) i_worth ds = runF (callF fds n) F_worth ds := rfl
theorem call_truth_of (n : Nat) (ds : List D) : callF fds (n + 1) i_truth_of ds = runF (callF fds n) F_truth_of ds := rfl
theorem call_rows_same (n : Nat) (ds : List D) : callF fds (n + 1) i_rows_same ds = runF (callF fds n) F_rows_same ds := rfl
theorem call_is_list (n : Nat) (ds : List D) : callF fds (n + 1) i_is_list ds = runF (callF fds n) F_is_list ds := rfl
theorem call_is_pairs (n : Nat) (ds : List D) : callF fds (n + 1) i_is_pairs ds = runF (callF fds n) F_is_pairs ds := rfl
theorem call_Looker_init (n : Nat) (ds : List D) : callF fds (n + 1) i_Looker_init ds = runF (callF fds n) F_Looker_init ds := rfl
theorem call_Looker_begin (n : Nat) (ds : List D) : callF fds (n + 1) i_Looker_begin ds = runF (callF fds n) F_Looker_begin ds := rfl
theorem call_Looker_part (n : Nat) (ds : List D) : callF fds (n + 1) i_Looker_part ds = runF (callF fds n) F_Looker_part ds := rfl
theorem call_Looker_condition (n : Nat) (ds : List D) : callF fds (n + 1) i_Looker_condition ds = runF (callF fds n) F_Looker_condition ds := rfl
theorem call_Looker_sentence (n : Nat) (ds : List D) : callF fds (n + 1) i_Looker_sentence ds = runF (callF fds n) F_Looker_sentence ds := rfl
theorem call_Looker_picked (n : Nat) (ds : List D) : callF fds (n + 1) i_Looker_picked ds = runF (callF fds n) F_Looker_picked ds := rfl
theorem call_Looker_joined (n : Nat) (ds : List D) : callF fds (n + 1) i_Looker_joined ds = runF (callF fds n) F_Looker_joined ds := rfl
theorem call_wide_of (n : Nat) (ds : List D) : callF fds (n + 1) i_wide_of ds = runF (callF fds n) F_wide_of ds := rfl
theorem call_entries (n : Nat) (ds : List D) : callF fds (n + 1) i_entries ds = runF (callF fds n) F_entries ds := rfl
theorem call_not_false (n : Nat) (ds : List D) : callF fds (n + 1) i_not_false ds = runF (callF fds n) F_not_false ds := rfl
theorem call_joined (n : Nat) (ds : List D) : callF fds (n + 1) i_joined ds = runF (callF fds n) F_joined ds := rfl
theorem call_is_among (n : Nat) (ds : List D) : callF fds (n + 1) i_is_among ds = runF (callF fds n) F_is_among ds := rfl
theorem call_run (n : Nat) (ds : List D) : callF fds (n + 1) i_run ds = runF (callF fds n) F_run ds := rfl
theorem call_law_dice (n : Nat) (ds : List D) : callF fds (n + 1) i_law_dice ds = runF (callF fds n) F_law_dice ds := rfl
theorem call_law_next (n : Nat) (ds : List D) : callF fds (n + 1) i_law_next ds = runF (callF fds n) F_law_next ds := rfl
theorem call_law_cell (n : Nat) (ds : List D) : callF fds (n + 1) i_law_cell ds = runF (callF fds n) F_law_cell ds := rfl
theorem call_law_tables (n : Nat) (ds : List D) : callF fds (n + 1) i_law_tables ds = runF (callF fds n) F_law_tables ds := rfl
theorem call_law_part (n : Nat) (ds : List D) : callF fds (n + 1) i_law_part ds = runF (callF fds n) F_law_part ds := rfl
theorem call_law_condition (n : Nat) (ds : List D) : callF fds (n + 1) i_law_condition ds = runF (callF fds n) F_law_condition ds := rfl
theorem call_law_sized (n : Nat) (ds : List D) : callF fds (n + 1) i_law_sized ds = runF (callF fds n) F_law_sized ds := rfl
theorem call_law_any (n : Nat) (ds : List D) : callF fds (n + 1) i_law_any ds = runF (callF fds n) F_law_any ds := rfl
theorem call_law_things (n : Nat) (ds : List D) : callF fds (n + 1) i_law_things ds = runF (callF fds n) F_law_things ds := rfl
theorem call_law_many (n : Nat) (ds : List D) : callF fds (n + 1) i_law_many ds = runF (callF fds n) F_law_many ds := rfl
theorem call_law_pair (n : Nat) (ds : List D) : callF fds (n + 1) i_law_pair ds = runF (callF fds n) F_law_pair ds := rfl
theorem call_law (n : Nat) (ds : List D) : callF fds (n + 1) i_law ds = runF (callF fds n) F_law ds := rfl
end G48k17

namespace G48k17
open PySem G48
set_option maxHeartbeats 1000000
/-! gaprows.tables -/
theorem is_between_i {n : Nat} (hn : 1 ≤ n) (i lo hi : Int) : callF fds n i_is_between [.int i, .int lo, .int hi] = some (none, (false, .bl (decide (lo ≤ i) && decide (i ≤ hi)))) := by
  (obtain ⟨n, rfl⟩ : ∃ m, n = m + 1 := ⟨n - 1, by omega⟩; rw [call_is_between, runF_eq (by rfl) (by rfl)])
  simp (disch := first | omega | decide +kernel | assumption) only [F_is_between, List.map_cons, List.map_nil, List.append_nil, List.nil_append, List.cons_append, List.all_cons, List.all_nil, List.length_cons, List.length_nil, List.replicate_zero, List.replicate_succ, List.any_cons, List.any_nil, List.length_map, eq_self, Option.isSome_some, Option.isSome_none, RUN, RUNC, OB, ↓reduceIte, Nat.reduceSub, Nat.reduceAdd, Nat.reduceLT, Nat.reduceLeDiff, Int.cast_ofNat_Int, Int.reduceEq, Int.reduceLT, Int.reduceLE, Int.reduceAdd, Int.reduceSub, Int.reduceNeg, Int.reduceMul, cstep_, kC0_, kC1_, kC2_, lstep_, kL0_]
theorem is_between_t {n : Nat} (hn : 1 ≤ n) (l : List D) (lo hi : Int) : callF fds n i_is_between [.tup l, .int lo, .int hi] = some (none, (false, .bl false)) := by
  (obtain ⟨n, rfl⟩ : ∃ m, n = m + 1 := ⟨n - 1, by omega⟩; rw [call_is_between, runF_eq (by rfl) (by rfl)])
  simp (disch := first | omega | decide +kernel | assumption) only [F_is_between, List.map_cons, List.map_nil, List.append_nil, List.nil_append, List.cons_append, List.all_cons, List.all_nil, List.length_cons, List.length_nil, List.replicate_zero, List.replicate_succ, List.any_cons, List.any_nil, List.length_map, eq_self, Option.isSome_some, Option.isSome_none, RUN, RUNC, OB, ↓reduceIte, Nat.reduceSub, Nat.reduceAdd, Nat.reduceLT, Nat.reduceLeDiff, Int.cast_ofNat_Int, Int.reduceEq, Int.reduceLT, Int.reduceLE, Int.reduceAdd, Int.reduceSub, Int.reduceNeg, Int.reduceMul, cstep_, kC0_, kC1_, kC2_, lstep_, kL0_]
theorem is_gap_i {n : Nat} (hn : 1 ≤ n) (i : Int) : callF fds n i_is_gap [.int i] = some (none, (false, .bl false)) := by
  (obtain ⟨n, rfl⟩ : ∃ m, n = m + 1 := ⟨n - 1, by omega⟩; rw [call_is_gap, runF_eq (by rfl) (by rfl)])
  simp (disch := first | omega | decide +kernel | assumption) only [F_is_gap, List.map_cons, List.map_nil, List.append_nil, List.nil_append, List.cons_append, List.all_cons, List.all_nil, List.length_cons, List.length_nil, List.replicate_zero, List.replicate_succ, List.any_cons, List.any_nil, List.length_map, eq_self, Option.isSome_some, Option.isSome_none, RUN, RUNC, OB, ↓reduceIte, Nat.reduceSub, Nat.reduceAdd, Nat.reduceLT, Nat.reduceLeDiff, Int.cast_ofNat_Int, Int.reduceEq, Int.reduceLT, Int.reduceLE, Int.reduceAdd, Int.reduceSub, Int.reduceNeg, Int.reduceMul, cstep_, kC0_, kC1_, kC2_, lstep_, kL0_]
theorem is_gap_n {n : Nat} (hn : 1 ≤ n) : callF fds n i_is_gap [.non] = some (none, (false, .bl false)) := by
  (obtain ⟨n, rfl⟩ : ∃ m, n = m + 1 := ⟨n - 1, by omega⟩; rw [call_is_gap, runF_eq (by rfl) (by rfl)])
  simp (disch := first | omega | decide +kernel | assumption) only [F_is_gap, List.map_cons, List.map_nil, List.append_nil, List.nil_append, List.cons_append, List.all_cons, List.all_nil, List.length_cons, List.length_nil, List.replicate_zero, List.replicate_succ, List.any_cons, List.any_nil, List.length_map, eq_self, Option.isSome_some, Option.isSome_none, RUN, RUNC, OB, ↓reduceIte, Nat.reduceSub, Nat.reduceAdd, Nat.reduceLT, Nat.reduceLeDiff, Int.cast_ofNat_Int, Int.reduceEq, Int.reduceLT, Int.reduceLE, Int.reduceAdd, Int.reduceSub, Int.reduceNeg, Int.reduceMul, cstep_, kC0_, kC1_, kC2_, lstep_, kL0_]
theorem is_gap_g {n : Nat} (hn : 2 ≤ n) (x : Int) : callF fds n i_is_gap [.tup [.str "gap", .int x]] = some (none, (false, .bl (decide (0 ≤ x) && decide (x ≤ 9)))) := by
  (obtain ⟨n, rfl⟩ : ∃ m, n = m + 1 := ⟨n - 1, by omega⟩; rw [call_is_gap, runF_eq (by rfl) (by rfl)])
  simp (disch := first | omega | decide +kernel | assumption) only [F_is_gap, List.map_cons, List.map_nil, List.append_nil, List.nil_append, List.cons_append, List.all_cons, List.all_nil, List.length_cons, List.length_nil, List.replicate_zero, List.replicate_succ, List.any_cons, List.any_nil, List.length_map, eq_self, Option.isSome_some, Option.isSome_none, RUN, RUNC, OB, ↓reduceIte, Nat.reduceSub, Nat.reduceAdd, Nat.reduceLT, Nat.reduceLeDiff, Int.cast_ofNat_Int, Int.reduceEq, Int.reduceLT, Int.reduceLE, Int.reduceAdd, Int.reduceSub, Int.reduceNeg, Int.reduceMul, cstep_, kC0_, kC1_, kC2_, lstep_, kL0_, is_between_i]
theorem cell_between {n : Nat} (hn : 1 ≤ n) (c : Cell) (lo hi : Int) : callF fds n i_is_between [c.d, .int lo, .int hi] = some (none, (false, .bl (match c with | .num i => decide (lo ≤ i) && decide (i ≤ hi) | .gap _ => false))) := by
  cases c
  · exact is_between_i hn _ _ _
  · exact is_between_t hn _ _ _
theorem cell_gap {n : Nat} (hn : 2 ≤ n) (c : Cell) (h : c.ok) : callF fds n i_is_gap [c.d] = some (none, (false, .bl (match c with | .num i => false | .gap _ => true))) := by
  cases c with
  | num i => exact is_gap_i (by omega) _
  | gap x =>
    have := is_gap_g hn x
    rw [decide_eq_true h.1, decide_eq_true h.2] at this
    exact this
theorem is_row_ok {n : Nat} (hn : 3 ≤ n) (r : Row) (h : ∀ c ∈ r, cellT c) : callF fds n i_is_row [r.d, .int (r.length : Int)] = some (none, (false, .bl true)) := by
  (obtain ⟨n, rfl⟩ : ∃ m, n = m + 1 := ⟨n - 1, by omega⟩; rw [call_is_row, runF_eq (by rfl) (by rfl)])
  simp (disch := first | omega | decide +kernel | assumption) only [F_is_row, List.map_cons, List.map_nil, List.append_nil, List.nil_append, List.cons_append, List.all_cons, List.all_nil, List.length_cons, List.length_nil, List.replicate_zero, List.replicate_succ, List.any_cons, List.any_nil, List.length_map, eq_self, Option.isSome_some, Option.isSome_none, RUN, RUNC, OB, ↓reduceIte, Nat.reduceSub, Nat.reduceAdd, Nat.reduceLT, Nat.reduceLeDiff, Int.cast_ofNat_Int, Int.reduceEq, Int.reduceLT, Int.reduceLE, Int.reduceAdd, Int.reduceSub, Int.reduceNeg, Int.reduceMul, cstep_, kC0_, kC1_, kC2_, lstep_, kL0_, Row.d]
  rw [compF_none r Cell.d ?_]
  · simp (disch := first | omega | decide +kernel | assumption) only [List.map_cons, List.map_nil, List.append_nil, List.nil_append, List.cons_append, List.all_cons, List.all_nil, List.length_cons, List.length_nil, List.replicate_zero, List.replicate_succ, List.any_cons, List.any_nil, List.length_map, eq_self, Option.isSome_some, Option.isSome_none, RUN, RUNC, OB, ↓reduceIte, Nat.reduceSub, Nat.reduceAdd, Nat.reduceLT, Nat.reduceLeDiff, Int.cast_ofNat_Int, Int.reduceEq, Int.reduceLT, Int.reduceLE, Int.reduceAdd, Int.reduceSub, Int.reduceNeg, Int.reduceMul, cstep_, kC0_, kC1_, kC2_, lstep_, kL0_]
  · intro c hc
    have h1 := h c hc
    cases c with
    | num i => simp (disch := first | omega | decide +kernel | assumption) only [List.map_cons, List.map_nil, List.append_nil, List.nil_append, List.cons_append, List.all_cons, List.all_nil, List.length_cons, List.length_nil, List.replicate_zero, List.replicate_succ, List.any_cons, List.any_nil, List.length_map, eq_self, Option.isSome_some, Option.isSome_none, RUN, RUNC, OB, ↓reduceIte, Nat.reduceSub, Nat.reduceAdd, Nat.reduceLT, Nat.reduceLeDiff, Int.cast_ofNat_Int, Int.reduceEq, Int.reduceLT, Int.reduceLE, Int.reduceAdd, Int.reduceSub, Int.reduceNeg, Int.reduceMul, cstep_, kC0_, kC1_, kC2_, lstep_, kL0_, Cell.d, is_between_i, is_gap_i, decide_eq_true h1.1, decide_eq_true h1.2]
    | gap x => simp (disch := first | omega | decide +kernel | assumption) only [List.map_cons, List.map_nil, List.append_nil, List.nil_append, List.cons_append, List.all_cons, List.all_nil, List.length_cons, List.length_nil, List.replicate_zero, List.replicate_succ, List.any_cons, List.any_nil, List.length_map, eq_self, Option.isSome_some, Option.isSome_none, RUN, RUNC, OB, ↓reduceIte, Nat.reduceSub, Nat.reduceAdd, Nat.reduceLT, Nat.reduceLeDiff, Int.cast_ofNat_Int, Int.reduceEq, Int.reduceLT, Int.reduceLE, Int.reduceAdd, Int.reduceSub, Int.reduceNeg, Int.reduceMul, cstep_, kC0_, kC1_, kC2_, lstep_, kL0_, Cell.d, is_between_t, is_gap_g, decide_eq_true h1.1, decide_eq_true h1.2]
/-! gaprows.truths -/
theorem no_ok {n : Nat} (hn : 1 ≤ n) (t : Option Bool) : callF fds n i_no [tD t] = some (none, (false, tD (noT t))) := by
  (obtain ⟨n, rfl⟩ : ∃ m, n = m + 1 := ⟨n - 1, by omega⟩; rw [call_no, runF_eq (by rfl) (by rfl)])
  rcases t with _ | b
  · simp (disch := first | omega | decide +kernel | assumption) only [F_no, List.map_cons, List.map_nil, List.append_nil, List.nil_append, List.cons_append, List.all_cons, List.all_nil, List.length_cons, List.length_nil, List.replicate_zero, List.replicate_succ, List.any_cons, List.any_nil, List.length_map, eq_self, Option.isSome_some, Option.isSome_none, RUN, RUNC, OB, ↓reduceIte, Nat.reduceSub, Nat.reduceAdd, Nat.reduceLT, Nat.reduceLeDiff, Int.cast_ofNat_Int, Int.reduceEq, Int.reduceLT, Int.reduceLE, Int.reduceAdd, Int.reduceSub, Int.reduceNeg, Int.reduceMul, cstep_, kC0_, kC1_, kC2_, lstep_, kL0_, tD, noT]
  · simp (disch := first | omega | decide +kernel | assumption) only [F_no, List.map_cons, List.map_nil, List.append_nil, List.nil_append, List.cons_append, List.all_cons, List.all_nil, List.length_cons, List.length_nil, List.replicate_zero, List.replicate_succ, List.any_cons, List.any_nil, List.length_map, eq_self, Option.isSome_some, Option.isSome_none, RUN, RUNC, OB, ↓reduceIte, Nat.reduceSub, Nat.reduceAdd, Nat.reduceLT, Nat.reduceLeDiff, Int.cast_ofNat_Int, Int.reduceEq, Int.reduceLT, Int.reduceLE, Int.reduceAdd, Int.reduceSub, Int.reduceNeg, Int.reduceMul, cstep_, kC0_, kC1_, kC2_, lstep_, kL0_, tD, noT]
theorem both_of_ok {n : Nat} (hn : 1 ≤ n) (l : List (Option Bool)) : callF fds n i_both_of [.lst (l.map tD)] = some (none, (false, tD (bothOf l))) := by
  (obtain ⟨n, rfl⟩ : ∃ m, n = m + 1 := ⟨n - 1, by omega⟩; rw [call_both_of, runF_eq (by rfl) (by rfl)])
  have h1 : inD (.bl false) (.lst (l.map tD)) = some (decide (some false ∈ l)) := inD_tD (u := some false) l
  have h2 : inD .non (.lst (l.map tD)) = some (decide (none ∈ l)) := inD_tD (u := none) l
  simp (disch := first | omega | decide +kernel | assumption) only [F_both_of, List.map_cons, List.map_nil, List.append_nil, List.nil_append, List.cons_append, List.all_cons, List.all_nil, List.length_cons, List.length_nil, List.replicate_zero, List.replicate_succ, List.any_cons, List.any_nil, List.length_map, eq_self, Option.isSome_some, Option.isSome_none, RUN, RUNC, OB, ↓reduceIte, Nat.reduceSub, Nat.reduceAdd, Nat.reduceLT, Nat.reduceLeDiff, Int.cast_ofNat_Int, Int.reduceEq, Int.reduceLT, Int.reduceLE, Int.reduceAdd, Int.reduceSub, Int.reduceNeg, Int.reduceMul, cstep_, kC0_, kC1_, kC2_, lstep_, kL0_, h1, h2]
  unfold bothOf
  by_cases a : some false ∈ l
  · simp [a, tD]
  · by_cases b : none ∈ l <;> simp [a, b, tD]
theorem any_of_ok {n : Nat} (hn : 2 ≤ n) (l : List (Option Bool)) (hs : l.length ≤ 16777216) : callF fds n i_any_of [.lst (l.map tD)] = some (none, (false, tD (anyOf l))) := by
  (obtain ⟨n, rfl⟩ : ∃ m, n = m + 1 := ⟨n - 1, by omega⟩; rw [call_any_of, runF_eq (by rfl) (by rfl)])
  simp (disch := first | omega | decide +kernel | assumption) only [F_any_of, List.map_cons, List.map_nil, List.append_nil, List.nil_append, List.cons_append, List.all_cons, List.all_nil, List.length_cons, List.length_nil, List.replicate_zero, List.replicate_succ, List.any_cons, List.any_nil, List.length_map, eq_self, Option.isSome_some, Option.isSome_none, RUN, RUNC, OB, ↓reduceIte, Nat.reduceSub, Nat.reduceAdd, Nat.reduceLT, Nat.reduceLeDiff, Int.cast_ofNat_Int, Int.reduceEq, Int.reduceLT, Int.reduceLE, Int.reduceAdd, Int.reduceSub, Int.reduceNeg, Int.reduceMul, cstep_, kC0_, kC1_, kC2_, lstep_, kL0_]
  rw [compF_all l tD (fun t => tD (noT t)) ?_]
  · rw [show l.map (fun t => tD (noT t)) = (l.map noT).map tD by simp]
    simp (disch := first | omega | decide +kernel | assumption) only [List.map_cons, List.map_nil, List.append_nil, List.nil_append, List.cons_append, List.all_cons, List.all_nil, List.length_cons, List.length_nil, List.replicate_zero, List.replicate_succ, List.any_cons, List.any_nil, List.length_map, eq_self, Option.isSome_some, Option.isSome_none, RUN, RUNC, OB, ↓reduceIte, Nat.reduceSub, Nat.reduceAdd, Nat.reduceLT, Nat.reduceLeDiff, Int.cast_ofNat_Int, Int.reduceEq, Int.reduceLT, Int.reduceLE, Int.reduceAdd, Int.reduceSub, Int.reduceNeg, Int.reduceMul, cstep_, kC0_, kC1_, kC2_, lstep_, kL0_, both_of_ok, no_ok]
    rfl
  · intro t _
    simp (disch := first | omega | decide +kernel | assumption) only [List.map_cons, List.map_nil, List.append_nil, List.nil_append, List.cons_append, List.all_cons, List.all_nil, List.length_cons, List.length_nil, List.replicate_zero, List.replicate_succ, List.any_cons, List.any_nil, List.length_map, eq_self, Option.isSome_some, Option.isSome_none, RUN, RUNC, OB, ↓reduceIte, Nat.reduceSub, Nat.reduceAdd, Nat.reduceLT, Nat.reduceLeDiff, Int.cast_ofNat_Int, Int.reduceEq, Int.reduceLT, Int.reduceLE, Int.reduceAdd, Int.reduceSub, Int.reduceNeg, Int.reduceMul, cstep_, kC0_, kC1_, kC2_, lstep_, kL0_, no_ok]
theorem is_number_ok {n : Nat} (hn : 1 ≤ n) (c : Option Cell) : callF fds n i_is_number [wD c] = some (none, (false, .bl (isNumW c))) := by
  (obtain ⟨n, rfl⟩ : ∃ m, n = m + 1 := ⟨n - 1, by omega⟩; rw [call_is_number, runF_eq (by rfl) (by rfl)])
  rcases c with _ | c
  · simp (disch := first | omega | decide +kernel | assumption) only [F_is_number, List.map_cons, List.map_nil, List.append_nil, List.nil_append, List.cons_append, List.all_cons, List.all_nil, List.length_cons, List.length_nil, List.replicate_zero, List.replicate_succ, List.any_cons, List.any_nil, List.length_map, eq_self, Option.isSome_some, Option.isSome_none, RUN, RUNC, OB, ↓reduceIte, Nat.reduceSub, Nat.reduceAdd, Nat.reduceLT, Nat.reduceLeDiff, Int.cast_ofNat_Int, Int.reduceEq, Int.reduceLT, Int.reduceLE, Int.reduceAdd, Int.reduceSub, Int.reduceNeg, Int.reduceMul, cstep_, kC0_, kC1_, kC2_, lstep_, kL0_, wD, isNumW]
  · cases c <;> simp (disch := first | omega | decide +kernel | assumption) only [F_is_number, List.map_cons, List.map_nil, List.append_nil, List.nil_append, List.cons_append, List.all_cons, List.all_nil, List.length_cons, List.length_nil, List.replicate_zero, List.replicate_succ, List.any_cons, List.any_nil, List.length_map, eq_self, Option.isSome_some, Option.isSome_none, RUN, RUNC, OB, ↓reduceIte, Nat.reduceSub, Nat.reduceAdd, Nat.reduceLT, Nat.reduceLeDiff, Int.cast_ofNat_Int, Int.reduceEq, Int.reduceLT, Int.reduceLE, Int.reduceAdd, Int.reduceSub, Int.reduceNeg, Int.reduceMul, cstep_, kC0_, kC1_, kC2_, lstep_, kL0_, wD, isNumW, Cell.d]
/-- what a part comes to is well formed -/
def wok : Option Cell → Prop
  | some (.gap x) => 0 ≤ x ∧ x ≤ 9
  | _ => True
theorem w_gap {n : Nat} (hn : 2 ≤ n) (c : Option Cell) (h : wok c) : callF fds n i_is_gap [wD c] = some (none, (false, .bl (match c with | some (.gap _) => true | _ => false))) := by
  rcases c with _ | ⟨i⟩ | ⟨x⟩
  · exact is_gap_n (by omega)
  · exact is_gap_i (by omega) _
  · exact cell_gap hn (.gap x) h
theorem same_ok {n : Nat} (hn : 3 ≤ n) (a b : Option Cell) (ha : wok a) (hb : wok b) : callF fds n i_same [wD a, wD b] = some (none, (false, tD (sameW a b))) := by
  (obtain ⟨n, rfl⟩ : ∃ m, n = m + 1 := ⟨n - 1, by omega⟩; rw [call_same, runF_eq (by rfl) (by rfl)])
  have i1 := is_number_ok (n := n) (by omega) a
  have i2 := is_number_ok (n := n) (by omega) b
  have g1 := w_gap (n := n) (by omega) a ha
  have e1 := p_eqD (eqD_w a b)
  rcases a with _ | ⟨i⟩ | ⟨x⟩ <;> rcases b with _ | ⟨j⟩ | ⟨y⟩ <;> simp only [NFW] at i1 i2 g1 e1 <;> (simp (disch := first | omega | decide +kernel | assumption) only [F_same, List.map_cons, List.map_nil, List.append_nil, List.nil_append, List.cons_append, List.all_cons, List.all_nil, List.length_cons, List.length_nil, List.replicate_zero, List.replicate_succ, List.any_cons, List.any_nil, List.length_map, eq_self, Option.isSome_some, Option.isSome_none, RUN, RUNC, OB, ↓reduceIte, Nat.reduceSub, Nat.reduceAdd, Nat.reduceLT, Nat.reduceLeDiff, Int.cast_ofNat_Int, Int.reduceEq, Int.reduceLT, Int.reduceLE, Int.reduceAdd, Int.reduceSub, Int.reduceNeg, Int.reduceMul, cstep_, kC0_, kC1_, kC2_, lstep_, kL0_, i1, i2, g1, e1, sameW]) <;> simp only [Option.some.injEq, Cell.num.injEq, Cell.gap.injEq, reduceCtorEq, decide_false] <;> try rfl
  by_cases h : x = y <;> simp [h, tD]
theorem less_ok {n : Nat} (hn : 3 ≤ n) (a b : Option Cell) (ha : wok a) (hb : wok b) : callF fds n i_less [wD a, wD b] = some (none, (false, tD (lessW a b))) := by
  (obtain ⟨n, rfl⟩ : ∃ m, n = m + 1 := ⟨n - 1, by omega⟩; rw [call_less, runF_eq (by rfl) (by rfl)])
  have i1 := is_number_ok (n := n) (by omega) a
  have i2 := is_number_ok (n := n) (by omega) b
  have g1 := w_gap (n := n) (by omega) a ha
  have e1 := p_eqD (eqD_w a b)
  rcases a with _ | ⟨i⟩ | ⟨x⟩ <;> rcases b with _ | ⟨j⟩ | ⟨y⟩ <;> simp only [NFW] at i1 i2 g1 e1 <;> (simp (disch := first | omega | decide +kernel | assumption) only [F_less, List.map_cons, List.map_nil, List.append_nil, List.nil_append, List.cons_append, List.all_cons, List.all_nil, List.length_cons, List.length_nil, List.replicate_zero, List.replicate_succ, List.any_cons, List.any_nil, List.length_map, eq_self, Option.isSome_some, Option.isSome_none, RUN, RUNC, OB, ↓reduceIte, Nat.reduceSub, Nat.reduceAdd, Nat.reduceLT, Nat.reduceLeDiff, Int.cast_ofNat_Int, Int.reduceEq, Int.reduceLT, Int.reduceLE, Int.reduceAdd, Int.reduceSub, Int.reduceNeg, Int.reduceMul, cstep_, kC0_, kC1_, kC2_, lstep_, kL0_, i1, i2, g1, e1, lessW]) <;> simp only [Option.some.injEq, Cell.num.injEq, Cell.gap.injEq, reduceCtorEq, decide_false] <;> try rfl
  by_cases h : x = y <;> simp [h, tD]
theorem worth_wok (r : Row) (hr : ∀ c ∈ r, c.ok) (p : Part) : wok (worth r p) := by
  have two : ∀ a b : Option Cell, ∀ f : Int → Int → Int, wok (match a, b with | some (.num i), some (.num j) => some (.num (f i j)) | _, _ => none) := fun a b f => by
    split <;> trivial
  cases p with
  | col c =>
    show wok r[c]?
    cases e : r[c]? with
    | none => trivial
    | some d =>
      have := hr d (List.mem_of_getElem? e)
      cases d with
      | num i => trivial
      | gap x => exact this
  | num i => trivial
  | plus a b => exact two (worth r a) (worth r b) (fun i j => i + j)
  | take a b => exact two (worth r a) (worth r b) (fun i j => i - j)
theorem worth_ok (r : Row) (hr : ∀ c ∈ r, c.ok) : ∀ (p : Part) (n : Nat), p.deep + 2 ≤ n → p.ok r.length → callF fds n i_worth [p.d, r.d] = some (none, (false, wD (worth r p)))
  | .col c, n, hn, hp => by
    simp only [Part.deep] at hn
    (obtain ⟨n, rfl⟩ : ∃ m, n = m + 1 := ⟨n - 1, by omega⟩; rw [call_worth, runF_eq (by rfl) (by rfl)])
    have hp : c < r.length := hp
    have h1 : atI (r.map Cell.d) (c : Int) = some (r[c].d) := atI_nat (by simp [hp])
    simp (disch := first | omega | decide +kernel | assumption) only [F_worth, List.map_cons, List.map_nil, List.append_nil, List.nil_append, List.cons_append, List.all_cons, List.all_nil, List.length_cons, List.length_nil, List.replicate_zero, List.replicate_succ, List.any_cons, List.any_nil, List.length_map, eq_self, Option.isSome_some, Option.isSome_none, RUN, RUNC, OB, ↓reduceIte, Nat.reduceSub, Nat.reduceAdd, Nat.reduceLT, Nat.reduceLeDiff, Int.cast_ofNat_Int, Int.reduceEq, Int.reduceLT, Int.reduceLE, Int.reduceAdd, Int.reduceSub, Int.reduceNeg, Int.reduceMul, cstep_, kC0_, kC1_, kC2_, lstep_, kL0_, Part.d, Row.d, h1]
    simp [G48.worth, hp, wD]
  | .num i, n, hn, hp => by
    simp only [Part.deep] at hn
    (obtain ⟨n, rfl⟩ : ∃ m, n = m + 1 := ⟨n - 1, by omega⟩; rw [call_worth, runF_eq (by rfl) (by rfl)])
    simp (disch := first | omega | decide +kernel | assumption) only [F_worth, List.map_cons, List.map_nil, List.append_nil, List.nil_append, List.cons_append, List.all_cons, List.all_nil, List.length_cons, List.length_nil, List.replicate_zero, List.replicate_succ, List.any_cons, List.any_nil, List.length_map, eq_self, Option.isSome_some, Option.isSome_none, RUN, RUNC, OB, ↓reduceIte, Nat.reduceSub, Nat.reduceAdd, Nat.reduceLT, Nat.reduceLeDiff, Int.cast_ofNat_Int, Int.reduceEq, Int.reduceLT, Int.reduceLE, Int.reduceAdd, Int.reduceSub, Int.reduceNeg, Int.reduceMul, cstep_, kC0_, kC1_, kC2_, lstep_, kL0_, Part.d, Row.d]
    rfl
  | .plus a b, n, hn, hp => by
    simp only [Part.deep] at hn
    (obtain ⟨n, rfl⟩ : ∃ m, n = m + 1 := ⟨n - 1, by omega⟩; rw [call_worth, runF_eq (by rfl) (by rfl)])
    have h1 := worth_ok r hr a n (by omega) hp.1
    have h2 := worth_ok r hr b n (by omega) hp.2
    have i1 := is_number_ok (n := n) (by omega) (G48.worth r a)
    have i2 := is_number_ok (n := n) (by omega) (G48.worth r b)
    show _ = some (none, (false, wD (match G48.worth r a, G48.worth r b with | some (.num i), some (.num j) => some (.num (i + j)) | _, _ => none)))
    generalize G48.worth r a = wa at *
    generalize G48.worth r b = wb at *
    rcases wa with _ | ⟨x⟩ | ⟨x⟩ <;> rcases wb with _ | ⟨y⟩ | ⟨y⟩ <;> simp only [NFW] at h1 h2 i1 i2 <;> simp (disch := first | omega | decide +kernel | assumption) only [F_worth, List.map_cons, List.map_nil, List.append_nil, List.nil_append, List.cons_append, List.all_cons, List.all_nil, List.length_cons, List.length_nil, List.replicate_zero, List.replicate_succ, List.any_cons, List.any_nil, List.length_map, eq_self, Option.isSome_some, Option.isSome_none, RUN, RUNC, OB, ↓reduceIte, Nat.reduceSub, Nat.reduceAdd, Nat.reduceLT, Nat.reduceLeDiff, Int.cast_ofNat_Int, Int.reduceEq, Int.reduceLT, Int.reduceLE, Int.reduceAdd, Int.reduceSub, Int.reduceNeg, Int.reduceMul, cstep_, kC0_, kC1_, kC2_, lstep_, kL0_, Part.d, h1, h2, i1, i2]
  | .take a b, n, hn, hp => by
    simp only [Part.deep] at hn
    (obtain ⟨n, rfl⟩ : ∃ m, n = m + 1 := ⟨n - 1, by omega⟩; rw [call_worth, runF_eq (by rfl) (by rfl)])
    have h1 := worth_ok r hr a n (by omega) hp.1
    have h2 := worth_ok r hr b n (by omega) hp.2
    have i1 := is_number_ok (n := n) (by omega) (G48.worth r a)
    have i2 := is_number_ok (n := n) (by omega) (G48.worth r b)
    show _ = some (none, (false, wD (match G48.worth r a, G48.worth r b with | some (.num i), some (.num j) => some (.num (i - j)) | _, _ => none)))
    generalize G48.worth r a = wa at *
    generalize G48.worth r b = wb at *
    rcases wa with _ | ⟨x⟩ | ⟨x⟩ <;> rcases wb with _ | ⟨y⟩ | ⟨y⟩ <;> simp only [NFW] at h1 h2 i1 i2 <;> simp (disch := first | omega | decide +kernel | assumption) only [F_worth, List.map_cons, List.map_nil, List.append_nil, List.nil_append, List.cons_append, List.all_cons, List.all_nil, List.length_cons, List.length_nil, List.replicate_zero, List.replicate_succ, List.any_cons, List.any_nil, List.length_map, eq_self, Option.isSome_some, Option.isSome_none, RUN, RUNC, OB, ↓reduceIte, Nat.reduceSub, Nat.reduceAdd, Nat.reduceLT, Nat.reduceLeDiff, Int.cast_ofNat_Int, Int.reduceEq, Int.reduceLT, Int.reduceLE, Int.reduceAdd, Int.reduceSub, Int.reduceNeg, Int.reduceMul, cstep_, kC0_, kC1_, kC2_, lstep_, kL0_, Part.d, h1, h2, i1, i2]
theorem truth_of_ok (r : Row) (hr : ∀ c ∈ r, c.ok) : ∀ (p : Cond) (n : Nat), p.deep + 4 ≤ n → p.ok r.length → callF fds n i_truth_of [p.d, r.d] = some (none, (false, tD (truth r p)))
  | .is a b, n, hn, hp => by
    simp only [Cond.deep] at hn
    (obtain ⟨n, rfl⟩ : ∃ m, n = m + 1 := ⟨n - 1, by omega⟩; rw [call_truth_of, runF_eq (by rfl) (by rfl)])
    have h1 := worth_ok r hr a n (by omega) hp.1
    have h2 := worth_ok r hr b n (by omega) hp.2
    have i1 := same_ok (n := n) (by omega) _ _ (worth_wok r hr a) (worth_wok r hr b)
    simp (disch := first | omega | decide +kernel | assumption) only [F_truth_of, List.map_cons, List.map_nil, List.append_nil, List.nil_append, List.cons_append, List.all_cons, List.all_nil, List.length_cons, List.length_nil, List.replicate_zero, List.replicate_succ, List.any_cons, List.any_nil, List.length_map, eq_self, Option.isSome_some, Option.isSome_none, RUN, RUNC, OB, ↓reduceIte, Nat.reduceSub, Nat.reduceAdd, Nat.reduceLT, Nat.reduceLeDiff, Int.cast_ofNat_Int, Int.reduceEq, Int.reduceLT, Int.reduceLE, Int.reduceAdd, Int.reduceSub, Int.reduceNeg, Int.reduceMul, cstep_, kC0_, kC1_, kC2_, lstep_, kL0_, Cond.d, h1, h2, i1, truth]
  | .less a b, n, hn, hp => by
    simp only [Cond.deep] at hn
    (obtain ⟨n, rfl⟩ : ∃ m, n = m + 1 := ⟨n - 1, by omega⟩; rw [call_truth_of, runF_eq (by rfl) (by rfl)])
    have h1 := worth_ok r hr a n (by omega) hp.1
    have h2 := worth_ok r hr b n (by omega) hp.2
    have i1 := less_ok (n := n) (by omega) _ _ (worth_wok r hr a) (worth_wok r hr b)
    simp (disch := first | omega | decide +kernel | assumption) only [F_truth_of, List.map_cons, List.map_nil, List.append_nil, List.nil_append, List.cons_append, List.all_cons, List.all_nil, List.length_cons, List.length_nil, List.replicate_zero, List.replicate_succ, List.any_cons, List.any_nil, List.length_map, eq_self, Option.isSome_some, Option.isSome_none, RUN, RUNC, OB, ↓reduceIte, Nat.reduceSub, Nat.reduceAdd, Nat.reduceLT, Nat.reduceLeDiff, Int.cast_ofNat_Int, Int.reduceEq, Int.reduceLT, Int.reduceLE, Int.reduceAdd, Int.reduceSub, Int.reduceNeg, Int.reduceMul, cstep_, kC0_, kC1_, kC2_, lstep_, kL0_, Cond.d, h1, h2, i1, truth]
  | .lacks a, n, hn, hp => by
    simp only [Cond.deep] at hn
    (obtain ⟨n, rfl⟩ : ∃ m, n = m + 1 := ⟨n - 1, by omega⟩; rw [call_truth_of, runF_eq (by rfl) (by rfl)])
    have h1 := worth_ok r hr a n (by omega) hp
    have i1 := is_number_ok (n := n) (by omega) (G48.worth r a)
    simp (disch := first | omega | decide +kernel | assumption) only [F_truth_of, List.map_cons, List.map_nil, List.append_nil, List.nil_append, List.cons_append, List.all_cons, List.all_nil, List.length_cons, List.length_nil, List.replicate_zero, List.replicate_succ, List.any_cons, List.any_nil, List.length_map, eq_self, Option.isSome_some, Option.isSome_none, RUN, RUNC, OB, ↓reduceIte, Nat.reduceSub, Nat.reduceAdd, Nat.reduceLT, Nat.reduceLeDiff, Int.cast_ofNat_Int, Int.reduceEq, Int.reduceLT, Int.reduceLE, Int.reduceAdd, Int.reduceSub, Int.reduceNeg, Int.reduceMul, cstep_, kC0_, kC1_, kC2_, lstep_, kL0_, Cond.d, h1, i1, truth, tD]
  | .not a, n, hn, hp => by
    simp only [Cond.deep] at hn
    (obtain ⟨n, rfl⟩ : ∃ m, n = m + 1 := ⟨n - 1, by omega⟩; rw [call_truth_of, runF_eq (by rfl) (by rfl)])
    have h1 := truth_of_ok r hr a n (by omega) hp
    have i1 := no_ok (n := n) (by omega) (truth r a)
    simp (disch := first | omega | decide +kernel | assumption) only [F_truth_of, List.map_cons, List.map_nil, List.append_nil, List.nil_append, List.cons_append, List.all_cons, List.all_nil, List.length_cons, List.length_nil, List.replicate_zero, List.replicate_succ, List.any_cons, List.any_nil, List.length_map, eq_self, Option.isSome_some, Option.isSome_none, RUN, RUNC, OB, ↓reduceIte, Nat.reduceSub, Nat.reduceAdd, Nat.reduceLT, Nat.reduceLeDiff, Int.cast_ofNat_Int, Int.reduceEq, Int.reduceLT, Int.reduceLE, Int.reduceAdd, Int.reduceSub, Int.reduceNeg, Int.reduceMul, cstep_, kC0_, kC1_, kC2_, lstep_, kL0_, Cond.d, comp_cons, comp_nil, h1, i1, truth]
  | .tru a, n, hn, hp => by
    simp only [Cond.deep] at hn
    (obtain ⟨n, rfl⟩ : ∃ m, n = m + 1 := ⟨n - 1, by omega⟩; rw [call_truth_of, runF_eq (by rfl) (by rfl)])
    have h1 := truth_of_ok r hr a n (by omega) hp
    have i1 : prD .isB [tD (truth r a), .bl true] = some (false, .bl (decide (truth r a = some true))) := by
      rcases truth r a with _ | ⟨_ | _⟩ <;> rfl
    simp (disch := first | omega | decide +kernel | assumption) only [F_truth_of, List.map_cons, List.map_nil, List.append_nil, List.nil_append, List.cons_append, List.all_cons, List.all_nil, List.length_cons, List.length_nil, List.replicate_zero, List.replicate_succ, List.any_cons, List.any_nil, List.length_map, eq_self, Option.isSome_some, Option.isSome_none, RUN, RUNC, OB, ↓reduceIte, Nat.reduceSub, Nat.reduceAdd, Nat.reduceLT, Nat.reduceLeDiff, Int.cast_ofNat_Int, Int.reduceEq, Int.reduceLT, Int.reduceLE, Int.reduceAdd, Int.reduceSub, Int.reduceNeg, Int.reduceMul, cstep_, kC0_, kC1_, kC2_, lstep_, kL0_, Cond.d, comp_cons, comp_nil, h1, i1, truth]
  | .and a b, n, hn, hp => by
    simp only [Cond.deep] at hn
    (obtain ⟨n, rfl⟩ : ∃ m, n = m + 1 := ⟨n - 1, by omega⟩; rw [call_truth_of, runF_eq (by rfl) (by rfl)])
    have h1 := truth_of_ok r hr a n (by omega) hp.1
    have h2 := truth_of_ok r hr b n (by omega) hp.2
    have i1 := both_of_ok (n := n) (by omega) [truth r a, truth r b]
    simp only [List.map_cons, List.map_nil] at i1
    simp (disch := first | omega | decide +kernel | assumption) only [F_truth_of, List.map_cons, List.map_nil, List.append_nil, List.nil_append, List.cons_append, List.all_cons, List.all_nil, List.length_cons, List.length_nil, List.replicate_zero, List.replicate_succ, List.any_cons, List.any_nil, List.length_map, eq_self, Option.isSome_some, Option.isSome_none, RUN, RUNC, OB, ↓reduceIte, Nat.reduceSub, Nat.reduceAdd, Nat.reduceLT, Nat.reduceLeDiff, Int.cast_ofNat_Int, Int.reduceEq, Int.reduceLT, Int.reduceLE, Int.reduceAdd, Int.reduceSub, Int.reduceNeg, Int.reduceMul, cstep_, kC0_, kC1_, kC2_, lstep_, kL0_, Cond.d, h1, h2, i1, truth, both2_eq]
  | .or a b, n, hn, hp => by
    simp only [Cond.deep] at hn
    (obtain ⟨n, rfl⟩ : ∃ m, n = m + 1 := ⟨n - 1, by omega⟩; rw [call_truth_of, runF_eq (by rfl) (by rfl)])
    have h1 := truth_of_ok r hr a n (by omega) hp.1
    have h2 := truth_of_ok r hr b n (by omega) hp.2
    have i1 := any_of_ok (n := n) (by omega) [truth r a, truth r b] (by simp)
    simp only [List.map_cons, List.map_nil] at i1
    simp (disch := first | omega | decide +kernel | assumption) only [F_truth_of, List.map_cons, List.map_nil, List.append_nil, List.nil_append, List.cons_append, List.all_cons, List.all_nil, List.length_cons, List.length_nil, List.replicate_zero, List.replicate_succ, List.any_cons, List.any_nil, List.length_map, eq_self, Option.isSome_some, Option.isSome_none, RUN, RUNC, OB, ↓reduceIte, Nat.reduceSub, Nat.reduceAdd, Nat.reduceLT, Nat.reduceLeDiff, Int.cast_ofNat_Int, Int.reduceEq, Int.reduceLT, Int.reduceLE, Int.reduceAdd, Int.reduceSub, Int.reduceNeg, Int.reduceMul, cstep_, kC0_, kC1_, kC2_, lstep_, kL0_, Cond.d, h1, h2, i1, truth, any2_eq]
/-! gaprows.words -/
theorem is_list_ok {n : Nat} (hn : 2 ≤ n) (l : List Int) (h : ∀ i ∈ l, sml i) : callF fds n i_is_list [.tup (l.map D.int)] = some (none, (false, .bl true)) := by
  (obtain ⟨n, rfl⟩ : ∃ m, n = m + 1 := ⟨n - 1, by omega⟩; rw [call_is_list, runF_eq (by rfl) (by rfl)])
  simp (disch := first | omega | decide +kernel | assumption) only [F_is_list, List.map_cons, List.map_nil, List.append_nil, List.nil_append, List.cons_append, List.all_cons, List.all_nil, List.length_cons, List.length_nil, List.replicate_zero, List.replicate_succ, List.any_cons, List.any_nil, List.length_map, eq_self, Option.isSome_some, Option.isSome_none, RUN, RUNC, OB, ↓reduceIte, Nat.reduceSub, Nat.reduceAdd, Nat.reduceLT, Nat.reduceLeDiff, Int.cast_ofNat_Int, Int.reduceEq, Int.reduceLT, Int.reduceLE, Int.reduceAdd, Int.reduceSub, Int.reduceNeg, Int.reduceMul, cstep_, kC0_, kC1_, kC2_, lstep_, kL0_]
  rw [compF_none l D.int ?_]
  · simp (disch := first | omega | decide +kernel | assumption) only [List.map_cons, List.map_nil, List.append_nil, List.nil_append, List.cons_append, List.all_cons, List.all_nil, List.length_cons, List.length_nil, List.replicate_zero, List.replicate_succ, List.any_cons, List.any_nil, List.length_map, eq_self, Option.isSome_some, Option.isSome_none, RUN, RUNC, OB, ↓reduceIte, Nat.reduceSub, Nat.reduceAdd, Nat.reduceLT, Nat.reduceLeDiff, Int.cast_ofNat_Int, Int.reduceEq, Int.reduceLT, Int.reduceLE, Int.reduceAdd, Int.reduceSub, Int.reduceNeg, Int.reduceMul, cstep_, kC0_, kC1_, kC2_, lstep_, kL0_]
  · intro i hi
    have := h i hi
    simp (disch := first | omega | decide +kernel | assumption) only [List.map_cons, List.map_nil, List.append_nil, List.nil_append, List.cons_append, List.all_cons, List.all_nil, List.length_cons, List.length_nil, List.replicate_zero, List.replicate_succ, List.any_cons, List.any_nil, List.length_map, eq_self, Option.isSome_some, Option.isSome_none, RUN, RUNC, OB, ↓reduceIte, Nat.reduceSub, Nat.reduceAdd, Nat.reduceLT, Nat.reduceLeDiff, Int.cast_ofNat_Int, Int.reduceEq, Int.reduceLT, Int.reduceLE, Int.reduceAdd, Int.reduceSub, Int.reduceNeg, Int.reduceMul, cstep_, kC0_, kC1_, kC2_, lstep_, kL0_, is_between_i, decide_eq_true this.1, decide_eq_true this.2]
theorem is_pairs_ok {n : Nat} (hn : 3 ≤ n) (l : List (Int × Int)) (h : ∀ q ∈ l, sml q.1 ∧ sml q.2) : callF fds n i_is_pairs [.tup (l.map fun q => .tup [.int q.1, .int q.2])] = some (none, (false, .bl true)) := by
  (obtain ⟨n, rfl⟩ : ∃ m, n = m + 1 := ⟨n - 1, by omega⟩; rw [call_is_pairs, runF_eq (by rfl) (by rfl)])
  simp (disch := first | omega | decide +kernel | assumption) only [F_is_pairs, List.map_cons, List.map_nil, List.append_nil, List.nil_append, List.cons_append, List.all_cons, List.all_nil, List.length_cons, List.length_nil, List.replicate_zero, List.replicate_succ, List.any_cons, List.any_nil, List.length_map, eq_self, Option.isSome_some, Option.isSome_none, RUN, RUNC, OB, ↓reduceIte, Nat.reduceSub, Nat.reduceAdd, Nat.reduceLT, Nat.reduceLeDiff, Int.cast_ofNat_Int, Int.reduceEq, Int.reduceLT, Int.reduceLE, Int.reduceAdd, Int.reduceSub, Int.reduceNeg, Int.reduceMul, cstep_, kC0_, kC1_, kC2_, lstep_, kL0_]
  rw [compF_none l _ ?_]
  · simp (disch := first | omega | decide +kernel | assumption) only [List.map_cons, List.map_nil, List.append_nil, List.nil_append, List.cons_append, List.all_cons, List.all_nil, List.length_cons, List.length_nil, List.replicate_zero, List.replicate_succ, List.any_cons, List.any_nil, List.length_map, eq_self, Option.isSome_some, Option.isSome_none, RUN, RUNC, OB, ↓reduceIte, Nat.reduceSub, Nat.reduceAdd, Nat.reduceLT, Nat.reduceLeDiff, Int.cast_ofNat_Int, Int.reduceEq, Int.reduceLT, Int.reduceLE, Int.reduceAdd, Int.reduceSub, Int.reduceNeg, Int.reduceMul, cstep_, kC0_, kC1_, kC2_, lstep_, kL0_]
  · intro q hq
    have hh := h q hq
    have := is_list_ok (n := n) (by omega) [q.1, q.2] (by simpa using hh)
    simp only [List.map_cons, List.map_nil] at this
    simp (disch := first | omega | decide +kernel | assumption) only [List.map_cons, List.map_nil, List.append_nil, List.nil_append, List.cons_append, List.all_cons, List.all_nil, List.length_cons, List.length_nil, List.replicate_zero, List.replicate_succ, List.any_cons, List.any_nil, List.length_map, eq_self, Option.isSome_some, Option.isSome_none, RUN, RUNC, OB, ↓reduceIte, Nat.reduceSub, Nat.reduceAdd, Nat.reduceLT, Nat.reduceLeDiff, Int.cast_ofNat_Int, Int.reduceEq, Int.reduceLT, Int.reduceLE, Int.reduceAdd, Int.reduceSub, Int.reduceNeg, Int.reduceMul, cstep_, kC0_, kC1_, kC2_, lstep_, kL0_, this]
theorem begin_ok {n : Nat} (hn : 4 ≤ n) (w : D) (k : Nat) (t : List (Str × Str)) (wd sh : Str) (xs : List (Str × D)) (hk : k < 60) (hw : okS wd = true) (ht : kget (tabK t) (.inr wd) = some (.str sh))
    (h1 : signs sh = xs.map fun p => .str p.1) (h3 : sh.cps.all (· < 128) = true) (h4 : sh.length = xs.length) (h5 : xs.length ≤ 3) (h6 : ∀ p ∈ xs, kOk p) :
    callF fds n i_Looker_begin [looker w k, .tup (.str wd :: xs.map (·.2)), .dK (tabK t)] = some (some (looker w (k + 1)), (false, .int (k : Int))) := by
  (obtain ⟨n, rfl⟩ : ∃ m, n = m + 1 := ⟨n - 1, by omega⟩; rw [call_Looker_begin, runF_eq (by rfl) (by rfl)])
  have z := zip_st xs h1 rfl h3
  have e1 : decide ((k : Int) = 60) = false := decide_eq_false (by omega)
  have e2 : decide (((xs.length + 1 : Nat) : Int) = 0) = false := decide_eq_false (by omega)
  have e3 : prD .len [.str sh] = some (false, .int ((xs.length : Nat) : Int)) := by
    rw [← h4]
    show (if szOk sh.length then some (false, D.int sh.length) else none) = _
    rw [szOk_k (by omega)]; rfl
  have e4 : decide (((xs.length + 1 : Nat) : Int) = (xs.length : Int) + 1) = true := decide_eq_true (by omega)
  simp (disch := first | omega | decide +kernel | assumption) only [F_Looker_begin, List.map_cons, List.map_nil, List.append_nil, List.nil_append, List.cons_append, List.all_cons, List.all_nil, List.length_cons, List.length_nil, List.replicate_zero, List.replicate_succ, List.any_cons, List.any_nil, List.length_map, eq_self, Option.isSome_some, Option.isSome_none, RUN, RUNC, OB, ↓reduceIte, Nat.reduceSub, Nat.reduceAdd, Nat.reduceLT, Nat.reduceLeDiff, Int.cast_ofNat_Int, Int.reduceEq, Int.reduceLT, Int.reduceLE, Int.reduceAdd, Int.reduceSub, Int.reduceNeg, Int.reduceMul, cstep_, kC0_, kC1_, kC2_, lstep_, kL0_, lk_seen, lk_set, ht, z, e1, e2, e3, e4]
  generalize hL : loopF _ _ _ _ = L
  obtain ⟨σ', rfl, s5, s6, rfl⟩ := loopF_i pairD hL (fun _ σ => ∃ s5 s6, σ = [Sl.io (looker w (k + 1)), Sl.va (D.tup (D.str wd :: List.map (fun x => x.snd) xs)), Sl.va (D.dK (tabK t)), Sl.va (D.int ↑k), Sl.va (D.str sh), s5, s6]) ⟨_, _, rfl⟩ (by
    rintro ⟨c, d⟩ rest σ ⟨s5, s6, rfl⟩ hm
    refine ⟨_, ?_, .va (.str c), .va d, rfl⟩
    rcases h6 _ hm with h | ⟨h, i, rfl, hi⟩ | ⟨h, l, rfl, hl⟩ | ⟨h, l, rfl, hl⟩
    · rcases h with rfl | rfl | rfl <;> simp (disch := first | omega | decide +kernel | assumption) only [List.map_cons, List.map_nil, List.append_nil, List.nil_append, List.cons_append, List.all_cons, List.all_nil, List.length_cons, List.length_nil, List.replicate_zero, List.replicate_succ, List.any_cons, List.any_nil, List.length_map, eq_self, Option.isSome_some, Option.isSome_none, RUN, RUNC, OB, ↓reduceIte, Nat.reduceSub, Nat.reduceAdd, Nat.reduceLT, Nat.reduceLeDiff, Int.cast_ofNat_Int, Int.reduceEq, Int.reduceLT, Int.reduceLE, Int.reduceAdd, Int.reduceSub, Int.reduceNeg, Int.reduceMul, cstep_, kC0_, kC1_, kC2_, lstep_, kL0_, pairD]
    · subst h
      have := is_list_ok (n := n) (by omega) [i] (by simpa using hi)
      simp only [List.map_cons, List.map_nil] at this
      simp (disch := first | omega | decide +kernel | assumption) only [List.map_cons, List.map_nil, List.append_nil, List.nil_append, List.cons_append, List.all_cons, List.all_nil, List.length_cons, List.length_nil, List.replicate_zero, List.replicate_succ, List.any_cons, List.any_nil, List.length_map, eq_self, Option.isSome_some, Option.isSome_none, RUN, RUNC, OB, ↓reduceIte, Nat.reduceSub, Nat.reduceAdd, Nat.reduceLT, Nat.reduceLeDiff, Int.cast_ofNat_Int, Int.reduceEq, Int.reduceLT, Int.reduceLE, Int.reduceAdd, Int.reduceSub, Int.reduceNeg, Int.reduceMul, cstep_, kC0_, kC1_, kC2_, lstep_, kL0_, pairD, this]
    · subst h
      have := is_list_ok (n := n) (by omega) l hl
      simp (disch := first | omega | decide +kernel | assumption) only [List.map_cons, List.map_nil, List.append_nil, List.nil_append, List.cons_append, List.all_cons, List.all_nil, List.length_cons, List.length_nil, List.replicate_zero, List.replicate_succ, List.any_cons, List.any_nil, List.length_map, eq_self, Option.isSome_some, Option.isSome_none, RUN, RUNC, OB, ↓reduceIte, Nat.reduceSub, Nat.reduceAdd, Nat.reduceLT, Nat.reduceLeDiff, Int.cast_ofNat_Int, Int.reduceEq, Int.reduceLT, Int.reduceLE, Int.reduceAdd, Int.reduceSub, Int.reduceNeg, Int.reduceMul, cstep_, kC0_, kC1_, kC2_, lstep_, kL0_, pairD, this]
    · subst h
      have := is_pairs_ok (n := n) (by omega) l hl
      simp (disch := first | omega | decide +kernel | assumption) only [List.map_cons, List.map_nil, List.append_nil, List.nil_append, List.cons_append, List.all_cons, List.all_nil, List.length_cons, List.length_nil, List.replicate_zero, List.replicate_succ, List.any_cons, List.any_nil, List.length_map, eq_self, Option.isSome_some, Option.isSome_none, RUN, RUNC, OB, ↓reduceIte, Nat.reduceSub, Nat.reduceAdd, Nat.reduceLT, Nat.reduceLeDiff, Int.cast_ofNat_Int, Int.reduceEq, Int.reduceLT, Int.reduceLE, Int.reduceAdd, Int.reduceSub, Int.reduceNeg, Int.reduceMul, cstep_, kC0_, kC1_, kC2_, lstep_, kL0_, pairD, this])
  simp (disch := first | omega | decide +kernel | assumption) only [List.map_cons, List.map_nil, List.append_nil, List.nil_append, List.cons_append, List.all_cons, List.all_nil, List.length_cons, List.length_nil, List.replicate_zero, List.replicate_succ, List.any_cons, List.any_nil, List.length_map, eq_self, Option.isSome_some, Option.isSome_none, RUN, RUNC, OB, ↓reduceIte, Nat.reduceSub, Nat.reduceAdd, Nat.reduceLT, Nat.reduceLeDiff, Int.cast_ofNat_Int, Int.reduceEq, Int.reduceLT, Int.reduceLE, Int.reduceAdd, Int.reduceSub, Int.reduceNeg, Int.reduceMul, cstep_, kC0_, kC1_, kC2_, lstep_, kL0_]
theorem begin1 {n : Nat} (hn : 4 ≤ n) (w : D) (k : Nat) (t : List (Str × Str)) (wd sh c : Str) (d : D) (h6 : kOk (c, d)) (hk : k < 60) (hw : okS wd = true) (ht : kget (tabK t) (.inr wd) = some (.str sh))
    (h1 : signs sh = [.str c]) (h3 : sh.cps.all (· < 128) = true) (h4 : sh.length = 1) : callF fds n i_Looker_begin [looker w k, .tup [.str wd, d], .dK (tabK t)] = some (some (looker w (k + 1)), (false, .int (k : Int))) :=
  begin_ok hn w k t wd sh [(c, d)] hk hw ht h1 h3 h4 (by simp) (by
    intro p hp
    rw [List.mem_singleton.mp hp]
    exact h6)
theorem begin2 {n : Nat} (hn : 4 ≤ n) (w : D) (k : Nat) (t : List (Str × Str)) (wd sh c c' : Str) (d d' : D) (h6 : kOk (c, d)) (h7 : kOk (c', d')) (hk : k < 60) (hw : okS wd = true) (ht : kget (tabK t) (.inr wd) = some (.str sh))
    (h1 : signs sh = [.str c, .str c']) (h3 : sh.cps.all (· < 128) = true) (h4 : sh.length = 2) : callF fds n i_Looker_begin [looker w k, .tup [.str wd, d, d'], .dK (tabK t)] = some (some (looker w (k + 1)), (false, .int (k : Int))) :=
  begin_ok hn w k t wd sh [(c, d), (c', d')] hk hw ht h1 h3 h4 (by simp) (by
    intro p hp
    rcases List.mem_cons.mp hp with rfl | hp
    · exact h6
    · rw [List.mem_singleton.mp hp]
      exact h7)
theorem begin3 {n : Nat} (hn : 4 ≤ n) (w : D) (k : Nat) (t : List (Str × Str)) (wd sh c c' c'' : Str) (d d' d'' : D) (h6 : kOk (c, d)) (h7 : kOk (c', d')) (h8 : kOk (c'', d'')) (hk : k < 60) (hw : okS wd = true) (ht : kget (tabK t) (.inr wd) = some (.str sh))
    (h1 : signs sh = [.str c, .str c', .str c'']) (h3 : sh.cps.all (· < 128) = true) (h4 : sh.length = 3) : callF fds n i_Looker_begin [looker w k, .tup [.str wd, d, d', d''], .dK (tabK t)] = some (some (looker w (k + 1)), (false, .int (k : Int))) :=
  begin_ok hn w k t wd sh [(c, d), (c', d'), (c'', d'')] hk hw ht h1 h3 h4 (by simp) (by
    intro p hp
    rcases List.mem_cons.mp hp with rfl | hp
    · exact h6
    · rcases List.mem_cons.mp hp with rfl | hp
      · exact h7
      · rw [List.mem_singleton.mp hp]
        exact h8)
theorem kf_x (d : D) : kOk ("x", d) := .inl (.inl rfl)
theorem kf_c (d : D) : kOk ("c", d) := .inl (.inr (.inl rfl))
theorem kf_s (d : D) : kOk ("s", d) := .inl (.inr (.inr rfl))
theorem kf_n {i : Int} (h : sml i) : kOk ("n", .int i) := .inr (.inl ⟨rfl, i, rfl, h⟩)
theorem part_ok (W : D) (wide : Nat) (hw : wide ≤ 1000) : ∀ (p : Part) (n k : Nat), p.deep + 5 ≤ n → p.ok wide → k + p.size ≤ 60 → callF fds n i_Looker_part [looker W k, p.d, .int (wide : Int)] = some (some (looker W (k + p.size)), (false, .non))
  | .col c, n, k, hn, hp, hk => by
    simp only [Part.deep, Part.size] at hn hk
    have hp : c < wide := hp
    (obtain ⟨n, rfl⟩ : ∃ m, n = m + 1 := ⟨n - 1, by omega⟩; rw [call_Looker_part, runF_eq (by rfl) (by rfl)])
    have b := begin1 (n := n) (by omega) W k T_PARTS "col" "n" "n" (.int (c : Int)) (kf_n (by unfold sml; omega)) (by omega) (by decide +kernel) rfl rfl (by decide +kernel) (by decide +kernel)
    have e1 : decide ((0 : Int) ≤ (c : Int)) = true := decide_eq_true (by omega)
    have e2 : decide ((c : Int) < (wide : Int)) = true := decide_eq_true (by omega)
    simp (disch := first | omega | decide +kernel | assumption) only [F_Looker_part, List.map_cons, List.map_nil, List.append_nil, List.nil_append, List.cons_append, List.all_cons, List.all_nil, List.length_cons, List.length_nil, List.replicate_zero, List.replicate_succ, List.any_cons, List.any_nil, List.length_map, eq_self, Option.isSome_some, Option.isSome_none, RUN, RUNC, OB, ↓reduceIte, Nat.reduceSub, Nat.reduceAdd, Nat.reduceLT, Nat.reduceLeDiff, Int.cast_ofNat_Int, Int.reduceEq, Int.reduceLT, Int.reduceLE, Int.reduceAdd, Int.reduceSub, Int.reduceNeg, Int.reduceMul, cstep_, kC0_, kC1_, kC2_, lstep_, kL0_, Part.d, Part.size, lk_cls, b, e1, e2]
  | .num i, n, k, hn, hp, hk => by
    simp only [Part.deep, Part.size] at hn hk
    have hp : 0 ≤ i ∧ i ≤ 99 := hp
    (obtain ⟨n, rfl⟩ : ∃ m, n = m + 1 := ⟨n - 1, by omega⟩; rw [call_Looker_part, runF_eq (by rfl) (by rfl)])
    have b := begin1 (n := n) (by omega) W k T_PARTS "num" "n" "n" (.int i) (kf_n (by unfold sml; omega)) (by omega) (by decide +kernel) rfl rfl (by decide +kernel) (by decide +kernel)
    have e1 : decide ((0 : Int) ≤ i) = true := decide_eq_true (by omega)
    have e2 : decide (i ≤ 99) = true := decide_eq_true (by omega)
    simp (disch := first | omega | decide +kernel | assumption) only [F_Looker_part, List.map_cons, List.map_nil, List.append_nil, List.nil_append, List.cons_append, List.all_cons, List.all_nil, List.length_cons, List.length_nil, List.replicate_zero, List.replicate_succ, List.any_cons, List.any_nil, List.length_map, eq_self, Option.isSome_some, Option.isSome_none, RUN, RUNC, OB, ↓reduceIte, Nat.reduceSub, Nat.reduceAdd, Nat.reduceLT, Nat.reduceLeDiff, Int.cast_ofNat_Int, Int.reduceEq, Int.reduceLT, Int.reduceLE, Int.reduceAdd, Int.reduceSub, Int.reduceNeg, Int.reduceMul, cstep_, kC0_, kC1_, kC2_, lstep_, kL0_, Part.d, Part.size, lk_cls, b, e1, e2]
  | .plus x y, n, k, hn, hp, hk => by
    simp only [Part.deep, Part.size] at hn hk
    (obtain ⟨n, rfl⟩ : ∃ m, n = m + 1 := ⟨n - 1, by omega⟩; rw [call_Looker_part, runF_eq (by rfl) (by rfl)])
    have b := begin2 (n := n) (by omega) W k T_PARTS "plus" "xx" "x" "x" x.d y.d (kf_x _) (kf_x _) (by omega) (by decide +kernel) rfl rfl (by decide +kernel) (by decide +kernel)
    have h1 := part_ok W wide hw x n (k + 1) (by omega) hp.1 (by omega)
    have h2 := part_ok W wide hw y n (k + 1 + x.size) (by omega) hp.2 (by omega)
    rw [show k + Part.size (.plus x y) = k + 1 + x.size + y.size by simp only [Part.size]; omega]
    simp (disch := first | omega | decide +kernel | assumption) only [F_Looker_part, List.map_cons, List.map_nil, List.append_nil, List.nil_append, List.cons_append, List.all_cons, List.all_nil, List.length_cons, List.length_nil, List.replicate_zero, List.replicate_succ, List.any_cons, List.any_nil, List.length_map, eq_self, Option.isSome_some, Option.isSome_none, RUN, RUNC, OB, ↓reduceIte, Nat.reduceSub, Nat.reduceAdd, Nat.reduceLT, Nat.reduceLeDiff, Int.cast_ofNat_Int, Int.reduceEq, Int.reduceLT, Int.reduceLE, Int.reduceAdd, Int.reduceSub, Int.reduceNeg, Int.reduceMul, cstep_, kC0_, kC1_, kC2_, lstep_, kL0_, Part.d, lk_cls, b, h1, h2]
  | .take x y, n, k, hn, hp, hk => by
    simp only [Part.deep, Part.size] at hn hk
    (obtain ⟨n, rfl⟩ : ∃ m, n = m + 1 := ⟨n - 1, by omega⟩; rw [call_Looker_part, runF_eq (by rfl) (by rfl)])
    have b := begin2 (n := n) (by omega) W k T_PARTS "take" "xx" "x" "x" x.d y.d (kf_x _) (kf_x _) (by omega) (by decide +kernel) rfl rfl (by decide +kernel) (by decide +kernel)
    have h1 := part_ok W wide hw x n (k + 1) (by omega) hp.1 (by omega)
    have h2 := part_ok W wide hw y n (k + 1 + x.size) (by omega) hp.2 (by omega)
    rw [show k + Part.size (.take x y) = k + 1 + x.size + y.size by simp only [Part.size]; omega]
    simp (disch := first | omega | decide +kernel | assumption) only [F_Looker_part, List.map_cons, List.map_nil, List.append_nil, List.nil_append, List.cons_append, List.all_cons, List.all_nil, List.length_cons, List.length_nil, List.replicate_zero, List.replicate_succ, List.any_cons, List.any_nil, List.length_map, eq_self, Option.isSome_some, Option.isSome_none, RUN, RUNC, OB, ↓reduceIte, Nat.reduceSub, Nat.reduceAdd, Nat.reduceLT, Nat.reduceLeDiff, Int.cast_ofNat_Int, Int.reduceEq, Int.reduceLT, Int.reduceLE, Int.reduceAdd, Int.reduceSub, Int.reduceNeg, Int.reduceMul, cstep_, kC0_, kC1_, kC2_, lstep_, kL0_, Part.d, lk_cls, b, h1, h2]
theorem condition_ok (W : D) (wide : Nat) (hw : wide ≤ 1000) : ∀ (p : Cond) (n k : Nat), p.deep + 5 ≤ n → p.ok wide → k + p.size ≤ 60 → callF fds n i_Looker_condition [looker W k, p.d, .int (wide : Int)] = some (some (looker W (k + p.size)), (false, .non))
  | .is x y, n, k, hn, hp, hk => by
    simp only [Cond.deep, Cond.size] at hn hk
    (obtain ⟨n, rfl⟩ : ∃ m, n = m + 1 := ⟨n - 1, by omega⟩; rw [call_Looker_condition, runF_eq (by rfl) (by rfl)])
    have b := begin2 (n := n) (by omega) W k T_CONDITIONS "is" "xx" "x" "x" x.d y.d (kf_x _) (kf_x _) (by omega) (by decide +kernel) rfl rfl (by decide +kernel) (by decide +kernel)
    have z := zip_st (z := "xx") [("x", x.d), ("x", y.d)] rfl rfl (by decide +kernel)
    simp only [List.map_cons, List.map_nil] at z
    have h1 := part_ok W wide hw x n (k + 1) (by omega) hp.1 (by omega)
    have h2 := part_ok W wide hw y n (k + 1 + x.size) (by omega) hp.2 (by omega)
    rw [show k + Cond.size (.is x y) = k + 1 + x.size + y.size by simp only [Cond.size]; omega]
    simp (disch := first | omega | decide +kernel | assumption) only [F_Looker_condition, List.map_cons, List.map_nil, List.append_nil, List.nil_append, List.cons_append, List.all_cons, List.all_nil, List.length_cons, List.length_nil, List.replicate_zero, List.replicate_succ, List.any_cons, List.any_nil, List.length_map, eq_self, Option.isSome_some, Option.isSome_none, RUN, RUNC, OB, ↓reduceIte, Nat.reduceSub, Nat.reduceAdd, Nat.reduceLT, Nat.reduceLeDiff, Int.cast_ofNat_Int, Int.reduceEq, Int.reduceLT, Int.reduceLE, Int.reduceAdd, Int.reduceSub, Int.reduceNeg, Int.reduceMul, cstep_, kC0_, kC1_, kC2_, lstep_, kL0_, Cond.d, lk_cls, b, h1, h2, p_tGet (t := T_CONDITIONS) (x := "is") (y := "xx") rfl, z, pairD]
  | .less x y, n, k, hn, hp, hk => by
    simp only [Cond.deep, Cond.size] at hn hk
    (obtain ⟨n, rfl⟩ : ∃ m, n = m + 1 := ⟨n - 1, by omega⟩; rw [call_Looker_condition, runF_eq (by rfl) (by rfl)])
    have b := begin2 (n := n) (by omega) W k T_CONDITIONS "less" "xx" "x" "x" x.d y.d (kf_x _) (kf_x _) (by omega) (by decide +kernel) rfl rfl (by decide +kernel) (by decide +kernel)
    have z := zip_st (z := "xx") [("x", x.d), ("x", y.d)] rfl rfl (by decide +kernel)
    simp only [List.map_cons, List.map_nil] at z
    have h1 := part_ok W wide hw x n (k + 1) (by omega) hp.1 (by omega)
    have h2 := part_ok W wide hw y n (k + 1 + x.size) (by omega) hp.2 (by omega)
    rw [show k + Cond.size (.less x y) = k + 1 + x.size + y.size by simp only [Cond.size]; omega]
    simp (disch := first | omega | decide +kernel | assumption) only [F_Looker_condition, List.map_cons, List.map_nil, List.append_nil, List.nil_append, List.cons_append, List.all_cons, List.all_nil, List.length_cons, List.length_nil, List.replicate_zero, List.replicate_succ, List.any_cons, List.any_nil, List.length_map, eq_self, Option.isSome_some, Option.isSome_none, RUN, RUNC, OB, ↓reduceIte, Nat.reduceSub, Nat.reduceAdd, Nat.reduceLT, Nat.reduceLeDiff, Int.cast_ofNat_Int, Int.reduceEq, Int.reduceLT, Int.reduceLE, Int.reduceAdd, Int.reduceSub, Int.reduceNeg, Int.reduceMul, cstep_, kC0_, kC1_, kC2_, lstep_, kL0_, Cond.d, lk_cls, b, h1, h2, p_tGet (t := T_CONDITIONS) (x := "less") (y := "xx") rfl, z, pairD]
  | .and x y, n, k, hn, hp, hk => by
    simp only [Cond.deep, Cond.size] at hn hk
    (obtain ⟨n, rfl⟩ : ∃ m, n = m + 1 := ⟨n - 1, by omega⟩; rw [call_Looker_condition, runF_eq (by rfl) (by rfl)])
    have b := begin2 (n := n) (by omega) W k T_CONDITIONS "and" "cc" "c" "c" x.d y.d (kf_c _) (kf_c _) (by omega) (by decide +kernel) rfl rfl (by decide +kernel) (by decide +kernel)
    have z := zip_st (z := "cc") [("c", x.d), ("c", y.d)] rfl rfl (by decide +kernel)
    simp only [List.map_cons, List.map_nil] at z
    have h1 := condition_ok W wide hw x n (k + 1) (by omega) hp.1 (by omega)
    have h2 := condition_ok W wide hw y n (k + 1 + x.size) (by omega) hp.2 (by omega)
    rw [show k + Cond.size (.and x y) = k + 1 + x.size + y.size by simp only [Cond.size]; omega]
    simp (disch := first | omega | decide +kernel | assumption) only [F_Looker_condition, List.map_cons, List.map_nil, List.append_nil, List.nil_append, List.cons_append, List.all_cons, List.all_nil, List.length_cons, List.length_nil, List.replicate_zero, List.replicate_succ, List.any_cons, List.any_nil, List.length_map, eq_self, Option.isSome_some, Option.isSome_none, RUN, RUNC, OB, ↓reduceIte, Nat.reduceSub, Nat.reduceAdd, Nat.reduceLT, Nat.reduceLeDiff, Int.cast_ofNat_Int, Int.reduceEq, Int.reduceLT, Int.reduceLE, Int.reduceAdd, Int.reduceSub, Int.reduceNeg, Int.reduceMul, cstep_, kC0_, kC1_, kC2_, lstep_, kL0_, Cond.d, lk_cls, b, h1, h2, p_tGet (t := T_CONDITIONS) (x := "and") (y := "cc") rfl, z, pairD]
  | .or x y, n, k, hn, hp, hk => by
    simp only [Cond.deep, Cond.size] at hn hk
    (obtain ⟨n, rfl⟩ : ∃ m, n = m + 1 := ⟨n - 1, by omega⟩; rw [call_Looker_condition, runF_eq (by rfl) (by rfl)])
    have b := begin2 (n := n) (by omega) W k T_CONDITIONS "or" "cc" "c" "c" x.d y.d (kf_c _) (kf_c _) (by omega) (by decide +kernel) rfl rfl (by decide +kernel) (by decide +kernel)
    have z := zip_st (z := "cc") [("c", x.d), ("c", y.d)] rfl rfl (by decide +kernel)
    simp only [List.map_cons, List.map_nil] at z
    have h1 := condition_ok W wide hw x n (k + 1) (by omega) hp.1 (by omega)
    have h2 := condition_ok W wide hw y n (k + 1 + x.size) (by omega) hp.2 (by omega)
    rw [show k + Cond.size (.or x y) = k + 1 + x.size + y.size by simp only [Cond.size]; omega]
    simp (disch := first | omega | decide +kernel | assumption) only [F_Looker_condition, List.map_cons, List.map_nil, List.append_nil, List.nil_append, List.cons_append, List.all_cons, List.all_nil, List.length_cons, List.length_nil, List.replicate_zero, List.replicate_succ, List.any_cons, List.any_nil, List.length_map, eq_self, Option.isSome_some, Option.isSome_none, RUN, RUNC, OB, ↓reduceIte, Nat.reduceSub, Nat.reduceAdd, Nat.reduceLT, Nat.reduceLeDiff, Int.cast_ofNat_Int, Int.reduceEq, Int.reduceLT, Int.reduceLE, Int.reduceAdd, Int.reduceSub, Int.reduceNeg, Int.reduceMul, cstep_, kC0_, kC1_, kC2_, lstep_, kL0_, Cond.d, lk_cls, b, h1, h2, p_tGet (t := T_CONDITIONS) (x := "or") (y := "cc") rfl, z, pairD]
  | .lacks x, n, k, hn, hp, hk => by
    simp only [Cond.deep, Cond.size] at hn hk
    (obtain ⟨n, rfl⟩ : ∃ m, n = m + 1 := ⟨n - 1, by omega⟩; rw [call_Looker_condition, runF_eq (by rfl) (by rfl)])
    have b := begin1 (n := n) (by omega) W k T_CONDITIONS "lacks" "x" "x" x.d (kf_x _) (by omega) (by decide +kernel) rfl rfl (by decide +kernel) (by decide +kernel)
    have z := zip_st (z := "x") [("x", x.d)] rfl rfl (by decide +kernel)
    simp only [List.map_cons, List.map_nil] at z
    have h1 := part_ok W wide hw x n (k + 1) (by omega) hp (by omega)
    rw [show k + Cond.size (.lacks x) = k + 1 + x.size by simp only [Cond.size]; omega]
    simp (disch := first | omega | decide +kernel | assumption) only [F_Looker_condition, List.map_cons, List.map_nil, List.append_nil, List.nil_append, List.cons_append, List.all_cons, List.all_nil, List.length_cons, List.length_nil, List.replicate_zero, List.replicate_succ, List.any_cons, List.any_nil, List.length_map, eq_self, Option.isSome_some, Option.isSome_none, RUN, RUNC, OB, ↓reduceIte, Nat.reduceSub, Nat.reduceAdd, Nat.reduceLT, Nat.reduceLeDiff, Int.cast_ofNat_Int, Int.reduceEq, Int.reduceLT, Int.reduceLE, Int.reduceAdd, Int.reduceSub, Int.reduceNeg, Int.reduceMul, cstep_, kC0_, kC1_, kC2_, lstep_, kL0_, Cond.d, lk_cls, b, h1, p_tGet (t := T_CONDITIONS) (x := "lacks") (y := "x") rfl, z, pairD]
  | .not x, n, k, hn, hp, hk => by
    simp only [Cond.deep, Cond.size] at hn hk
    (obtain ⟨n, rfl⟩ : ∃ m, n = m + 1 := ⟨n - 1, by omega⟩; rw [call_Looker_condition, runF_eq (by rfl) (by rfl)])
    have b := begin1 (n := n) (by omega) W k T_CONDITIONS "not" "c" "c" x.d (kf_c _) (by omega) (by decide +kernel) rfl rfl (by decide +kernel) (by decide +kernel)
    have z := zip_st (z := "c") [("c", x.d)] rfl rfl (by decide +kernel)
    simp only [List.map_cons, List.map_nil] at z
    have h1 := condition_ok W wide hw x n (k + 1) (by omega) hp (by omega)
    rw [show k + Cond.size (.not x) = k + 1 + x.size by simp only [Cond.size]; omega]
    simp (disch := first | omega | decide +kernel | assumption) only [F_Looker_condition, List.map_cons, List.map_nil, List.append_nil, List.nil_append, List.cons_append, List.all_cons, List.all_nil, List.length_cons, List.length_nil, List.replicate_zero, List.replicate_succ, List.any_cons, List.any_nil, List.length_map, eq_self, Option.isSome_some, Option.isSome_none, RUN, RUNC, OB, ↓reduceIte, Nat.reduceSub, Nat.reduceAdd, Nat.reduceLT, Nat.reduceLeDiff, Int.cast_ofNat_Int, Int.reduceEq, Int.reduceLT, Int.reduceLE, Int.reduceAdd, Int.reduceSub, Int.reduceNeg, Int.reduceMul, cstep_, kC0_, kC1_, kC2_, lstep_, kL0_, Cond.d, lk_cls, b, h1, p_tGet (t := T_CONDITIONS) (x := "not") (y := "c") rfl, z, pairD]
  | .tru x, n, k, hn, hp, hk => by
    simp only [Cond.deep, Cond.size] at hn hk
    (obtain ⟨n, rfl⟩ : ∃ m, n = m + 1 := ⟨n - 1, by omega⟩; rw [call_Looker_condition, runF_eq (by rfl) (by rfl)])
    have b := begin1 (n := n) (by omega) W k T_CONDITIONS "true" "c" "c" x.d (kf_c _) (by omega) (by decide +kernel) rfl rfl (by decide +kernel) (by decide +kernel)
    have z := zip_st (z := "c") [("c", x.d)] rfl rfl (by decide +kernel)
    simp only [List.map_cons, List.map_nil] at z
    have h1 := condition_ok W wide hw x n (k + 1) (by omega) hp (by omega)
    rw [show k + Cond.size (.tru x) = k + 1 + x.size by simp only [Cond.size]; omega]
    simp (disch := first | omega | decide +kernel | assumption) only [F_Looker_condition, List.map_cons, List.map_nil, List.append_nil, List.nil_append, List.cons_append, List.all_cons, List.all_nil, List.length_cons, List.length_nil, List.replicate_zero, List.replicate_succ, List.any_cons, List.any_nil, List.length_map, eq_self, Option.isSome_some, Option.isSome_none, RUN, RUNC, OB, ↓reduceIte, Nat.reduceSub, Nat.reduceAdd, Nat.reduceLT, Nat.reduceLeDiff, Int.cast_ofNat_Int, Int.reduceEq, Int.reduceLT, Int.reduceLE, Int.reduceAdd, Int.reduceSub, Int.reduceNeg, Int.reduceMul, cstep_, kC0_, kC1_, kC2_, lstep_, kL0_, Cond.d, lk_cls, b, h1, p_tGet (t := T_CONDITIONS) (x := "true") (y := "c") rfl, z, pairD]
theorem init_ok {n : Nat} (hn : 1 ≤ n) (W : D) : callF fds n i_Looker_init [.obj 0 [], W] = some (some (looker W 0), (false, .non)) := by
  (obtain ⟨n, rfl⟩ : ∃ m, n = m + 1 := ⟨n - 1, by omega⟩; rw [call_Looker_init, runF_eq (by rfl) (by rfl)])
  have e1 : fput ("widths" : Str) W [] = [(("widths" : Str), W)] := rfl
  have e2 : fput ("seen" : Str) (.int 0) [(("widths" : Str), W)] = [(("widths" : Str), W), (("seen" : Str), .int 0)] := rfl
  simp (disch := first | omega | decide +kernel | assumption) only [F_Looker_init, List.map_cons, List.map_nil, List.append_nil, List.nil_append, List.cons_append, List.all_cons, List.all_nil, List.length_cons, List.length_nil, List.replicate_zero, List.replicate_succ, List.any_cons, List.any_nil, List.length_map, eq_self, Option.isSome_some, Option.isSome_none, RUN, RUNC, OB, ↓reduceIte, Nat.reduceSub, Nat.reduceAdd, Nat.reduceLT, Nat.reduceLeDiff, Int.cast_ofNat_Int, Int.reduceEq, Int.reduceLT, Int.reduceLE, Int.reduceAdd, Int.reduceSub, Int.reduceNeg, Int.reduceMul, cstep_, kC0_, kC1_, kC2_, lstep_, kL0_, fstK_s, e1, e2]
  rfl
/-! gaprows.tables: tables; gaprows.words: sentences -/
theorem need_tables_ok {n : Nat} (hn : 4 ≤ n) (ts : List Tab) (h1 : 1 ≤ ts.length) (h3 : ts.length ≤ 3) (ht : ∀ t ∈ ts, t.ok) : callF fds n i_need_tables [tabsD ts] = some (none, (false, .non)) := by
  (obtain ⟨n, rfl⟩ : ∃ m, n = m + 1 := ⟨n - 1, by omega⟩; rw [call_need_tables, runF_eq (by rfl) (by rfl)])
  have e1 : decide ((1 : Int) ≤ (ts.length : Int)) = true := decide_eq_true (by omega)
  have e2 : decide ((ts.length : Int) ≤ 3) = true := decide_eq_true (by omega)
  simp (disch := first | omega | decide +kernel | assumption) only [F_need_tables, List.map_cons, List.map_nil, List.append_nil, List.nil_append, List.cons_append, List.all_cons, List.all_nil, List.length_cons, List.length_nil, List.replicate_zero, List.replicate_succ, List.any_cons, List.any_nil, List.length_map, eq_self, Option.isSome_some, Option.isSome_none, RUN, RUNC, OB, ↓reduceIte, Nat.reduceSub, Nat.reduceAdd, Nat.reduceLT, Nat.reduceLeDiff, Int.cast_ofNat_Int, Int.reduceEq, Int.reduceLT, Int.reduceLE, Int.reduceAdd, Int.reduceSub, Int.reduceNeg, Int.reduceMul, cstep_, kC0_, kC1_, kC2_, lstep_, kL0_, tabsD, e1, e2, numEnum_map]
  generalize hL : loopF _ _ _ _ = L
  obtain ⟨σ', rfl, s1, s2, s3, s4, s5, s6, rfl⟩ := loopF_i _ hL (fun _ σ => ∃ s1 s2 s3 s4 s5 s6 : Sl, σ = [.va (.lst (ts.map Tab.d)), s1, s2, s3, s4, s5, s6]) ⟨_, _, _, _, _, _, rfl⟩ (by
    clear hL
    rintro ⟨t, i⟩ rest σ ⟨s1, s2, s3, s4, s5, s6, rfl⟩ hm
    have tk := ht t (by have := List.mem_zipIdx hm; rw [this.2.2]; exact List.getElem_mem _)
    have b1 := is_between_i (n := n) (by omega) (t.wide : Int) 1 4
    rw [decide_eq_true (by have := tk.lo; omega), decide_eq_true (by have := tk.hi; omega)] at b1
    have e3 : decide ((6 : Int) < (t.rows.length : Int)) = false := decide_eq_false (by have := tk.few; omega)
    simp (disch := first | omega | decide +kernel | assumption) only [List.map_cons, List.map_nil, List.append_nil, List.nil_append, List.cons_append, List.all_cons, List.all_nil, List.length_cons, List.length_nil, List.replicate_zero, List.replicate_succ, List.any_cons, List.any_nil, List.length_map, eq_self, Option.isSome_some, Option.isSome_none, RUN, RUNC, OB, ↓reduceIte, Nat.reduceSub, Nat.reduceAdd, Nat.reduceLT, Nat.reduceLeDiff, Int.cast_ofNat_Int, Int.reduceEq, Int.reduceLT, Int.reduceLE, Int.reduceAdd, Int.reduceSub, Int.reduceNeg, Int.reduceMul, cstep_, kC0_, kC1_, kC2_, lstep_, kL0_, Tab.d, rowsD, b1, e3, numEnum_map]
    generalize hL : loopF _ _ _ _ = L
    obtain ⟨σ', rfl, s5', s6', rfl⟩ := loopF_i _ hL (fun _ σ => ∃ s5 s6 : Sl, σ = [.va (.lst (ts.map Tab.d)), .va (.int (i : Int)), .va (.tup [.int (t.wide : Int), .lst (t.rows.map Row.d)]), .va (.int (t.wide : Int)), .va (.lst (t.rows.map Row.d)), s5, s6]) ⟨_, _, rfl⟩ (by
      clear hL
      rintro ⟨r, j⟩ rest σ ⟨s5, s6, rfl⟩ hm
      have rk := tk.row r (by have := List.mem_zipIdx hm; rw [this.2.2]; exact List.getElem_mem _)
      have r1 := is_row_ok (n := n) (by omega) r rk.2
      rw [rk.1] at r1
      simp (disch := first | omega | decide +kernel | assumption) only [List.map_cons, List.map_nil, List.append_nil, List.nil_append, List.cons_append, List.all_cons, List.all_nil, List.length_cons, List.length_nil, List.replicate_zero, List.replicate_succ, List.any_cons, List.any_nil, List.length_map, eq_self, Option.isSome_some, Option.isSome_none, RUN, RUNC, OB, ↓reduceIte, Nat.reduceSub, Nat.reduceAdd, Nat.reduceLT, Nat.reduceLeDiff, Int.cast_ofNat_Int, Int.reduceEq, Int.reduceLT, Int.reduceLE, Int.reduceAdd, Int.reduceSub, Int.reduceNeg, Int.reduceMul, cstep_, kC0_, kC1_, kC2_, lstep_, kL0_, r1]
      exact ⟨_, rfl, _, _, rfl⟩)
    simp (disch := first | omega | decide +kernel | assumption) only [List.map_cons, List.map_nil, List.append_nil, List.nil_append, List.cons_append, List.all_cons, List.all_nil, List.length_cons, List.length_nil, List.replicate_zero, List.replicate_succ, List.any_cons, List.any_nil, List.length_map, eq_self, Option.isSome_some, Option.isSome_none, RUN, RUNC, OB, ↓reduceIte, Nat.reduceSub, Nat.reduceAdd, Nat.reduceLT, Nat.reduceLeDiff, Int.cast_ofNat_Int, Int.reduceEq, Int.reduceLT, Int.reduceLE, Int.reduceAdd, Int.reduceSub, Int.reduceNeg, Int.reduceMul, cstep_, kC0_, kC1_, kC2_, lstep_, kL0_]
    exact ⟨_, rfl, _, _, _, _, _, _, rfl⟩)
  simp (disch := first | omega | decide +kernel | assumption) only [List.map_cons, List.map_nil, List.append_nil, List.nil_append, List.cons_append, List.all_cons, List.all_nil, List.length_cons, List.length_nil, List.replicate_zero, List.replicate_succ, List.any_cons, List.any_nil, List.length_map, eq_self, Option.isSome_some, Option.isSome_none, RUN, RUNC, OB, ↓reduceIte, Nat.reduceSub, Nat.reduceAdd, Nat.reduceLT, Nat.reduceLeDiff, Int.cast_ofNat_Int, Int.reduceEq, Int.reduceLT, Int.reduceLE, Int.reduceAdd, Int.reduceSub, Int.reduceNeg, Int.reduceMul, cstep_, kC0_, kC1_, kC2_, lstep_, kL0_]
theorem widths_of_ok {n : Nat} (hn : 1 ≤ n) (ts : List Tab) (h3 : ts.length ≤ 1000) : callF fds n i_widths_of [tabsD ts] = some (none, (true, widD (ts.map Tab.wide))) := by
  (obtain ⟨n, rfl⟩ : ∃ m, n = m + 1 := ⟨n - 1, by omega⟩; rw [call_widths_of, runF_eq (by rfl) (by rfl)])
  simp (disch := first | omega | decide +kernel | assumption) only [F_widths_of, List.map_cons, List.map_nil, List.append_nil, List.nil_append, List.cons_append, List.all_cons, List.all_nil, List.length_cons, List.length_nil, List.replicate_zero, List.replicate_succ, List.any_cons, List.any_nil, List.length_map, eq_self, Option.isSome_some, Option.isSome_none, RUN, RUNC, OB, ↓reduceIte, Nat.reduceSub, Nat.reduceAdd, Nat.reduceLT, Nat.reduceLeDiff, Int.cast_ofNat_Int, Int.reduceEq, Int.reduceLT, Int.reduceLE, Int.reduceAdd, Int.reduceSub, Int.reduceNeg, Int.reduceMul, cstep_, kC0_, kC1_, kC2_, lstep_, kL0_, tabsD]
  rw [compF_all ts Tab.d (fun t => D.int (t.wide : Int)) (by
    intro t ht
    simp (disch := first | omega | decide +kernel | assumption) only [List.map_cons, List.map_nil, List.append_nil, List.nil_append, List.cons_append, List.all_cons, List.all_nil, List.length_cons, List.length_nil, List.replicate_zero, List.replicate_succ, List.any_cons, List.any_nil, List.length_map, eq_self, Option.isSome_some, Option.isSome_none, RUN, RUNC, OB, ↓reduceIte, Nat.reduceSub, Nat.reduceAdd, Nat.reduceLT, Nat.reduceLeDiff, Int.cast_ofNat_Int, Int.reduceEq, Int.reduceLT, Int.reduceLE, Int.reduceAdd, Int.reduceSub, Int.reduceNeg, Int.reduceMul, cstep_, kC0_, kC1_, kC2_, lstep_, kL0_, Tab.d])]
  simp (disch := first | omega | decide +kernel | assumption) only [List.map_cons, List.map_nil, List.append_nil, List.nil_append, List.cons_append, List.all_cons, List.all_nil, List.length_cons, List.length_nil, List.replicate_zero, List.replicate_succ, List.any_cons, List.any_nil, List.length_map, eq_self, Option.isSome_some, Option.isSome_none, RUN, RUNC, OB, ↓reduceIte, Nat.reduceSub, Nat.reduceAdd, Nat.reduceLT, Nat.reduceLeDiff, Int.cast_ofNat_Int, Int.reduceEq, Int.reduceLT, Int.reduceLE, Int.reduceAdd, Int.reduceSub, Int.reduceNeg, Int.reduceMul, cstep_, kC0_, kC1_, kC2_, lstep_, kL0_]
  simp [widD]
theorem picked_ok {n : Nat} (hn : 1 ≤ n) (W at_ : D) (k : Nat) (cs : List Nat) (w : Nat) (h1 : 1 ≤ cs.length) (h8 : cs.length ≤ 8) (h : ∀ c ∈ cs, c < w) (ha : at_.isObj = false) : callF fds n i_Looker_picked [looker W k, natsD cs, .int (w : Int), at_] = some (some (looker W k), (false, .int (cs.length : Int))) := by
  (obtain ⟨n, rfl⟩ : ∃ m, n = m + 1 := ⟨n - 1, by omega⟩; rw [call_Looker_picked, runF_eq (by rfl) (by rfl)])
  have e1 : decide ((1 : Int) ≤ (cs.length : Int)) = true := decide_eq_true (by omega)
  have e2 : decide ((cs.length : Int) ≤ 8) = true := decide_eq_true (by omega)
  simp (disch := first | omega | decide +kernel | assumption) only [F_Looker_picked, List.map_cons, List.map_nil, List.append_nil, List.nil_append, List.cons_append, List.all_cons, List.all_nil, List.length_cons, List.length_nil, List.replicate_zero, List.replicate_succ, List.any_cons, List.any_nil, List.length_map, eq_self, Option.isSome_some, Option.isSome_none, RUN, RUNC, OB, ↓reduceIte, Nat.reduceSub, Nat.reduceAdd, Nat.reduceLT, Nat.reduceLeDiff, Int.cast_ofNat_Int, Int.reduceEq, Int.reduceLT, Int.reduceLE, Int.reduceAdd, Int.reduceSub, Int.reduceNeg, Int.reduceMul, cstep_, kC0_, kC1_, kC2_, lstep_, kL0_, natsD, e1, e2]
  rw [compF_none cs _ ?_]
  · simp (disch := first | omega | decide +kernel | assumption) only [List.map_cons, List.map_nil, List.append_nil, List.nil_append, List.cons_append, List.all_cons, List.all_nil, List.length_cons, List.length_nil, List.replicate_zero, List.replicate_succ, List.any_cons, List.any_nil, List.length_map, eq_self, Option.isSome_some, Option.isSome_none, RUN, RUNC, OB, ↓reduceIte, Nat.reduceSub, Nat.reduceAdd, Nat.reduceLT, Nat.reduceLeDiff, Int.cast_ofNat_Int, Int.reduceEq, Int.reduceLT, Int.reduceLE, Int.reduceAdd, Int.reduceSub, Int.reduceNeg, Int.reduceMul, cstep_, kC0_, kC1_, kC2_, lstep_, kL0_]
  · intro c hc
    have := h c hc
    have e3 : decide ((0 : Int) ≤ (c : Int)) = true := decide_eq_true (by omega)
    have e4 : decide ((c : Int) < (w : Int)) = true := decide_eq_true (by omega)
    simp (disch := first | omega | decide +kernel | assumption) only [List.map_cons, List.map_nil, List.append_nil, List.nil_append, List.cons_append, List.all_cons, List.all_nil, List.length_cons, List.length_nil, List.replicate_zero, List.replicate_succ, List.any_cons, List.any_nil, List.length_map, eq_self, Option.isSome_some, Option.isSome_none, RUN, RUNC, OB, ↓reduceIte, Nat.reduceSub, Nat.reduceAdd, Nat.reduceLT, Nat.reduceLeDiff, Int.cast_ofNat_Int, Int.reduceEq, Int.reduceLT, Int.reduceLE, Int.reduceAdd, Int.reduceSub, Int.reduceNeg, Int.reduceMul, cstep_, kC0_, kC1_, kC2_, lstep_, kL0_, e3, e4]
theorem joined_ok {n : Nat} (hn : 1 ≤ n) (W at_ : D) (k : Nat) (ps : List (Nat × Nat)) (w o : Nat) (h8 : w + o ≤ 8) (h : ∀ p ∈ ps, p.1 < w ∧ p.2 < o) : callF fds n i_Looker_joined [looker W k, pairsD ps, .int (w : Int), .int (o : Int), at_] = some (some (looker W k), (false, .int ((w + o : Nat) : Int))) := by
  (obtain ⟨n, rfl⟩ : ∃ m, n = m + 1 := ⟨n - 1, by omega⟩; rw [call_Looker_joined, runF_eq (by rfl) (by rfl)])
  have e1 : decide ((8 : Int) < (w : Int) + (o : Int)) = false := decide_eq_false (by omega)
  simp (disch := first | omega | decide +kernel | assumption) only [F_Looker_joined, List.map_cons, List.map_nil, List.append_nil, List.nil_append, List.cons_append, List.all_cons, List.all_nil, List.length_cons, List.length_nil, List.replicate_zero, List.replicate_succ, List.any_cons, List.any_nil, List.length_map, eq_self, Option.isSome_some, Option.isSome_none, RUN, RUNC, OB, ↓reduceIte, Nat.reduceSub, Nat.reduceAdd, Nat.reduceLT, Nat.reduceLeDiff, Int.cast_ofNat_Int, Int.reduceEq, Int.reduceLT, Int.reduceLE, Int.reduceAdd, Int.reduceSub, Int.reduceNeg, Int.reduceMul, cstep_, kC0_, kC1_, kC2_, lstep_, kL0_, pairsD, e1]
  rw [compF_none ps pairD2 ?_]
  · simp (disch := first | omega | decide +kernel | assumption) only [List.map_cons, List.map_nil, List.append_nil, List.nil_append, List.cons_append, List.all_cons, List.all_nil, List.length_cons, List.length_nil, List.replicate_zero, List.replicate_succ, List.any_cons, List.any_nil, List.length_map, eq_self, Option.isSome_some, Option.isSome_none, RUN, RUNC, OB, ↓reduceIte, Nat.reduceSub, Nat.reduceAdd, Nat.reduceLT, Nat.reduceLeDiff, Int.cast_ofNat_Int, Int.reduceEq, Int.reduceLT, Int.reduceLE, Int.reduceAdd, Int.reduceSub, Int.reduceNeg, Int.reduceMul, cstep_, kC0_, kC1_, kC2_, lstep_, kL0_]
    simp
  · intro p hp
    have := h p hp
    have e3 : decide ((0 : Int) ≤ (p.1 : Int)) = true := decide_eq_true (by omega)
    have e4 : decide ((p.1 : Int) < (w : Int)) = true := decide_eq_true (by omega)
    have e5 : decide ((0 : Int) ≤ (p.2 : Int)) = true := decide_eq_true (by omega)
    have e6 : decide ((p.2 : Int) < (o : Int)) = true := decide_eq_true (by omega)
    simp (disch := first | omega | decide +kernel | assumption) only [List.map_cons, List.map_nil, List.append_nil, List.nil_append, List.cons_append, List.all_cons, List.all_nil, List.length_cons, List.length_nil, List.replicate_zero, List.replicate_succ, List.any_cons, List.any_nil, List.length_map, eq_self, Option.isSome_some, Option.isSome_none, RUN, RUNC, OB, ↓reduceIte, Nat.reduceSub, Nat.reduceAdd, Nat.reduceLT, Nat.reduceLeDiff, Int.cast_ofNat_Int, Int.reduceEq, Int.reduceLT, Int.reduceLE, Int.reduceAdd, Int.reduceSub, Int.reduceNeg, Int.reduceMul, cstep_, kC0_, kC1_, kC2_, lstep_, kL0_, pairD2, e3, e4, e5, e6]
theorem kf_l {l : List Nat} (h : ∀ i ∈ l, i ≤ 1000) : kOk ("l", natsD l) := .inr (.inr (.inl ⟨rfl, l.map fun (i : Nat) => (i : Int), by simp [natsD], fun i hi => by
  obtain ⟨j, hj, rfl⟩ := List.mem_map.mp hi
  have := h j hj
  unfold sml; omega⟩))
theorem kf_p {l : List (Nat × Nat)} (h : ∀ p ∈ l, p.1 ≤ 1000 ∧ p.2 ≤ 1000) : kOk ("p", pairsD l) := .inr (.inr (.inr ⟨rfl, l.map fun p => ((p.1 : Int), (p.2 : Int)), by simp [pairsD, pairD2], fun i hi => by
  obtain ⟨j, hj, rfl⟩ := List.mem_map.mp hi
  have := h j hj
  unfold sml; dsimp only; omega⟩))
theorem sentence_ok (ws : List Nat) (hw : ∀ w ∈ ws, w ≤ 8) (hl : ws.length ≤ 1000) : ∀ (s : Sent) (n k : Nat), s.deep + 6 ≤ n → s.ok ws → k + s.size ≤ 60 → callF fds n i_Looker_sentence [looker (widD ws) k, s.d] = some (some (looker (widD ws) (k + s.size)), (false, .int (s.wide ws : Int)))
  | .rows t, n, k, hn, hs, hk => by
    simp only [Sent.deep, Sent.size] at hn hk
    have hs : t < ws.length := hs
    (obtain ⟨n, rfl⟩ : ∃ m, n = m + 1 := ⟨n - 1, by omega⟩; rw [call_Looker_sentence, runF_eq (by rfl) (by rfl)])
    have b := begin1 (n := n) (by omega) (widD ws) k T_SENTENCES "rows" "n" "n" (.int (t : Int)) (kf_n (by unfold sml; omega)) (by omega) (by decide +kernel) rfl rfl (by decide +kernel) (by decide +kernel)
    have e1 : decide ((0 : Int) ≤ (t : Int)) = true := decide_eq_true (by omega)
    have e2 : decide ((t : Int) < (ws.length : Int)) = true := decide_eq_true (by omega)
    have e3 : prD .len [widD ws] = some (false, .int (ws.length : Int)) := by
      unfold widD; rw [p_lenL, List.length_map]
    have e4 : prD .idx [widD ws, .int (t : Int)] = some (false, .int (Sent.wide ws (.rows t) : Int)) := by
      unfold widD
      rw [p_idxLa, atI_nat (n := t) (a := D.int (ws.getD t 0 : Int)) (by simp [List.getElem?_map, List.getElem?_eq_getElem hs]), fD_s]
      rfl
    simp (disch := first | omega | decide +kernel | assumption) only [F_Looker_sentence, List.map_cons, List.map_nil, List.append_nil, List.nil_append, List.cons_append, List.all_cons, List.all_nil, List.length_cons, List.length_nil, List.replicate_zero, List.replicate_succ, List.any_cons, List.any_nil, List.length_map, eq_self, Option.isSome_some, Option.isSome_none, RUN, RUNC, OB, ↓reduceIte, Nat.reduceSub, Nat.reduceAdd, Nat.reduceLT, Nat.reduceLeDiff, Int.cast_ofNat_Int, Int.reduceEq, Int.reduceLT, Int.reduceLE, Int.reduceAdd, Int.reduceSub, Int.reduceNeg, Int.reduceMul, cstep_, kC0_, kC1_, kC2_, lstep_, kL0_, Sent.d, Sent.size, lk_cls, lk_wid, b, e1, e2, e3, e4]
  | .keep s c, n, k, hn, hs, hk => by
    simp only [Sent.deep, Sent.size] at hn hk
    (obtain ⟨n, rfl⟩ : ∃ m, n = m + 1 := ⟨n - 1, by omega⟩; rw [call_Looker_sentence, runF_eq (by rfl) (by rfl)])
    have b := begin2 (n := n) (by omega) (widD ws) k T_SENTENCES "keep" "sc" "s" "c" s.d c.d (kf_s _) (kf_c _) (by omega) (by decide +kernel) rfl rfl (by decide +kernel) (by decide +kernel)
    have h1 := sentence_ok ws hw hl s n (k + 1) (by omega) hs.1 (by omega)
    have h2 := condition_ok (widD ws) (s.wide ws) (by have := Sent.wide_le hw s hs.1; omega) c n (k + 1 + s.size) (by omega) hs.2 (by omega)
    rw [show k + Sent.size (.keep s c) = k + 1 + s.size + c.size by simp only [Sent.size]; omega]
    simp (disch := first | omega | decide +kernel | assumption) only [F_Looker_sentence, List.map_cons, List.map_nil, List.append_nil, List.nil_append, List.cons_append, List.all_cons, List.all_nil, List.length_cons, List.length_nil, List.replicate_zero, List.replicate_succ, List.any_cons, List.any_nil, List.length_map, eq_self, Option.isSome_some, Option.isSome_none, RUN, RUNC, OB, ↓reduceIte, Nat.reduceSub, Nat.reduceAdd, Nat.reduceLT, Nat.reduceLeDiff, Int.cast_ofNat_Int, Int.reduceEq, Int.reduceLT, Int.reduceLE, Int.reduceAdd, Int.reduceSub, Int.reduceNeg, Int.reduceMul, cstep_, kC0_, kC1_, kC2_, lstep_, kL0_, Sent.d, lk_cls, b, h1, h2]
    rfl
  | .pick s cs, n, k, hn, hs, hk => by
    simp only [Sent.deep, Sent.size] at hn hk
    (obtain ⟨n, rfl⟩ : ∃ m, n = m + 1 := ⟨n - 1, by omega⟩; rw [call_Looker_sentence, runF_eq (by rfl) (by rfl)])
    have w8 := Sent.wide_le hw s hs.1
    have b := begin2 (n := n) (by omega) (widD ws) k T_SENTENCES "pick" "sl" "s" "l" s.d (natsD cs) (kf_s _) (kf_l fun i hi => by have := hs.2.2.2 i hi; omega) (by omega) (by decide +kernel) rfl rfl (by decide +kernel) (by decide +kernel)
    have h1 := sentence_ok ws hw hl s n (k + 1) (by omega) hs.1 (by omega)
    have h2 := picked_ok (n := n) (by omega) (widD ws) (.int (k : Int)) (k + 1 + s.size) cs (s.wide ws) hs.2.1 hs.2.2.1 hs.2.2.2 rfl
    rw [show k + Sent.size (.pick s cs) = k + 1 + s.size by simp only [Sent.size]; omega]
    simp (disch := first | omega | decide +kernel | assumption) only [F_Looker_sentence, List.map_cons, List.map_nil, List.append_nil, List.nil_append, List.cons_append, List.all_cons, List.all_nil, List.length_cons, List.length_nil, List.replicate_zero, List.replicate_succ, List.any_cons, List.any_nil, List.length_map, eq_self, Option.isSome_some, Option.isSome_none, RUN, RUNC, OB, ↓reduceIte, Nat.reduceSub, Nat.reduceAdd, Nat.reduceLT, Nat.reduceLeDiff, Int.cast_ofNat_Int, Int.reduceEq, Int.reduceLT, Int.reduceLE, Int.reduceAdd, Int.reduceSub, Int.reduceNeg, Int.reduceMul, cstep_, kC0_, kC1_, kC2_, lstep_, kL0_, Sent.d, lk_cls, b, h1, h2]
    rfl
  | .join x y ps, n, k, hn, hs, hk => by
    simp only [Sent.deep, Sent.size] at hn hk
    (obtain ⟨n, rfl⟩ : ∃ m, n = m + 1 := ⟨n - 1, by omega⟩; rw [call_Looker_sentence, runF_eq (by rfl) (by rfl)])
    have w8 := Sent.wide_le hw x hs.1
    have w9 := Sent.wide_le hw y hs.2.1
    have b := begin3 (n := n) (by omega) (widD ws) k T_SENTENCES "join" "ssp" "s" "s" "p" x.d y.d (pairsD ps) (kf_s _) (kf_s _) (kf_p fun p hp => by have := hs.2.2.2.2 p hp; omega) (by omega) (by decide +kernel) rfl rfl (by decide +kernel) (by decide +kernel)
    have h1 := sentence_ok ws hw hl x n (k + 1) (by omega) hs.1 (by omega)
    have h2 := sentence_ok ws hw hl y n (k + 1 + x.size) (by omega) hs.2.1 (by omega)
    have h3 := joined_ok (n := n) (by omega) (widD ws) (.int (k : Int)) (k + 1 + x.size + y.size) ps (x.wide ws) (y.wide ws) hs.2.2.1 hs.2.2.2.2
    rw [show k + Sent.size (.join x y ps) = k + 1 + x.size + y.size by simp only [Sent.size]; omega]
    simp (disch := first | omega | decide +kernel | assumption) only [F_Looker_sentence, List.map_cons, List.map_nil, List.append_nil, List.nil_append, List.cons_append, List.all_cons, List.all_nil, List.length_cons, List.length_nil, List.replicate_zero, List.replicate_succ, List.any_cons, List.any_nil, List.length_map, eq_self, Option.isSome_some, Option.isSome_none, RUN, RUNC, OB, ↓reduceIte, Nat.reduceSub, Nat.reduceAdd, Nat.reduceLT, Nat.reduceLeDiff, Int.cast_ofNat_Int, Int.reduceEq, Int.reduceLT, Int.reduceLE, Int.reduceAdd, Int.reduceSub, Int.reduceNeg, Int.reduceMul, cstep_, kC0_, kC1_, kC2_, lstep_, kL0_, Sent.d, lk_cls, b, h1, h2, h3]
    rfl
  | .both x y, n, k, hn, hs, hk => by
    simp only [Sent.deep, Sent.size] at hn hk
    (obtain ⟨n, rfl⟩ : ∃ m, n = m + 1 := ⟨n - 1, by omega⟩; rw [call_Looker_sentence, runF_eq (by rfl) (by rfl)])
    have b := begin2 (n := n) (by omega) (widD ws) k T_SENTENCES "both" "ss" "s" "s" x.d y.d (kf_s _) (kf_s _) (by omega) (by decide +kernel) rfl rfl (by decide +kernel) (by decide +kernel)
    have h1 := sentence_ok ws hw hl x n (k + 1) (by omega) hs.1 (by omega)
    have h2 := sentence_ok ws hw hl y n (k + 1 + x.size) (by omega) hs.2.1 (by omega)
    have e1 : decide ((x.wide ws : Int) = (y.wide ws : Int)) = true := decide_eq_true (by rw [hs.2.2])
    rw [show k + Sent.size (.both x y) = k + 1 + x.size + y.size by simp only [Sent.size]; omega]
    simp (disch := first | omega | decide +kernel | assumption) only [F_Looker_sentence, List.map_cons, List.map_nil, List.append_nil, List.nil_append, List.cons_append, List.all_cons, List.all_nil, List.length_cons, List.length_nil, List.replicate_zero, List.replicate_succ, List.any_cons, List.any_nil, List.length_map, eq_self, Option.isSome_some, Option.isSome_none, RUN, RUNC, OB, ↓reduceIte, Nat.reduceSub, Nat.reduceAdd, Nat.reduceLT, Nat.reduceLeDiff, Int.cast_ofNat_Int, Int.reduceEq, Int.reduceLT, Int.reduceLE, Int.reduceAdd, Int.reduceSub, Int.reduceNeg, Int.reduceMul, cstep_, kC0_, kC1_, kC2_, lstep_, kL0_, Sent.d, lk_cls, b, h1, h2, e1]
    rfl
  | .without x y, n, k, hn, hs, hk => by
    simp only [Sent.deep, Sent.size] at hn hk
    (obtain ⟨n, rfl⟩ : ∃ m, n = m + 1 := ⟨n - 1, by omega⟩; rw [call_Looker_sentence, runF_eq (by rfl) (by rfl)])
    have b := begin2 (n := n) (by omega) (widD ws) k T_SENTENCES "without" "ss" "s" "s" x.d y.d (kf_s _) (kf_s _) (by omega) (by decide +kernel) rfl rfl (by decide +kernel) (by decide +kernel)
    have h1 := sentence_ok ws hw hl x n (k + 1) (by omega) hs.1 (by omega)
    have h2 := sentence_ok ws hw hl y n (k + 1 + x.size) (by omega) hs.2.1 (by omega)
    have e1 : decide ((x.wide ws : Int) = (y.wide ws : Int)) = true := decide_eq_true (by rw [hs.2.2])
    rw [show k + Sent.size (.without x y) = k + 1 + x.size + y.size by simp only [Sent.size]; omega]
    simp (disch := first | omega | decide +kernel | assumption) only [F_Looker_sentence, List.map_cons, List.map_nil, List.append_nil, List.nil_append, List.cons_append, List.all_cons, List.all_nil, List.length_cons, List.length_nil, List.replicate_zero, List.replicate_succ, List.any_cons, List.any_nil, List.length_map, eq_self, Option.isSome_some, Option.isSome_none, RUN, RUNC, OB, ↓reduceIte, Nat.reduceSub, Nat.reduceAdd, Nat.reduceLT, Nat.reduceLeDiff, Int.cast_ofNat_Int, Int.reduceEq, Int.reduceLT, Int.reduceLE, Int.reduceAdd, Int.reduceSub, Int.reduceNeg, Int.reduceMul, cstep_, kC0_, kC1_, kC2_, lstep_, kL0_, Sent.d, lk_cls, b, h1, h2, e1]
    rfl
theorem wide_of_ok (ws : List Nat) (hw : ∀ w ∈ ws, w ≤ 8) (hl : ws.length ≤ 1000) (s : Sent) (n : Nat) (hn : s.deep + 7 ≤ n) (hs : s.ok ws) (hk : s.size ≤ 60) : callF fds n i_wide_of [s.d, widD ws] = some (none, (false, .int (s.wide ws : Int))) := by
  (obtain ⟨n, rfl⟩ : ∃ m, n = m + 1 := ⟨n - 1, by omega⟩; rw [call_wide_of, runF_eq (by rfl) (by rfl)])
  have h1 := init_ok (n := n) (by omega) (widD ws)
  have h2 := sentence_ok ws hw hl s n 0 (by omega) hs (by omega)
  simp (disch := first | omega | decide +kernel | assumption) only [F_wide_of, List.map_cons, List.map_nil, List.append_nil, List.nil_append, List.cons_append, List.all_cons, List.all_nil, List.length_cons, List.length_nil, List.replicate_zero, List.replicate_succ, List.any_cons, List.any_nil, List.length_map, eq_self, Option.isSome_some, Option.isSome_none, RUN, RUNC, OB, ↓reduceIte, Nat.reduceSub, Nat.reduceAdd, Nat.reduceLT, Nat.reduceLeDiff, Int.cast_ofNat_Int, Int.reduceEq, Int.reduceLT, Int.reduceLE, Int.reduceAdd, Int.reduceSub, Int.reduceNeg, Int.reduceMul, cstep_, kC0_, kC1_, kC2_, lstep_, kL0_, h1, h2, lk_mc]
/-! gaprows.running -/
theorem same_c {n : Nat} (hn : 3 ≤ n) (a b : Cell) (ha : cellT a) (hb : cellT b) : callF fds n i_same [a.d, b.d] = some (none, (false, tD (sameC a b))) :=
  same_ok hn (some a) (some b) (by cases a; trivial; exact ha) (by cases b; trivial; exact hb)
theorem rows_same_ok {n : Nat} (hn : 4 ≤ n) (a b : Row) (ha : ∀ c ∈ a, cellT c) (hb : ∀ c ∈ b, cellT c) (hl : a.length ≤ 1000) : callF fds n i_rows_same [a.d, b.d] = some (none, (false, tD (rowsSame a b))) := by
  (obtain ⟨n, rfl⟩ : ∃ m, n = m + 1 := ⟨n - 1, by omega⟩; rw [call_rows_same, runF_eq (by rfl) (by rfl)])
  simp (disch := first | omega | decide +kernel | assumption) only [F_rows_same, List.map_cons, List.map_nil, List.append_nil, List.nil_append, List.cons_append, List.all_cons, List.all_nil, List.length_cons, List.length_nil, List.replicate_zero, List.replicate_succ, List.any_cons, List.any_nil, List.length_map, eq_self, Option.isSome_some, Option.isSome_none, RUN, RUNC, OB, ↓reduceIte, Nat.reduceSub, Nat.reduceAdd, Nat.reduceLT, Nat.reduceLeDiff, Int.cast_ofNat_Int, Int.reduceEq, Int.reduceLT, Int.reduceLE, Int.reduceAdd, Int.reduceSub, Int.reduceNeg, Int.reduceMul, cstep_, kC0_, kC1_, kC2_, lstep_, kL0_, Row.d, zip_tt]
  rw [compF_all (List.zip a b) _ (fun p => tD (sameC p.1 p.2)) (by
    rintro ⟨x, y⟩ hp
    have h := List.of_mem_zip hp
    have := same_c (n := n) (by omega) x y (ha x h.1) (hb y h.2)
    simp (disch := first | omega | decide +kernel | assumption) only [List.map_cons, List.map_nil, List.append_nil, List.nil_append, List.cons_append, List.all_cons, List.all_nil, List.length_cons, List.length_nil, List.replicate_zero, List.replicate_succ, List.any_cons, List.any_nil, List.length_map, eq_self, Option.isSome_some, Option.isSome_none, RUN, RUNC, OB, ↓reduceIte, Nat.reduceSub, Nat.reduceAdd, Nat.reduceLT, Nat.reduceLeDiff, Int.cast_ofNat_Int, Int.reduceEq, Int.reduceLT, Int.reduceLE, Int.reduceAdd, Int.reduceSub, Int.reduceNeg, Int.reduceMul, cstep_, kC0_, kC1_, kC2_, lstep_, kL0_, this])]
  have e : (List.zip a b).map (fun p => tD (sameC p.1 p.2)) = (List.zipWith sameC a b).map tD := by
    rw [zw_map, List.map_map]; rfl
  have hz : szOk (List.zipWith sameC a b).length = true := szOk_k (by simp; omega)
  have b1 := both_of_ok (n := n) (by omega) (List.zipWith sameC a b)
  rw [e]
  simp (disch := first | omega | decide +kernel | assumption) only [List.map_cons, List.map_nil, List.append_nil, List.nil_append, List.cons_append, List.all_cons, List.all_nil, List.length_cons, List.length_nil, List.replicate_zero, List.replicate_succ, List.any_cons, List.any_nil, List.length_map, eq_self, Option.isSome_some, Option.isSome_none, RUN, RUNC, OB, ↓reduceIte, Nat.reduceSub, Nat.reduceAdd, Nat.reduceLT, Nat.reduceLeDiff, Int.cast_ofNat_Int, Int.reduceEq, Int.reduceLT, Int.reduceLE, Int.reduceAdd, Int.reduceSub, Int.reduceNeg, Int.reduceMul, cstep_, kC0_, kC1_, kC2_, lstep_, kL0_, hz, b1]
  rfl
theorem not_false_ok {n : Nat} (hn : 2 ≤ n) (xs : List (Row × List (Option Bool))) (hl : xs.length ≤ 1000000) : callF fds n i_not_false [.lst (xs.map nfD)] = some (none, (true, .lst ((notFalse xs).map Ent.d))) := by
  (obtain ⟨n, rfl⟩ : ∃ m, n = m + 1 := ⟨n - 1, by omega⟩; rw [call_not_false, runF_eq (by rfl) (by rfl)])
  simp (disch := first | omega | decide +kernel | assumption) only [F_not_false, List.map_cons, List.map_nil, List.append_nil, List.nil_append, List.cons_append, List.all_cons, List.all_nil, List.length_cons, List.length_nil, List.replicate_zero, List.replicate_succ, List.any_cons, List.any_nil, List.length_map, eq_self, Option.isSome_some, Option.isSome_none, RUN, RUNC, OB, ↓reduceIte, Nat.reduceSub, Nat.reduceAdd, Nat.reduceLT, Nat.reduceLeDiff, Int.cast_ofNat_Int, Int.reduceEq, Int.reduceLT, Int.reduceLE, Int.reduceAdd, Int.reduceSub, Int.reduceNeg, Int.reduceMul, cstep_, kC0_, kC1_, kC2_, lstep_, kL0_]
  rw [compF_all xs nfD (fun p => Ent.d (p.1, bothOf p.2)) (by
    rintro ⟨r, ts⟩ hp
    have := both_of_ok (n := n) (by omega) ts
    simp (disch := first | omega | decide +kernel | assumption) only [List.map_cons, List.map_nil, List.append_nil, List.nil_append, List.cons_append, List.all_cons, List.all_nil, List.length_cons, List.length_nil, List.replicate_zero, List.replicate_succ, List.any_cons, List.any_nil, List.length_map, eq_self, Option.isSome_some, Option.isSome_none, RUN, RUNC, OB, ↓reduceIte, Nat.reduceSub, Nat.reduceAdd, Nat.reduceLT, Nat.reduceLeDiff, Int.cast_ofNat_Int, Int.reduceEq, Int.reduceLT, Int.reduceLE, Int.reduceAdd, Int.reduceSub, Int.reduceNeg, Int.reduceMul, cstep_, kC0_, kC1_, kC2_, lstep_, kL0_, nfD, this]
    rfl)]
  have e : xs.map (fun p => Ent.d (p.1, bothOf p.2)) = (xs.map fun p => ((p.1, bothOf p.2) : Ent)).map Ent.d := by rw [List.map_map]; rfl
  rw [e]
  have h1 : szOk (xs.map fun p => ((p.1, bothOf p.2) : Ent)).length = true := szOk_k (by simp; omega)
  simp (disch := first | omega | decide +kernel | assumption) only [List.map_cons, List.map_nil, List.append_nil, List.nil_append, List.cons_append, List.all_cons, List.all_nil, List.length_cons, List.length_nil, List.replicate_zero, List.replicate_succ, List.any_cons, List.any_nil, List.length_map, eq_self, Option.isSome_some, Option.isSome_none, RUN, RUNC, OB, ↓reduceIte, Nat.reduceSub, Nat.reduceAdd, Nat.reduceLT, Nat.reduceLeDiff, Int.cast_ofNat_Int, Int.reduceEq, Int.reduceLT, Int.reduceLE, Int.reduceAdd, Int.reduceSub, Int.reduceNeg, Int.reduceMul, cstep_, kC0_, kC1_, kC2_, lstep_, kL0_, h1]
  rw [compF_map (xs.map fun p => ((p.1, bothOf p.2) : Ent)) Ent.d (fun e => !decide (e.2 = some false)) Ent.d (by
    rintro ⟨r, t⟩ hp
    have : prD .notB [tD t, .bl false] = some (false, .bl (!decide (t = some false))) := by rcases t with _ | ⟨_ | _⟩ <;> rfl
    simp (disch := first | omega | decide +kernel | assumption) only [List.map_cons, List.map_nil, List.append_nil, List.nil_append, List.cons_append, List.all_cons, List.all_nil, List.length_cons, List.length_nil, List.replicate_zero, List.replicate_succ, List.any_cons, List.any_nil, List.length_map, eq_self, Option.isSome_some, Option.isSome_none, RUN, RUNC, OB, ↓reduceIte, Nat.reduceSub, Nat.reduceAdd, Nat.reduceLT, Nat.reduceLeDiff, Int.cast_ofNat_Int, Int.reduceEq, Int.reduceLT, Int.reduceLE, Int.reduceAdd, Int.reduceSub, Int.reduceNeg, Int.reduceMul, cstep_, kC0_, kC1_, kC2_, lstep_, kL0_, Ent.d, this]
    by_cases h : t = some false
    · simp [h]
    · simp [h])]
  have h2 : szOk ((xs.map fun p => ((p.1, bothOf p.2) : Ent)).filter fun e => !decide (e.2 = some false)).length = true := szOk_k (Nat.le_trans (List.length_filter_le ..) (by simp; omega))
  simp (disch := first | omega | decide +kernel | assumption) only [List.map_cons, List.map_nil, List.append_nil, List.nil_append, List.cons_append, List.all_cons, List.all_nil, List.length_cons, List.length_nil, List.replicate_zero, List.replicate_succ, List.any_cons, List.any_nil, List.length_map, eq_self, Option.isSome_some, Option.isSome_none, RUN, RUNC, OB, ↓reduceIte, Nat.reduceSub, Nat.reduceAdd, Nat.reduceLT, Nat.reduceLeDiff, Int.cast_ofNat_Int, Int.reduceEq, Int.reduceLT, Int.reduceLE, Int.reduceAdd, Int.reduceSub, Int.reduceNeg, Int.reduceMul, cstep_, kC0_, kC1_, kC2_, lstep_, kL0_, h2]
  rfl
theorem is_among_ok {n : Nat} (hn : 5 ≤ n) (r : Row) (l : List Ent) (hr : ∀ c ∈ r, cellT c) (hl : ∀ e ∈ l, ∀ c ∈ e.1, cellT c) (h8 : r.length ≤ 1000) (hs : l.length ≤ 1000000) : callF fds n i_is_among [r.d, .lst (l.map Ent.d)] = some (none, (false, tD (isAmong r l))) := by
  (obtain ⟨n, rfl⟩ : ∃ m, n = m + 1 := ⟨n - 1, by omega⟩; rw [call_is_among, runF_eq (by rfl) (by rfl)])
  simp (disch := first | omega | decide +kernel | assumption) only [F_is_among, List.map_cons, List.map_nil, List.append_nil, List.nil_append, List.cons_append, List.all_cons, List.all_nil, List.length_cons, List.length_nil, List.replicate_zero, List.replicate_succ, List.any_cons, List.any_nil, List.length_map, eq_self, Option.isSome_some, Option.isSome_none, RUN, RUNC, OB, ↓reduceIte, Nat.reduceSub, Nat.reduceAdd, Nat.reduceLT, Nat.reduceLeDiff, Int.cast_ofNat_Int, Int.reduceEq, Int.reduceLT, Int.reduceLE, Int.reduceAdd, Int.reduceSub, Int.reduceNeg, Int.reduceMul, cstep_, kC0_, kC1_, kC2_, lstep_, kL0_]
  rw [compF_all l Ent.d (fun e => tD (bothOf [e.2, rowsSame r e.1])) (by
    rintro ⟨b, t⟩ hp
    have h1 := rows_same_ok (n := n) (by omega) r b hr (hl _ hp) h8
    have h2 := both_of_ok (n := n) (by omega) [t, rowsSame r b]
    simp only [List.map_cons, List.map_nil] at h2
    simp (disch := first | omega | decide +kernel | assumption) only [List.map_cons, List.map_nil, List.append_nil, List.nil_append, List.cons_append, List.all_cons, List.all_nil, List.length_cons, List.length_nil, List.replicate_zero, List.replicate_succ, List.any_cons, List.any_nil, List.length_map, eq_self, Option.isSome_some, Option.isSome_none, RUN, RUNC, OB, ↓reduceIte, Nat.reduceSub, Nat.reduceAdd, Nat.reduceLT, Nat.reduceLeDiff, Int.cast_ofNat_Int, Int.reduceEq, Int.reduceLT, Int.reduceLE, Int.reduceAdd, Int.reduceSub, Int.reduceNeg, Int.reduceMul, cstep_, kC0_, kC1_, kC2_, lstep_, kL0_, Ent.d, h1, h2])]
  have e : l.map (fun e => tD (bothOf [e.2, rowsSame r e.1])) = (l.map fun e => bothOf [e.2, rowsSame r e.1]).map tD := by rw [List.map_map]; rfl
  rw [e]
  have h1 : szOk (l.map fun e => bothOf [e.2, rowsSame r e.1]).length = true := szOk_k (by simp; omega)
  have h2 := any_of_ok (n := n) (by omega) (l.map fun e => bothOf [e.2, rowsSame r e.1]) (by simp; omega)
  simp (disch := first | omega | decide +kernel | assumption) only [List.map_cons, List.map_nil, List.append_nil, List.nil_append, List.cons_append, List.all_cons, List.all_nil, List.length_cons, List.length_nil, List.replicate_zero, List.replicate_succ, List.any_cons, List.any_nil, List.length_map, eq_self, Option.isSome_some, Option.isSome_none, RUN, RUNC, OB, ↓reduceIte, Nat.reduceSub, Nat.reduceAdd, Nat.reduceLT, Nat.reduceLeDiff, Int.cast_ofNat_Int, Int.reduceEq, Int.reduceLT, Int.reduceLE, Int.reduceAdd, Int.reduceSub, Int.reduceNeg, Int.reduceMul, cstep_, kC0_, kC1_, kC2_, lstep_, kL0_, h1, h2]
  rfl
theorem joined_rows_ok {n : Nat} (hn : 4 ≤ n) (a b : List Ent) (ps : List (Nat × Nat)) (w o : Nat) (ha : ∀ e ∈ a, entOk w e) (hb : ∀ e ∈ b, entOk o e) (hp : ∀ p ∈ ps, p.1 < w ∧ p.2 < o) (hw : w + o ≤ 8) (hl : a.length * b.length ≤ 1000000) (hps : ps.length ≤ 1000) : callF fds n i_joined [.lst (a.map Ent.d), .lst (b.map Ent.d), pairsD ps] = some (none, (true, .lst ((joinE a b ps).map Ent.d))) := by
  (obtain ⟨n, rfl⟩ : ∃ m, n = m + 1 := ⟨n - 1, by omega⟩; rw [call_joined, runF_eq (by rfl) (by rfl)])
  simp (disch := first | omega | decide +kernel | assumption) only [F_joined, List.map_cons, List.map_nil, List.append_nil, List.nil_append, List.cons_append, List.all_cons, List.all_nil, List.length_cons, List.length_nil, List.replicate_zero, List.replicate_succ, List.any_cons, List.any_nil, List.length_map, eq_self, Option.isSome_some, Option.isSome_none, RUN, RUNC, OB, ↓reduceIte, Nat.reduceSub, Nat.reduceAdd, Nat.reduceLT, Nat.reduceLeDiff, Int.cast_ofNat_Int, Int.reduceEq, Int.reduceLT, Int.reduceLE, Int.reduceAdd, Int.reduceSub, Int.reduceNeg, Int.reduceMul, cstep_, kC0_, kC1_, kC2_, lstep_, kL0_]
  have jl : ∀ dn : List Ent, (dn.flatMap (jrows ps b)).length = dn.length * b.length := fun dn => flatMap_len (jrows ps b) b.length dn fun x _ => by simp [jrows]
  generalize hL : loopF _ _ _ _ = L
  obtain ⟨σ', rfl, dn, s4, s5, s6, s7, hd, rfl⟩ := loopF_i Ent.d hL (fun rest σ => ∃ (dn : List Ent) (s4 s5 s6 s7 : Sl), dn ++ rest = a ∧ σ = [.va (.lst (a.map Ent.d)), .va (.lst (b.map Ent.d)), .va (pairsD ps), .ow (.lst ((dn.flatMap (jrows ps b)).map nfD)), s4, s5, s6, s7, .no, .no]) ⟨[], _, _, _, _, rfl, rfl⟩ (by
    clear hL
    rintro ⟨r, t⟩ rest σ ⟨dn, s4, s5, s6, s7, hd, rfl⟩ hm
    have er := ha _ hm
    have hdl : (dn.length + 1) * b.length ≤ 1000000 := by
      have h1 : dn.length + 1 ≤ a.length := by rw [← hd]; simp
      exact Nat.le_trans (Nat.mul_le_mul_right _ h1) hl
    rw [Nat.add_mul, Nat.one_mul] at hdl
    simp (disch := first | omega | decide +kernel | assumption) only [List.map_cons, List.map_nil, List.append_nil, List.nil_append, List.cons_append, List.all_cons, List.all_nil, List.length_cons, List.length_nil, List.replicate_zero, List.replicate_succ, List.any_cons, List.any_nil, List.length_map, eq_self, Option.isSome_some, Option.isSome_none, RUN, RUNC, OB, ↓reduceIte, Nat.reduceSub, Nat.reduceAdd, Nat.reduceLT, Nat.reduceLeDiff, Int.cast_ofNat_Int, Int.reduceEq, Int.reduceLT, Int.reduceLE, Int.reduceAdd, Int.reduceSub, Int.reduceNeg, Int.reduceMul, cstep_, kC0_, kC1_, kC2_, lstep_, kL0_, Ent.d]
    generalize hL : loopF _ _ _ _ = L
    obtain ⟨σ', rfl, d2, s6', s7', hd2, rfl⟩ := loopF_i Ent.d hL (fun rest σ => ∃ (d2 : List Ent) (s6 s7 : Sl), d2 ++ rest = b ∧ σ = [.va (.lst (a.map Ent.d)), .va (.lst (b.map Ent.d)), .va (pairsD ps), .ow (.lst ((dn.flatMap (jrows ps b) ++ jrows ps d2 (r, t)).map nfD)), .va r.d, .va (tD t), s6, s7, .no, .no]) ⟨[], s6, s7, rfl, by simp [jrows]⟩ (by
      clear hL
      rintro ⟨r2, t2⟩ rest σ ⟨d2, s6, s7, hd2, rfl⟩ hm2
      have er2 := hb _ hm2
      have hl1 : r.length = w := er.1
      have hl2 : r2.length = o := er2.1
      have hx : (dn.flatMap (jrows ps b) ++ jrows ps d2 (r, t)).length < sizeLine := by
        have h1 : d2.length + 1 ≤ b.length := by rw [← hd2]; simp
        rw [List.length_append, jl, sz24]
        simp only [jrows, List.length_map]
        omega
      have ar := add_rows (a := r) (b := r2) (by omega)
      simp (disch := first | omega | decide +kernel | assumption) only [List.map_cons, List.map_nil, List.append_nil, List.nil_append, List.cons_append, List.all_cons, List.all_nil, List.length_cons, List.length_nil, List.replicate_zero, List.replicate_succ, List.any_cons, List.any_nil, List.length_map, eq_self, Option.isSome_some, Option.isSome_none, RUN, RUNC, OB, ↓reduceIte, Nat.reduceSub, Nat.reduceAdd, Nat.reduceLT, Nat.reduceLeDiff, Int.cast_ofNat_Int, Int.reduceEq, Int.reduceLT, Int.reduceLE, Int.reduceAdd, Int.reduceSub, Int.reduceNeg, Int.reduceMul, cstep_, kC0_, kC1_, kC2_, lstep_, kL0_, Ent.d, pairsD, ar]
      rw [compF_all ps pairD2 (fun p => tD (sameC (cellAt r p.1) (cellAt r2 p.2))) (by
        intro p hpp
        have hq := hp p hpp
        have i1 := idx_cell (r := r) (i := p.1) (by omega)
        have i2 := idx_cell (r := r2) (i := p.2) (by omega)
        have i3 := same_c (n := n) (by omega) _ _ (cellAt_T er.2.1 (i := p.1) (by show p.1 < r.length; omega)) (cellAt_T er2.2.1 (i := p.2) (by show p.2 < r2.length; omega))
        simp (disch := first | omega | decide +kernel | assumption) only [List.map_cons, List.map_nil, List.append_nil, List.nil_append, List.cons_append, List.all_cons, List.all_nil, List.length_cons, List.length_nil, List.replicate_zero, List.replicate_succ, List.any_cons, List.any_nil, List.length_map, eq_self, Option.isSome_some, Option.isSome_none, RUN, RUNC, OB, ↓reduceIte, Nat.reduceSub, Nat.reduceAdd, Nat.reduceLT, Nat.reduceLeDiff, Int.cast_ofNat_Int, Int.reduceEq, Int.reduceLT, Int.reduceLE, Int.reduceAdd, Int.reduceSub, Int.reduceNeg, Int.reduceMul, cstep_, kC0_, kC1_, kC2_, lstep_, kL0_, pairD2, i1, i2, i3])]
      have hz : szOk ps.length = true := szOk_k (by omega)
      have al : prD .add [.lst [tD t, tD t2], .lst (ps.map fun p => tD (sameC (cellAt r p.1) (cellAt r2 p.2)))] = some (true, .lst ((jrow ps (r, t) (r2, t2)).2.map tD)) := by
        rw [p_addL (by rw [sz24]; simp; omega)]
        simp [jrow]
      simp (disch := first | omega | decide +kernel | assumption) only [List.map_cons, List.map_nil, List.append_nil, List.nil_append, List.cons_append, List.all_cons, List.all_nil, List.length_cons, List.length_nil, List.replicate_zero, List.replicate_succ, List.any_cons, List.any_nil, List.length_map, eq_self, Option.isSome_some, Option.isSome_none, RUN, RUNC, OB, ↓reduceIte, Nat.reduceSub, Nat.reduceAdd, Nat.reduceLT, Nat.reduceLeDiff, Int.cast_ofNat_Int, Int.reduceEq, Int.reduceLT, Int.reduceLE, Int.reduceAdd, Int.reduceSub, Int.reduceNeg, Int.reduceMul, cstep_, kC0_, kC1_, kC2_, lstep_, kL0_, hz, al, hx]
      refine ⟨_, rfl, d2 ++ [(r2, t2)], .va r2.d, .va (tD t2), by rw [List.append_assoc]; exact hd2, ?_⟩
      rw [show jrows ps (d2 ++ [(r2, t2)]) (r, t) = jrows ps d2 (r, t) ++ [jrow ps (r, t) (r2, t2)] by simp [jrows], ← List.append_assoc, List.map_append (l₁ := dn.flatMap (jrows ps b) ++ jrows ps d2 (r, t))]
      rfl)
    rw [List.append_nil] at hd2
    rw [hd2]
    simp (disch := first | omega | decide +kernel | assumption) only [List.map_cons, List.map_nil, List.append_nil, List.nil_append, List.cons_append, List.all_cons, List.all_nil, List.length_cons, List.length_nil, List.replicate_zero, List.replicate_succ, List.any_cons, List.any_nil, List.length_map, eq_self, Option.isSome_some, Option.isSome_none, RUN, RUNC, OB, ↓reduceIte, Nat.reduceSub, Nat.reduceAdd, Nat.reduceLT, Nat.reduceLeDiff, Int.cast_ofNat_Int, Int.reduceEq, Int.reduceLT, Int.reduceLE, Int.reduceAdd, Int.reduceSub, Int.reduceNeg, Int.reduceMul, cstep_, kC0_, kC1_, kC2_, lstep_, kL0_]
    refine ⟨_, rfl, dn ++ [(r, t)], .va r.d, .va (tD t), s6', s7', by rw [List.append_assoc]; exact hd, ?_⟩
    rw [List.flatMap_append, List.flatMap_cons, List.flatMap_nil, List.append_nil])
  rw [List.append_nil] at hd
  have h1 := not_false_ok (n := n) (by omega) (dn.flatMap (jrows ps b)) (by rw [jl, hd]; exact hl)
  simp (disch := first | omega | decide +kernel | assumption) only [List.map_cons, List.map_nil, List.append_nil, List.nil_append, List.cons_append, List.all_cons, List.all_nil, List.length_cons, List.length_nil, List.replicate_zero, List.replicate_succ, List.any_cons, List.any_nil, List.length_map, eq_self, Option.isSome_some, Option.isSome_none, RUN, RUNC, OB, ↓reduceIte, Nat.reduceSub, Nat.reduceAdd, Nat.reduceLT, Nat.reduceLeDiff, Int.cast_ofNat_Int, Int.reduceEq, Int.reduceLT, Int.reduceLE, Int.reduceAdd, Int.reduceSub, Int.reduceNeg, Int.reduceMul, cstep_, kC0_, kC1_, kC2_, lstep_, kL0_, h1]
  rw [hd]
  rfl
theorem entries_run {ts : List Tab} (ht : ∀ t ∈ ts, t.ok) : ∀ (s : Sent) (n : Nat), s.deep + 6 ≤ n → s.ok (ts.map Tab.wide) → s.many ts ≤ 1000 → callF fds n i_entries [s.d, tabsD ts] = some (none, (true, .lst ((G48.entries ts s).map Ent.d)))
  | .rows t, n, hn, hs, hm => by
    have hs : t < (ts.map Tab.wide).length := hs
    rw [List.length_map] at hs
    (obtain ⟨n, rfl⟩ : ∃ m, n = m + 1 := ⟨n - 1, by omega⟩; rw [call_entries, runF_eq (by rfl) (by rfl)])
    have e1 : atI (ts.map Tab.d) (t : Int) = some (ts[t].d) := atI_nat (by simp [hs])
    have hok := ht _ (List.getElem_mem hs)
    have e2 : G48.entries ts (.rows t) = ts[t].rows.map fun r => (r, some true) := by
      unfold G48.entries
      rw [List.getElem?_eq_getElem hs]; rfl
    rw [e2]
    have hz : szOk (ts[t].rows).length = true := szOk_k (by have := hok.few; omega)
    generalize ts[t] = T at *
    simp (disch := first | omega | decide +kernel | assumption) only [F_entries, List.map_cons, List.map_nil, List.append_nil, List.nil_append, List.cons_append, List.all_cons, List.all_nil, List.length_cons, List.length_nil, List.replicate_zero, List.replicate_succ, List.any_cons, List.any_nil, List.length_map, eq_self, Option.isSome_some, Option.isSome_none, RUN, RUNC, OB, ↓reduceIte, Nat.reduceSub, Nat.reduceAdd, Nat.reduceLT, Nat.reduceLeDiff, Int.cast_ofNat_Int, Int.reduceEq, Int.reduceLT, Int.reduceLE, Int.reduceAdd, Int.reduceSub, Int.reduceNeg, Int.reduceMul, cstep_, kC0_, kC1_, kC2_, lstep_, kL0_, Sent.d, tabsD, e1, Tab.d, rowsD]
    rw [compF_all T.rows Row.d (fun r => Ent.d (r, some true)) (by
      intro r hr
      simp (disch := first | omega | decide +kernel | assumption) only [List.map_cons, List.map_nil, List.append_nil, List.nil_append, List.cons_append, List.all_cons, List.all_nil, List.length_cons, List.length_nil, List.replicate_zero, List.replicate_succ, List.any_cons, List.any_nil, List.length_map, eq_self, Option.isSome_some, Option.isSome_none, RUN, RUNC, OB, ↓reduceIte, Nat.reduceSub, Nat.reduceAdd, Nat.reduceLT, Nat.reduceLeDiff, Int.cast_ofNat_Int, Int.reduceEq, Int.reduceLT, Int.reduceLE, Int.reduceAdd, Int.reduceSub, Int.reduceNeg, Int.reduceMul, cstep_, kC0_, kC1_, kC2_, lstep_, kL0_]
      rfl)]
    simp (disch := first | omega | decide +kernel | assumption) only [List.map_cons, List.map_nil, List.append_nil, List.nil_append, List.cons_append, List.all_cons, List.all_nil, List.length_cons, List.length_nil, List.replicate_zero, List.replicate_succ, List.any_cons, List.any_nil, List.length_map, eq_self, Option.isSome_some, Option.isSome_none, RUN, RUNC, OB, ↓reduceIte, Nat.reduceSub, Nat.reduceAdd, Nat.reduceLT, Nat.reduceLeDiff, Int.cast_ofNat_Int, Int.reduceEq, Int.reduceLT, Int.reduceLE, Int.reduceAdd, Int.reduceSub, Int.reduceNeg, Int.reduceMul, cstep_, kC0_, kC1_, kC2_, lstep_, kL0_, hz]
    rw [List.map_map]
    rfl
  | .keep s c, n, hn, hs, hm => by
    simp only [Sent.deep] at hn
    have hm : s.many ts ≤ 1000 := hm
    (obtain ⟨n, rfl⟩ : ∃ m, n = m + 1 := ⟨n - 1, by omega⟩; rw [call_entries, runF_eq (by rfl) (by rfl)])
    have h1 := entries_run ht s n (by omega) hs.1 hm
    have hl := entries_len ts s
    have hok := entries_ok ht s hs.1
    simp (disch := first | omega | decide +kernel | assumption) only [F_entries, List.map_cons, List.map_nil, List.append_nil, List.nil_append, List.cons_append, List.all_cons, List.all_nil, List.length_cons, List.length_nil, List.replicate_zero, List.replicate_succ, List.any_cons, List.any_nil, List.length_map, eq_self, Option.isSome_some, Option.isSome_none, RUN, RUNC, OB, ↓reduceIte, Nat.reduceSub, Nat.reduceAdd, Nat.reduceLT, Nat.reduceLeDiff, Int.cast_ofNat_Int, Int.reduceEq, Int.reduceLT, Int.reduceLE, Int.reduceAdd, Int.reduceSub, Int.reduceNeg, Int.reduceMul, cstep_, kC0_, kC1_, kC2_, lstep_, kL0_, Sent.d, h1]
    rw [compF_all (G48.entries ts s) Ent.d (fun e => nfD (e.1, [e.2, truth e.1 c])) (by
      rintro ⟨r, t⟩ he
      have ok := hok _ he
      have := truth_of_ok r (fun x hx => by have := ok.2.1 x hx; cases x; trivial; exact this) c n (by omega) (by rw [show r.length = _ from ok.1]; exact hs.2)
      simp (disch := first | omega | decide +kernel | assumption) only [List.map_cons, List.map_nil, List.append_nil, List.nil_append, List.cons_append, List.all_cons, List.all_nil, List.length_cons, List.length_nil, List.replicate_zero, List.replicate_succ, List.any_cons, List.any_nil, List.length_map, eq_self, Option.isSome_some, Option.isSome_none, RUN, RUNC, OB, ↓reduceIte, Nat.reduceSub, Nat.reduceAdd, Nat.reduceLT, Nat.reduceLeDiff, Int.cast_ofNat_Int, Int.reduceEq, Int.reduceLT, Int.reduceLE, Int.reduceAdd, Int.reduceSub, Int.reduceNeg, Int.reduceMul, cstep_, kC0_, kC1_, kC2_, lstep_, kL0_, Ent.d, this]
      rfl)]
    have e : (G48.entries ts s).map (fun e => nfD (e.1, [e.2, truth e.1 c])) = ((G48.entries ts s).map fun e => (e.1, [e.2, truth e.1 c])).map nfD := by rw [List.map_map]; rfl
    rw [e]
    have hz : szOk ((G48.entries ts s).map fun e => (e.1, [e.2, truth e.1 c])).length = true := szOk_k (by simp; omega)
    have h2 := not_false_ok (n := n) (by omega) ((G48.entries ts s).map fun e => (e.1, [e.2, truth e.1 c])) (by simp; omega)
    rw [show G48.entries ts (.keep s c) = notFalse ((G48.entries ts s).map fun e => (e.1, [e.2, truth e.1 c])) from rfl]
    generalize ((G48.entries ts s).map fun e => (e.1, [e.2, truth e.1 c])) = xs at *
    simp (disch := first | omega | decide +kernel | assumption) only [List.map_cons, List.map_nil, List.append_nil, List.nil_append, List.cons_append, List.all_cons, List.all_nil, List.length_cons, List.length_nil, List.replicate_zero, List.replicate_succ, List.any_cons, List.any_nil, List.length_map, eq_self, Option.isSome_some, Option.isSome_none, RUN, RUNC, OB, ↓reduceIte, Nat.reduceSub, Nat.reduceAdd, Nat.reduceLT, Nat.reduceLeDiff, Int.cast_ofNat_Int, Int.reduceEq, Int.reduceLT, Int.reduceLE, Int.reduceAdd, Int.reduceSub, Int.reduceNeg, Int.reduceMul, cstep_, kC0_, kC1_, kC2_, lstep_, kL0_, hz, h2]
  | .pick s cs, n, hn, hs, hm => by
    simp only [Sent.deep] at hn
    have hm : s.many ts ≤ 1000 := hm
    (obtain ⟨n, rfl⟩ : ∃ m, n = m + 1 := ⟨n - 1, by omega⟩; rw [call_entries, runF_eq (by rfl) (by rfl)])
    have h1 := entries_run ht s n (by omega) hs.1 hm
    have hl := entries_len ts s
    have hok := entries_ok ht s hs.1
    have hz : szOk (G48.entries ts s).length = true := szOk_k (by omega)
    have hc8 := hs.2.2.1
    have hz2 : szOk cs.length = true := szOk_k (by omega)
    simp (disch := first | omega | decide +kernel | assumption) only [F_entries, List.map_cons, List.map_nil, List.append_nil, List.nil_append, List.cons_append, List.all_cons, List.all_nil, List.length_cons, List.length_nil, List.replicate_zero, List.replicate_succ, List.any_cons, List.any_nil, List.length_map, eq_self, Option.isSome_some, Option.isSome_none, RUN, RUNC, OB, ↓reduceIte, Nat.reduceSub, Nat.reduceAdd, Nat.reduceLT, Nat.reduceLeDiff, Int.cast_ofNat_Int, Int.reduceEq, Int.reduceLT, Int.reduceLE, Int.reduceAdd, Int.reduceSub, Int.reduceNeg, Int.reduceMul, cstep_, kC0_, kC1_, kC2_, lstep_, kL0_, Sent.d, h1]
    rw [compF_all (G48.entries ts s) Ent.d (fun e => Ent.d (pickR cs e.1, e.2)) (by
      rintro ⟨r, t⟩ he
      have ok := hok _ he
      simp (disch := first | omega | decide +kernel | assumption) only [List.map_cons, List.map_nil, List.append_nil, List.nil_append, List.cons_append, List.all_cons, List.all_nil, List.length_cons, List.length_nil, List.replicate_zero, List.replicate_succ, List.any_cons, List.any_nil, List.length_map, eq_self, Option.isSome_some, Option.isSome_none, RUN, RUNC, OB, ↓reduceIte, Nat.reduceSub, Nat.reduceAdd, Nat.reduceLT, Nat.reduceLeDiff, Int.cast_ofNat_Int, Int.reduceEq, Int.reduceLT, Int.reduceLE, Int.reduceAdd, Int.reduceSub, Int.reduceNeg, Int.reduceMul, cstep_, kC0_, kC1_, kC2_, lstep_, kL0_, Ent.d, natsD]
      rw [compF_all cs _ (fun c => (cellAt r c).d) (by
        intro c hc
        have i1 := idx_cell (r := r) (i := c) (by rw [show r.length = _ from ok.1]; exact hs.2.2.2 c hc)
        simp (disch := first | omega | decide +kernel | assumption) only [List.map_cons, List.map_nil, List.append_nil, List.nil_append, List.cons_append, List.all_cons, List.all_nil, List.length_cons, List.length_nil, List.replicate_zero, List.replicate_succ, List.any_cons, List.any_nil, List.length_map, eq_self, Option.isSome_some, Option.isSome_none, RUN, RUNC, OB, ↓reduceIte, Nat.reduceSub, Nat.reduceAdd, Nat.reduceLT, Nat.reduceLeDiff, Int.cast_ofNat_Int, Int.reduceEq, Int.reduceLT, Int.reduceLE, Int.reduceAdd, Int.reduceSub, Int.reduceNeg, Int.reduceMul, cstep_, kC0_, kC1_, kC2_, lstep_, kL0_, i1])]
      simp (disch := first | omega | decide +kernel | assumption) only [List.map_cons, List.map_nil, List.append_nil, List.nil_append, List.cons_append, List.all_cons, List.all_nil, List.length_cons, List.length_nil, List.replicate_zero, List.replicate_succ, List.any_cons, List.any_nil, List.length_map, eq_self, Option.isSome_some, Option.isSome_none, RUN, RUNC, OB, ↓reduceIte, Nat.reduceSub, Nat.reduceAdd, Nat.reduceLT, Nat.reduceLeDiff, Int.cast_ofNat_Int, Int.reduceEq, Int.reduceLT, Int.reduceLE, Int.reduceAdd, Int.reduceSub, Int.reduceNeg, Int.reduceMul, cstep_, kC0_, kC1_, kC2_, lstep_, kL0_, hz2]
      simp [pickR, Row.d])]
    simp (disch := first | omega | decide +kernel | assumption) only [List.map_cons, List.map_nil, List.append_nil, List.nil_append, List.cons_append, List.all_cons, List.all_nil, List.length_cons, List.length_nil, List.replicate_zero, List.replicate_succ, List.any_cons, List.any_nil, List.length_map, eq_self, Option.isSome_some, Option.isSome_none, RUN, RUNC, OB, ↓reduceIte, Nat.reduceSub, Nat.reduceAdd, Nat.reduceLT, Nat.reduceLeDiff, Int.cast_ofNat_Int, Int.reduceEq, Int.reduceLT, Int.reduceLE, Int.reduceAdd, Int.reduceSub, Int.reduceNeg, Int.reduceMul, cstep_, kC0_, kC1_, kC2_, lstep_, kL0_, hz]
    rw [show G48.entries ts (.pick s cs) = (G48.entries ts s).map fun e => (pickR cs e.1, e.2) from rfl, List.map_map]
    rfl
  | .join x y ps, n, hn, hs, hm => by
    simp only [Sent.deep] at hn
    simp only [Sent.many] at hm
    (obtain ⟨n, rfl⟩ : ∃ m, n = m + 1 := ⟨n - 1, by omega⟩; rw [call_entries, runF_eq (by rfl) (by rfl)])
    have h1 := entries_run ht x n (by omega) hs.1 (by omega)
    have h2 := entries_run ht y n (by omega) hs.2.1 (by omega)
    have l1 := entries_len ts x
    have l2 := entries_len ts y
    have h3 := joined_rows_ok (n := n) (by omega) (G48.entries ts x) (G48.entries ts y) ps _ _ (entries_ok ht x hs.1) (entries_ok ht y hs.2.1) hs.2.2.2.2 hs.2.2.1 (by have := Nat.mul_le_mul l1 l2; omega) (by have := hs.2.2.2.1; omega)
    simp (disch := first | omega | decide +kernel | assumption) only [F_entries, List.map_cons, List.map_nil, List.append_nil, List.nil_append, List.cons_append, List.all_cons, List.all_nil, List.length_cons, List.length_nil, List.replicate_zero, List.replicate_succ, List.any_cons, List.any_nil, List.length_map, eq_self, Option.isSome_some, Option.isSome_none, RUN, RUNC, OB, ↓reduceIte, Nat.reduceSub, Nat.reduceAdd, Nat.reduceLT, Nat.reduceLeDiff, Int.cast_ofNat_Int, Int.reduceEq, Int.reduceLT, Int.reduceLE, Int.reduceAdd, Int.reduceSub, Int.reduceNeg, Int.reduceMul, cstep_, kC0_, kC1_, kC2_, lstep_, kL0_, Sent.d, h1, h2, h3]
    rfl
  | .both x y, n, hn, hs, hm => by
    simp only [Sent.deep] at hn
    simp only [Sent.many] at hm
    (obtain ⟨n, rfl⟩ : ∃ m, n = m + 1 := ⟨n - 1, by omega⟩; rw [call_entries, runF_eq (by rfl) (by rfl)])
    have h1 := entries_run ht x n (by omega) hs.1 (by omega)
    have h2 := entries_run ht y n (by omega) hs.2.1 (by omega)
    have l1 := entries_len ts x
    have l2 := entries_len ts y
    have h3 : prD .add [.lst ((G48.entries ts x).map Ent.d), .lst ((G48.entries ts y).map Ent.d)] = some (true, .lst ((G48.entries ts x).map Ent.d ++ (G48.entries ts y).map Ent.d)) := p_addL (by rw [sz24]; simp; omega)
    simp (disch := first | omega | decide +kernel | assumption) only [F_entries, List.map_cons, List.map_nil, List.append_nil, List.nil_append, List.cons_append, List.all_cons, List.all_nil, List.length_cons, List.length_nil, List.replicate_zero, List.replicate_succ, List.any_cons, List.any_nil, List.length_map, eq_self, Option.isSome_some, Option.isSome_none, RUN, RUNC, OB, ↓reduceIte, Nat.reduceSub, Nat.reduceAdd, Nat.reduceLT, Nat.reduceLeDiff, Int.cast_ofNat_Int, Int.reduceEq, Int.reduceLT, Int.reduceLE, Int.reduceAdd, Int.reduceSub, Int.reduceNeg, Int.reduceMul, cstep_, kC0_, kC1_, kC2_, lstep_, kL0_, Sent.d, h1, h2, h3]
    rw [show G48.entries ts (.both x y) = G48.entries ts x ++ G48.entries ts y from rfl, List.map_append]
  | .without x y, n, hn, hs, hm => by
    simp only [Sent.deep] at hn
    simp only [Sent.many] at hm
    (obtain ⟨n, rfl⟩ : ∃ m, n = m + 1 := ⟨n - 1, by omega⟩; rw [call_entries, runF_eq (by rfl) (by rfl)])
    have h1 := entries_run ht x n (by omega) hs.1 (by omega)
    have h2 := entries_run ht y n (by omega) hs.2.1 (by omega)
    have l1 := entries_len ts x
    have l2 := entries_len ts y
    have okx := entries_ok ht x hs.1
    have oky := entries_ok ht y hs.2.1
    have w8 : x.wide (ts.map Tab.wide) ≤ 8 := Sent.wide_le (fun w hw => by
      obtain ⟨t, ht', rfl⟩ := List.mem_map.mp hw
      have := (ht t ht').hi
      omega) x hs.1
    simp (disch := first | omega | decide +kernel | assumption) only [F_entries, List.map_cons, List.map_nil, List.append_nil, List.nil_append, List.cons_append, List.all_cons, List.all_nil, List.length_cons, List.length_nil, List.replicate_zero, List.replicate_succ, List.any_cons, List.any_nil, List.length_map, eq_self, Option.isSome_some, Option.isSome_none, RUN, RUNC, OB, ↓reduceIte, Nat.reduceSub, Nat.reduceAdd, Nat.reduceLT, Nat.reduceLeDiff, Int.cast_ofNat_Int, Int.reduceEq, Int.reduceLT, Int.reduceLE, Int.reduceAdd, Int.reduceSub, Int.reduceNeg, Int.reduceMul, cstep_, kC0_, kC1_, kC2_, lstep_, kL0_, Sent.d, h1, h2]
    rw [compF_all (G48.entries ts x) Ent.d (fun e => nfD (e.1, [e.2, noT (isAmong e.1 (G48.entries ts y))])) (by
      rintro ⟨r, t⟩ he
      have ok := okx _ he
      have i1 := is_among_ok (n := n) (by omega) r (G48.entries ts y) ok.2.1 (fun e h => (oky e h).2.1) (by rw [show r.length = _ from ok.1]; omega) (by omega)
      have i2 := no_ok (n := n) (by omega) (isAmong r (G48.entries ts y))
      simp (disch := first | omega | decide +kernel | assumption) only [List.map_cons, List.map_nil, List.append_nil, List.nil_append, List.cons_append, List.all_cons, List.all_nil, List.length_cons, List.length_nil, List.replicate_zero, List.replicate_succ, List.any_cons, List.any_nil, List.length_map, eq_self, Option.isSome_some, Option.isSome_none, RUN, RUNC, OB, ↓reduceIte, Nat.reduceSub, Nat.reduceAdd, Nat.reduceLT, Nat.reduceLeDiff, Int.cast_ofNat_Int, Int.reduceEq, Int.reduceLT, Int.reduceLE, Int.reduceAdd, Int.reduceSub, Int.reduceNeg, Int.reduceMul, cstep_, kC0_, kC1_, kC2_, lstep_, kL0_, Ent.d, i1, i2]
      rfl)]
    have e : (G48.entries ts x).map (fun e => nfD (e.1, [e.2, noT (isAmong e.1 (G48.entries ts y))])) = ((G48.entries ts x).map fun e => (e.1, [e.2, noT (isAmong e.1 (G48.entries ts y))])).map nfD := by rw [List.map_map]; rfl
    rw [e]
    have hz : szOk ((G48.entries ts x).map fun e => (e.1, [e.2, noT (isAmong e.1 (G48.entries ts y))])).length = true := szOk_k (by simp; omega)
    have h3 := not_false_ok (n := n) (by omega) ((G48.entries ts x).map fun e => (e.1, [e.2, noT (isAmong e.1 (G48.entries ts y))])) (by simp; omega)
    rw [show G48.entries ts (.without x y) = notFalse ((G48.entries ts x).map fun e => (e.1, [e.2, noT (isAmong e.1 (G48.entries ts y))])) from rfl]
    generalize ((G48.entries ts x).map fun e => (e.1, [e.2, noT (isAmong e.1 (G48.entries ts y))])) = xs at *
    simp (disch := first | omega | decide +kernel | assumption) only [List.map_cons, List.map_nil, List.append_nil, List.nil_append, List.cons_append, List.all_cons, List.all_nil, List.length_cons, List.length_nil, List.replicate_zero, List.replicate_succ, List.any_cons, List.any_nil, List.length_map, eq_self, Option.isSome_some, Option.isSome_none, RUN, RUNC, OB, ↓reduceIte, Nat.reduceSub, Nat.reduceAdd, Nat.reduceLT, Nat.reduceLeDiff, Int.cast_ofNat_Int, Int.reduceEq, Int.reduceLT, Int.reduceLE, Int.reduceAdd, Int.reduceSub, Int.reduceNeg, Int.reduceMul, cstep_, kC0_, kC1_, kC2_, lstep_, kL0_, hz, h3]
theorem run_ok {ts : List Tab} (h1 : 1 ≤ ts.length) (h3 : ts.length ≤ 3) (ht : ∀ t ∈ ts, t.ok) (s : Sent) (n : Nat) (hn : s.deep + 8 ≤ n) (hs : s.ok (ts.map Tab.wide)) (hk : s.size ≤ 60) (hm : s.many ts ≤ 1000) : callF fds n i_run [s.d, tabsD ts] = some (none, (true, runD (G48.entries ts s))) := by
  (obtain ⟨n, rfl⟩ : ∃ m, n = m + 1 := ⟨n - 1, by omega⟩; rw [call_run, runF_eq (by rfl) (by rfl)])
  have t1 := need_tables_ok (n := n) (by omega) ts h1 h3 ht
  have t2 := widths_of_ok (n := n) (by omega) ts (by omega)
  have t3 := wide_of_ok (ts.map Tab.wide) (fun w hw => by
      obtain ⟨t, ht', rfl⟩ := List.mem_map.mp hw
      have := (ht t ht').hi
      omega) (by simp; omega) s n (by omega) hs hk
  have t4 := entries_run ht s n (by omega) hs hm
  have hl := entries_len ts s
  have hz : szOk (G48.entries ts s).length = true := szOk_k (by omega)
  unfold widD at t2 t3
  simp (disch := first | omega | decide +kernel | assumption) only [F_run, List.map_cons, List.map_nil, List.append_nil, List.nil_append, List.cons_append, List.all_cons, List.all_nil, List.length_cons, List.length_nil, List.replicate_zero, List.replicate_succ, List.any_cons, List.any_nil, List.length_map, eq_self, Option.isSome_some, Option.isSome_none, RUN, RUNC, OB, ↓reduceIte, Nat.reduceSub, Nat.reduceAdd, Nat.reduceLT, Nat.reduceLeDiff, Int.cast_ofNat_Int, Int.reduceEq, Int.reduceLT, Int.reduceLE, Int.reduceAdd, Int.reduceSub, Int.reduceNeg, Int.reduceMul, cstep_, kC0_, kC1_, kC2_, lstep_, kL0_, t1, t2, t3, t4]
  rw [compF_all (G48.entries ts s) Ent.d (fun e => D.tup [Row.d e.1, .str (markS e.2)]) (by
    rintro ⟨r, t⟩ he
    rcases t with _ | ⟨_ | _⟩ <;> (simp (disch := first | omega | decide +kernel | assumption) only [List.map_cons, List.map_nil, List.append_nil, List.nil_append, List.cons_append, List.all_cons, List.all_nil, List.length_cons, List.length_nil, List.replicate_zero, List.replicate_succ, List.any_cons, List.any_nil, List.length_map, eq_self, Option.isSome_some, Option.isSome_none, RUN, RUNC, OB, ↓reduceIte, Nat.reduceSub, Nat.reduceAdd, Nat.reduceLT, Nat.reduceLeDiff, Int.cast_ofNat_Int, Int.reduceEq, Int.reduceLT, Int.reduceLE, Int.reduceAdd, Int.reduceSub, Int.reduceNeg, Int.reduceMul, cstep_, kC0_, kC1_, kC2_, lstep_, kL0_, Ent.d, markS]) <;> rfl)]
  simp (disch := first | omega | decide +kernel | assumption) only [List.map_cons, List.map_nil, List.append_nil, List.nil_append, List.cons_append, List.all_cons, List.all_nil, List.length_cons, List.length_nil, List.replicate_zero, List.replicate_succ, List.any_cons, List.any_nil, List.length_map, eq_self, Option.isSome_some, Option.isSome_none, RUN, RUNC, OB, ↓reduceIte, Nat.reduceSub, Nat.reduceAdd, Nat.reduceLT, Nat.reduceLeDiff, Int.cast_ofNat_Int, Int.reduceEq, Int.reduceLT, Int.reduceLE, Int.reduceAdd, Int.reduceSub, Int.reduceNeg, Int.reduceMul, cstep_, kC0_, kC1_, kC2_, lstep_, kL0_, hz]
  rfl
/-! the dice -/
theorem next_ok {n : Nat} (s : List Int) (q : Dq) (m : Int) (hn : 1 ≤ n) (h0 : 0 < m) (h1 : m < 1073741824) : callF fds n i_law_next [dice s q, .int m] = some (some (dice s (nxQ s q m)), (false, .int (nxV s q m))) := by
  (obtain ⟨n, rfl⟩ : ∃ m, n = m + 1 := ⟨n - 1, by omega⟩; rw [call_law_next, runF_eq (by rfl) (by rfl)])
  unfold nxQ nxV
  by_cases c1 : 0 < q.c
  · rw [if_pos c1, if_pos c1]
    have e1 : decide (0 < q.c) = true := decide_eq_true c1
    simp (disch := first | omega | decide +kernel | assumption) only [F_law_next, List.map_cons, List.map_nil, List.append_nil, List.nil_append, List.cons_append, List.all_cons, List.all_nil, List.length_cons, List.length_nil, List.replicate_zero, List.replicate_succ, List.any_cons, List.any_nil, List.length_map, eq_self, Option.isSome_some, Option.isSome_none, RUN, RUNC, OB, ↓reduceIte, Nat.reduceSub, Nat.reduceAdd, Nat.reduceLT, Nat.reduceLeDiff, Int.cast_ofNat_Int, Int.reduceEq, Int.reduceLT, Int.reduceLE, Int.reduceAdd, Int.reduceSub, Int.reduceNeg, Int.reduceMul, cstep_, kC0_, kC1_, kC2_, lstep_, kL0_, dice, e1, put4_1, put4_2, put4_3]
  · rw [if_neg c1, if_neg c1]
    have e1 : decide (0 < q.c) = false := decide_eq_false c1
    by_cases c2 : q.a + 1 ≤ s.length
    · rw [if_pos c2, if_pos c2]
      have e2 : decide ((q.a : Int) + 1 ≤ (s.length : Int)) = true := decide_eq_true (by omega)
      have e3 : atI s ((q.a : Int) + 1 - 1) = some (s.getD q.a 0) := by
        rw [show (q.a : Int) + 1 - 1 = (q.a : Int) by omega]
        exact atI_nat (by simp [List.getElem?_eq_getElem (show q.a < s.length by omega)])
      by_cases c3 : 1000000000000000000 ≤ s.getD q.a 0
      · have e4 : decide (1000000000000000000 ≤ s.getD q.a 0) = true := decide_eq_true c3
        rw [if_pos c3]
        simp (disch := first | omega | decide +kernel | assumption) only [F_law_next, List.map_cons, List.map_nil, List.append_nil, List.nil_append, List.cons_append, List.all_cons, List.all_nil, List.length_cons, List.length_nil, List.replicate_zero, List.replicate_succ, List.any_cons, List.any_nil, List.length_map, eq_self, Option.isSome_some, Option.isSome_none, RUN, RUNC, OB, ↓reduceIte, Nat.reduceSub, Nat.reduceAdd, Nat.reduceLT, Nat.reduceLeDiff, Int.cast_ofNat_Int, Int.reduceEq, Int.reduceLT, Int.reduceLE, Int.reduceAdd, Int.reduceSub, Int.reduceNeg, Int.reduceMul, cstep_, kC0_, kC1_, kC2_, lstep_, kL0_, dice, e1, e2, e3, e4, put4_1, put4_2, put4_3, Option.map_some]
        rfl
      · have e4 : decide (1000000000000000000 ≤ s.getD q.a 0) = false := decide_eq_false c3
        rw [if_neg c3]
        simp (disch := first | omega | decide +kernel | assumption) only [F_law_next, List.map_cons, List.map_nil, List.append_nil, List.nil_append, List.cons_append, List.all_cons, List.all_nil, List.length_cons, List.length_nil, List.replicate_zero, List.replicate_succ, List.any_cons, List.any_nil, List.length_map, eq_self, Option.isSome_some, Option.isSome_none, RUN, RUNC, OB, ↓reduceIte, Nat.reduceSub, Nat.reduceAdd, Nat.reduceLT, Nat.reduceLeDiff, Int.cast_ofNat_Int, Int.reduceEq, Int.reduceLT, Int.reduceLE, Int.reduceAdd, Int.reduceSub, Int.reduceNeg, Int.reduceMul, cstep_, kC0_, kC1_, kC2_, lstep_, kL0_, dice, e1, e2, e3, e4, put4_1, put4_2, put4_3, Option.map_some]
        rfl
    · rw [if_neg c2, if_neg c2]
      have e2 : decide ((q.a : Int) + 1 ≤ (s.length : Int)) = false := decide_eq_false (by omega)
      simp (disch := first | omega | decide +kernel | assumption) only [F_law_next, List.map_cons, List.map_nil, List.append_nil, List.nil_append, List.cons_append, List.all_cons, List.all_nil, List.length_cons, List.length_nil, List.replicate_zero, List.replicate_succ, List.any_cons, List.any_nil, List.length_map, eq_self, Option.isSome_some, Option.isSome_none, RUN, RUNC, OB, ↓reduceIte, Nat.reduceSub, Nat.reduceAdd, Nat.reduceLT, Nat.reduceLeDiff, Int.cast_ofNat_Int, Int.reduceEq, Int.reduceLT, Int.reduceLE, Int.reduceAdd, Int.reduceSub, Int.reduceNeg, Int.reduceMul, cstep_, kC0_, kC1_, kC2_, lstep_, kL0_, dice, e1, e2, put4_1, put4_2, put4_3]
      rfl
theorem dice_ok {n : Nat} (s : List Int) (hn : 1 ≤ n) : ∃ q : Dq, callF fds n i_law_dice [.scr s] = some (none, (true, dice s q)) := by
  (obtain ⟨n, rfl⟩ : ∃ m, n = m + 1 := ⟨n - 1, by omega⟩; rw [call_law_dice, runF_eq (by rfl) (by rfl)])
  simp (disch := first | omega | decide +kernel | assumption) only [F_law_dice, List.map_cons, List.map_nil, List.append_nil, List.nil_append, List.cons_append, List.all_cons, List.all_nil, List.length_cons, List.length_nil, List.replicate_zero, List.replicate_succ, List.any_cons, List.any_nil, List.length_map, eq_self, Option.isSome_some, Option.isSome_none, RUN, RUNC, OB, ↓reduceIte, Nat.reduceSub, Nat.reduceAdd, Nat.reduceLT, Nat.reduceLeDiff, Int.cast_ofNat_Int, Int.reduceEq, Int.reduceLT, Int.reduceLE, Int.reduceAdd, Int.reduceSub, Int.reduceNeg, Int.reduceMul, cstep_, kC0_, kC1_, kC2_, lstep_, kL0_]
  generalize hL : loopF _ _ _ _ = L
  obtain ⟨σ', rfl, x, s2, rfl⟩ := loopF_i D.int hL (fun _ σ => ∃ (x : Int) (s2 : Sl), σ = [Sl.va (.scr s), Sl.va (.int x), s2]) ⟨_, _, rfl⟩ (by
    rintro i rest σ ⟨x, s2, rfl⟩ hm
    apply ex_nx
    · simp (disch := first | omega | decide +kernel | assumption) only [List.map_cons, List.map_nil, List.append_nil, List.nil_append, List.cons_append, List.all_cons, List.all_nil, List.length_cons, List.length_nil, List.replicate_zero, List.replicate_succ, List.any_cons, List.any_nil, List.length_map, eq_self, Option.isSome_some, Option.isSome_none, RUN, RUNC, OB, ↓reduceIte, Nat.reduceSub, Nat.reduceAdd, Nat.reduceLT, Nat.reduceLeDiff, Int.cast_ofNat_Int, Int.reduceEq, Int.reduceLT, Int.reduceLE, Int.reduceAdd, Int.reduceSub, Int.reduceNeg, Int.reduceMul, cstep_, kC0_, kC1_, kC2_, lstep_, kL0_]
      rfl
    · exact ⟨_, _, rfl⟩)
  have e := big01 (decide (2 < (s.length : Int)))
  simp (disch := first | omega | decide +kernel | assumption) only [List.map_cons, List.map_nil, List.append_nil, List.nil_append, List.cons_append, List.all_cons, List.all_nil, List.length_cons, List.length_nil, List.replicate_zero, List.replicate_succ, List.any_cons, List.any_nil, List.length_map, eq_self, Option.isSome_some, Option.isSome_none, RUN, RUNC, OB, ↓reduceIte, Nat.reduceSub, Nat.reduceAdd, Nat.reduceLT, Nat.reduceLeDiff, Int.cast_ofNat_Int, Int.reduceEq, Int.reduceLT, Int.reduceLE, Int.reduceAdd, Int.reduceSub, Int.reduceNeg, Int.reduceMul, cstep_, kC0_, kC1_, kC2_, lstep_, kL0_, e]
  exact ⟨⟨0, _, _⟩, rfl⟩
/-! cells, parts, conditions, drawn -/
theorem law_cell_ex (s : List Int) (q : Dq) (ns : List Int) (h0 : ns ≠ []) (hl : ns.length ≤ 1000) (h : ∀ x ∈ ns, 0 ≤ x ∧ x ≤ 9) :
    ∃ (q' : Dq) (c : Cell), cellT c ∧ ∀ n, 2 ≤ n → callF fds n i_law_cell [dice s q, .lst (ns.map D.int)] = some (some (dice s q'), (false, c.d)) := by
  have hp : 0 < ns.length := List.length_pos_iff.mpr h0
  have w0 := nxV_lo (s := s) (q := q) (m := 8) (by omega)
  by_cases c1 : nxV s q 8 < 4
  · refine ⟨nxQ s (nxQ s q 8) 3, .num (nxV s (nxQ s q 8) 3), ?_, fun n hn => ?_⟩
    · have h1 := nxV_lo (s := s) (q := nxQ s q 8) (m := 3) (by omega)
      have h2 := nxV_hi (s := s) (q := nxQ s q 8) (m := 3) (by omega)
      exact ⟨h1, by omega⟩
    · (obtain ⟨n, rfl⟩ : ∃ m, n = m + 1 := ⟨n - 1, by omega⟩; rw [call_law_cell, runF_eq (by rfl) (by rfl)])
      simp (disch := first | omega | decide +kernel | assumption) only [F_law_cell, List.map_cons, List.map_nil, List.append_nil, List.nil_append, List.cons_append, List.all_cons, List.all_nil, List.length_cons, List.length_nil, List.replicate_zero, List.replicate_succ, List.any_cons, List.any_nil, List.length_map, eq_self, Option.isSome_some, Option.isSome_none, RUN, RUNC, OB, ↓reduceIte, Nat.reduceSub, Nat.reduceAdd, Nat.reduceLT, Nat.reduceLeDiff, Int.cast_ofNat_Int, Int.reduceEq, Int.reduceLT, Int.reduceLE, Int.reduceAdd, Int.reduceSub, Int.reduceNeg, Int.reduceMul, cstep_, kC0_, kC1_, kC2_, lstep_, kL0_, next_ok, decide_eq_true c1]
  · by_cases c2 : nxV s q 8 = 4
    · obtain ⟨x, hx, e⟩ := atQ_map [nxV s (nxQ s q 8) 100, 99, 3] D.int (nxV s (nxQ s (nxQ s q 8) 100) 3) (nxV_lo (by omega)) (by have := nxV_hi (s := s) (q := nxQ s (nxQ s q 8) 100) (m := 3) (by omega); simpa using this)
      refine ⟨nxQ s (nxQ s (nxQ s q 8) 100) 3, .num x, ?_, fun n hn => ?_⟩
      · have h1 := nxV_lo (s := s) (q := nxQ s q 8) (m := 100) (by omega)
        have h2 := nxV_hi (s := s) (q := nxQ s q 8) (m := 100) (by omega)
        simp only [List.mem_cons, List.not_mem_nil, or_false] at hx
        rcases hx with rfl | rfl | rfl
        · exact ⟨h1, by omega⟩
        · exact ⟨by omega, by omega⟩
        · exact ⟨by omega, by omega⟩
      · (obtain ⟨n, rfl⟩ : ∃ m, n = m + 1 := ⟨n - 1, by omega⟩; rw [call_law_cell, runF_eq (by rfl) (by rfl)])
        simp only [List.map_cons, List.map_nil] at e
        simp (disch := first | omega | decide +kernel | assumption) only [F_law_cell, List.map_cons, List.map_nil, List.append_nil, List.nil_append, List.cons_append, List.all_cons, List.all_nil, List.length_cons, List.length_nil, List.replicate_zero, List.replicate_succ, List.any_cons, List.any_nil, List.length_map, eq_self, Option.isSome_some, Option.isSome_none, RUN, RUNC, OB, ↓reduceIte, Nat.reduceSub, Nat.reduceAdd, Nat.reduceLT, Nat.reduceLeDiff, Int.cast_ofNat_Int, Int.reduceEq, Int.reduceLT, Int.reduceLE, Int.reduceAdd, Int.reduceSub, Int.reduceNeg, Int.reduceMul, cstep_, kC0_, kC1_, kC2_, lstep_, kL0_, next_ok, decide_eq_false c1, c2, e]
    · obtain ⟨x, hx, e⟩ := atQ_map ns D.int (nxV s (nxQ s q 8) (ns.length : Int)) (nxV_lo (by omega)) (nxV_hi (by omega))
      refine ⟨nxQ s (nxQ s q 8) (ns.length : Int), .gap x, h x hx, fun n hn => ?_⟩
      (obtain ⟨n, rfl⟩ : ∃ m, n = m + 1 := ⟨n - 1, by omega⟩; rw [call_law_cell, runF_eq (by rfl) (by rfl)])
      simp (disch := first | omega | decide +kernel | assumption) only [F_law_cell, List.map_cons, List.map_nil, List.append_nil, List.nil_append, List.cons_append, List.all_cons, List.all_nil, List.length_cons, List.length_nil, List.replicate_zero, List.replicate_succ, List.any_cons, List.any_nil, List.length_map, eq_self, Option.isSome_some, Option.isSome_none, RUN, RUNC, OB, ↓reduceIte, Nat.reduceSub, Nat.reduceAdd, Nat.reduceLT, Nat.reduceLeDiff, Int.cast_ofNat_Int, Int.reduceEq, Int.reduceLT, Int.reduceLE, Int.reduceAdd, Int.reduceSub, Int.reduceNeg, Int.reduceMul, cstep_, kC0_, kC1_, kC2_, lstep_, kL0_, next_ok, decide_eq_false c1, decide_eq_false c2, e]
theorem law_part_ex (s : List Int) (wide : Nat) (hw : 1 ≤ wide) (hw2 : wide ≤ 1000) : ∀ (deep : Nat) (q : Dq),
    ∃ (q' : Dq) (p : Part), p.ok wide ∧ p.deep ≤ deep ∧ ∀ n (wi di : Int), deep + 2 ≤ n → wi = wide → di = deep → callF fds n i_law_part [dice s q, .int wi, .int di] = some (some (dice s q'), (false, p.d)) := by
  have num : ∀ (deep : Nat) (q : Dq), ¬ nxV s q 8 < 5 → nxV s q 8 < 7 → ∃ (q' : Dq) (p : Part), p.ok wide ∧ p.deep ≤ deep ∧ ∀ n (wi di : Int), deep + 2 ≤ n → wi = wide → di = deep → callF fds n i_law_part [dice s q, .int wi, .int di] = some (some (dice s q'), (false, p.d)) := by
    intro deep q c1 c2
    have v0 := nxV_lo (s := s) (q := nxQ s q 8) (m := 4) (by omega)
    have v1 := nxV_hi (s := s) (q := nxQ s q 8) (m := 4) (by omega)
    have u0 := nxV_lo (s := s) (q := nxQ s (nxQ s q 8) 4) (m := 100) (by omega)
    have u1 := nxV_hi (s := s) (q := nxQ s (nxQ s q 8) 4) (m := 100) (by omega)
    obtain ⟨x, hx, e⟩ := atQ_map [nxV s (nxQ s q 8) 4, nxV s (nxQ s (nxQ s q 8) 4) 100] D.int (if decide (nxV s (nxQ s (nxQ s (nxQ s q 8) 4) 100) 6 = 5) = true then 1 else 0) (by split <;> omega) (by split <;> simp)
    refine ⟨nxQ s (nxQ s (nxQ s (nxQ s q 8) 4) 100) 6, .num x, ?_, Nat.zero_le _, fun n wi di hn h1 h2 => ?_⟩
    · simp only [List.mem_cons, List.not_mem_nil, or_false] at hx
      show 0 ≤ x ∧ x ≤ 99
      rcases hx with rfl | rfl <;> omega
    · subst h1 h2
      simp only [List.map_cons, List.map_nil] at e
      have c3 : decide (6 < nxV s q 8) = false := decide_eq_false (by omega)
      (obtain ⟨n, rfl⟩ : ∃ m, n = m + 1 := ⟨n - 1, by omega⟩; rw [call_law_part, runF_eq (by rfl) (by rfl)])
      simp (disch := first | omega | decide +kernel | assumption) only [F_law_part, List.map_cons, List.map_nil, List.append_nil, List.nil_append, List.cons_append, List.all_cons, List.all_nil, List.length_cons, List.length_nil, List.replicate_zero, List.replicate_succ, List.any_cons, List.any_nil, List.length_map, eq_self, Option.isSome_some, Option.isSome_none, RUN, RUNC, OB, ↓reduceIte, Nat.reduceSub, Nat.reduceAdd, Nat.reduceLT, Nat.reduceLeDiff, Int.cast_ofNat_Int, Int.reduceEq, Int.reduceLT, Int.reduceLE, Int.reduceAdd, Int.reduceSub, Int.reduceNeg, Int.reduceMul, cstep_, kC0_, kC1_, kC2_, lstep_, kL0_, next_ok, decide_eq_false c1, decide_eq_true c2, c3, e, ite_self]
      rfl
  have col : ∀ (deep : Nat) (q : Dq), (nxV s q 8 < 5 ∨ (deep = 0 ∧ 6 < nxV s q 8)) → ∃ (q' : Dq) (p : Part), p.ok wide ∧ p.deep ≤ deep ∧ ∀ n (wi di : Int), deep + 2 ≤ n → wi = wide → di = deep → callF fds n i_law_part [dice s q, .int wi, .int di] = some (some (dice s q'), (false, p.d)) := by
    intro deep q hc0
    obtain ⟨c, hc⟩ := Int.eq_ofNat_of_zero_le (nxV_lo (s := s) (q := nxQ s q 8) (m := (wide : Int)) (by omega))
    have hc2 := nxV_hi (s := s) (q := nxQ s q 8) (m := (wide : Int)) (by omega)
    refine ⟨nxQ s (nxQ s q 8) wide, .col c, by show c < wide; omega, Nat.zero_le _, fun n wi di hn h1 h2 => ?_⟩
    subst h1 h2
    (obtain ⟨n, rfl⟩ : ∃ m, n = m + 1 := ⟨n - 1, by omega⟩; rw [call_law_part, runF_eq (by rfl) (by rfl)])
    by_cases c1 : nxV s q 8 < 5
    · simp (disch := first | omega | decide +kernel | assumption) only [F_law_part, List.map_cons, List.map_nil, List.append_nil, List.nil_append, List.cons_append, List.all_cons, List.all_nil, List.length_cons, List.length_nil, List.replicate_zero, List.replicate_succ, List.any_cons, List.any_nil, List.length_map, eq_self, Option.isSome_some, Option.isSome_none, RUN, RUNC, OB, ↓reduceIte, Nat.reduceSub, Nat.reduceAdd, Nat.reduceLT, Nat.reduceLeDiff, Int.cast_ofNat_Int, Int.reduceEq, Int.reduceLT, Int.reduceLE, Int.reduceAdd, Int.reduceSub, Int.reduceNeg, Int.reduceMul, cstep_, kC0_, kC1_, kC2_, lstep_, kL0_, next_ok, decide_eq_true c1, hc]
      rfl
    · have hz : deep = 0 ∧ 6 < nxV s q 8 := hc0.resolve_left c1
      have z1 : decide ((deep : Int) = 0) = true := decide_eq_true (by omega)
      simp (disch := first | omega | decide +kernel | assumption) only [F_law_part, List.map_cons, List.map_nil, List.append_nil, List.nil_append, List.cons_append, List.all_cons, List.all_nil, List.length_cons, List.length_nil, List.replicate_zero, List.replicate_succ, List.any_cons, List.any_nil, List.length_map, eq_self, Option.isSome_some, Option.isSome_none, RUN, RUNC, OB, ↓reduceIte, Nat.reduceSub, Nat.reduceAdd, Nat.reduceLT, Nat.reduceLeDiff, Int.cast_ofNat_Int, Int.reduceEq, Int.reduceLT, Int.reduceLE, Int.reduceAdd, Int.reduceSub, Int.reduceNeg, Int.reduceMul, cstep_, kC0_, kC1_, kC2_, lstep_, kL0_, next_ok, decide_eq_false c1, z1, decide_eq_true hz.2, hc]
      rfl
  intro deep
  induction deep with
  | zero =>
    intro q
    by_cases c1 : nxV s q 8 < 5
    · exact col 0 q (.inl c1)
    · by_cases c2 : nxV s q 8 < 7
      · exact num 0 q c1 c2
      · exact col 0 q (.inr ⟨rfl, by omega⟩)
  | succ deep ih =>
    intro q
    by_cases c1 : nxV s q 8 < 5
    · exact col _ q (.inl c1)
    · by_cases c2 : nxV s q 8 < 7
      · exact num _ q c1 c2
      · obtain ⟨q2, p2, h1, h2, h3⟩ := ih (nxQ s (nxQ s q 8) 2)
        obtain ⟨q3, p3, h4, h5, h6⟩ := ih q2
        have v0 := nxV_lo (s := s) (q := nxQ s q 8) (m := 2) (by omega)
        have v1 := nxV_hi (s := s) (q := nxQ s q 8) (m := 2) (by omega)
        have c3 : decide (((deep + 1 : Nat) : Int) = 0) = false := decide_eq_false (by omega)
        by_cases c4 : nxV s (nxQ s q 8) 2 = 0
        · refine ⟨q3, .plus p2 p3, ⟨h1, h4⟩, by show max _ _ + 1 ≤ _; omega, fun n wi di hn e1 e2 => ?_⟩
          subst e1 e2
          (obtain ⟨n, rfl⟩ : ∃ m, n = m + 1 := ⟨n - 1, by omega⟩; rw [call_law_part, runF_eq (by rfl) (by rfl)])
          simp (disch := first | omega | decide +kernel | assumption) only [F_law_part, List.map_cons, List.map_nil, List.append_nil, List.nil_append, List.cons_append, List.all_cons, List.all_nil, List.length_cons, List.length_nil, List.replicate_zero, List.replicate_succ, List.any_cons, List.any_nil, List.length_map, eq_self, Option.isSome_some, Option.isSome_none, RUN, RUNC, OB, ↓reduceIte, Nat.reduceSub, Nat.reduceAdd, Nat.reduceLT, Nat.reduceLeDiff, Int.cast_ofNat_Int, Int.reduceEq, Int.reduceLT, Int.reduceLE, Int.reduceAdd, Int.reduceSub, Int.reduceNeg, Int.reduceMul, cstep_, kC0_, kC1_, kC2_, lstep_, kL0_, next_ok, decide_eq_false c1, decide_eq_false c2, c3, h3, h6, c4]
          rfl
        · have c5 : nxV s (nxQ s q 8) 2 = 1 := by omega
          refine ⟨q3, .take p2 p3, ⟨h1, h4⟩, by show max _ _ + 1 ≤ _; omega, fun n wi di hn e1 e2 => ?_⟩
          subst e1 e2
          (obtain ⟨n, rfl⟩ : ∃ m, n = m + 1 := ⟨n - 1, by omega⟩; rw [call_law_part, runF_eq (by rfl) (by rfl)])
          simp (disch := first | omega | decide +kernel | assumption) only [F_law_part, List.map_cons, List.map_nil, List.append_nil, List.nil_append, List.cons_append, List.all_cons, List.all_nil, List.length_cons, List.length_nil, List.replicate_zero, List.replicate_succ, List.any_cons, List.any_nil, List.length_map, eq_self, Option.isSome_some, Option.isSome_none, RUN, RUNC, OB, ↓reduceIte, Nat.reduceSub, Nat.reduceAdd, Nat.reduceLT, Nat.reduceLeDiff, Int.cast_ofNat_Int, Int.reduceEq, Int.reduceLT, Int.reduceLE, Int.reduceAdd, Int.reduceSub, Int.reduceNeg, Int.reduceMul, cstep_, kC0_, kC1_, kC2_, lstep_, kL0_, next_ok, decide_eq_false c1, decide_eq_false c2, c3, h3, h6, c5]
          rfl
theorem law_condition_ex (s : List Int) (wide : Nat) (hw : 1 ≤ wide) (hw2 : wide ≤ 1000) (sf : Bool) : ∀ (deep : Nat) (q : Dq),
    ∃ (q' : Dq) (p : Cond), (p.ok wide ∧ p.lev ≤ deep ∧ p.deep ≤ deep + 4 ∧ (sf = true → p.safe)) ∧ ∀ n (wi di : Int), deep + 7 ≤ n → wi = wide → di = deep → callF fds n i_law_condition [dice s q, .int wi, .int di, .bl sf] = some (some (dice s q'), (false, p.d)) := by
  have far : ∀ q : Dq, ∃ f : Nat, f ≤ 3 ∧ atI [D.int 1, D.int 1, D.int 1, D.int 3] (nxV s q 4) = some (.int (f : Int)) := by
    intro q
    obtain ⟨x, hx, e⟩ := atQ_map [1, 1, 1, 3] (fun k : Nat => D.int (k : Int)) (nxV s q 4) (nxV_lo (by omega)) (by have := nxV_hi (s := s) (q := q) (m := 4) (by omega); simpa using this)
    refine ⟨x, ?_, by simpa using e⟩
    simp only [List.mem_cons, List.not_mem_nil, or_false] at hx
    omega
  have leaf : ∀ (deep : Nat) (q : Dq), (deep = 0 ∨ nxV s q 9 < 4) → ∃ (q' : Dq) (p : Cond), (p.ok wide ∧ p.lev ≤ deep ∧ p.deep ≤ deep + 4 ∧ (sf = true → p.safe)) ∧ ∀ n (wi di : Int), deep + 7 ≤ n → wi = wide → di = deep → callF fds n i_law_condition [dice s q, .int wi, .int di, .bl sf] = some (some (dice s q'), (false, p.d)) := by
    intro deep q h0
    obtain ⟨f, hf, ef⟩ := far (nxQ s q 9)
    by_cases c1 : sf = false ∧ nxV s (nxQ s (nxQ s q 9) 4) 5 = 0
    · obtain ⟨c1, c2⟩ := c1
      subst c1
      obtain ⟨q2, p2, h1, h2, h3⟩ := law_part_ex s wide hw hw2 f (nxQ s (nxQ s (nxQ s q 9) 4) 5)
      refine ⟨q2, .lacks p2, ⟨h1, Nat.zero_le _, by show _ + 1 ≤ _; omega, fun h => by cases h⟩, fun n wi di hn e1 e2 => ?_⟩
      subst e1 e2
      (obtain ⟨n, rfl⟩ : ∃ m, n = m + 1 := ⟨n - 1, by omega⟩; rw [call_law_condition, runF_eq (by rfl) (by rfl)])
      by_cases c3 : deep = 0
      · have c3 : decide ((deep : Int) = 0) = true := decide_eq_true (by omega)
        simp (disch := first | omega | decide +kernel | assumption) only [F_law_condition, List.map_cons, List.map_nil, List.append_nil, List.nil_append, List.cons_append, List.all_cons, List.all_nil, List.length_cons, List.length_nil, List.replicate_zero, List.replicate_succ, List.any_cons, List.any_nil, List.length_map, eq_self, Option.isSome_some, Option.isSome_none, RUN, RUNC, OB, ↓reduceIte, Nat.reduceSub, Nat.reduceAdd, Nat.reduceLT, Nat.reduceLeDiff, Int.cast_ofNat_Int, Int.reduceEq, Int.reduceLT, Int.reduceLE, Int.reduceAdd, Int.reduceSub, Int.reduceNeg, Int.reduceMul, cstep_, kC0_, kC1_, kC2_, lstep_, kL0_, next_ok, ef, c3, c2, h3]
        rfl
      · have c3' : decide ((deep : Int) = 0) = false := decide_eq_false (by omega)
        have c4 : decide (nxV s q 9 < 4) = true := decide_eq_true (h0.resolve_left c3)
        simp (disch := first | omega | decide +kernel | assumption) only [F_law_condition, List.map_cons, List.map_nil, List.append_nil, List.nil_append, List.cons_append, List.all_cons, List.all_nil, List.length_cons, List.length_nil, List.replicate_zero, List.replicate_succ, List.any_cons, List.any_nil, List.length_map, eq_self, Option.isSome_some, Option.isSome_none, RUN, RUNC, OB, ↓reduceIte, Nat.reduceSub, Nat.reduceAdd, Nat.reduceLT, Nat.reduceLeDiff, Int.cast_ofNat_Int, Int.reduceEq, Int.reduceLT, Int.reduceLE, Int.reduceAdd, Int.reduceSub, Int.reduceNeg, Int.reduceMul, cstep_, kC0_, kC1_, kC2_, lstep_, kL0_, next_ok, ef, c3', c4, c2, h3]
        rfl
    · have main : ∀ (q0 : Dq), (sf = true ∧ q0 = nxQ s (nxQ s q 9) 4 ∨ sf = false ∧ ¬ nxV s (nxQ s (nxQ s q 9) 4) 5 = 0 ∧ q0 = nxQ s (nxQ s (nxQ s q 9) 4) 5) → ∃ (q' : Dq) (p : Cond), (p.ok wide ∧ p.lev ≤ deep ∧ p.deep ≤ deep + 4 ∧ (sf = true → p.safe)) ∧ ∀ n (wi di : Int), deep + 7 ≤ n → wi = wide → di = deep → callF fds n i_law_condition [dice s q, .int wi, .int di, .bl sf] = some (some (dice s q'), (false, p.d)) := by
        intro q0 hq
        obtain ⟨q2, p2, h1, h2, h3⟩ := law_part_ex s wide hw hw2 f (nxQ s q0 2)
        obtain ⟨q3, p3, h4, h5, h6⟩ := law_part_ex s wide hw hw2 f q2
        have v0 := nxV_lo (s := s) (q := q0) (m := 2) (by omega)
        have v1 := nxV_hi (s := s) (q := q0) (m := 2) (by omega)
        by_cases c4 : nxV s q0 2 = 0
        · refine ⟨q3, .is p2 p3, ⟨⟨h1, h4⟩, Nat.zero_le _, by show max _ _ + 1 ≤ _; omega, fun _ => trivial⟩, fun n wi di hn e1 e2 => ?_⟩
          subst e1 e2
          (obtain ⟨n, rfl⟩ : ∃ m, n = m + 1 := ⟨n - 1, by omega⟩; rw [call_law_condition, runF_eq (by rfl) (by rfl)])
          by_cases c3 : deep = 0
          · have c3 : decide ((deep : Int) = 0) = true := decide_eq_true (by omega)
            rcases hq with ⟨hs, rfl⟩ | ⟨hs, hz, rfl⟩ <;> subst hs
            · simp (disch := first | omega | decide +kernel | assumption) only [F_law_condition, List.map_cons, List.map_nil, List.append_nil, List.nil_append, List.cons_append, List.all_cons, List.all_nil, List.length_cons, List.length_nil, List.replicate_zero, List.replicate_succ, List.any_cons, List.any_nil, List.length_map, eq_self, Option.isSome_some, Option.isSome_none, RUN, RUNC, OB, ↓reduceIte, Nat.reduceSub, Nat.reduceAdd, Nat.reduceLT, Nat.reduceLeDiff, Int.cast_ofNat_Int, Int.reduceEq, Int.reduceLT, Int.reduceLE, Int.reduceAdd, Int.reduceSub, Int.reduceNeg, Int.reduceMul, cstep_, kC0_, kC1_, kC2_, lstep_, kL0_, next_ok, ef, c3, c4, h3, h6]
              rfl
            · simp (disch := first | omega | decide +kernel | assumption) only [F_law_condition, List.map_cons, List.map_nil, List.append_nil, List.nil_append, List.cons_append, List.all_cons, List.all_nil, List.length_cons, List.length_nil, List.replicate_zero, List.replicate_succ, List.any_cons, List.any_nil, List.length_map, eq_self, Option.isSome_some, Option.isSome_none, RUN, RUNC, OB, ↓reduceIte, Nat.reduceSub, Nat.reduceAdd, Nat.reduceLT, Nat.reduceLeDiff, Int.cast_ofNat_Int, Int.reduceEq, Int.reduceLT, Int.reduceLE, Int.reduceAdd, Int.reduceSub, Int.reduceNeg, Int.reduceMul, cstep_, kC0_, kC1_, kC2_, lstep_, kL0_, next_ok, ef, c3, c4, decide_eq_false hz, h3, h6]
              rfl
          · have c3' : decide ((deep : Int) = 0) = false := decide_eq_false (by omega)
            have c5 : decide (nxV s q 9 < 4) = true := decide_eq_true (h0.resolve_left c3)
            rcases hq with ⟨hs, rfl⟩ | ⟨hs, hz, rfl⟩ <;> subst hs
            · simp (disch := first | omega | decide +kernel | assumption) only [F_law_condition, List.map_cons, List.map_nil, List.append_nil, List.nil_append, List.cons_append, List.all_cons, List.all_nil, List.length_cons, List.length_nil, List.replicate_zero, List.replicate_succ, List.any_cons, List.any_nil, List.length_map, eq_self, Option.isSome_some, Option.isSome_none, RUN, RUNC, OB, ↓reduceIte, Nat.reduceSub, Nat.reduceAdd, Nat.reduceLT, Nat.reduceLeDiff, Int.cast_ofNat_Int, Int.reduceEq, Int.reduceLT, Int.reduceLE, Int.reduceAdd, Int.reduceSub, Int.reduceNeg, Int.reduceMul, cstep_, kC0_, kC1_, kC2_, lstep_, kL0_, next_ok, ef, c3', c5, c4, h3, h6]
              rfl
            · simp (disch := first | omega | decide +kernel | assumption) only [F_law_condition, List.map_cons, List.map_nil, List.append_nil, List.nil_append, List.cons_append, List.all_cons, List.all_nil, List.length_cons, List.length_nil, List.replicate_zero, List.replicate_succ, List.any_cons, List.any_nil, List.length_map, eq_self, Option.isSome_some, Option.isSome_none, RUN, RUNC, OB, ↓reduceIte, Nat.reduceSub, Nat.reduceAdd, Nat.reduceLT, Nat.reduceLeDiff, Int.cast_ofNat_Int, Int.reduceEq, Int.reduceLT, Int.reduceLE, Int.reduceAdd, Int.reduceSub, Int.reduceNeg, Int.reduceMul, cstep_, kC0_, kC1_, kC2_, lstep_, kL0_, next_ok, ef, c3', c5, c4, decide_eq_false hz, h3, h6]
              rfl
        · have c4 : nxV s q0 2 = 1 := by omega
          refine ⟨q3, .less p2 p3, ⟨⟨h1, h4⟩, Nat.zero_le _, by show max _ _ + 1 ≤ _; omega, fun _ => trivial⟩, fun n wi di hn e1 e2 => ?_⟩
          subst e1 e2
          (obtain ⟨n, rfl⟩ : ∃ m, n = m + 1 := ⟨n - 1, by omega⟩; rw [call_law_condition, runF_eq (by rfl) (by rfl)])
          by_cases c3 : deep = 0
          · have c3 : decide ((deep : Int) = 0) = true := decide_eq_true (by omega)
            rcases hq with ⟨hs, rfl⟩ | ⟨hs, hz, rfl⟩ <;> subst hs
            · simp (disch := first | omega | decide +kernel | assumption) only [F_law_condition, List.map_cons, List.map_nil, List.append_nil, List.nil_append, List.cons_append, List.all_cons, List.all_nil, List.length_cons, List.length_nil, List.replicate_zero, List.replicate_succ, List.any_cons, List.any_nil, List.length_map, eq_self, Option.isSome_some, Option.isSome_none, RUN, RUNC, OB, ↓reduceIte, Nat.reduceSub, Nat.reduceAdd, Nat.reduceLT, Nat.reduceLeDiff, Int.cast_ofNat_Int, Int.reduceEq, Int.reduceLT, Int.reduceLE, Int.reduceAdd, Int.reduceSub, Int.reduceNeg, Int.reduceMul, cstep_, kC0_, kC1_, kC2_, lstep_, kL0_, next_ok, ef, c3, c4, h3, h6]
              rfl
            · simp (disch := first | omega | decide +kernel | assumption) only [F_law_condition, List.map_cons, List.map_nil, List.append_nil, List.nil_append, List.cons_append, List.all_cons, List.all_nil, List.length_cons, List.length_nil, List.replicate_zero, List.replicate_succ, List.any_cons, List.any_nil, List.length_map, eq_self, Option.isSome_some, Option.isSome_none, RUN, RUNC, OB, ↓reduceIte, Nat.reduceSub, Nat.reduceAdd, Nat.reduceLT, Nat.reduceLeDiff, Int.cast_ofNat_Int, Int.reduceEq, Int.reduceLT, Int.reduceLE, Int.reduceAdd, Int.reduceSub, Int.reduceNeg, Int.reduceMul, cstep_, kC0_, kC1_, kC2_, lstep_, kL0_, next_ok, ef, c3, c4, decide_eq_false hz, h3, h6]
              rfl
          · have c3' : decide ((deep : Int) = 0) = false := decide_eq_false (by omega)
            have c5 : decide (nxV s q 9 < 4) = true := decide_eq_true (h0.resolve_left c3)
            rcases hq with ⟨hs, rfl⟩ | ⟨hs, hz, rfl⟩ <;> subst hs
            · simp (disch := first | omega | decide +kernel | assumption) only [F_law_condition, List.map_cons, List.map_nil, List.append_nil, List.nil_append, List.cons_append, List.all_cons, List.all_nil, List.length_cons, List.length_nil, List.replicate_zero, List.replicate_succ, List.any_cons, List.any_nil, List.length_map, eq_self, Option.isSome_some, Option.isSome_none, RUN, RUNC, OB, ↓reduceIte, Nat.reduceSub, Nat.reduceAdd, Nat.reduceLT, Nat.reduceLeDiff, Int.cast_ofNat_Int, Int.reduceEq, Int.reduceLT, Int.reduceLE, Int.reduceAdd, Int.reduceSub, Int.reduceNeg, Int.reduceMul, cstep_, kC0_, kC1_, kC2_, lstep_, kL0_, next_ok, ef, c3', c5, c4, h3, h6]
              rfl
            · simp (disch := first | omega | decide +kernel | assumption) only [F_law_condition, List.map_cons, List.map_nil, List.append_nil, List.nil_append, List.cons_append, List.all_cons, List.all_nil, List.length_cons, List.length_nil, List.replicate_zero, List.replicate_succ, List.any_cons, List.any_nil, List.length_map, eq_self, Option.isSome_some, Option.isSome_none, RUN, RUNC, OB, ↓reduceIte, Nat.reduceSub, Nat.reduceAdd, Nat.reduceLT, Nat.reduceLeDiff, Int.cast_ofNat_Int, Int.reduceEq, Int.reduceLT, Int.reduceLE, Int.reduceAdd, Int.reduceSub, Int.reduceNeg, Int.reduceMul, cstep_, kC0_, kC1_, kC2_, lstep_, kL0_, next_ok, ef, c3', c5, c4, decide_eq_false hz, h3, h6]
              rfl
      cases sf with
      | true => exact main _ (.inl ⟨rfl, rfl⟩)
      | false => exact main _ (.inr ⟨rfl, fun h => c1 ⟨rfl, h⟩, rfl⟩)
  intro deep
  induction deep with
  | zero =>
    intro q
    exact leaf 0 q (.inl rfl)
  | succ deep ih =>
    intro q
    by_cases c1 : nxV s q 9 < 4
    · exact leaf _ q (.inr c1)
    · obtain ⟨f, hf, ef⟩ := far (nxQ s q 9)
      have v0 := nxV_lo (s := s) (q := q) (m := 9) (by omega)
      have v1 := nxV_hi (s := s) (q := q) (m := 9) (by omega)
      have c3 : decide (((deep + 1 : Nat) : Int) = 0) = false := decide_eq_false (by omega)
      obtain ⟨q2, p2, ⟨h1, h2, h2', h2''⟩, h3⟩ := ih (nxQ s (nxQ s q 9) 4)
      by_cases c2 : nxV s q 9 < 6 ∨ nxV s q 9 = 6 ∧ sf = true
      · refine ⟨q2, .not p2, ⟨h1, by show _ + 1 ≤ _; omega, by show _ + 1 ≤ _; omega, h2''⟩, fun n wi di hn e1 e2 => ?_⟩
        subst e1 e2
        (obtain ⟨n, rfl⟩ : ∃ m, n = m + 1 := ⟨n - 1, by omega⟩; rw [call_law_condition, runF_eq (by rfl) (by rfl)])
        by_cases c4 : nxV s q 9 < 6
        · simp (disch := first | omega | decide +kernel | assumption) only [F_law_condition, List.map_cons, List.map_nil, List.append_nil, List.nil_append, List.cons_append, List.all_cons, List.all_nil, List.length_cons, List.length_nil, List.replicate_zero, List.replicate_succ, List.any_cons, List.any_nil, List.length_map, eq_self, Option.isSome_some, Option.isSome_none, RUN, RUNC, OB, ↓reduceIte, Nat.reduceSub, Nat.reduceAdd, Nat.reduceLT, Nat.reduceLeDiff, Int.cast_ofNat_Int, Int.reduceEq, Int.reduceLT, Int.reduceLE, Int.reduceAdd, Int.reduceSub, Int.reduceNeg, Int.reduceMul, cstep_, kC0_, kC1_, kC2_, lstep_, kL0_, next_ok, ef, decide_eq_false c1, c3, decide_eq_true c4, h3]
          rfl
        · obtain ⟨c5, c6⟩ := c2.resolve_left c4
          subst c6
          simp (disch := first | omega | decide +kernel | assumption) only [F_law_condition, List.map_cons, List.map_nil, List.append_nil, List.nil_append, List.cons_append, List.all_cons, List.all_nil, List.length_cons, List.length_nil, List.replicate_zero, List.replicate_succ, List.any_cons, List.any_nil, List.length_map, eq_self, Option.isSome_some, Option.isSome_none, RUN, RUNC, OB, ↓reduceIte, Nat.reduceSub, Nat.reduceAdd, Nat.reduceLT, Nat.reduceLeDiff, Int.cast_ofNat_Int, Int.reduceEq, Int.reduceLT, Int.reduceLE, Int.reduceAdd, Int.reduceSub, Int.reduceNeg, Int.reduceMul, cstep_, kC0_, kC1_, kC2_, lstep_, kL0_, next_ok, ef, decide_eq_false c1, c3, decide_eq_false c4, c5, h3]
          rfl
      · have c4 : ¬ nxV s q 9 < 6 := fun h => c2 (.inl h)
        by_cases c5 : nxV s q 9 = 6
        · have c6 : sf = false := by cases sf; rfl; exact absurd (.inr ⟨c5, rfl⟩) c2
          subst c6
          refine ⟨q2, .tru p2, ⟨h1, by show _ + 1 ≤ _; omega, by show _ + 1 ≤ _; omega, fun h => by cases h⟩, fun n wi di hn e1 e2 => ?_⟩
          subst e1 e2
          (obtain ⟨n, rfl⟩ : ∃ m, n = m + 1 := ⟨n - 1, by omega⟩; rw [call_law_condition, runF_eq (by rfl) (by rfl)])
          simp (disch := first | omega | decide +kernel | assumption) only [F_law_condition, List.map_cons, List.map_nil, List.append_nil, List.nil_append, List.cons_append, List.all_cons, List.all_nil, List.length_cons, List.length_nil, List.replicate_zero, List.replicate_succ, List.any_cons, List.any_nil, List.length_map, eq_self, Option.isSome_some, Option.isSome_none, RUN, RUNC, OB, ↓reduceIte, Nat.reduceSub, Nat.reduceAdd, Nat.reduceLT, Nat.reduceLeDiff, Int.cast_ofNat_Int, Int.reduceEq, Int.reduceLT, Int.reduceLE, Int.reduceAdd, Int.reduceSub, Int.reduceNeg, Int.reduceMul, cstep_, kC0_, kC1_, kC2_, lstep_, kL0_, next_ok, ef, decide_eq_false c1, c3, decide_eq_false c4, c5, h3]
          rfl
        · obtain ⟨q3, p3, ⟨h4, h5, h5', h5''⟩, h6⟩ := ih q2
          have z1 := decide_eq_false c5
          by_cases c6 : nxV s q 9 = 7
          · refine ⟨q3, .and p2 p3, ⟨⟨h1, h4⟩, by show max _ _ + 1 ≤ _; omega, by show max _ _ + 1 ≤ _; omega, fun h => ⟨h2'' h, h5'' h⟩⟩, fun n wi di hn e1 e2 => ?_⟩
            subst e1 e2
            (obtain ⟨n, rfl⟩ : ∃ m, n = m + 1 := ⟨n - 1, by omega⟩; rw [call_law_condition, runF_eq (by rfl) (by rfl)])
            simp (disch := first | omega | decide +kernel | assumption) only [F_law_condition, List.map_cons, List.map_nil, List.append_nil, List.nil_append, List.cons_append, List.all_cons, List.all_nil, List.length_cons, List.length_nil, List.replicate_zero, List.replicate_succ, List.any_cons, List.any_nil, List.length_map, eq_self, Option.isSome_some, Option.isSome_none, RUN, RUNC, OB, ↓reduceIte, Nat.reduceSub, Nat.reduceAdd, Nat.reduceLT, Nat.reduceLeDiff, Int.cast_ofNat_Int, Int.reduceEq, Int.reduceLT, Int.reduceLE, Int.reduceAdd, Int.reduceSub, Int.reduceNeg, Int.reduceMul, cstep_, kC0_, kC1_, kC2_, lstep_, kL0_, next_ok, ef, c6, c3, h3, h6]
            rfl
          · have c7 : nxV s q 9 = 8 := by omega
            refine ⟨q3, .or p2 p3, ⟨⟨h1, h4⟩, by show max _ _ + 1 ≤ _; omega, by show max _ _ + 1 ≤ _; omega, fun h => ⟨h2'' h, h5'' h⟩⟩, fun n wi di hn e1 e2 => ?_⟩
            subst e1 e2
            (obtain ⟨n, rfl⟩ : ∃ m, n = m + 1 := ⟨n - 1, by omega⟩; rw [call_law_condition, runF_eq (by rfl) (by rfl)])
            simp (disch := first | omega | decide +kernel | assumption) only [F_law_condition, List.map_cons, List.map_nil, List.append_nil, List.nil_append, List.cons_append, List.all_cons, List.all_nil, List.length_cons, List.length_nil, List.replicate_zero, List.replicate_succ, List.any_cons, List.any_nil, List.length_map, eq_self, Option.isSome_some, Option.isSome_none, RUN, RUNC, OB, ↓reduceIte, Nat.reduceSub, Nat.reduceAdd, Nat.reduceLT, Nat.reduceLeDiff, Int.cast_ofNat_Int, Int.reduceEq, Int.reduceLT, Int.reduceLE, Int.reduceAdd, Int.reduceSub, Int.reduceNeg, Int.reduceMul, cstep_, kC0_, kC1_, kC2_, lstep_, kL0_, next_ok, ef, c7, c3, h3, h6]
            rfl
/-! how many things -/
theorem things_part : ∀ (p : Part) (n : Nat), p.deep + 1 ≤ n → p.deep ≤ 60 → callF fds n i_law_things [p.d] = some (none, (false, .int (p.size : Int)))
  | .col c, n, hn, hd => by
    simp only [Part.deep] at hn
    (obtain ⟨n, rfl⟩ : ∃ m, n = m + 1 := ⟨n - 1, by omega⟩; rw [call_law_things, runF_eq (by rfl) (by rfl)])
    simp (disch := first | omega | decide +kernel | assumption) only [F_law_things, List.map_cons, List.map_nil, List.append_nil, List.nil_append, List.cons_append, List.all_cons, List.all_nil, List.length_cons, List.length_nil, List.replicate_zero, List.replicate_succ, List.any_cons, List.any_nil, List.length_map, eq_self, Option.isSome_some, Option.isSome_none, RUN, RUNC, OB, ↓reduceIte, Nat.reduceSub, Nat.reduceAdd, Nat.reduceLT, Nat.reduceLeDiff, Int.cast_ofNat_Int, Int.reduceEq, Int.reduceLT, Int.reduceLE, Int.reduceAdd, Int.reduceSub, Int.reduceNeg, Int.reduceMul, cstep_, kC0_, kC1_, kC2_, lstep_, kL0_, Part.d]
    rfl
  | .num c, n, hn, hd => by
    simp only [Part.deep] at hn
    (obtain ⟨n, rfl⟩ : ∃ m, n = m + 1 := ⟨n - 1, by omega⟩; rw [call_law_things, runF_eq (by rfl) (by rfl)])
    simp (disch := first | omega | decide +kernel | assumption) only [F_law_things, List.map_cons, List.map_nil, List.append_nil, List.nil_append, List.cons_append, List.all_cons, List.all_nil, List.length_cons, List.length_nil, List.replicate_zero, List.replicate_succ, List.any_cons, List.any_nil, List.length_map, eq_self, Option.isSome_some, Option.isSome_none, RUN, RUNC, OB, ↓reduceIte, Nat.reduceSub, Nat.reduceAdd, Nat.reduceLT, Nat.reduceLeDiff, Int.cast_ofNat_Int, Int.reduceEq, Int.reduceLT, Int.reduceLE, Int.reduceAdd, Int.reduceSub, Int.reduceNeg, Int.reduceMul, cstep_, kC0_, kC1_, kC2_, lstep_, kL0_, Part.d]
    rfl
  | .plus a b, n, hn, hd => by
    simp only [Part.deep] at hn hd
    (obtain ⟨n, rfl⟩ : ∃ m, n = m + 1 := ⟨n - 1, by omega⟩; rw [call_law_things, runF_eq (by rfl) (by rfl)])
    have h1 := things_part a n (by omega) (by omega)
    have h2 := things_part b n (by omega) (by omega)
    obtain ⟨wa, la, ea, oa⟩ := a.shape
    obtain ⟨wb, lb, eb, ob⟩ := b.shape
    have ga := ne_nil (ea ▸ gd_part a) (by omega)
    have gb := ne_nil (eb ▸ gd_part b) (by omega)
    rw [ea] at h1
    rw [eb] at h2
    rw [show ((Part.plus a b).size : Int) = 1 + a.size + b.size by simp only [Part.size]; omega]
    simp (disch := first | omega | decide +kernel | assumption) only [F_law_things, List.map_cons, List.map_nil, List.append_nil, List.nil_append, List.cons_append, List.all_cons, List.all_nil, List.length_cons, List.length_nil, List.replicate_zero, List.replicate_succ, List.any_cons, List.any_nil, List.length_map, eq_self, Option.isSome_some, Option.isSome_none, RUN, RUNC, OB, ↓reduceIte, Nat.reduceSub, Nat.reduceAdd, Nat.reduceLT, Nat.reduceLeDiff, Int.cast_ofNat_Int, Int.reduceEq, Int.reduceLT, Int.reduceLE, Int.reduceAdd, Int.reduceSub, Int.reduceNeg, Int.reduceMul, cstep_, kC0_, kC1_, kC2_, lstep_, kL0_, Part.d, ea, eb, h1, h2, ga, gb]
  | .take a b, n, hn, hd => by
    simp only [Part.deep] at hn hd
    (obtain ⟨n, rfl⟩ : ∃ m, n = m + 1 := ⟨n - 1, by omega⟩; rw [call_law_things, runF_eq (by rfl) (by rfl)])
    have h1 := things_part a n (by omega) (by omega)
    have h2 := things_part b n (by omega) (by omega)
    obtain ⟨wa, la, ea, oa⟩ := a.shape
    obtain ⟨wb, lb, eb, ob⟩ := b.shape
    have ga := ne_nil (ea ▸ gd_part a) (by omega)
    have gb := ne_nil (eb ▸ gd_part b) (by omega)
    rw [ea] at h1
    rw [eb] at h2
    rw [show ((Part.take a b).size : Int) = 1 + a.size + b.size by simp only [Part.size]; omega]
    simp (disch := first | omega | decide +kernel | assumption) only [F_law_things, List.map_cons, List.map_nil, List.append_nil, List.nil_append, List.cons_append, List.all_cons, List.all_nil, List.length_cons, List.length_nil, List.replicate_zero, List.replicate_succ, List.any_cons, List.any_nil, List.length_map, eq_self, Option.isSome_some, Option.isSome_none, RUN, RUNC, OB, ↓reduceIte, Nat.reduceSub, Nat.reduceAdd, Nat.reduceLT, Nat.reduceLeDiff, Int.cast_ofNat_Int, Int.reduceEq, Int.reduceLT, Int.reduceLE, Int.reduceAdd, Int.reduceSub, Int.reduceNeg, Int.reduceMul, cstep_, kC0_, kC1_, kC2_, lstep_, kL0_, Part.d, ea, eb, h1, h2, ga, gb]
theorem things_cond : ∀ (p : Cond) (n : Nat), p.deep + 1 ≤ n → p.deep ≤ 60 → callF fds n i_law_things [p.d] = some (none, (false, .int (p.size : Int)))
  | .is a b, n, hn, hd => by
    simp only [Cond.deep] at hn hd
    (obtain ⟨n, rfl⟩ : ∃ m, n = m + 1 := ⟨n - 1, by omega⟩; rw [call_law_things, runF_eq (by rfl) (by rfl)])
    have h1 := things_part a n (by omega) (by omega)
    have h2 := things_part b n (by omega) (by omega)
    obtain ⟨wa, la, ea, oa⟩ := a.shape
    obtain ⟨wb, lb, eb, ob⟩ := b.shape
    have ga := ne_nil (ea ▸ gd_part a) (by omega)
    have gb := ne_nil (eb ▸ gd_part b) (by omega)
    rw [ea] at h1
    rw [eb] at h2
    rw [show ((Cond.is a b).size : Int) = 1 + a.size + b.size by simp only [Cond.size]; omega]
    simp (disch := first | omega | decide +kernel | assumption) only [F_law_things, List.map_cons, List.map_nil, List.append_nil, List.nil_append, List.cons_append, List.all_cons, List.all_nil, List.length_cons, List.length_nil, List.replicate_zero, List.replicate_succ, List.any_cons, List.any_nil, List.length_map, eq_self, Option.isSome_some, Option.isSome_none, RUN, RUNC, OB, ↓reduceIte, Nat.reduceSub, Nat.reduceAdd, Nat.reduceLT, Nat.reduceLeDiff, Int.cast_ofNat_Int, Int.reduceEq, Int.reduceLT, Int.reduceLE, Int.reduceAdd, Int.reduceSub, Int.reduceNeg, Int.reduceMul, cstep_, kC0_, kC1_, kC2_, lstep_, kL0_, Cond.d, ea, eb, h1, h2, ga, gb]
  | .less a b, n, hn, hd => by
    simp only [Cond.deep] at hn hd
    (obtain ⟨n, rfl⟩ : ∃ m, n = m + 1 := ⟨n - 1, by omega⟩; rw [call_law_things, runF_eq (by rfl) (by rfl)])
    have h1 := things_part a n (by omega) (by omega)
    have h2 := things_part b n (by omega) (by omega)
    obtain ⟨wa, la, ea, oa⟩ := a.shape
    obtain ⟨wb, lb, eb, ob⟩ := b.shape
    have ga := ne_nil (ea ▸ gd_part a) (by omega)
    have gb := ne_nil (eb ▸ gd_part b) (by omega)
    rw [ea] at h1
    rw [eb] at h2
    rw [show ((Cond.less a b).size : Int) = 1 + a.size + b.size by simp only [Cond.size]; omega]
    simp (disch := first | omega | decide +kernel | assumption) only [F_law_things, List.map_cons, List.map_nil, List.append_nil, List.nil_append, List.cons_append, List.all_cons, List.all_nil, List.length_cons, List.length_nil, List.replicate_zero, List.replicate_succ, List.any_cons, List.any_nil, List.length_map, eq_self, Option.isSome_some, Option.isSome_none, RUN, RUNC, OB, ↓reduceIte, Nat.reduceSub, Nat.reduceAdd, Nat.reduceLT, Nat.reduceLeDiff, Int.cast_ofNat_Int, Int.reduceEq, Int.reduceLT, Int.reduceLE, Int.reduceAdd, Int.reduceSub, Int.reduceNeg, Int.reduceMul, cstep_, kC0_, kC1_, kC2_, lstep_, kL0_, Cond.d, ea, eb, h1, h2, ga, gb]
  | .and a b, n, hn, hd => by
    simp only [Cond.deep] at hn hd
    (obtain ⟨n, rfl⟩ : ∃ m, n = m + 1 := ⟨n - 1, by omega⟩; rw [call_law_things, runF_eq (by rfl) (by rfl)])
    have h1 := things_cond a n (by omega) (by omega)
    have h2 := things_cond b n (by omega) (by omega)
    obtain ⟨wa, la, ea, oa⟩ := a.shape
    obtain ⟨wb, lb, eb, ob⟩ := b.shape
    have ga := ne_nil (ea ▸ gd_cond a) (by omega)
    have gb := ne_nil (eb ▸ gd_cond b) (by omega)
    rw [ea] at h1
    rw [eb] at h2
    rw [show ((Cond.and a b).size : Int) = 1 + a.size + b.size by simp only [Cond.size]; omega]
    simp (disch := first | omega | decide +kernel | assumption) only [F_law_things, List.map_cons, List.map_nil, List.append_nil, List.nil_append, List.cons_append, List.all_cons, List.all_nil, List.length_cons, List.length_nil, List.replicate_zero, List.replicate_succ, List.any_cons, List.any_nil, List.length_map, eq_self, Option.isSome_some, Option.isSome_none, RUN, RUNC, OB, ↓reduceIte, Nat.reduceSub, Nat.reduceAdd, Nat.reduceLT, Nat.reduceLeDiff, Int.cast_ofNat_Int, Int.reduceEq, Int.reduceLT, Int.reduceLE, Int.reduceAdd, Int.reduceSub, Int.reduceNeg, Int.reduceMul, cstep_, kC0_, kC1_, kC2_, lstep_, kL0_, Cond.d, ea, eb, h1, h2, ga, gb]
  | .or a b, n, hn, hd => by
    simp only [Cond.deep] at hn hd
    (obtain ⟨n, rfl⟩ : ∃ m, n = m + 1 := ⟨n - 1, by omega⟩; rw [call_law_things, runF_eq (by rfl) (by rfl)])
    have h1 := things_cond a n (by omega) (by omega)
    have h2 := things_cond b n (by omega) (by omega)
    obtain ⟨wa, la, ea, oa⟩ := a.shape
    obtain ⟨wb, lb, eb, ob⟩ := b.shape
    have ga := ne_nil (ea ▸ gd_cond a) (by omega)
    have gb := ne_nil (eb ▸ gd_cond b) (by omega)
    rw [ea] at h1
    rw [eb] at h2
    rw [show ((Cond.or a b).size : Int) = 1 + a.size + b.size by simp only [Cond.size]; omega]
    simp (disch := first | omega | decide +kernel | assumption) only [F_law_things, List.map_cons, List.map_nil, List.append_nil, List.nil_append, List.cons_append, List.all_cons, List.all_nil, List.length_cons, List.length_nil, List.replicate_zero, List.replicate_succ, List.any_cons, List.any_nil, List.length_map, eq_self, Option.isSome_some, Option.isSome_none, RUN, RUNC, OB, ↓reduceIte, Nat.reduceSub, Nat.reduceAdd, Nat.reduceLT, Nat.reduceLeDiff, Int.cast_ofNat_Int, Int.reduceEq, Int.reduceLT, Int.reduceLE, Int.reduceAdd, Int.reduceSub, Int.reduceNeg, Int.reduceMul, cstep_, kC0_, kC1_, kC2_, lstep_, kL0_, Cond.d, ea, eb, h1, h2, ga, gb]
  | .lacks a, n, hn, hd => by
    simp only [Cond.deep] at hn hd
    (obtain ⟨n, rfl⟩ : ∃ m, n = m + 1 := ⟨n - 1, by omega⟩; rw [call_law_things, runF_eq (by rfl) (by rfl)])
    have h1 := things_part a n (by omega) (by omega)
    obtain ⟨wa, la, ea, oa⟩ := a.shape
    have ga := ne_nil (ea ▸ gd_part a) (by omega)
    rw [ea] at h1
    rw [show ((Cond.lacks a).size : Int) = 1 + a.size by simp only [Cond.size]; omega]
    simp (disch := first | omega | decide +kernel | assumption) only [F_law_things, List.map_cons, List.map_nil, List.append_nil, List.nil_append, List.cons_append, List.all_cons, List.all_nil, List.length_cons, List.length_nil, List.replicate_zero, List.replicate_succ, List.any_cons, List.any_nil, List.length_map, eq_self, Option.isSome_some, Option.isSome_none, RUN, RUNC, OB, ↓reduceIte, Nat.reduceSub, Nat.reduceAdd, Nat.reduceLT, Nat.reduceLeDiff, Int.cast_ofNat_Int, Int.reduceEq, Int.reduceLT, Int.reduceLE, Int.reduceAdd, Int.reduceSub, Int.reduceNeg, Int.reduceMul, cstep_, kC0_, kC1_, kC2_, lstep_, kL0_, Cond.d, ea, h1, ga]
  | .not a, n, hn, hd => by
    simp only [Cond.deep] at hn hd
    (obtain ⟨n, rfl⟩ : ∃ m, n = m + 1 := ⟨n - 1, by omega⟩; rw [call_law_things, runF_eq (by rfl) (by rfl)])
    have h1 := things_cond a n (by omega) (by omega)
    obtain ⟨wa, la, ea, oa⟩ := a.shape
    have ga := ne_nil (ea ▸ gd_cond a) (by omega)
    rw [ea] at h1
    rw [show ((Cond.not a).size : Int) = 1 + a.size by simp only [Cond.size]; omega]
    simp (disch := first | omega | decide +kernel | assumption) only [F_law_things, List.map_cons, List.map_nil, List.append_nil, List.nil_append, List.cons_append, List.all_cons, List.all_nil, List.length_cons, List.length_nil, List.replicate_zero, List.replicate_succ, List.any_cons, List.any_nil, List.length_map, eq_self, Option.isSome_some, Option.isSome_none, RUN, RUNC, OB, ↓reduceIte, Nat.reduceSub, Nat.reduceAdd, Nat.reduceLT, Nat.reduceLeDiff, Int.cast_ofNat_Int, Int.reduceEq, Int.reduceLT, Int.reduceLE, Int.reduceAdd, Int.reduceSub, Int.reduceNeg, Int.reduceMul, cstep_, kC0_, kC1_, kC2_, lstep_, kL0_, Cond.d, ea, h1, ga]
  | .tru a, n, hn, hd => by
    simp only [Cond.deep] at hn hd
    (obtain ⟨n, rfl⟩ : ∃ m, n = m + 1 := ⟨n - 1, by omega⟩; rw [call_law_things, runF_eq (by rfl) (by rfl)])
    have h1 := things_cond a n (by omega) (by omega)
    obtain ⟨wa, la, ea, oa⟩ := a.shape
    have ga := ne_nil (ea ▸ gd_cond a) (by omega)
    rw [ea] at h1
    rw [show ((Cond.tru a).size : Int) = 1 + a.size by simp only [Cond.size]; omega]
    simp (disch := first | omega | decide +kernel | assumption) only [F_law_things, List.map_cons, List.map_nil, List.append_nil, List.nil_append, List.cons_append, List.all_cons, List.all_nil, List.length_cons, List.length_nil, List.replicate_zero, List.replicate_succ, List.any_cons, List.any_nil, List.length_map, eq_self, Option.isSome_some, Option.isSome_none, RUN, RUNC, OB, ↓reduceIte, Nat.reduceSub, Nat.reduceAdd, Nat.reduceLT, Nat.reduceLeDiff, Int.cast_ofNat_Int, Int.reduceEq, Int.reduceLT, Int.reduceLE, Int.reduceAdd, Int.reduceSub, Int.reduceNeg, Int.reduceMul, cstep_, kC0_, kC1_, kC2_, lstep_, kL0_, Cond.d, ea, h1, ga]
/-! sentences, drawn -/
/-- numbers, drawn in a comprehension -/
theorem nats_ex (s : List Int) (w : Nat) (hw : 1 ≤ w) : ∀ (m : Nat) (q : Dq), ∃ (q' : Dq) (cs : List Nat), (cs.length = m ∧ ∀ c ∈ cs, c < w) ∧
    ∀ (St : Dq → S) (elt : S → Option (D × S)) (cond : S → Option (Bool × S)) (tg own : List Nat), (∀ (i : Nat) (q : Dq), cstep elt cond tg own (.int (i : Int)) (St q) = some (some (.int (nxV s q (w : Int))), St (nxQ s q (w : Int)))) →
      compF elt cond tg own ((List.range m).map fun (i : Nat) => D.int (i : Int)) (St q) = some (cs.map fun (i : Nat) => D.int (i : Int), St q') := by
  have gen : ∀ (l : List Nat) (q : Dq), ∃ (q' : Dq) (cs : List Nat), (cs.length = l.length ∧ ∀ c ∈ cs, c < w) ∧
      ∀ (St : Dq → S) (elt : S → Option (D × S)) (cond : S → Option (Bool × S)) (tg own : List Nat), (∀ (i : Nat) (q : Dq), cstep elt cond tg own (.int (i : Int)) (St q) = some (some (.int (nxV s q (w : Int))), St (nxQ s q (w : Int)))) →
        compF elt cond tg own (l.map fun (i : Nat) => D.int (i : Int)) (St q) = some (cs.map fun (i : Nat) => D.int (i : Int), St q') := by
    intro l
    induction l with
    | nil => exact fun q => ⟨q, [], ⟨rfl, fun c h => absurd h List.not_mem_nil⟩, fun St elt cond tg own h => rfl⟩
    | cons i l ih =>
      intro q
      obtain ⟨q', cs, ⟨h1, h2⟩, h3⟩ := ih (nxQ s q (w : Int))
      obtain ⟨c, hc⟩ := Int.eq_ofNat_of_zero_le (nxV_lo (s := s) (q := q) (m := (w : Int)) (by omega))
      have hc2 := nxV_hi (s := s) (q := q) (m := (w : Int)) (by omega)
      refine ⟨q', c :: cs, ⟨by simp [h1], fun x hx => ?_⟩, fun St elt cond tg own h => ?_⟩
      · rcases List.mem_cons.mp hx with rfl | hx
        · omega
        · exact h2 x hx
      · have := h i q
        rw [hc] at this
        rw [List.map_cons, cstep_t this, h3 St elt cond tg own h, bnd_s, kCp2_]
        rfl
  intro m q
  obtain ⟨q', cs, ⟨h1, h2⟩, h3⟩ := gen (List.range m) q
  exact ⟨q', cs, ⟨by rw [h1, List.length_range], h2⟩, h3⟩
theorem pairs_ex (s : List Int) (w o : Nat) (hw : 1 ≤ w) (ho : 1 ≤ o) : ∀ (m : Nat) (q : Dq), ∃ (q' : Dq) (cs : List (Nat × Nat)), (cs.length = m ∧ ∀ c ∈ cs, c.1 < w ∧ c.2 < o) ∧
    ∀ (St : Dq → S) (elt : S → Option (D × S)) (cond : S → Option (Bool × S)) (tg own : List Nat), (∀ (i : Nat) (q : Dq), cstep elt cond tg own (.int (i : Int)) (St q) = some (some (.tup [.int (nxV s q (w : Int)), .int (nxV s (nxQ s q (w : Int)) (o : Int))]), St (nxQ s (nxQ s q (w : Int)) (o : Int)))) →
      compF elt cond tg own ((List.range m).map fun (i : Nat) => D.int (i : Int)) (St q) = some (cs.map pairD2, St q') := by
  have gen : ∀ (l : List Nat) (q : Dq), ∃ (q' : Dq) (cs : List (Nat × Nat)), (cs.length = l.length ∧ ∀ c ∈ cs, c.1 < w ∧ c.2 < o) ∧
      ∀ (St : Dq → S) (elt : S → Option (D × S)) (cond : S → Option (Bool × S)) (tg own : List Nat), (∀ (i : Nat) (q : Dq), cstep elt cond tg own (.int (i : Int)) (St q) = some (some (.tup [.int (nxV s q (w : Int)), .int (nxV s (nxQ s q (w : Int)) (o : Int))]), St (nxQ s (nxQ s q (w : Int)) (o : Int)))) →
        compF elt cond tg own (l.map fun (i : Nat) => D.int (i : Int)) (St q) = some (cs.map pairD2, St q') := by
    intro l
    induction l with
    | nil => exact fun q => ⟨q, [], ⟨rfl, fun c h => absurd h List.not_mem_nil⟩, fun St elt cond tg own h => rfl⟩
    | cons i l ih =>
      intro q
      obtain ⟨q', cs, ⟨h1, h2⟩, h3⟩ := ih (nxQ s (nxQ s q (w : Int)) (o : Int))
      obtain ⟨c, hc⟩ := Int.eq_ofNat_of_zero_le (nxV_lo (s := s) (q := q) (m := (w : Int)) (by omega))
      have hc2 := nxV_hi (s := s) (q := q) (m := (w : Int)) (by omega)
      obtain ⟨d, hd⟩ := Int.eq_ofNat_of_zero_le (nxV_lo (s := s) (q := nxQ s q (w : Int)) (m := (o : Int)) (by omega))
      have hd2 := nxV_hi (s := s) (q := nxQ s q (w : Int)) (m := (o : Int)) (by omega)
      refine ⟨q', (c, d) :: cs, ⟨by simp [h1], fun x hx => ?_⟩, fun St elt cond tg own h => ?_⟩
      · rcases List.mem_cons.mp hx with rfl | hx
        · exact ⟨by dsimp only; omega, by dsimp only; omega⟩
        · exact h2 x hx
      · have := h i q
        rw [hc, hd] at this
        rw [List.map_cons, cstep_t this, h3 St elt cond tg own h, bnd_s, kCp2_]
        rfl
  intro m q
  obtain ⟨q', cs, ⟨h1, h2⟩, h3⟩ := gen (List.range m) q
  exact ⟨q', cs, ⟨by rw [h1, List.length_range], h2⟩, h3⟩
theorem sized_of (s : List Int) (ws : List Nat) (hw : ∀ w ∈ ws, 1 ≤ w ∧ w ≤ 8) (sf : Bool) (deep : Nat)
    (ih : ∀ q : Dq, ∃ (q' : Dq) (p : Sent), anyOk ws deep sf p ∧ ∀ n (di : Int), 2 * deep + 10 ≤ n → di = deep → callF fds n i_law_any [dice s q, widD ws, .int di, .bl sf] = some (some (dice s q'), (false, .tup [p.d, .int (p.wide ws : Int)]))) (q : Dq) (wide : Nat) (w1 : 1 ≤ wide) (w8 : wide ≤ 8) :
    ∃ (q' : Dq) (p : Sent), (p.ok ws ∧ p.wide ws = wide ∧ p.lev ≤ 2 * deep + 1 ∧ p.deep ≤ 2 * deep + 8 ∧ (sf = true → p.safe) ∧ p.jl ≤ deep) ∧ ∀ n (wi di : Int), 2 * deep + 11 ≤ n → wi = wide → di = deep → callF fds n i_law_sized [dice s q, .int wi, .int di, .bl sf, widD ws] = some (some (dice s q'), (false, p.d)) := by
  obtain ⟨q1, p, hp, h1⟩ := ih q
  have pw := Sent.wide_pos (fun w h => (hw w h).1) p hp.ok
  have p8 := Sent.wide_le (fun w h => (hw w h).2) p hp.ok
  by_cases c1 : p.wide ws = wide
  · refine ⟨q1, p, ⟨hp.ok, c1, by have := hp.lev; omega, by have := hp.deep; omega, hp.safe, hp.jl⟩, fun n wi di hn e1 e2 => ?_⟩
    subst e1 e2
    (obtain ⟨n, rfl⟩ : ∃ m, n = m + 1 := ⟨n - 1, by omega⟩; rw [call_law_sized, runF_eq (by rfl) (by rfl)])
    have d1 : decide ((p.wide ws : Int) = (wide : Int)) = true := decide_eq_true (by omega)
    simp (disch := first | omega | decide +kernel | assumption) only [F_law_sized, List.map_cons, List.map_nil, List.append_nil, List.nil_append, List.cons_append, List.all_cons, List.all_nil, List.length_cons, List.length_nil, List.replicate_zero, List.replicate_succ, List.any_cons, List.any_nil, List.length_map, eq_self, Option.isSome_some, Option.isSome_none, RUN, RUNC, OB, ↓reduceIte, Nat.reduceSub, Nat.reduceAdd, Nat.reduceLT, Nat.reduceLeDiff, Int.cast_ofNat_Int, Int.reduceEq, Int.reduceLT, Int.reduceLE, Int.reduceAdd, Int.reduceSub, Int.reduceNeg, Int.reduceMul, cstep_, kC0_, kC1_, kC2_, lstep_, kL0_, h1, d1]
  · have d1 : decide ((p.wide ws : Int) = (wide : Int)) = false := decide_eq_false (by omega)
    -- the columns, without their run
    have cols : ∃ (q' : Dq) (cs : List Nat), (cs.length = wide ∧ ∀ c ∈ cs, c < p.wide ws) ∧ ∀ n, 1 ≤ n → ∀ x y z w v u : Sl, compF (eltF (callF fds n) (.call i_law_next (some 0) (.cons (.var 0) (.cons (.var 6) .nil)))) (cndF (callF fds n) (.lit (.bl true))) [7] [7] ((List.range (wide : Int).toNat).map fun (i : Nat) => D.int (i : Int))
        [.io (dice s q1), x, y, z, w, v, .va (.int (p.wide ws : Int)), .no] = some (cs.map fun (i : Nat) => D.int (i : Int), [.io (dice s q'), x, y, z, w, v, .va (.int (p.wide ws : Int)), .no]) := by
      obtain ⟨q', cs, h2, h3⟩ := nats_ex s (p.wide ws) pw wide q1
      refine ⟨q', cs, h2, fun n hn x y z w v u => ?_⟩
      have := h3 (fun q => [.io (dice s q), x, y, z, w, v, .va (.int (p.wide ws : Int)), .no]) (eltF (callF fds n) (.call i_law_next (some 0) (.cons (.var 0) (.cons (.var 6) .nil)))) (cndF (callF fds n) (.lit (.bl true))) [7] [7] (by
        intro i q
        simp (disch := first | omega | decide +kernel | assumption) only [List.map_cons, List.map_nil, List.append_nil, List.nil_append, List.cons_append, List.all_cons, List.all_nil, List.length_cons, List.length_nil, List.replicate_zero, List.replicate_succ, List.any_cons, List.any_nil, List.length_map, eq_self, Option.isSome_some, Option.isSome_none, RUN, RUNC, OB, ↓reduceIte, Nat.reduceSub, Nat.reduceAdd, Nat.reduceLT, Nat.reduceLeDiff, Int.cast_ofNat_Int, Int.reduceEq, Int.reduceLT, Int.reduceLE, Int.reduceAdd, Int.reduceSub, Int.reduceNeg, Int.reduceMul, cstep_, kC0_, kC1_, kC2_, lstep_, kL0_, next_ok])
      rw [show (wide : Int).toNat = wide by simp]
      exact this
    obtain ⟨q', cs, ⟨k1, k2⟩, k3⟩ := cols
    refine ⟨q', .pick p cs, ⟨⟨hp.ok, by omega, by omega, k2⟩, k1, by have := hp.lev; show p.lev + 1 ≤ _; omega, by have := hp.deep; show p.deep + 1 ≤ _; omega, hp.safe, hp.jl⟩, fun n wi di hn e1 e2 => ?_⟩
    subst e1 e2
    (obtain ⟨n, rfl⟩ : ∃ m, n = m + 1 := ⟨n - 1, by omega⟩; rw [call_law_sized, runF_eq (by rfl) (by rfl)])
    have k3 := fun x y z w v => k3 n (by omega) x y z w v .no
    have hz : szOk cs.length = true := szOk_k (by omega)
    simp (disch := first | omega | decide +kernel | assumption) only [F_law_sized, List.map_cons, List.map_nil, List.append_nil, List.nil_append, List.cons_append, List.all_cons, List.all_nil, List.length_cons, List.length_nil, List.replicate_zero, List.replicate_succ, List.any_cons, List.any_nil, List.length_map, eq_self, Option.isSome_some, Option.isSome_none, RUN, RUNC, OB, ↓reduceIte, Nat.reduceSub, Nat.reduceAdd, Nat.reduceLT, Nat.reduceLeDiff, Int.cast_ofNat_Int, Int.reduceEq, Int.reduceLT, Int.reduceLE, Int.reduceAdd, Int.reduceSub, Int.reduceNeg, Int.reduceMul, cstep_, kC0_, kC1_, kC2_, lstep_, kL0_, h1, d1, rng_1, k3, hz, Sent.d, natsD]
theorem law_any_ex (s : List Int) (ws : List Nat) (h0 : ws ≠ []) (hl : ws.length ≤ 1000) (hw : ∀ w ∈ ws, 1 ≤ w ∧ w ≤ 8) (sf : Bool) : ∀ (deep : Nat) (q : Dq),
    ∃ (q' : Dq) (p : Sent), anyOk ws deep sf p ∧ ∀ n (di : Int), 2 * deep + 10 ≤ n → di = deep → callF fds n i_law_any [dice s q, widD ws, .int di, .bl sf] = some (some (dice s q'), (false, .tup [p.d, .int (p.wide ws : Int)])) := by
  have hp : 0 < ws.length := List.length_pos_iff.mpr h0
  -- a table
  have leaf : ∀ (deep : Nat) (q : Dq), (deep = 0 ∨ nxV s q 8 = 0) → ∃ (q' : Dq) (p : Sent), anyOk ws deep sf p ∧ ∀ n (di : Int), 2 * deep + 10 ≤ n → di = deep → callF fds n i_law_any [dice s q, widD ws, .int di, .bl sf] = some (some (dice s q'), (false, .tup [p.d, .int (p.wide ws : Int)])) := by
    intro deep q hc
    obtain ⟨t, ht⟩ := Int.eq_ofNat_of_zero_le (nxV_lo (s := s) (q := nxQ s q 8) (m := (ws.length : Int)) (by omega))
    have ht2 := nxV_hi (s := s) (q := nxQ s q 8) (m := (ws.length : Int)) (by omega)
    have htl : t < ws.length := by omega
    have e4 : prD .idx [widD ws, .int (t : Int)] = some (false, .int (Sent.wide ws (.rows t) : Int)) := by
      unfold widD
      rw [p_idxLa, atI_nat (n := t) (a := D.int (ws.getD t 0 : Int)) (by simp [List.getElem?_map, List.getElem?_eq_getElem htl]), fD_s]
      rfl
    have e3 : prD .len [widD ws] = some (false, .int (ws.length : Int)) := by
      unfold widD; rw [p_lenL, List.length_map]
    refine ⟨nxQ s (nxQ s q 8) ws.length, .rows t, ⟨htl, Nat.zero_le _, Nat.zero_le _, fun _ => trivial, Nat.zero_le _⟩, fun n di hn hd => ?_⟩
    subst hd
    (obtain ⟨n, rfl⟩ : ∃ m, n = m + 1 := ⟨n - 1, by omega⟩; rw [call_law_any, runF_eq (by rfl) (by rfl)])
    by_cases c3 : deep = 0
    · have c3 : decide ((deep : Int) = 0) = true := decide_eq_true (by omega)
      simp (disch := first | omega | decide +kernel | assumption) only [F_law_any, List.map_cons, List.map_nil, List.append_nil, List.nil_append, List.cons_append, List.all_cons, List.all_nil, List.length_cons, List.length_nil, List.replicate_zero, List.replicate_succ, List.any_cons, List.any_nil, List.length_map, eq_self, Option.isSome_some, Option.isSome_none, RUN, RUNC, OB, ↓reduceIte, Nat.reduceSub, Nat.reduceAdd, Nat.reduceLT, Nat.reduceLeDiff, Int.cast_ofNat_Int, Int.reduceEq, Int.reduceLT, Int.reduceLE, Int.reduceAdd, Int.reduceSub, Int.reduceNeg, Int.reduceMul, cstep_, kC0_, kC1_, kC2_, lstep_, kL0_, next_ok, c3, e3, ht, e4, Sent.d]
    · have c3' : decide ((deep : Int) = 0) = false := decide_eq_false (by omega)
      have c4 := hc.resolve_left c3
      simp (disch := first | omega | decide +kernel | assumption) only [F_law_any, List.map_cons, List.map_nil, List.append_nil, List.nil_append, List.cons_append, List.all_cons, List.all_nil, List.length_cons, List.length_nil, List.replicate_zero, List.replicate_succ, List.any_cons, List.any_nil, List.length_map, eq_self, Option.isSome_some, Option.isSome_none, RUN, RUNC, OB, ↓reduceIte, Nat.reduceSub, Nat.reduceAdd, Nat.reduceLT, Nat.reduceLeDiff, Int.cast_ofNat_Int, Int.reduceEq, Int.reduceLT, Int.reduceLE, Int.reduceAdd, Int.reduceSub, Int.reduceNeg, Int.reduceMul, cstep_, kC0_, kC1_, kC2_, lstep_, kL0_, next_ok, c3', c4, e3, ht, e4, Sent.d]
  intro deep
  induction deep with
  | zero =>
    intro q
    exact leaf 0 q (.inl rfl)
  | succ deep ih =>
    intro q
    by_cases c0 : nxV s q 8 = 0
    · exact leaf _ q (.inr c0)
    have v0 := nxV_lo (s := s) (q := q) (m := 8) (by omega)
    have v1 := nxV_hi (s := s) (q := q) (m := 8) (by omega)
    have z0 : decide (((deep + 1 : Nat) : Int) = 0) = false := decide_eq_false (by omega)
    have z1 : decide (nxV s q 8 = 0) = false := decide_eq_false c0
    obtain ⟨q2, p, hp, h1⟩ := ih (nxQ s q 8)
    have pw := Sent.wide_pos (fun w h => (hw w h).1) p hp.ok
    have p8 := Sent.wide_le (fun w h => (hw w h).2) p hp.ok
    have pl := hp.lev
    have pd := hp.deep
    have pj := hp.jl
    by_cases c1 : nxV s q 8 < 3
    · obtain ⟨q3, c, ⟨k1, k2, k3, k4⟩, k5⟩ := law_condition_ex s (p.wide ws) pw (by omega) sf 2 q2
      refine ⟨q3, .keep p c, ⟨⟨hp.ok, k1⟩, by show p.lev + 1 ≤ _; omega, by show max p.deep c.deep + 1 ≤ _; omega, fun h => ⟨hp.safe h, k4 h⟩, by show p.jl ≤ _; omega⟩, fun n di hn hd => ?_⟩
      subst hd
      (obtain ⟨n, rfl⟩ : ∃ m, n = m + 1 := ⟨n - 1, by omega⟩; rw [call_law_any, runF_eq (by rfl) (by rfl)])
      simp (disch := first | omega | decide +kernel | assumption) only [F_law_any, List.map_cons, List.map_nil, List.append_nil, List.nil_append, List.cons_append, List.all_cons, List.all_nil, List.length_cons, List.length_nil, List.replicate_zero, List.replicate_succ, List.any_cons, List.any_nil, List.length_map, eq_self, Option.isSome_some, Option.isSome_none, RUN, RUNC, OB, ↓reduceIte, Nat.reduceSub, Nat.reduceAdd, Nat.reduceLT, Nat.reduceLeDiff, Int.cast_ofNat_Int, Int.reduceEq, Int.reduceLT, Int.reduceLE, Int.reduceAdd, Int.reduceSub, Int.reduceNeg, Int.reduceMul, cstep_, kC0_, kC1_, kC2_, lstep_, kL0_, next_ok, z0, z1, h1, decide_eq_true c1, k5, Sent.d]
      rfl
    have z2 : decide (nxV s q 8 < 3) = false := decide_eq_false c1
    by_cases c2 : nxV s q 8 = 3
    · have u0 := nxV_lo (s := s) (q := q2) (m := 3) (by omega)
      have u1 := nxV_hi (s := s) (q := q2) (m := 3) (by omega)
      obtain ⟨m, hm⟩ := Int.eq_ofNat_of_zero_le (show 0 ≤ 1 + nxV s q2 3 by omega)
      obtain ⟨q', cs, ⟨k1, k2⟩, k3⟩ := nats_ex s (p.wide ws) pw m (nxQ s q2 3)
      refine ⟨q', .pick p cs, ⟨⟨hp.ok, by omega, by omega, k2⟩, by show p.lev + 1 ≤ _; omega, by show p.deep + 1 ≤ _; omega, hp.safe, by show p.jl ≤ _; omega⟩, fun n di hn hd => ?_⟩
      subst hd
      (obtain ⟨n, rfl⟩ : ∃ m, n = m + 1 := ⟨n - 1, by omega⟩; rw [call_law_any, runF_eq (by rfl) (by rfl)])
      have hz : szOk cs.length = true := szOk_k (by omega)
      have mt : (m : Int).toNat = m := by simp
      simp (disch := first | omega | decide +kernel | assumption) only [F_law_any, List.map_cons, List.map_nil, List.append_nil, List.nil_append, List.cons_append, List.all_cons, List.all_nil, List.length_cons, List.length_nil, List.replicate_zero, List.replicate_succ, List.any_cons, List.any_nil, List.length_map, eq_self, Option.isSome_some, Option.isSome_none, RUN, RUNC, OB, ↓reduceIte, Nat.reduceSub, Nat.reduceAdd, Nat.reduceLT, Nat.reduceLeDiff, Int.cast_ofNat_Int, Int.reduceEq, Int.reduceLT, Int.reduceLE, Int.reduceAdd, Int.reduceSub, Int.reduceNeg, Int.reduceMul, cstep_, kC0_, kC1_, kC2_, lstep_, kL0_, next_ok, z0, z1, z2, h1, c2, hm, rng_1, mt]
      rw [k3 (fun q => [.io (dice s q), .va (widD ws), .va (.int ((deep + 1 : Nat) : Int)), .va (.bl sf), .va (.int 3), .no, .no, .va p.d, .va (.int (p.wide ws : Int)), .va (.int (m : Int)), .no, .no, .no, .no]) _ _ _ _ (by
        intro i q
        simp (disch := first | omega | decide +kernel | assumption) only [List.map_cons, List.map_nil, List.append_nil, List.nil_append, List.cons_append, List.all_cons, List.all_nil, List.length_cons, List.length_nil, List.replicate_zero, List.replicate_succ, List.any_cons, List.any_nil, List.length_map, eq_self, Option.isSome_some, Option.isSome_none, RUN, RUNC, OB, ↓reduceIte, Nat.reduceSub, Nat.reduceAdd, Nat.reduceLT, Nat.reduceLeDiff, Int.cast_ofNat_Int, Int.reduceEq, Int.reduceLT, Int.reduceLE, Int.reduceAdd, Int.reduceSub, Int.reduceNeg, Int.reduceMul, cstep_, kC0_, kC1_, kC2_, lstep_, kL0_, next_ok])]
      simp (disch := first | omega | decide +kernel | assumption) only [List.map_cons, List.map_nil, List.append_nil, List.nil_append, List.cons_append, List.all_cons, List.all_nil, List.length_cons, List.length_nil, List.replicate_zero, List.replicate_succ, List.any_cons, List.any_nil, List.length_map, eq_self, Option.isSome_some, Option.isSome_none, RUN, RUNC, OB, ↓reduceIte, Nat.reduceSub, Nat.reduceAdd, Nat.reduceLT, Nat.reduceLeDiff, Int.cast_ofNat_Int, Int.reduceEq, Int.reduceLT, Int.reduceLE, Int.reduceAdd, Int.reduceSub, Int.reduceNeg, Int.reduceMul, cstep_, kC0_, kC1_, kC2_, lstep_, kL0_, hz]
      simp only [Sent.d, natsD, Sent.wide, k1]
    have z3 : decide (nxV s q 8 = 3) = false := decide_eq_false c2
    -- both, without
    have bw : ∀ q3 : Dq, ∃ (q' : Dq) (p2 : Sent) (w : Str), ((w = "both" ∨ w = "without") ∧ p2.ok ws ∧ p2.wide ws = p.wide ws ∧ p2.lev ≤ 2 * deep + 1 ∧ p2.deep ≤ 2 * deep + 8 ∧ (sf = true → p2.safe) ∧ p2.jl ≤ deep) ∧ atI [D.str "both", D.str "without"] (nxV s q 8 % 2) = some (.str w) ∧
        ∀ n (wi di : Int), 2 * deep + 11 ≤ n → wi = (p.wide ws : Nat) → di = deep → callF fds n i_law_sized [dice s q3, .int wi, .int di, .bl sf, widD ws] = some (some (dice s q'), (false, p2.d)) := by
      intro q3
      obtain ⟨q', p2, ⟨k1, k2, k3, k4, k5, k7⟩, k6⟩ := sized_of s ws hw sf deep ih q3 (p.wide ws) pw p8
      by_cases e : nxV s q 8 % 2 = 0
      · exact ⟨q', p2, "both", ⟨.inl rfl, k1, k2, k3, k4, k5, k7⟩, by rw [e]; exact at0, k6⟩
      · have e : nxV s q 8 % 2 = 1 := by omega
        exact ⟨q', p2, "without", ⟨.inr rfl, k1, k2, k3, k4, k5, k7⟩, by rw [e]; exact at1, k6⟩
    have fin : ∀ (q' : Dq) (p2 : Sent) (w : Str), ((w = "both" ∨ w = "without") ∧ p2.ok ws ∧ p2.wide ws = p.wide ws ∧ p2.lev ≤ 2 * deep + 1 ∧ p2.deep ≤ 2 * deep + 8 ∧ (sf = true → p2.safe) ∧ p2.jl ≤ deep) →
        (∀ n (di : Int), 2 * (deep + 1) + 10 ≤ n → di = ((deep + 1 : Nat) : Int) → callF fds n i_law_any [dice s q, widD ws, .int di, .bl sf] = some (some (dice s q'), (false, .tup [.tup [.str w, p.d, p2.d], .int (p.wide ws : Int)]))) →
        ∃ (q' : Dq) (p : Sent), anyOk ws (deep + 1) sf p ∧ ∀ n (di : Int), 2 * (deep + 1) + 10 ≤ n → di = ((deep + 1 : Nat) : Int) → callF fds n i_law_any [dice s q, widD ws, .int di, .bl sf] = some (some (dice s q'), (false, .tup [p.d, .int (p.wide ws : Int)])) := by
      intro q' p2 w hk hrun
      obtain ⟨hk0, k1, k2, k3, k4, k5, k7⟩ := hk
      rcases hk0 with rfl | rfl
      · exact ⟨q', .both p p2, ⟨⟨hp.ok, k1, k2.symm⟩, by show max _ _ + 1 ≤ _; omega, by show max _ _ + 1 ≤ _; omega, fun h => ⟨hp.safe h, k5 h⟩, by show max _ _ + 1 ≤ _; omega⟩, hrun⟩
      · exact ⟨q', .without p p2, ⟨⟨hp.ok, k1, k2.symm⟩, by show max _ _ + 1 ≤ _; omega, by show max _ _ + 1 ≤ _; omega, fun h => ⟨hp.safe h, k5 h⟩, by show max _ _ + 1 ≤ _; omega⟩, hrun⟩
    by_cases c3 : nxV s q 8 < 6 ∧ p.wide ws < 5
    · obtain ⟨q4, p4, hp4, h4⟩ := ih q2
      have pw4 := Sent.wide_pos (fun w h => (hw w h).1) p4 hp4.ok
      have pl4 := hp4.lev
      have pd4 := hp4.deep
      have pj4 := hp4.jl
      have p84 := Sent.wide_le (fun w h => (hw w h).2) p4 hp4.ok
      have z4 : decide (nxV s q 8 < 6) = true := decide_eq_true c3.1
      have z5 : decide ((p.wide ws : Int) < 5) = true := decide_eq_true (by omega)
      by_cases c4 : p4.wide ws + p.wide ws ≤ 8
      · have z6 : decide ((p4.wide ws : Int) + (p.wide ws : Int) ≤ 8) = true := decide_eq_true (by omega)
        have u0 := nxV_lo (s := s) (q := q4) (m := 5) (by omega)
        have u1 := nxV_hi (s := s) (q := q4) (m := 5) (by omega)
        obtain ⟨m, hm⟩ := Int.eq_ofNat_of_zero_le u0
        obtain ⟨q', ps, ⟨k1, k2⟩, k3⟩ := pairs_ex s (p.wide ws) (p4.wide ws) pw pw4 m (nxQ s q4 5)
        refine ⟨q', .join p p4 ps, ⟨⟨hp.ok, hp4.ok, by omega, by omega, k2⟩, by show max _ _ + 1 ≤ _; omega, by show max _ _ + 1 ≤ _; omega, fun h => ⟨hp.safe h, hp4.safe h⟩, by show max _ _ + 1 ≤ _; omega⟩, fun n di hn hd => ?_⟩
        subst hd
        (obtain ⟨n, rfl⟩ : ∃ m, n = m + 1 := ⟨n - 1, by omega⟩; rw [call_law_any, runF_eq (by rfl) (by rfl)])
        have hz : szOk ps.length = true := szOk_k (by omega)
        have hm : nxV s q4 5 = (m : Int) := hm
        have mt : (m : Int).toNat = m := by simp
        simp (disch := first | omega | decide +kernel | assumption) only [F_law_any, List.map_cons, List.map_nil, List.append_nil, List.nil_append, List.cons_append, List.all_cons, List.all_nil, List.length_cons, List.length_nil, List.replicate_zero, List.replicate_succ, List.any_cons, List.any_nil, List.length_map, eq_self, Option.isSome_some, Option.isSome_none, RUN, RUNC, OB, ↓reduceIte, Nat.reduceSub, Nat.reduceAdd, Nat.reduceLT, Nat.reduceLeDiff, Int.cast_ofNat_Int, Int.reduceEq, Int.reduceLT, Int.reduceLE, Int.reduceAdd, Int.reduceSub, Int.reduceNeg, Int.reduceMul, cstep_, kC0_, kC1_, kC2_, lstep_, kL0_, next_ok, z0, z1, z2, z3, z4, z5, z6, h1, h4, hm, rng_1, mt]
        rw [k3 (fun qq => [.io (dice s qq), .va (widD ws), .va (.int ((deep + 1 : Nat) : Int)), .va (.bl sf), .va (.int (nxV s q 8)), .no, .no, .va p.d, .va (.int (p.wide ws : Int)), .no, .va p4.d, .va (.int (p4.wide ws : Int)), .no, .no]) _ _ _ _ (by
          intro i q
          simp (disch := first | omega | decide +kernel | assumption) only [List.map_cons, List.map_nil, List.append_nil, List.nil_append, List.cons_append, List.all_cons, List.all_nil, List.length_cons, List.length_nil, List.replicate_zero, List.replicate_succ, List.any_cons, List.any_nil, List.length_map, eq_self, Option.isSome_some, Option.isSome_none, RUN, RUNC, OB, ↓reduceIte, Nat.reduceSub, Nat.reduceAdd, Nat.reduceLT, Nat.reduceLeDiff, Int.cast_ofNat_Int, Int.reduceEq, Int.reduceLT, Int.reduceLE, Int.reduceAdd, Int.reduceSub, Int.reduceNeg, Int.reduceMul, cstep_, kC0_, kC1_, kC2_, lstep_, kL0_, next_ok])]
        simp (disch := first | omega | decide +kernel | assumption) only [List.map_cons, List.map_nil, List.append_nil, List.nil_append, List.cons_append, List.all_cons, List.all_nil, List.length_cons, List.length_nil, List.replicate_zero, List.replicate_succ, List.any_cons, List.any_nil, List.length_map, eq_self, Option.isSome_some, Option.isSome_none, RUN, RUNC, OB, ↓reduceIte, Nat.reduceSub, Nat.reduceAdd, Nat.reduceLT, Nat.reduceLeDiff, Int.cast_ofNat_Int, Int.reduceEq, Int.reduceLT, Int.reduceLE, Int.reduceAdd, Int.reduceSub, Int.reduceNeg, Int.reduceMul, cstep_, kC0_, kC1_, kC2_, lstep_, kL0_, hz]
        simp [Sent.d, pairsD, Sent.wide]
      · have z6 : decide ((p4.wide ws : Int) + (p.wide ws : Int) ≤ 8) = false := decide_eq_false (by omega)
        obtain ⟨q', p2, w, k0, k1, k2⟩ := bw q4
        refine fin q' p2 w k0 fun n di hn hd => ?_
        subst hd
        (obtain ⟨n, rfl⟩ : ∃ m, n = m + 1 := ⟨n - 1, by omega⟩; rw [call_law_any, runF_eq (by rfl) (by rfl)])
        simp (disch := first | omega | decide +kernel | assumption) only [F_law_any, List.map_cons, List.map_nil, List.append_nil, List.nil_append, List.cons_append, List.all_cons, List.all_nil, List.length_cons, List.length_nil, List.replicate_zero, List.replicate_succ, List.any_cons, List.any_nil, List.length_map, eq_self, Option.isSome_some, Option.isSome_none, RUN, RUNC, OB, ↓reduceIte, Nat.reduceSub, Nat.reduceAdd, Nat.reduceLT, Nat.reduceLeDiff, Int.cast_ofNat_Int, Int.reduceEq, Int.reduceLT, Int.reduceLE, Int.reduceAdd, Int.reduceSub, Int.reduceNeg, Int.reduceMul, cstep_, kC0_, kC1_, kC2_, lstep_, kL0_, next_ok, z0, z1, z2, z3, z4, z5, z6, h1, h4, k1, k2]
    · obtain ⟨q', p2, w, k0, k1, k2⟩ := bw q2
      refine fin q' p2 w k0 fun n di hn hd => ?_
      subst hd
      (obtain ⟨n, rfl⟩ : ∃ m, n = m + 1 := ⟨n - 1, by omega⟩; rw [call_law_any, runF_eq (by rfl) (by rfl)])
      by_cases c4 : nxV s q 8 < 6
      · have z5 : decide ((p.wide ws : Int) < 5) = false := decide_eq_false (by omega)
        simp (disch := first | omega | decide +kernel | assumption) only [F_law_any, List.map_cons, List.map_nil, List.append_nil, List.nil_append, List.cons_append, List.all_cons, List.all_nil, List.length_cons, List.length_nil, List.replicate_zero, List.replicate_succ, List.any_cons, List.any_nil, List.length_map, eq_self, Option.isSome_some, Option.isSome_none, RUN, RUNC, OB, ↓reduceIte, Nat.reduceSub, Nat.reduceAdd, Nat.reduceLT, Nat.reduceLeDiff, Int.cast_ofNat_Int, Int.reduceEq, Int.reduceLT, Int.reduceLE, Int.reduceAdd, Int.reduceSub, Int.reduceNeg, Int.reduceMul, cstep_, kC0_, kC1_, kC2_, lstep_, kL0_, next_ok, z0, z1, z2, z3, decide_eq_true c4, z5, h1, k1, k2]
      · simp (disch := first | omega | decide +kernel | assumption) only [F_law_any, List.map_cons, List.map_nil, List.append_nil, List.nil_append, List.cons_append, List.all_cons, List.all_nil, List.length_cons, List.length_nil, List.replicate_zero, List.replicate_succ, List.any_cons, List.any_nil, List.length_map, eq_self, Option.isSome_some, Option.isSome_none, RUN, RUNC, OB, ↓reduceIte, Nat.reduceSub, Nat.reduceAdd, Nat.reduceLT, Nat.reduceLeDiff, Int.cast_ofNat_Int, Int.reduceEq, Int.reduceLT, Int.reduceLE, Int.reduceAdd, Int.reduceSub, Int.reduceNeg, Int.reduceMul, cstep_, kC0_, kC1_, kC2_, lstep_, kL0_, next_ok, z0, z1, z2, z3, decide_eq_false c4, h1, k1, k2]
/-! tables, drawn -/
theorem law_tables_ex (s : List Int) (many most : Nat) (h1 : 1 ≤ many) (h2 : many ≤ 9) (hm : most ≤ 6) (q : Dq) :
    ∀ n (mi mo : Int), 3 ≤ n → mi = many → mo = most → ∃ (q' : Dq) (ts : List Tab), (1 ≤ ts.length ∧ ts.length ≤ 3 ∧ ∀ t ∈ ts, t.ok) ∧ callF fds n i_law_tables [dice s q, .int mi, .int mo] = some (some (dice s q'), (true, tabsD ts)) := by
  intro n mi mo hn e1 e2
  subst e1 e2
  have u0 := nxV_lo (s := s) (q := q) (m := (many : Int)) (by omega)
  have u1 := nxV_hi (s := s) (q := q) (m := (many : Int)) (by omega)
  (obtain ⟨n, rfl⟩ : ∃ m, n = m + 1 := ⟨n - 1, by omega⟩; rw [call_law_tables, runF_eq (by rfl) (by rfl)])
  simp (disch := first | omega | decide +kernel | assumption) only [F_law_tables, List.map_cons, List.map_nil, List.append_nil, List.nil_append, List.cons_append, List.all_cons, List.all_nil, List.length_cons, List.length_nil, List.replicate_zero, List.replicate_succ, List.any_cons, List.any_nil, List.length_map, eq_self, Option.isSome_some, Option.isSome_none, RUN, RUNC, OB, ↓reduceIte, Nat.reduceSub, Nat.reduceAdd, Nat.reduceLT, Nat.reduceLeDiff, Int.cast_ofNat_Int, Int.reduceEq, Int.reduceLT, Int.reduceLE, Int.reduceAdd, Int.reduceSub, Int.reduceNeg, Int.reduceMul, cstep_, kC0_, kC1_, kC2_, lstep_, kL0_, p_rng, next_ok, rng_1]
  generalize hC : compF _ _ _ _ _ _ = C
  have e10 : (List.range (Int.toNat 10)).map (fun (i : Nat) => D.int (i : Int)) = ((List.range 10).map fun (i : Nat) => (i : Int)).map D.int := by rw [List.map_map]; rfl
  rw [e10] at hC
  obtain ⟨⟨q1, lf⟩, ns, hl, hns, _, rfl⟩ := compF_pi (fun (p : Dq × List Int) => [.io (dice s p.1), .va (.int (many : Int)), .va (.int (most : Int)), .ow (.lst (p.2.map D.int)), .no, .no, .no, .no, .no, .no, .no, .no]) (q := (nxQ s q (many : Int), (List.range 10).map fun (i : Nat) => (i : Int))) (fun rest p => rest.length ≤ p.2.length ∧ p.2.length ≤ 10 ∧ ∀ x ∈ p.2, 0 ≤ x ∧ x ≤ 9) (fun x : Int => 0 ≤ x ∧ x ≤ 9) D.int _ hC ⟨by simp; omega, by simp, fun x hx => by
      obtain ⟨i, hi, rfl⟩ := List.mem_map.mp hx
      have := List.mem_range.mp hi
      omega⟩ (by
    rintro i rest ⟨q, l⟩ ⟨k1, k2, k3⟩
    simp only [List.length_cons] at k1
    have k1 : rest.length + 1 ≤ l.length := k1
    have k2 : l.length ≤ 10 := k2
    obtain ⟨x, hx, l', p1, p2, p3⟩ := pop_ints l (nxV s q (l.length : Int)) (nxV_lo (by omega)) (nxV_hi (by omega)) (by omega) 3
    refine ⟨(nxQ s q (l.length : Int), l'), x, k3 x hx, ⟨by dsimp only; omega, by dsimp only; omega, fun y hy => k3 y (p2 y hy)⟩, ?_⟩
    simp (disch := first | omega | decide +kernel | assumption) only [List.map_cons, List.map_nil, List.append_nil, List.nil_append, List.cons_append, List.all_cons, List.all_nil, List.length_cons, List.length_nil, List.replicate_zero, List.replicate_succ, List.any_cons, List.any_nil, List.length_map, eq_self, Option.isSome_some, Option.isSome_none, RUN, RUNC, OB, ↓reduceIte, Nat.reduceSub, Nat.reduceAdd, Nat.reduceLT, Nat.reduceLeDiff, Int.cast_ofNat_Int, Int.reduceEq, Int.reduceLT, Int.reduceLE, Int.reduceAdd, Int.reduceSub, Int.reduceNeg, Int.reduceMul, cstep_, kC0_, kC1_, kC2_, lstep_, kL0_, next_ok, ev_pop, kPop2_, p3])
  rw [List.length_range] at hl
  have hns0 : ns ≠ [] := by intro h; rw [h] at hl; simp at hl; omega
  have hnl : ns.length ≤ 1000 := by omega
  have t0 := nxV_lo (s := s) (q := q1) (m := 3) (by omega)
  have t1 := nxV_hi (s := s) (q := q1) (m := 3) (by omega)
  simp (disch := first | omega | decide +kernel | assumption) only [List.map_cons, List.map_nil, List.append_nil, List.nil_append, List.cons_append, List.all_cons, List.all_nil, List.length_cons, List.length_nil, List.replicate_zero, List.replicate_succ, List.any_cons, List.any_nil, List.length_map, eq_self, Option.isSome_some, Option.isSome_none, RUN, RUNC, OB, ↓reduceIte, Nat.reduceSub, Nat.reduceAdd, Nat.reduceLT, Nat.reduceLeDiff, Int.cast_ofNat_Int, Int.reduceEq, Int.reduceLT, Int.reduceLE, Int.reduceAdd, Int.reduceSub, Int.reduceNeg, Int.reduceMul, cstep_, kC0_, kC1_, kC2_, lstep_, kL0_, next_ok, rng_1]
  generalize hL : loopF _ _ _ _ = L
  obtain ⟨σ', rfl, q2, ts, b, s6, s7, s8, s9, s11, hlen, hok, rfl⟩ := loopF_i _ hL (fun rest σ => ∃ (q2 : Dq) (ts : List Tab) (b : Bool) (s6 s7 s8 s9 s11 : Sl), ts.length + rest.length = (1 + nxV s q1 3).toNat ∧ (∀ t ∈ ts, t.ok) ∧
      σ = [.io (dice s q2), .va (.int (many : Int)), .va (.int (most : Int)), .ow (.lst (lf.map D.int)), fz b (.lst (ns.map D.int)), .ow (.lst (ts.map Tab.d)), s6, s7, s8, s9, .no, s11]) ⟨_, [], false, .no, .no, .no, .no, .no, by simp, fun t h => absurd h List.not_mem_nil, rfl⟩ (by
    clear hL hC
    rintro i rest σ ⟨q, ts, b, s6, s7, s8, s9, s11, hlen, hok, rfl⟩ hmem
    rw [List.length_cons] at hlen
    have w0 := nxV_lo (s := s) (q := q) (m := 2) (by omega)
    have w1 := nxV_hi (s := s) (q := q) (m := 2) (by omega)
    obtain ⟨m, hm8, em⟩ : ∃ m : Int, (1 ≤ m ∧ m ≤ 4) ∧ atI [D.int 2, D.int 4] (nxV s q 2) = some (.int m) := by
      obtain ⟨x, hx, e⟩ := atQ_map [2, 4] D.int (nxV s q 2) w0 (by simpa using w1)
      refine ⟨x, ?_, by simpa using e⟩
      simp only [List.mem_cons, List.not_mem_nil, or_false] at hx
      omega
    have x0 := nxV_lo (s := s) (q := nxQ s q 2) (m := m) (by omega)
    have x1 := nxV_hi (s := s) (q := nxQ s q 2) (m := m) (by omega)
    obtain ⟨wide, hw⟩ := Int.eq_ofNat_of_zero_le (show 0 ≤ 1 + nxV s (nxQ s q 2) m by omega)
    have y0 := nxV_lo (s := s) (q := nxQ s (nxQ s q 2) m) (m := (most : Int) + 1) (by omega)
    have y1 := nxV_hi (s := s) (q := nxQ s (nxQ s q 2) m) (m := (most : Int) + 1) (by omega)
    simp (disch := first | omega | decide +kernel | assumption) only [List.map_cons, List.map_nil, List.append_nil, List.nil_append, List.cons_append, List.all_cons, List.all_nil, List.length_cons, List.length_nil, List.replicate_zero, List.replicate_succ, List.any_cons, List.any_nil, List.length_map, eq_self, Option.isSome_some, Option.isSome_none, RUN, RUNC, OB, ↓reduceIte, Nat.reduceSub, Nat.reduceAdd, Nat.reduceLT, Nat.reduceLeDiff, Int.cast_ofNat_Int, Int.reduceEq, Int.reduceLT, Int.reduceLE, Int.reduceAdd, Int.reduceSub, Int.reduceNeg, Int.reduceMul, cstep_, kC0_, kC1_, kC2_, lstep_, kL0_, next_ok, em, hw, rng_1]
    generalize hL : loopF _ _ _ _ = L
    obtain ⟨σ', rfl, q3, rs, b3, s9', s11', hl3, hrs, rfl⟩ := loopF_i _ hL (fun rest σ => ∃ (q3 : Dq) (rs : List Row) (b3 : Bool) (s9 s11 : Sl), rs.length + rest.length ≤ 6 ∧ (∀ r ∈ rs, r.length = wide ∧ ∀ c ∈ r, cellT c) ∧
        σ = [.io (dice s q3), .va (.int (many : Int)), .va (.int (most : Int)), .ow (.lst (lf.map D.int)), fz b3 (.lst (ns.map D.int)), .ow (.lst (ts.map Tab.d)), .va (.int (i : Int)), .va (.int (wide : Int)), .ow (.lst (rs.map Row.d)), s9, .no, s11]) ⟨_, [], b, s9, s11, by simp; omega, fun r h => absurd h List.not_mem_nil, rfl⟩ (by
      clear hL
      rintro j rest σ ⟨q, rs, b, s9, s11, hl3, hrs, rfl⟩ hmem
      rw [List.length_cons] at hl3
      simp (disch := first | omega | decide +kernel | assumption) only [List.map_cons, List.map_nil, List.append_nil, List.nil_append, List.cons_append, List.all_cons, List.all_nil, List.length_cons, List.length_nil, List.replicate_zero, List.replicate_succ, List.any_cons, List.any_nil, List.length_map, eq_self, Option.isSome_some, Option.isSome_none, RUN, RUNC, OB, ↓reduceIte, Nat.reduceSub, Nat.reduceAdd, Nat.reduceLT, Nat.reduceLeDiff, Int.cast_ofNat_Int, Int.reduceEq, Int.reduceLT, Int.reduceLE, Int.reduceAdd, Int.reduceSub, Int.reduceNeg, Int.reduceMul, cstep_, kC0_, kC1_, kC2_, lstep_, kL0_, next_ok, rng_1]
      generalize hC : compF _ _ _ _ _ _ = C
      obtain ⟨⟨q4, b4⟩, row, hl2, hrow, rfl⟩ := compF_s (fun (p : Dq × Bool) => [.io (dice s p.1), .va (.int (many : Int)), .va (.int (most : Int)), .ow (.lst (lf.map D.int)), fz p.2 (.lst (ns.map D.int)), .ow (.lst (ts.map Tab.d)), .va (.int (i : Int)), .va (.int (wide : Int)), .ow (.lst (rs.map Row.d)), .va (.int (j : Int)), .no, s11]) (q := (q, b)) (fun (_ : Nat) (c : Cell) => cellT c) Cell.d _ hC (by
        rintro k hk ⟨q, b⟩
        obtain ⟨q', c, hc, h1⟩ := law_cell_ex s q ns hns0 hnl hns
        refine ⟨(q', true), c, hc, ?_⟩
        cases b <;> simp (disch := first | omega | decide +kernel | assumption) only [List.map_cons, List.map_nil, List.append_nil, List.nil_append, List.cons_append, List.all_cons, List.all_nil, List.length_cons, List.length_nil, List.replicate_zero, List.replicate_succ, List.any_cons, List.any_nil, List.length_map, eq_self, Option.isSome_some, Option.isSome_none, RUN, RUNC, OB, ↓reduceIte, Nat.reduceSub, Nat.reduceAdd, Nat.reduceLT, Nat.reduceLeDiff, Int.cast_ofNat_Int, Int.reduceEq, Int.reduceLT, Int.reduceLE, Int.reduceAdd, Int.reduceSub, Int.reduceNeg, Int.reduceMul, cstep_, kC0_, kC1_, kC2_, lstep_, kL0_, h1, fz_t, fz_f])
      rw [List.length_range] at hl2
      have hl2 : row.length = wide := by rw [hl2]; simp
      have hrow : ∀ x ∈ row, cellT x := fun x hx => let ⟨_, _, h⟩ := hrow x hx; h
      have hz : szOk row.length = true := szOk_k (by omega)
      have hlt : rs.length < sizeLine := by rw [sz24]; omega
      have nr := ne_rows rs
      have fin : ∀ (q' : Dq) (r : Row) (s9 : Sl), (r.length = wide ∧ ∀ c ∈ r, cellT c) → ∃ σ2, some (Fl.nx, [Sl.io (dice s q'), .va (.int (many : Int)), .va (.int (most : Int)), .ow (.lst (lf.map D.int)), fz b4 (.lst (ns.map D.int)), .ow (.lst (ts.map Tab.d)), .va (.int (i : Int)), .va (.int (wide : Int)), .ow (.lst (rs.map Row.d ++ [r.d])), s9, .no, .va (.tup (row.map Cell.d))]) = some (Fl.nx, σ2) ∧
          ∃ (q3 : Dq) (rs : List Row) (b3 : Bool) (s9 s11 : Sl), rs.length + rest.length ≤ 6 ∧ (∀ r ∈ rs, r.length = wide ∧ ∀ c ∈ r, cellT c) ∧
          σ2 = [.io (dice s q3), .va (.int (many : Int)), .va (.int (most : Int)), .ow (.lst (lf.map D.int)), fz b3 (.lst (ns.map D.int)), .ow (.lst (ts.map Tab.d)), .va (.int (i : Int)), .va (.int (wide : Int)), .ow (.lst (rs.map Row.d)), s9, .no, s11] := fun q' r s9 hr => ⟨_, rfl, q', rs ++ [r], b4, s9, _, by simp; omega, fun x hx => by
        rcases List.mem_append.mp hx with hx | hx
        · exact hrs x hx
        · rw [List.mem_singleton.mp hx]; exact hr, by rw [List.map_append]; rfl⟩
      by_cases c1 : rs = []
      · rw [decide_eq_true c1] at nr
        simp (disch := first | omega | decide +kernel | assumption) only [List.map_cons, List.map_nil, List.append_nil, List.nil_append, List.cons_append, List.all_cons, List.all_nil, List.length_cons, List.length_nil, List.replicate_zero, List.replicate_succ, List.any_cons, List.any_nil, List.length_map, eq_self, Option.isSome_some, Option.isSome_none, RUN, RUNC, OB, ↓reduceIte, Nat.reduceSub, Nat.reduceAdd, Nat.reduceLT, Nat.reduceLeDiff, Int.cast_ofNat_Int, Int.reduceEq, Int.reduceLT, Int.reduceLE, Int.reduceAdd, Int.reduceSub, Int.reduceNeg, Int.reduceMul, cstep_, kC0_, kC1_, kC2_, lstep_, kL0_, hz, nr, hlt]
        exact fin _ row _ ⟨hl2, hrow⟩
      · rw [decide_eq_false c1] at nr
        by_cases c2 : nxV s q4 5 = 0
        · have hp : 0 < rs.length := List.length_pos_iff.mpr c1
          obtain ⟨r, hr, e⟩ := atQ_map rs Row.d (nxV s (nxQ s q4 5) (rs.length : Int)) (nxV_lo (by omega)) (nxV_hi (by omega))
          simp (disch := first | omega | decide +kernel | assumption) only [List.map_cons, List.map_nil, List.append_nil, List.nil_append, List.cons_append, List.all_cons, List.all_nil, List.length_cons, List.length_nil, List.replicate_zero, List.replicate_succ, List.any_cons, List.any_nil, List.length_map, eq_self, Option.isSome_some, Option.isSome_none, RUN, RUNC, OB, ↓reduceIte, Nat.reduceSub, Nat.reduceAdd, Nat.reduceLT, Nat.reduceLeDiff, Int.cast_ofNat_Int, Int.reduceEq, Int.reduceLT, Int.reduceLE, Int.reduceAdd, Int.reduceSub, Int.reduceNeg, Int.reduceMul, cstep_, kC0_, kC1_, kC2_, lstep_, kL0_, hz, nr, hlt, next_ok, c2, e]
          exact fin _ r _ (hrs r hr)
        · simp (disch := first | omega | decide +kernel | assumption) only [List.map_cons, List.map_nil, List.append_nil, List.nil_append, List.cons_append, List.all_cons, List.all_nil, List.length_cons, List.length_nil, List.replicate_zero, List.replicate_succ, List.any_cons, List.any_nil, List.length_map, eq_self, Option.isSome_some, Option.isSome_none, RUN, RUNC, OB, ↓reduceIte, Nat.reduceSub, Nat.reduceAdd, Nat.reduceLT, Nat.reduceLeDiff, Int.cast_ofNat_Int, Int.reduceEq, Int.reduceLT, Int.reduceLE, Int.reduceAdd, Int.reduceSub, Int.reduceNeg, Int.reduceMul, cstep_, kC0_, kC1_, kC2_, lstep_, kL0_, hz, nr, hlt, next_ok, decide_eq_false c2]
          exact fin _ row _ ⟨hl2, hrow⟩)
    have htl : ts.length < sizeLine := by rw [sz24]; omega
    simp (disch := first | omega | decide +kernel | assumption) only [List.map_cons, List.map_nil, List.append_nil, List.nil_append, List.cons_append, List.all_cons, List.all_nil, List.length_cons, List.length_nil, List.replicate_zero, List.replicate_succ, List.any_cons, List.any_nil, List.length_map, eq_self, Option.isSome_some, Option.isSome_none, RUN, RUNC, OB, ↓reduceIte, Nat.reduceSub, Nat.reduceAdd, Nat.reduceLT, Nat.reduceLeDiff, Int.cast_ofNat_Int, Int.reduceEq, Int.reduceLT, Int.reduceLE, Int.reduceAdd, Int.reduceSub, Int.reduceNeg, Int.reduceMul, cstep_, kC0_, kC1_, kC2_, lstep_, kL0_, htl]
    refine ⟨_, rfl, q3, ts ++ [⟨wide, rs⟩], b3, _, _, .va (.lst (rs.map Row.d)), s9', s11', by simp; omega, fun t ht => ?_, by rw [List.map_append]; rfl⟩
    rcases List.mem_append.mp ht with ht | ht
    · exact hok t ht
    · rw [List.mem_singleton.mp ht]
      exact ⟨by show 1 ≤ wide; omega, by show wide ≤ 4; omega, by simpa using hl3, hrs⟩)
  simp (disch := first | omega | decide +kernel | assumption) only [List.map_cons, List.map_nil, List.append_nil, List.nil_append, List.cons_append, List.all_cons, List.all_nil, List.length_cons, List.length_nil, List.replicate_zero, List.replicate_succ, List.any_cons, List.any_nil, List.length_map, eq_self, Option.isSome_some, Option.isSome_none, RUN, RUNC, OB, ↓reduceIte, Nat.reduceSub, Nat.reduceAdd, Nat.reduceLT, Nat.reduceLeDiff, Int.cast_ofNat_Int, Int.reduceEq, Int.reduceLT, Int.reduceLE, Int.reduceAdd, Int.reduceSub, Int.reduceNeg, Int.reduceMul, cstep_, kC0_, kC1_, kC2_, lstep_, kL0_]
  rw [List.length_nil] at hlen
  exact ⟨q2, ts, ⟨by omega, by omega, hok⟩, rfl⟩
/-! how many things, how many rows; a modest sentence -/
theorem things_sent : ∀ (p : Sent) (n : Nat), p.deep + 1 ≤ n → p.deep ≤ 50 → callF fds n i_law_things [p.d] = some (none, (false, .int (p.size : Int)))
  | .rows t, n, hn, hd => by
    (obtain ⟨n, rfl⟩ : ∃ m, n = m + 1 := ⟨n - 1, by omega⟩; rw [call_law_things, runF_eq (by rfl) (by rfl)])
    simp (disch := first | omega | decide +kernel | assumption) only [F_law_things, List.map_cons, List.map_nil, List.append_nil, List.nil_append, List.cons_append, List.all_cons, List.all_nil, List.length_cons, List.length_nil, List.replicate_zero, List.replicate_succ, List.any_cons, List.any_nil, List.length_map, eq_self, Option.isSome_some, Option.isSome_none, RUN, RUNC, OB, ↓reduceIte, Nat.reduceSub, Nat.reduceAdd, Nat.reduceLT, Nat.reduceLeDiff, Int.cast_ofNat_Int, Int.reduceEq, Int.reduceLT, Int.reduceLE, Int.reduceAdd, Int.reduceSub, Int.reduceNeg, Int.reduceMul, cstep_, kC0_, kC1_, kC2_, lstep_, kL0_, Sent.d]
    rfl
  | .keep a b, n, hn, hd => by
    simp only [Sent.deep] at hn hd
    (obtain ⟨n, rfl⟩ : ∃ m, n = m + 1 := ⟨n - 1, by omega⟩; rw [call_law_things, runF_eq (by rfl) (by rfl)])
    have h1 := things_sent a n (by omega) (by omega)
    have h2 := things_cond b n (by omega) (by omega)
    obtain ⟨wa, la, ea, oa⟩ := a.shape
    obtain ⟨wb, lb, eb, ob⟩ := b.shape
    have ga := ne_nil (ea ▸ gd_sent a) (by omega)
    have gb := ne_nil (eb ▸ gd_cond b) (by omega)
    rw [ea] at h1
    rw [eb] at h2
    rw [show ((Sent.keep a b).size : Int) = 1 + a.size + b.size by simp only [Sent.size]; omega]
    simp (disch := first | omega | decide +kernel | assumption) only [F_law_things, List.map_cons, List.map_nil, List.append_nil, List.nil_append, List.cons_append, List.all_cons, List.all_nil, List.length_cons, List.length_nil, List.replicate_zero, List.replicate_succ, List.any_cons, List.any_nil, List.length_map, eq_self, Option.isSome_some, Option.isSome_none, RUN, RUNC, OB, ↓reduceIte, Nat.reduceSub, Nat.reduceAdd, Nat.reduceLT, Nat.reduceLeDiff, Int.cast_ofNat_Int, Int.reduceEq, Int.reduceLT, Int.reduceLE, Int.reduceAdd, Int.reduceSub, Int.reduceNeg, Int.reduceMul, cstep_, kC0_, kC1_, kC2_, lstep_, kL0_, Sent.d, ea, eb, h1, h2, ga, gb]
  | .pick a cs, n, hn, hd => by
    simp only [Sent.deep] at hn hd
    (obtain ⟨n, rfl⟩ : ∃ m, n = m + 1 := ⟨n - 1, by omega⟩; rw [call_law_things, runF_eq (by rfl) (by rfl)])
    have h1 := things_sent a n (by omega) (by omega)
    obtain ⟨wa, la, ea, oa⟩ := a.shape
    have ga := ne_nil (ea ▸ gd_sent a) (by omega)
    have gc := ne_nats cs
    rw [ea] at h1
    rw [show ((Sent.pick a cs).size : Int) = 1 + a.size by simp only [Sent.size]; omega]
    cases cs with
    | nil =>
      simp only [List.map_nil, eq_self, decide_true, Bool.not_true] at gc
      simp (disch := first | omega | decide +kernel | assumption) only [F_law_things, List.map_cons, List.map_nil, List.append_nil, List.nil_append, List.cons_append, List.all_cons, List.all_nil, List.length_cons, List.length_nil, List.replicate_zero, List.replicate_succ, List.any_cons, List.any_nil, List.length_map, eq_self, Option.isSome_some, Option.isSome_none, RUN, RUNC, OB, ↓reduceIte, Nat.reduceSub, Nat.reduceAdd, Nat.reduceLT, Nat.reduceLeDiff, Int.cast_ofNat_Int, Int.reduceEq, Int.reduceLT, Int.reduceLE, Int.reduceAdd, Int.reduceSub, Int.reduceNeg, Int.reduceMul, cstep_, kC0_, kC1_, kC2_, lstep_, kL0_, Sent.d, natsD, ea, h1, ga, gc]
    | cons c cs =>
      simp only [List.map_cons, reduceCtorEq, decide_false, Bool.not_false] at gc
      simp (disch := first | omega | decide +kernel | assumption) only [F_law_things, List.map_cons, List.map_nil, List.append_nil, List.nil_append, List.cons_append, List.all_cons, List.all_nil, List.length_cons, List.length_nil, List.replicate_zero, List.replicate_succ, List.any_cons, List.any_nil, List.length_map, eq_self, Option.isSome_some, Option.isSome_none, RUN, RUNC, OB, ↓reduceIte, Nat.reduceSub, Nat.reduceAdd, Nat.reduceLT, Nat.reduceLeDiff, Int.cast_ofNat_Int, Int.reduceEq, Int.reduceLT, Int.reduceLE, Int.reduceAdd, Int.reduceSub, Int.reduceNeg, Int.reduceMul, cstep_, kC0_, kC1_, kC2_, lstep_, kL0_, Sent.d, natsD, ea, h1, ga, gc]
  | .join a b ps, n, hn, hd => by
    simp only [Sent.deep] at hn hd
    (obtain ⟨n, rfl⟩ : ∃ m, n = m + 1 := ⟨n - 1, by omega⟩; rw [call_law_things, runF_eq (by rfl) (by rfl)])
    have h1 := things_sent a n (by omega) (by omega)
    have h2 := things_sent b n (by omega) (by omega)
    obtain ⟨wa, la, ea, oa⟩ := a.shape
    obtain ⟨wb, lb, eb, ob⟩ := b.shape
    have ga := ne_nil (ea ▸ gd_sent a) (by omega)
    have gb := ne_nil (eb ▸ gd_sent b) (by omega)
    have gc := ne_pairs ps
    rw [ea] at h1
    rw [eb] at h2
    rw [show ((Sent.join a b ps).size : Int) = 1 + a.size + b.size by simp only [Sent.size]; omega]
    cases ps with
    | nil =>
      simp only [List.map_nil, eq_self, decide_true, Bool.not_true] at gc
      simp (disch := first | omega | decide +kernel | assumption) only [F_law_things, List.map_cons, List.map_nil, List.append_nil, List.nil_append, List.cons_append, List.all_cons, List.all_nil, List.length_cons, List.length_nil, List.replicate_zero, List.replicate_succ, List.any_cons, List.any_nil, List.length_map, eq_self, Option.isSome_some, Option.isSome_none, RUN, RUNC, OB, ↓reduceIte, Nat.reduceSub, Nat.reduceAdd, Nat.reduceLT, Nat.reduceLeDiff, Int.cast_ofNat_Int, Int.reduceEq, Int.reduceLT, Int.reduceLE, Int.reduceAdd, Int.reduceSub, Int.reduceNeg, Int.reduceMul, cstep_, kC0_, kC1_, kC2_, lstep_, kL0_, Sent.d, pairsD, ea, eb, h1, h2, ga, gb, gc]
    | cons c cs =>
      simp only [List.map_cons, reduceCtorEq, decide_false, Bool.not_false, pairD2] at gc
      simp (disch := first | omega | decide +kernel | assumption) only [F_law_things, List.map_cons, List.map_nil, List.append_nil, List.nil_append, List.cons_append, List.all_cons, List.all_nil, List.length_cons, List.length_nil, List.replicate_zero, List.replicate_succ, List.any_cons, List.any_nil, List.length_map, eq_self, Option.isSome_some, Option.isSome_none, RUN, RUNC, OB, ↓reduceIte, Nat.reduceSub, Nat.reduceAdd, Nat.reduceLT, Nat.reduceLeDiff, Int.cast_ofNat_Int, Int.reduceEq, Int.reduceLT, Int.reduceLE, Int.reduceAdd, Int.reduceSub, Int.reduceNeg, Int.reduceMul, cstep_, kC0_, kC1_, kC2_, lstep_, kL0_, Sent.d, pairsD, pairD2, ea, eb, h1, h2, ga, gb, gc]
  | .both a b, n, hn, hd => by
    simp only [Sent.deep] at hn hd
    (obtain ⟨n, rfl⟩ : ∃ m, n = m + 1 := ⟨n - 1, by omega⟩; rw [call_law_things, runF_eq (by rfl) (by rfl)])
    have h1 := things_sent a n (by omega) (by omega)
    have h2 := things_sent b n (by omega) (by omega)
    obtain ⟨wa, la, ea, oa⟩ := a.shape
    obtain ⟨wb, lb, eb, ob⟩ := b.shape
    have ga := ne_nil (ea ▸ gd_sent a) (by omega)
    have gb := ne_nil (eb ▸ gd_sent b) (by omega)
    rw [ea] at h1
    rw [eb] at h2
    rw [show ((Sent.both a b).size : Int) = 1 + a.size + b.size by simp only [Sent.size]; omega]
    simp (disch := first | omega | decide +kernel | assumption) only [F_law_things, List.map_cons, List.map_nil, List.append_nil, List.nil_append, List.cons_append, List.all_cons, List.all_nil, List.length_cons, List.length_nil, List.replicate_zero, List.replicate_succ, List.any_cons, List.any_nil, List.length_map, eq_self, Option.isSome_some, Option.isSome_none, RUN, RUNC, OB, ↓reduceIte, Nat.reduceSub, Nat.reduceAdd, Nat.reduceLT, Nat.reduceLeDiff, Int.cast_ofNat_Int, Int.reduceEq, Int.reduceLT, Int.reduceLE, Int.reduceAdd, Int.reduceSub, Int.reduceNeg, Int.reduceMul, cstep_, kC0_, kC1_, kC2_, lstep_, kL0_, Sent.d, ea, eb, h1, h2, ga, gb]
  | .without a b, n, hn, hd => by
    simp only [Sent.deep] at hn hd
    (obtain ⟨n, rfl⟩ : ∃ m, n = m + 1 := ⟨n - 1, by omega⟩; rw [call_law_things, runF_eq (by rfl) (by rfl)])
    have h1 := things_sent a n (by omega) (by omega)
    have h2 := things_sent b n (by omega) (by omega)
    obtain ⟨wa, la, ea, oa⟩ := a.shape
    obtain ⟨wb, lb, eb, ob⟩ := b.shape
    have ga := ne_nil (ea ▸ gd_sent a) (by omega)
    have gb := ne_nil (eb ▸ gd_sent b) (by omega)
    rw [ea] at h1
    rw [eb] at h2
    rw [show ((Sent.without a b).size : Int) = 1 + a.size + b.size by simp only [Sent.size]; omega]
    simp (disch := first | omega | decide +kernel | assumption) only [F_law_things, List.map_cons, List.map_nil, List.append_nil, List.nil_append, List.cons_append, List.all_cons, List.all_nil, List.length_cons, List.length_nil, List.replicate_zero, List.replicate_succ, List.any_cons, List.any_nil, List.length_map, eq_self, Option.isSome_some, Option.isSome_none, RUN, RUNC, OB, ↓reduceIte, Nat.reduceSub, Nat.reduceAdd, Nat.reduceLT, Nat.reduceLeDiff, Int.cast_ofNat_Int, Int.reduceEq, Int.reduceLT, Int.reduceLE, Int.reduceAdd, Int.reduceSub, Int.reduceNeg, Int.reduceMul, cstep_, kC0_, kC1_, kC2_, lstep_, kL0_, Sent.d, ea, eb, h1, h2, ga, gb]
theorem many_ok {ts : List Tab} (ht : ∀ t ∈ ts, t.rows.length ≤ 6) : ∀ (s : Sent) (n : Nat), s.deep + 1 ≤ n → s.ok (ts.map Tab.wide) → s.jl ≤ 5 → callF fds n i_law_many [s.d, tabsD ts] = some (none, (false, .int (s.many ts : Int)))
  | .rows t, n, hn, hs, hj => by
    have hs : t < (ts.map Tab.wide).length := hs
    rw [List.length_map] at hs
    (obtain ⟨n, rfl⟩ : ∃ m, n = m + 1 := ⟨n - 1, by omega⟩; rw [call_law_many, runF_eq (by rfl) (by rfl)])
    have e1 : atI (ts.map Tab.d) (t : Int) = some (ts[t].d) := atI_nat (by simp [hs])
    have e2 : Sent.many ts (.rows t) = ts[t].rows.length := by simp [Sent.many, hs]
    rw [e2]
    generalize ts[t] = T at *
    simp (disch := first | omega | decide +kernel | assumption) only [F_law_many, List.map_cons, List.map_nil, List.append_nil, List.nil_append, List.cons_append, List.all_cons, List.all_nil, List.length_cons, List.length_nil, List.replicate_zero, List.replicate_succ, List.any_cons, List.any_nil, List.length_map, eq_self, Option.isSome_some, Option.isSome_none, RUN, RUNC, OB, ↓reduceIte, Nat.reduceSub, Nat.reduceAdd, Nat.reduceLT, Nat.reduceLeDiff, Int.cast_ofNat_Int, Int.reduceEq, Int.reduceLT, Int.reduceLE, Int.reduceAdd, Int.reduceSub, Int.reduceNeg, Int.reduceMul, cstep_, kC0_, kC1_, kC2_, lstep_, kL0_, Sent.d, tabsD, e1, Tab.d, rowsD]
  | .keep s c, n, hn, hs, hj => by
    simp only [Sent.deep] at hn
    (obtain ⟨n, rfl⟩ : ∃ m, n = m + 1 := ⟨n - 1, by omega⟩; rw [call_law_many, runF_eq (by rfl) (by rfl)])
    have h1 := many_ok ht s n (by omega) hs.1 hj
    simp (disch := first | omega | decide +kernel | assumption) only [F_law_many, List.map_cons, List.map_nil, List.append_nil, List.nil_append, List.cons_append, List.all_cons, List.all_nil, List.length_cons, List.length_nil, List.replicate_zero, List.replicate_succ, List.any_cons, List.any_nil, List.length_map, eq_self, Option.isSome_some, Option.isSome_none, RUN, RUNC, OB, ↓reduceIte, Nat.reduceSub, Nat.reduceAdd, Nat.reduceLT, Nat.reduceLeDiff, Int.cast_ofNat_Int, Int.reduceEq, Int.reduceLT, Int.reduceLE, Int.reduceAdd, Int.reduceSub, Int.reduceNeg, Int.reduceMul, cstep_, kC0_, kC1_, kC2_, lstep_, kL0_, Sent.d, h1]
    rfl
  | .pick s cs, n, hn, hs, hj => by
    simp only [Sent.deep] at hn
    (obtain ⟨n, rfl⟩ : ∃ m, n = m + 1 := ⟨n - 1, by omega⟩; rw [call_law_many, runF_eq (by rfl) (by rfl)])
    have h1 := many_ok ht s n (by omega) hs.1 hj
    simp (disch := first | omega | decide +kernel | assumption) only [F_law_many, List.map_cons, List.map_nil, List.append_nil, List.nil_append, List.cons_append, List.all_cons, List.all_nil, List.length_cons, List.length_nil, List.replicate_zero, List.replicate_succ, List.any_cons, List.any_nil, List.length_map, eq_self, Option.isSome_some, Option.isSome_none, RUN, RUNC, OB, ↓reduceIte, Nat.reduceSub, Nat.reduceAdd, Nat.reduceLT, Nat.reduceLeDiff, Int.cast_ofNat_Int, Int.reduceEq, Int.reduceLT, Int.reduceLE, Int.reduceAdd, Int.reduceSub, Int.reduceNeg, Int.reduceMul, cstep_, kC0_, kC1_, kC2_, lstep_, kL0_, Sent.d, h1]
    rfl
  | .join a b ps, n, hn, hs, hj => by
    simp only [Sent.deep] at hn
    simp only [Sent.jl] at hj
    (obtain ⟨n, rfl⟩ : ∃ m, n = m + 1 := ⟨n - 1, by omega⟩; rw [call_law_many, runF_eq (by rfl) (by rfl)])
    have h1 := many_ok ht a n (by omega) hs.1 (by omega)
    have h2 := many_ok ht b n (by omega) hs.2.1 (by omega)
    have e : prD .mul [.int (a.many ts : Int), .int (b.many ts : Int)] = some (false, .int ((a.many ts * b.many ts : Nat) : Int)) := by
      rw [p_mulL (many_big ht a (by omega))]; simp
    have m : (max (max (a.many ts : Int) (b.many ts : Int)) ((a.many ts * b.many ts : Nat) : Int)) = (Sent.many ts (.join a b ps) : Int) := by
      simp only [Sent.many]
      generalize a.many ts * b.many ts = k
      omega
    generalize a.many ts * b.many ts = k at *
    simp (disch := first | omega | decide +kernel | assumption) only [F_law_many, List.map_cons, List.map_nil, List.append_nil, List.nil_append, List.cons_append, List.all_cons, List.all_nil, List.length_cons, List.length_nil, List.replicate_zero, List.replicate_succ, List.any_cons, List.any_nil, List.length_map, eq_self, Option.isSome_some, Option.isSome_none, RUN, RUNC, OB, ↓reduceIte, Nat.reduceSub, Nat.reduceAdd, Nat.reduceLT, Nat.reduceLeDiff, Int.cast_ofNat_Int, Int.reduceEq, Int.reduceLT, Int.reduceLE, Int.reduceAdd, Int.reduceSub, Int.reduceNeg, Int.reduceMul, cstep_, kC0_, kC1_, kC2_, lstep_, kL0_, Sent.d, h1, h2, e, p_max3, m]
  | .both a b, n, hn, hs, hj => by
    simp only [Sent.deep] at hn
    simp only [Sent.jl] at hj
    (obtain ⟨n, rfl⟩ : ∃ m, n = m + 1 := ⟨n - 1, by omega⟩; rw [call_law_many, runF_eq (by rfl) (by rfl)])
    have h1 := many_ok ht a n (by omega) hs.1 (by omega)
    have h2 := many_ok ht b n (by omega) hs.2.1 (by omega)
    have m : (max (max (a.many ts : Int) (b.many ts : Int)) ((a.many ts : Int) + (b.many ts : Int))) = (Sent.many ts (.both a b) : Int) := by
      simp only [Sent.many]
      omega
    simp (disch := first | omega | decide +kernel | assumption) only [F_law_many, List.map_cons, List.map_nil, List.append_nil, List.nil_append, List.cons_append, List.all_cons, List.all_nil, List.length_cons, List.length_nil, List.replicate_zero, List.replicate_succ, List.any_cons, List.any_nil, List.length_map, eq_self, Option.isSome_some, Option.isSome_none, RUN, RUNC, OB, ↓reduceIte, Nat.reduceSub, Nat.reduceAdd, Nat.reduceLT, Nat.reduceLeDiff, Int.cast_ofNat_Int, Int.reduceEq, Int.reduceLT, Int.reduceLE, Int.reduceAdd, Int.reduceSub, Int.reduceNeg, Int.reduceMul, cstep_, kC0_, kC1_, kC2_, lstep_, kL0_, Sent.d, h1, h2, p_max3, m]
  | .without a b, n, hn, hs, hj => by
    simp only [Sent.deep] at hn
    simp only [Sent.jl] at hj
    (obtain ⟨n, rfl⟩ : ∃ m, n = m + 1 := ⟨n - 1, by omega⟩; rw [call_law_many, runF_eq (by rfl) (by rfl)])
    have h1 := many_ok ht a n (by omega) hs.1 (by omega)
    have h2 := many_ok ht b n (by omega) hs.2.1 (by omega)
    have m : (if (b.many ts : Int) > (a.many ts : Int) then (b.many ts : Int) else (a.many ts : Int)) = (Sent.many ts (.without a b) : Int) := by
      simp only [Sent.many]
      split <;> omega
    simp (disch := first | omega | decide +kernel | assumption) only [F_law_many, List.map_cons, List.map_nil, List.append_nil, List.nil_append, List.cons_append, List.all_cons, List.all_nil, List.length_cons, List.length_nil, List.replicate_zero, List.replicate_succ, List.any_cons, List.any_nil, List.length_map, eq_self, Option.isSome_some, Option.isSome_none, RUN, RUNC, OB, ↓reduceIte, Nat.reduceSub, Nat.reduceAdd, Nat.reduceLT, Nat.reduceLeDiff, Int.cast_ofNat_Int, Int.reduceEq, Int.reduceLT, Int.reduceLE, Int.reduceAdd, Int.reduceSub, Int.reduceNeg, Int.reduceMul, cstep_, kC0_, kC1_, kC2_, lstep_, kL0_, Sent.d, h1, h2, m]
/-! two sentences that tell the same -/
structure pairOk (ws : List Nat) (x y : Sent) : Prop where
  okx : x.ok ws
  oky : y.ok ws
  dx : x.deep ≤ 20
  dy : y.deep ≤ 20
  jx : x.jl ≤ 5
  jy : y.jl ≤ 5
  same : ∀ ts : List Tab, ts.map Tab.wide = ws → (∀ t ∈ ts, t.ok) → entries ts x = entries ts y
theorem law_pair_ex (s : List Int) (ws : List Nat) (h0 : ws ≠ []) (hl : ws.length ≤ 1000) (hw : ∀ w ∈ ws, 1 ≤ w ∧ w ≤ 8) (q : Dq) :
    ∃ (q' : Dq) (x y : Sent), pairOk ws x y ∧ ∀ n, 40 ≤ n → callF fds n i_law_pair [dice s q, widD ws] = some (some (dice s q'), (false, .tup [x.d, y.d])) := by
  obtain ⟨q1, one, hone, h1⟩ := law_any_ex s ws h0 hl hw false 2 q
  have pw := Sent.wide_pos (fun w h => (hw w h).1) one hone.ok
  have p8 := Sent.wide_le (fun w h => (hw w h).2) one hone.ok
  have o1 := hone.deep
  have o2 := hone.jl
  obtain ⟨q2, c, ⟨c1, c2, c3, _⟩, h2⟩ := law_condition_ex s (one.wide ws) pw (by omega) false 1 q1
  obtain ⟨q3, e, ⟨e1, e2, e3, _⟩, h3⟩ := law_condition_ex s (one.wide ws) pw (by omega) false 1 q2
  have si := sized_of s ws hw false 1 (fun q => law_any_ex s ws h0 hl hw false 1 q)
  obtain ⟨q4, oth, ⟨t1, t2, t3, t4, _, t6⟩, h4⟩ := si q3 (one.wide ws) pw p8
  have v0 := nxV_lo (s := s) (q := q4) (m := 7) (by omega)
  have v1 := nxV_hi (s := s) (q := q4) (m := 7) (by omega)
  by_cases w0 : nxV s q4 7 = 0
  · refine ⟨nxQ s q4 7, .keep (.keep one c) e, .keep one (.and c e), ⟨⟨⟨hone.ok, c1⟩, e1⟩, ⟨hone.ok, c1, e1⟩, ?_, ?_, ?_, ?_, fun ts _ _ => same0 ts one c e⟩, fun n hn => ?_⟩
    · simp only [Sent.deep]; omega
    · simp only [Sent.deep, Cond.deep]; omega
    · simp only [Sent.jl]; omega
    · simp only [Sent.jl]; omega
    · (obtain ⟨n, rfl⟩ : ∃ m, n = m + 1 := ⟨n - 1, by omega⟩; rw [call_law_pair, runF_eq (by rfl) (by rfl)])
      simp (disch := first | omega | decide +kernel | assumption) only [F_law_pair, List.map_cons, List.map_nil, List.append_nil, List.nil_append, List.cons_append, List.all_cons, List.all_nil, List.length_cons, List.length_nil, List.replicate_zero, List.replicate_succ, List.any_cons, List.any_nil, List.length_map, eq_self, Option.isSome_some, Option.isSome_none, RUN, RUNC, OB, ↓reduceIte, Nat.reduceSub, Nat.reduceAdd, Nat.reduceLT, Nat.reduceLeDiff, Int.cast_ofNat_Int, Int.reduceEq, Int.reduceLT, Int.reduceLE, Int.reduceAdd, Int.reduceSub, Int.reduceNeg, Int.reduceMul, cstep_, kC0_, kC1_, kC2_, lstep_, kL0_, h1, h2, h3, h4, next_ok, w0, Sent.d, Cond.d]
  have z0 := decide_eq_false w0
  by_cases w1 : nxV s q4 7 = 1
  · refine ⟨nxQ s q4 7, .keep (.both one oth) c, .both (.keep one c) (.keep oth c), ⟨⟨⟨hone.ok, t1, t2.symm⟩, c1⟩, ⟨⟨hone.ok, c1⟩, ⟨t1, by rw [t2]; exact c1⟩, t2.symm⟩, ?_, ?_, ?_, ?_, fun ts _ _ => same1 ts one oth c⟩, fun n hn => ?_⟩
    · simp only [Sent.deep]; omega
    · simp only [Sent.deep]; omega
    · simp only [Sent.jl]; omega
    · simp only [Sent.jl]; omega
    · (obtain ⟨n, rfl⟩ : ∃ m, n = m + 1 := ⟨n - 1, by omega⟩; rw [call_law_pair, runF_eq (by rfl) (by rfl)])
      simp (disch := first | omega | decide +kernel | assumption) only [F_law_pair, List.map_cons, List.map_nil, List.append_nil, List.nil_append, List.cons_append, List.all_cons, List.all_nil, List.length_cons, List.length_nil, List.replicate_zero, List.replicate_succ, List.any_cons, List.any_nil, List.length_map, eq_self, Option.isSome_some, Option.isSome_none, RUN, RUNC, OB, ↓reduceIte, Nat.reduceSub, Nat.reduceAdd, Nat.reduceLT, Nat.reduceLeDiff, Int.cast_ofNat_Int, Int.reduceEq, Int.reduceLT, Int.reduceLE, Int.reduceAdd, Int.reduceSub, Int.reduceNeg, Int.reduceMul, cstep_, kC0_, kC1_, kC2_, lstep_, kL0_, h1, h2, h3, h4, next_ok, z0, w1, Sent.d, Cond.d]
  have z1 := decide_eq_false w1
  by_cases w2 : nxV s q4 7 = 2
  · obtain ⟨q5, two, ⟨k1, k2⟩, k3⟩ := nats_ex s (one.wide ws) pw 3 (nxQ s q4 7)
    obtain ⟨q6, pl, ⟨l1, l2⟩, l3⟩ := nats_ex s 3 (by omega) 2 q5
    refine ⟨q6, .pick (.pick one two) pl, .pick one (pl.map fun k => two.getD k 0), ⟨⟨⟨hone.ok, by omega, by omega, k2⟩, by omega, by omega, fun k hk => by have := l2 k hk; show k < two.length; omega⟩, ⟨hone.ok, by simp; omega, by simp; omega, ?_⟩, ?_, ?_, ?_, ?_, fun ts _ _ => same2 ts one two pl fun k hk => by have := l2 k hk; omega⟩, fun n hn => ?_⟩
    · intro k hk
      obtain ⟨i, hi, rfl⟩ := List.mem_map.mp hk
      have := l2 i hi
      rw [List.getD_eq_getElem?_getD, List.getElem?_eq_getElem (show i < two.length by omega)]
      exact k2 _ (List.getElem_mem _)
    · simp only [Sent.deep]; omega
    · simp only [Sent.deep]; omega
    · simp only [Sent.jl]; omega
    · simp only [Sent.jl]; omega
    · (obtain ⟨n, rfl⟩ : ∃ m, n = m + 1 := ⟨n - 1, by omega⟩; rw [call_law_pair, runF_eq (by rfl) (by rfl)])
      have hz1 : szOk two.length = true := szOk_k (by omega)
      have hz2 : szOk pl.length = true := szOk_k (by omega)
      simp (disch := first | omega | decide +kernel | assumption) only [F_law_pair, List.map_cons, List.map_nil, List.append_nil, List.nil_append, List.cons_append, List.all_cons, List.all_nil, List.length_cons, List.length_nil, List.replicate_zero, List.replicate_succ, List.any_cons, List.any_nil, List.length_map, eq_self, Option.isSome_some, Option.isSome_none, RUN, RUNC, OB, ↓reduceIte, Nat.reduceSub, Nat.reduceAdd, Nat.reduceLT, Nat.reduceLeDiff, Int.cast_ofNat_Int, Int.reduceEq, Int.reduceLT, Int.reduceLE, Int.reduceAdd, Int.reduceSub, Int.reduceNeg, Int.reduceMul, cstep_, kC0_, kC1_, kC2_, lstep_, kL0_, h1, h2, h3, h4, next_ok, z0, z1, w2, rng_1]
      rw [show Int.toNat 3 = 3 from rfl, k3 (fun qq => [.io (dice s qq), .va (widD ws), .va oth.d, .va (.int 2), .no, .va one.d, .va (.int (one.wide ws : Int)), .va c.d, .va e.d, .no, .no, .no, .no, .no, .no]) _ _ _ _ (by
        intro i q
        simp (disch := first | omega | decide +kernel | assumption) only [List.map_cons, List.map_nil, List.append_nil, List.nil_append, List.cons_append, List.all_cons, List.all_nil, List.length_cons, List.length_nil, List.replicate_zero, List.replicate_succ, List.any_cons, List.any_nil, List.length_map, eq_self, Option.isSome_some, Option.isSome_none, RUN, RUNC, OB, ↓reduceIte, Nat.reduceSub, Nat.reduceAdd, Nat.reduceLT, Nat.reduceLeDiff, Int.cast_ofNat_Int, Int.reduceEq, Int.reduceLT, Int.reduceLE, Int.reduceAdd, Int.reduceSub, Int.reduceNeg, Int.reduceMul, cstep_, kC0_, kC1_, kC2_, lstep_, kL0_, next_ok])]
      simp (disch := first | omega | decide +kernel | assumption) only [List.map_cons, List.map_nil, List.append_nil, List.nil_append, List.cons_append, List.all_cons, List.all_nil, List.length_cons, List.length_nil, List.replicate_zero, List.replicate_succ, List.any_cons, List.any_nil, List.length_map, eq_self, Option.isSome_some, Option.isSome_none, RUN, RUNC, OB, ↓reduceIte, Nat.reduceSub, Nat.reduceAdd, Nat.reduceLT, Nat.reduceLeDiff, Int.cast_ofNat_Int, Int.reduceEq, Int.reduceLT, Int.reduceLE, Int.reduceAdd, Int.reduceSub, Int.reduceNeg, Int.reduceMul, cstep_, kC0_, kC1_, kC2_, lstep_, kL0_, hz1, rng_1]
      rw [show Int.toNat 2 = 2 from rfl, l3 (fun qq => [.io (dice s qq), .va (widD ws), .va oth.d, .va (.int 2), .no, .va one.d, .va (.int (one.wide ws : Int)), .va c.d, .va e.d, .va (.tup (two.map fun (i : Nat) => D.int (i : Int))), .no, .no, .no, .no, .no]) _ _ _ _ (by
        intro i q
        simp (disch := first | omega | decide +kernel | assumption) only [List.map_cons, List.map_nil, List.append_nil, List.nil_append, List.cons_append, List.all_cons, List.all_nil, List.length_cons, List.length_nil, List.replicate_zero, List.replicate_succ, List.any_cons, List.any_nil, List.length_map, eq_self, Option.isSome_some, Option.isSome_none, RUN, RUNC, OB, ↓reduceIte, Nat.reduceSub, Nat.reduceAdd, Nat.reduceLT, Nat.reduceLeDiff, Int.cast_ofNat_Int, Int.reduceEq, Int.reduceLT, Int.reduceLE, Int.reduceAdd, Int.reduceSub, Int.reduceNeg, Int.reduceMul, cstep_, kC0_, kC1_, kC2_, lstep_, kL0_, next_ok])]
      simp (disch := first | omega | decide +kernel | assumption) only [List.map_cons, List.map_nil, List.append_nil, List.nil_append, List.cons_append, List.all_cons, List.all_nil, List.length_cons, List.length_nil, List.replicate_zero, List.replicate_succ, List.any_cons, List.any_nil, List.length_map, eq_self, Option.isSome_some, Option.isSome_none, RUN, RUNC, OB, ↓reduceIte, Nat.reduceSub, Nat.reduceAdd, Nat.reduceLT, Nat.reduceLeDiff, Int.cast_ofNat_Int, Int.reduceEq, Int.reduceLT, Int.reduceLE, Int.reduceAdd, Int.reduceSub, Int.reduceNeg, Int.reduceMul, cstep_, kC0_, kC1_, kC2_, lstep_, kL0_, hz2]
      rw [compF_all pl _ (fun k => D.int ((two.getD k 0 : Nat) : Int)) (by
        intro k hk
        have hk2 := l2 k hk
        have a1 : atI (two.map fun (i : Nat) => D.int (i : Int)) (k : Int) = some (.int ((two.getD k 0 : Nat) : Int)) := atI_nat (by simp [List.getElem?_map, List.getElem?_eq_getElem (show k < two.length by omega)])
        simp (disch := first | omega | decide +kernel | assumption) only [List.map_cons, List.map_nil, List.append_nil, List.nil_append, List.cons_append, List.all_cons, List.all_nil, List.length_cons, List.length_nil, List.replicate_zero, List.replicate_succ, List.any_cons, List.any_nil, List.length_map, eq_self, Option.isSome_some, Option.isSome_none, RUN, RUNC, OB, ↓reduceIte, Nat.reduceSub, Nat.reduceAdd, Nat.reduceLT, Nat.reduceLeDiff, Int.cast_ofNat_Int, Int.reduceEq, Int.reduceLT, Int.reduceLE, Int.reduceAdd, Int.reduceSub, Int.reduceNeg, Int.reduceMul, cstep_, kC0_, kC1_, kC2_, lstep_, kL0_, a1])]
      simp (disch := first | omega | decide +kernel | assumption) only [List.map_cons, List.map_nil, List.append_nil, List.nil_append, List.cons_append, List.all_cons, List.all_nil, List.length_cons, List.length_nil, List.replicate_zero, List.replicate_succ, List.any_cons, List.any_nil, List.length_map, eq_self, Option.isSome_some, Option.isSome_none, RUN, RUNC, OB, ↓reduceIte, Nat.reduceSub, Nat.reduceAdd, Nat.reduceLT, Nat.reduceLeDiff, Int.cast_ofNat_Int, Int.reduceEq, Int.reduceLT, Int.reduceLE, Int.reduceAdd, Int.reduceSub, Int.reduceNeg, Int.reduceMul, cstep_, kC0_, kC1_, kC2_, lstep_, kL0_, hz2]
      simp [Sent.d, natsD]
  have z2 := decide_eq_false w2
  by_cases w3 : nxV s q4 7 = 3 ∧ one.wide ws < 3
  · obtain ⟨i, hi⟩ := Int.eq_ofNat_of_zero_le (nxV_lo (s := s) (q := nxQ s q4 7) (m := (one.wide ws : Int)) (by omega))
    obtain ⟨j, hj⟩ := Int.eq_ofNat_of_zero_le (nxV_lo (s := s) (q := nxQ s (nxQ s q4 7) (one.wide ws : Int)) (m := (one.wide ws : Int)) (by omega))
    have hi2 := nxV_hi (s := s) (q := nxQ s q4 7) (m := (one.wide ws : Int)) (by omega)
    have hj2 := nxV_hi (s := s) (q := nxQ s (nxQ s q4 7) (one.wide ws : Int)) (m := (one.wide ws : Int)) (by omega)
    have z3 : decide ((one.wide ws : Int) < 3) = true := decide_eq_true (by omega)
    have ea : (one.wide ws : Int) + (j : Int) = ((one.wide ws + j : Nat) : Int) := by omega
    refine ⟨nxQ s (nxQ s (nxQ s q4 7) (one.wide ws : Int)) (one.wide ws : Int), .join one oth [(i, j)], .keep (.join one oth []) (.is (.col i) (.col (one.wide ws + j))), ⟨⟨hone.ok, t1, by omega, by simp, ?_⟩, ⟨⟨hone.ok, t1, by omega, by simp, fun p hp => absurd hp List.not_mem_nil⟩, ?_⟩, ?_, ?_, ?_, ?_, fun ts hts hok => ?_⟩, fun n hn => ?_⟩
    · intro p hp
      rw [List.mem_singleton.mp hp]
      exact ⟨by show i < _; omega, by show j < _; omega⟩
    · show i < one.wide ws + oth.wide ws ∧ one.wide ws + j < one.wide ws + oth.wide ws
      omega
    · simp only [Sent.deep]; omega
    · simp only [Sent.deep, Cond.deep, Part.deep]; omega
    · simp only [Sent.jl]; omega
    · simp only [Sent.jl]; omega
    · subst hts
      exact same3 hok one oth hone.ok t1 i j (by omega) (by omega)
    · (obtain ⟨n, rfl⟩ : ∃ m, n = m + 1 := ⟨n - 1, by omega⟩; rw [call_law_pair, runF_eq (by rfl) (by rfl)])
      simp (disch := first | omega | decide +kernel | assumption) only [F_law_pair, List.map_cons, List.map_nil, List.append_nil, List.nil_append, List.cons_append, List.all_cons, List.all_nil, List.length_cons, List.length_nil, List.replicate_zero, List.replicate_succ, List.any_cons, List.any_nil, List.length_map, eq_self, Option.isSome_some, Option.isSome_none, RUN, RUNC, OB, ↓reduceIte, Nat.reduceSub, Nat.reduceAdd, Nat.reduceLT, Nat.reduceLeDiff, Int.cast_ofNat_Int, Int.reduceEq, Int.reduceLT, Int.reduceLE, Int.reduceAdd, Int.reduceSub, Int.reduceNeg, Int.reduceMul, cstep_, kC0_, kC1_, kC2_, lstep_, kL0_, h1, h2, h3, h4, next_ok, z0, z1, z2, w3.1, z3, hi, hj, ea, Sent.d, Cond.d, Part.d, pairsD, pairD2]
  by_cases w4 : nxV s q4 7 = 4
  · refine ⟨nxQ s q4 7, .without (.without one oth) oth, .without one oth, ⟨⟨⟨hone.ok, t1, t2.symm⟩, t1, t2.symm⟩, ⟨hone.ok, t1, t2.symm⟩, ?_, ?_, ?_, ?_, fun ts _ _ => same4 ts one oth⟩, fun n hn => ?_⟩
    · simp only [Sent.deep]; omega
    · simp only [Sent.deep]; omega
    · simp only [Sent.jl]; omega
    · simp only [Sent.jl]; omega
    · (obtain ⟨n, rfl⟩ : ∃ m, n = m + 1 := ⟨n - 1, by omega⟩; rw [call_law_pair, runF_eq (by rfl) (by rfl)])
      simp (disch := first | omega | decide +kernel | assumption) only [F_law_pair, List.map_cons, List.map_nil, List.append_nil, List.nil_append, List.cons_append, List.all_cons, List.all_nil, List.length_cons, List.length_nil, List.replicate_zero, List.replicate_succ, List.any_cons, List.any_nil, List.length_map, eq_self, Option.isSome_some, Option.isSome_none, RUN, RUNC, OB, ↓reduceIte, Nat.reduceSub, Nat.reduceAdd, Nat.reduceLT, Nat.reduceLeDiff, Int.cast_ofNat_Int, Int.reduceEq, Int.reduceLT, Int.reduceLE, Int.reduceAdd, Int.reduceSub, Int.reduceNeg, Int.reduceMul, cstep_, kC0_, kC1_, kC2_, lstep_, kL0_, h1, h2, h3, h4, next_ok, z0, z1, z2, w4, Sent.d]
  have z4 := decide_eq_false w4
  by_cases w5 : nxV s q4 7 = 5
  · refine ⟨nxQ s q4 7, .without (.keep one c) oth, .keep (.without one oth) c, ⟨⟨⟨hone.ok, c1⟩, t1, t2.symm⟩, ⟨⟨hone.ok, t1, t2.symm⟩, c1⟩, ?_, ?_, ?_, ?_, fun ts _ _ => same5 ts one oth c⟩, fun n hn => ?_⟩
    · simp only [Sent.deep]; omega
    · simp only [Sent.deep]; omega
    · simp only [Sent.jl]; omega
    · simp only [Sent.jl]; omega
    · (obtain ⟨n, rfl⟩ : ∃ m, n = m + 1 := ⟨n - 1, by omega⟩; rw [call_law_pair, runF_eq (by rfl) (by rfl)])
      simp (disch := first | omega | decide +kernel | assumption) only [F_law_pair, List.map_cons, List.map_nil, List.append_nil, List.nil_append, List.cons_append, List.all_cons, List.all_nil, List.length_cons, List.length_nil, List.replicate_zero, List.replicate_succ, List.any_cons, List.any_nil, List.length_map, eq_self, Option.isSome_some, Option.isSome_none, RUN, RUNC, OB, ↓reduceIte, Nat.reduceSub, Nat.reduceAdd, Nat.reduceLT, Nat.reduceLeDiff, Int.cast_ofNat_Int, Int.reduceEq, Int.reduceLT, Int.reduceLE, Int.reduceAdd, Int.reduceSub, Int.reduceNeg, Int.reduceMul, cstep_, kC0_, kC1_, kC2_, lstep_, kL0_, h1, h2, h3, h4, next_ok, z0, z1, z2, w5, Sent.d]
  have z5 := decide_eq_false w5
  obtain ⟨q5, thi, ⟨u1, u2, u3, u4, _, u6⟩, h5⟩ := si (nxQ s q4 7) (one.wide ws) pw p8
  refine ⟨q5, .without one (.both oth thi), .without (.without one oth) thi, ⟨⟨hone.ok, ⟨t1, u1, by rw [t2, u2]⟩, t2.symm⟩, ⟨⟨hone.ok, t1, t2.symm⟩, u1, u2.symm⟩, ?_, ?_, ?_, ?_, fun ts _ _ => same6 ts one oth thi⟩, fun n hn => ?_⟩
  · simp only [Sent.deep]; omega
  · simp only [Sent.deep]; omega
  · simp only [Sent.jl]; omega
  · simp only [Sent.jl]; omega
  · (obtain ⟨n, rfl⟩ : ∃ m, n = m + 1 := ⟨n - 1, by omega⟩; rw [call_law_pair, runF_eq (by rfl) (by rfl)])
    by_cases w6 : nxV s q4 7 = 3
    · have z3 : decide ((one.wide ws : Int) < 3) = false := decide_eq_false (by omega)
      simp (disch := first | omega | decide +kernel | assumption) only [F_law_pair, List.map_cons, List.map_nil, List.append_nil, List.nil_append, List.cons_append, List.all_cons, List.all_nil, List.length_cons, List.length_nil, List.replicate_zero, List.replicate_succ, List.any_cons, List.any_nil, List.length_map, eq_self, Option.isSome_some, Option.isSome_none, RUN, RUNC, OB, ↓reduceIte, Nat.reduceSub, Nat.reduceAdd, Nat.reduceLT, Nat.reduceLeDiff, Int.cast_ofNat_Int, Int.reduceEq, Int.reduceLT, Int.reduceLE, Int.reduceAdd, Int.reduceSub, Int.reduceNeg, Int.reduceMul, cstep_, kC0_, kC1_, kC2_, lstep_, kL0_, h1, h2, h3, h4, h5, next_ok, z0, z1, z2, w6, z3, Sent.d]
    · simp (disch := first | omega | decide +kernel | assumption) only [F_law_pair, List.map_cons, List.map_nil, List.append_nil, List.nil_append, List.cons_append, List.all_cons, List.all_nil, List.length_cons, List.length_nil, List.replicate_zero, List.replicate_succ, List.any_cons, List.any_nil, List.length_map, eq_self, Option.isSome_some, Option.isSome_none, RUN, RUNC, OB, ↓reduceIte, Nat.reduceSub, Nat.reduceAdd, Nat.reduceLT, Nat.reduceLeDiff, Int.cast_ofNat_Int, Int.reduceEq, Int.reduceLT, Int.reduceLE, Int.reduceAdd, Int.reduceSub, Int.reduceNeg, Int.reduceMul, cstep_, kC0_, kC1_, kC2_, lstep_, kL0_, h1, h2, h3, h4, h5, next_ok, z0, z1, z2, decide_eq_false w6, z4, z5, Sent.d]
/-! the law -/
theorem plain (s : List Int) (h63 : s.length ≤ 63) : callF fds (90 + 1) i_law [.scr s] = some (none, (false, .bl true)) := by
  obtain ⟨q0, hd⟩ := dice_ok (n := 90) s (by omega)
  rw [call_law, runF_eq (by rfl) (by rfl)]
  simp (disch := first | omega | decide +kernel | assumption) only [F_law, List.map_cons, List.map_nil, List.append_nil, List.nil_append, List.cons_append, List.all_cons, List.all_nil, List.length_cons, List.length_nil, List.replicate_zero, List.replicate_succ, List.any_cons, List.any_nil, List.length_map, eq_self, Option.isSome_some, Option.isSome_none, RUN, RUNC, OB, ↓reduceIte, Nat.reduceSub, Nat.reduceAdd, Nat.reduceLT, Nat.reduceLeDiff, Int.cast_ofNat_Int, Int.reduceEq, Int.reduceLT, Int.reduceLE, Int.reduceAdd, Int.reduceSub, Int.reduceNeg, Int.reduceMul, cstep_, kC0_, kC1_, kC2_, lstep_, kL0_, hd, rng_1]
  generalize hL : loopF _ _ _ _ = L
  obtain ⟨σ', rfl, q, s2, s3, s4, s5, s6, rfl⟩ := loopF_i _ hL (fun _ σ => ∃ (q : Dq) (s2 s3 s4 s5 s6 : Sl), σ = [.va (.scr s), .ow (dice s q), s2, s3, s4, s5, s6, .no, .no]) ⟨_, _, _, _, _, _, rfl⟩ (by
    clear hL
    rintro i rest σ ⟨q, s2, s3, s4, s5, s6, rfl⟩ hm
    obtain ⟨q1, ts, ⟨t1, t3, tk⟩, h1⟩ := law_tables_ex s 4 4 (by omega) (by omega) (by omega) q 90 4 4 (by omega) rfl rfl
    have hw : ∀ w ∈ ts.map Tab.wide, 1 ≤ w ∧ w ≤ 8 := fun w hw => by
      obtain ⟨t, ht', rfl⟩ := List.mem_map.mp hw
      have := (tk t ht').hi
      have := (tk t ht').lo
      omega
    obtain ⟨q2, x, y, hp, h2⟩ := law_pair_ex s (ts.map Tab.wide) (by intro h; rw [List.map_eq_nil_iff] at h; rw [h] at t1; simp at t1) (by simp; omega) hw q1
    have h2 := h2 90 (by omega)
    have h6 : ∀ t ∈ ts, t.rows.length ≤ 6 := fun t h => (tk t h).few
    have dx := hp.dx
    have dy := hp.dy
    have m1 := many_ok h6 x 90 (by omega) hp.okx hp.jx
    have m2 := many_ok h6 y 90 (by omega) hp.oky hp.jy
    have g1 := things_sent x 90 (by omega) (by omega)
    have g2 := things_sent y 90 (by omega) (by omega)
    have hz2 : szOk ts.length = true := szOk_k (by omega)
    have fk : ∀ (i : Nat) (σ : S), frK i σ (some (.ow (tabsD ts))) = some (σ.set i (.va (tabsD ts))) := fun _ _ => rfl
    have vk : ∀ (i : Nat) (σ : S), varK i σ (some (.ow (tabsD ts))) = some ((false, tabsD ts), σ.set i (.va (tabsD ts))) := fun _ _ => rfl
    have ok : ∀ σ : S, ofK (tabsD ts) σ = some (ts.map Tab.d, σ) := fun _ => rfl
    have ev2 : ∀ σ : S, vl (false, tabsD ts) σ = some (tabsD ts, σ) := fun _ => rfl
    simp (disch := first | omega | decide +kernel | assumption) only [List.map_cons, List.map_nil, List.append_nil, List.nil_append, List.cons_append, List.all_cons, List.all_nil, List.length_cons, List.length_nil, List.replicate_zero, List.replicate_succ, List.any_cons, List.any_nil, List.length_map, eq_self, Option.isSome_some, Option.isSome_none, RUN, RUNC, OB, ↓reduceIte, Nat.reduceSub, Nat.reduceAdd, Nat.reduceLT, Nat.reduceLeDiff, Int.cast_ofNat_Int, Int.reduceEq, Int.reduceLT, Int.reduceLE, Int.reduceAdd, Int.reduceSub, Int.reduceNeg, Int.reduceMul, cstep_, kC0_, kC1_, kC2_, lstep_, kL0_, h1, vk, ok]
    rw [compF_all ts Tab.d (fun t => D.int (t.wide : Int)) (by
      intro t _
      simp (disch := first | omega | decide +kernel | assumption) only [List.map_cons, List.map_nil, List.append_nil, List.nil_append, List.cons_append, List.all_cons, List.all_nil, List.length_cons, List.length_nil, List.replicate_zero, List.replicate_succ, List.any_cons, List.any_nil, List.length_map, eq_self, Option.isSome_some, Option.isSome_none, RUN, RUNC, OB, ↓reduceIte, Nat.reduceSub, Nat.reduceAdd, Nat.reduceLT, Nat.reduceLeDiff, Int.cast_ofNat_Int, Int.reduceEq, Int.reduceLT, Int.reduceLE, Int.reduceAdd, Int.reduceSub, Int.reduceNeg, Int.reduceMul, cstep_, kC0_, kC1_, kC2_, lstep_, kL0_, Tab.d])]
    have hwd : D.lst (ts.map fun t => D.int (t.wide : Int)) = widD (ts.map Tab.wide) := by simp [widD]
    simp (disch := first | omega | decide +kernel | assumption) only [List.map_cons, List.map_nil, List.append_nil, List.nil_append, List.cons_append, List.all_cons, List.all_nil, List.length_cons, List.length_nil, List.replicate_zero, List.replicate_succ, List.any_cons, List.any_nil, List.length_map, eq_self, Option.isSome_some, Option.isSome_none, RUN, RUNC, OB, ↓reduceIte, Nat.reduceSub, Nat.reduceAdd, Nat.reduceLT, Nat.reduceLeDiff, Int.cast_ofNat_Int, Int.reduceEq, Int.reduceLT, Int.reduceLE, Int.reduceAdd, Int.reduceSub, Int.reduceNeg, Int.reduceMul, cstep_, kC0_, kC1_, kC2_, lstep_, kL0_, hz2]
    rw [hwd]
    simp (disch := first | omega | decide +kernel | assumption) only [List.map_cons, List.map_nil, List.append_nil, List.nil_append, List.cons_append, List.all_cons, List.all_nil, List.length_cons, List.length_nil, List.replicate_zero, List.replicate_succ, List.any_cons, List.any_nil, List.length_map, eq_self, Option.isSome_some, Option.isSome_none, RUN, RUNC, OB, ↓reduceIte, Nat.reduceSub, Nat.reduceAdd, Nat.reduceLT, Nat.reduceLeDiff, Int.cast_ofNat_Int, Int.reduceEq, Int.reduceLT, Int.reduceLE, Int.reduceAdd, Int.reduceSub, Int.reduceNeg, Int.reduceMul, cstep_, kC0_, kC1_, kC2_, lstep_, kL0_, h2, m1, m2, p_max1_2]
    by_cases c1 : max (x.many ts : Int) (y.many ts : Int) < 300
    · have e1 := decide_eq_true c1
      simp (disch := first | omega | decide +kernel | assumption) only [List.map_cons, List.map_nil, List.append_nil, List.nil_append, List.cons_append, List.all_cons, List.all_nil, List.length_cons, List.length_nil, List.replicate_zero, List.replicate_succ, List.any_cons, List.any_nil, List.length_map, eq_self, Option.isSome_some, Option.isSome_none, RUN, RUNC, OB, ↓reduceIte, Nat.reduceSub, Nat.reduceAdd, Nat.reduceLT, Nat.reduceLeDiff, Int.cast_ofNat_Int, Int.reduceEq, Int.reduceLT, Int.reduceLE, Int.reduceAdd, Int.reduceSub, Int.reduceNeg, Int.reduceMul, cstep_, kC0_, kC1_, kC2_, lstep_, kL0_, e1, g1, g2, p_max1_2]
      by_cases c2 : max (x.size : Int) (y.size : Int) < 61
      · have e2 := decide_eq_true c2
        have r1 := run_ok t1 t3 tk x 90 (by omega) hp.okx (by omega) (by omega)
        have r2 := run_ok t1 t3 tk y 90 (by omega) hp.oky (by omega) (by omega)
        rw [← hp.same ts rfl tk] at r2
        have hok := entries_ok tk x hp.okx
        have hlen := entries_len ts x
        have rc : ∀ (fl : Bool) (σ σ' : S), cnK (some (none, (true, runD (G48.entries ts x)))) fl (some σ') σ = some ((true, runD (G48.entries ts x)), σ') := fun _ _ _ => rfl
        have rv : ∀ (σ : S), vl (true, runD (G48.entries ts x)) σ = some (runD (G48.entries ts x), σ) := fun _ => rfl
        have ne := ne_self (gd_run (G48.entries ts x)) (by omega)
        simp (disch := first | omega | decide +kernel | assumption) only [List.map_cons, List.map_nil, List.append_nil, List.nil_append, List.cons_append, List.all_cons, List.all_nil, List.length_cons, List.length_nil, List.replicate_zero, List.replicate_succ, List.any_cons, List.any_nil, List.length_map, eq_self, Option.isSome_some, Option.isSome_none, RUN, RUNC, OB, ↓reduceIte, Nat.reduceSub, Nat.reduceAdd, Nat.reduceLT, Nat.reduceLeDiff, Int.cast_ofNat_Int, Int.reduceEq, Int.reduceLT, Int.reduceLE, Int.reduceAdd, Int.reduceSub, Int.reduceNeg, Int.reduceMul, cstep_, kC0_, kC1_, kC2_, lstep_, kL0_, e2, r1, r2, rc, rv, ne]
        exact ⟨_, rfl, _, _, _, _, _, _, rfl⟩
      · have e2 := decide_eq_false c2
        simp (disch := first | omega | decide +kernel | assumption) only [List.map_cons, List.map_nil, List.append_nil, List.nil_append, List.cons_append, List.all_cons, List.all_nil, List.length_cons, List.length_nil, List.replicate_zero, List.replicate_succ, List.any_cons, List.any_nil, List.length_map, eq_self, Option.isSome_some, Option.isSome_none, RUN, RUNC, OB, ↓reduceIte, Nat.reduceSub, Nat.reduceAdd, Nat.reduceLT, Nat.reduceLeDiff, Int.cast_ofNat_Int, Int.reduceEq, Int.reduceLT, Int.reduceLE, Int.reduceAdd, Int.reduceSub, Int.reduceNeg, Int.reduceMul, cstep_, kC0_, kC1_, kC2_, lstep_, kL0_, e2]
        exact ⟨_, rfl, _, _, _, _, _, _, rfl⟩
    · have e1 := decide_eq_false c1
      simp (disch := first | omega | decide +kernel | assumption) only [List.map_cons, List.map_nil, List.append_nil, List.nil_append, List.cons_append, List.all_cons, List.all_nil, List.length_cons, List.length_nil, List.replicate_zero, List.replicate_succ, List.any_cons, List.any_nil, List.length_map, eq_self, Option.isSome_some, Option.isSome_none, RUN, RUNC, OB, ↓reduceIte, Nat.reduceSub, Nat.reduceAdd, Nat.reduceLT, Nat.reduceLeDiff, Int.cast_ofNat_Int, Int.reduceEq, Int.reduceLT, Int.reduceLE, Int.reduceAdd, Int.reduceSub, Int.reduceNeg, Int.reduceMul, cstep_, kC0_, kC1_, kC2_, lstep_, kL0_, e1]
      exact ⟨_, rfl, _, _, _, _, _, _, rfl⟩)
  simp (disch := first | omega | decide +kernel | assumption) only [List.map_cons, List.map_nil, List.append_nil, List.nil_append, List.cons_append, List.all_cons, List.all_nil, List.length_cons, List.length_nil, List.replicate_zero, List.replicate_succ, List.any_cons, List.any_nil, List.length_map, eq_self, Option.isSome_some, Option.isSome_none, RUN, RUNC, OB, ↓reduceIte, Nat.reduceSub, Nat.reduceAdd, Nat.reduceLT, Nat.reduceLeDiff, Int.cast_ofNat_Int, Int.reduceEq, Int.reduceLT, Int.reduceLE, Int.reduceAdd, Int.reduceSub, Int.reduceNeg, Int.reduceMul, cstep_, kC0_, kC1_, kC2_, lstep_, kL0_]

end G48k17

set_option maxHeartbeats 0

namespace G48k17
open PySem PySem.Spec PyProof.Rows L2 G48
def top (i : Nat) : Stmt := PySem.Challenge.pw_gaprows_k17_whole_sentences_that_are_the.main.body.getD i (.Pass ⟨0, 0, 0, 0⟩)
abbrev s0 : Stmt := inClass (top 2) 0
def d0 : He.DefD := ⟨("BadTables", some "__init__"), "__init__", "BadTables.__init__", defArgs s0, defBody s0, defScope s0, [], []⟩
abbrev s1 : Stmt := inClass (top 3) 0
def d1 : He.DefD := ⟨("BadSentence", some "__init__"), "__init__", "BadSentence.__init__", defArgs s1, defBody s1, defScope s1, [], []⟩
abbrev s2 : Stmt := top 11
def d2 : He.DefD := ⟨("is_between", none), "is_between", "is_between", defArgs s2, defBody s2, defScope s2, [], []⟩
abbrev s3 : Stmt := top 12
def d3 : He.DefD := ⟨("is_gap", none), "is_gap", "is_gap", defArgs s3, defBody s3, defScope s3, [], []⟩
abbrev s4 : Stmt := top 13
def d4 : He.DefD := ⟨("is_row", none), "is_row", "is_row", defArgs s4, defBody s4, defScope s4, [], []⟩
abbrev s5 : Stmt := top 14
def d5 : He.DefD := ⟨("need_tables", none), "need_tables", "need_tables", defArgs s5, defBody s5, defScope s5, [], []⟩
abbrev s6 : Stmt := top 15
def d6 : He.DefD := ⟨("widths_of", none), "widths_of", "widths_of", defArgs s6, defBody s6, defScope s6, [], []⟩
abbrev s7 : Stmt := top 17
def d7 : He.DefD := ⟨("no", none), "no", "no", defArgs s7, defBody s7, defScope s7, [], []⟩
abbrev s8 : Stmt := top 18
def d8 : He.DefD := ⟨("both_of", none), "both_of", "both_of", defArgs s8, defBody s8, defScope s8, [], []⟩
abbrev s9 : Stmt := top 19
def d9 : He.DefD := ⟨("any_of", none), "any_of", "any_of", defArgs s9, defBody s9, defScope s9, [], []⟩
abbrev s10 : Stmt := top 20
def d10 : He.DefD := ⟨("is_number", none), "is_number", "is_number", defArgs s10, defBody s10, defScope s10, [], []⟩
abbrev s11 : Stmt := top 21
def d11 : He.DefD := ⟨("same", none), "same", "same", defArgs s11, defBody s11, defScope s11, [], []⟩
abbrev s12 : Stmt := top 22
def d12 : He.DefD := ⟨("less", none), "less", "less", defArgs s12, defBody s12, defScope s12, [], []⟩
abbrev s13 : Stmt := top 23
def d13 : He.DefD := ⟨("worth", none), "worth", "worth", defArgs s13, defBody s13, defScope s13, [], []⟩
abbrev s14 : Stmt := top 24
def d14 : He.DefD := ⟨("truth_of", none), "truth_of", "truth_of", defArgs s14, defBody s14, defScope s14, [], []⟩
abbrev s15 : Stmt := top 25
def d15 : He.DefD := ⟨("rows_same", none), "rows_same", "rows_same", defArgs s15, defBody s15, defScope s15, [], []⟩
abbrev s16 : Stmt := top 32
def d16 : He.DefD := ⟨("is_list", none), "is_list", "is_list", defArgs s16, defBody s16, defScope s16, [], []⟩
abbrev s17 : Stmt := top 33
def d17 : He.DefD := ⟨("is_pairs", none), "is_pairs", "is_pairs", defArgs s17, defBody s17, defScope s17, [], []⟩
abbrev s18 : Stmt := inClass (top 34) 0
def d18 : He.DefD := ⟨("Looker", some "__init__"), "__init__", "Looker.__init__", defArgs s18, defBody s18, defScope s18, [], []⟩
abbrev s19 : Stmt := inClass (top 34) 1
def d19 : He.DefD := ⟨("Looker", some "begin"), "begin", "Looker.begin", defArgs s19, defBody s19, defScope s19, [], []⟩
abbrev s20 : Stmt := inClass (top 34) 2
def d20 : He.DefD := ⟨("Looker", some "part"), "part", "Looker.part", defArgs s20, defBody s20, defScope s20, [], []⟩
abbrev s21 : Stmt := inClass (top 34) 3
def d21 : He.DefD := ⟨("Looker", some "condition"), "condition", "Looker.condition", defArgs s21, defBody s21, defScope s21, [], []⟩
abbrev s22 : Stmt := inClass (top 34) 4
def d22 : He.DefD := ⟨("Looker", some "sentence"), "sentence", "Looker.sentence", defArgs s22, defBody s22, defScope s22, [], []⟩
abbrev s23 : Stmt := inClass (top 34) 5
def d23 : He.DefD := ⟨("Looker", some "picked"), "picked", "Looker.picked", defArgs s23, defBody s23, defScope s23, [], []⟩
abbrev s24 : Stmt := inClass (top 34) 6
def d24 : He.DefD := ⟨("Looker", some "joined"), "joined", "Looker.joined", defArgs s24, defBody s24, defScope s24, [], []⟩
abbrev s25 : Stmt := top 35
def d25 : He.DefD := ⟨("wide_of", none), "wide_of", "wide_of", defArgs s25, defBody s25, defScope s25, [], []⟩
abbrev s26 : Stmt := top 39
def d26 : He.DefD := ⟨("entries", none), "entries", "entries", defArgs s26, defBody s26, defScope s26, [], []⟩
abbrev s27 : Stmt := top 40
def d27 : He.DefD := ⟨("not_false", none), "not_false", "not_false", defArgs s27, defBody s27, defScope s27, [], []⟩
abbrev s28 : Stmt := top 41
def d28 : He.DefD := ⟨("joined", none), "joined", "joined", defArgs s28, defBody s28, defScope s28, [], []⟩
abbrev s29 : Stmt := top 42
def d29 : He.DefD := ⟨("is_among", none), "is_among", "is_among", defArgs s29, defBody s29, defScope s29, [], []⟩
abbrev s30 : Stmt := top 43
def d30 : He.DefD := ⟨("run", none), "run", "run", defArgs s30, defBody s30, defScope s30, [], []⟩
abbrev s31 : Stmt := top 45
def d31 : He.DefD := ⟨("_law_dice", none), "_law_dice", "_law_dice", defArgs s31, defBody s31, defScope s31, [], []⟩
abbrev s32 : Stmt := top 46
def d32 : He.DefD := ⟨("_law_next", none), "_law_next", "_law_next", defArgs s32, defBody s32, defScope s32, [], []⟩
abbrev s33 : Stmt := top 47
def d33 : He.DefD := ⟨("_law_cell", none), "_law_cell", "_law_cell", defArgs s33, defBody s33, defScope s33, [], []⟩
abbrev s34 : Stmt := top 48
def d34 : He.DefD := ⟨("_law_tables", none), "_law_tables", "_law_tables", defArgs s34, defBody s34, defScope s34, [], []⟩
abbrev s35 : Stmt := top 49
def d35 : He.DefD := ⟨("_law_part", none), "_law_part", "_law_part", defArgs s35, defBody s35, defScope s35, [], []⟩
abbrev s36 : Stmt := top 50
def d36 : He.DefD := ⟨("_law_condition", none), "_law_condition", "_law_condition", defArgs s36, defBody s36, defScope s36, [], []⟩
abbrev s37 : Stmt := top 51
def d37 : He.DefD := ⟨("_law_sized", none), "_law_sized", "_law_sized", defArgs s37, defBody s37, defScope s37, [], []⟩
abbrev s38 : Stmt := top 52
def d38 : He.DefD := ⟨("_law_any", none), "_law_any", "_law_any", defArgs s38, defBody s38, defScope s38, [], []⟩
abbrev s39 : Stmt := top 53
def d39 : He.DefD := ⟨("_law_things", none), "_law_things", "_law_things", defArgs s39, defBody s39, defScope s39, [], []⟩
abbrev s40 : Stmt := top 54
def d40 : He.DefD := ⟨("_law_many", none), "_law_many", "_law_many", defArgs s40, defBody s40, defScope s40, [], []⟩
abbrev s41 : Stmt := top 55
def d41 : He.DefD := ⟨("_law_pair", none), "_law_pair", "_law_pair", defArgs s41, defBody s41, defScope s41, [], []⟩
abbrev s42 : Stmt := top 56
def d42 : He.DefD := ⟨("law", none), "law", "law", defArgs s42, defBody s42, defScope s42, [], []⟩
def fn : List He.DefD := [d0, d1, d2, d3, d4, d5, d6, d7, d8, d9, d10, d11, d12, d13, d14, d15, d16, d17, d18, d19, d20, d21, d22, d23, d24, d25, d26, d27, d28, d29, d30, d31, d32, d33, d34, d35, d36, d37, d38, d39, d40, d41, d42]
def fa : List He.Fa := [.glo "is_between", .glo "is_gap", .glo "is_row", .glo "need_tables", .glo "widths_of", .glo "no", .glo "both_of", .glo "any_of", .glo "is_number", .glo "same", .glo "less", .glo "worth", .glo "truth_of", .glo "rows_same", .glo "is_list", .glo "is_pairs", .meth "Looker" "__init__", .meth "Looker" "begin", .meth "Looker" "part", .meth "Looker" "condition", .meth "Looker" "sentence", .meth "Looker" "picked", .meth "Looker" "joined", .glo "wide_of", .glo "entries", .glo "not_false", .glo "joined", .glo "is_among", .glo "run", .glo "_law_dice", .glo "_law_next", .glo "_law_cell", .glo "_law_tables", .glo "_law_part", .glo "_law_condition", .glo "_law_sized", .glo "_law_any", .glo "_law_things", .glo "_law_many", .glo "_law_pair", .glo "law", .glo "GapError", .glo "BadTables", .glo "BadSentence", .glo "Looker", .cls "Looker", .mkr "Looker", .noat "Looker" "seen", .noat "Looker" "widths", .str "GAP" "gap", .int "MOST_TABLES" (3), .int "MOST_WIDE" (4), .int "MOST_ROWS" (6), .int "MOST_NUMBER" (99), .int "MOST_NAME" (9), .int "MOST_THINGS" (60), .int "MOST_COLUMNS" (8), .str "SURE" "sure", .str "MAYBE" "maybe", .glo "PARTS", .glo "CONDITIONS", .glo "SENTENCES", .free "len", .free "isinstance", .free "int", .free "str", .free "bool", .free "tuple", .free "list", .free "dict", .free "range", .free "min", .free "max", .free "sum", .free "sorted", .free "set", .free "zip", .free "enumerate", .free "ValueError"]
def ts : List He.Tab := [(fun K => He.ga K "PARTS", ["col", "num", "plus", "take"]), (fun K => He.ga K "CONDITIONS", ["is", "less", "lacks", "not", "true", "and", "or"]), (fun K => He.ga K "SENTENCES", ["rows", "keep", "pick", "join", "both", "without"])]
def tb : List (Str × List (Str × Str)) := [("PARTS", [("col", "n"), ("num", "n"), ("plus", "xx"), ("take", "xx")]), ("CONDITIONS", [("is", "xx"), ("less", "xx"), ("lacks", "x"), ("not", "c"), ("true", "c"), ("and", "cc"), ("or", "cc")]), ("SENTENCES", [("rows", "n"), ("keep", "sc"), ("pick", "sl"), ("join", "ssp"), ("both", "ss"), ("without", "ss")])]
abbrev R : PySem.W.OpenRow := PySem.W.OpenLaw.row PySem.Challenge.rw_gaprows_k17_whole_sentences_that_are_the
abbrev hk : PySem.W.Hook := G48.hookU 4 fa fn ts tb
def ob (s : PySem.W.SharedT) : G48.AlU := G48.obsUG 4 fa fn ts tb (HandSHeadRun.getT s)
theorem ob_eq (s : PySem.W.SharedT) : ob s = hk.obs s.abs := G48.obsUG_eq (HandSHeadRun.getT_eq s)
def nm0 : List Str := ["GapError", "BadTables", "BadSentence", "GAP", "MOST_TABLES", "MOST_WIDE", "MOST_ROWS", "MOST_NUMBER", "MOST_NAME", "is_between", "is_gap", "is_row", "need_tables", "widths_of", "no", "both_of", "any_of", "is_number", "same", "less", "worth", "truth_of", "rows_same", "MOST_THINGS", "MOST_COLUMNS", "PARTS", "CONDITIONS", "SENTENCES", "is_list", "is_pairs"]
def nm1 : List Str := ["Looker", "wide_of", "SURE", "MAYBE", "entries", "not_false", "joined", "is_among", "run", "_law_dice", "_law_next", "_law_cell", "_law_tables", "_law_part", "_law_condition", "_law_sized", "_law_any", "_law_things", "_law_many", "_law_pair"]
def names : List Str := nm0 ++ nm1
theorem run0 (w : World) : HandSHeadRun.RunEq R (PySem.W.view R.prog [56]) hk ob 9000 names (w.withFollow "special-get-raises" false) := by
  intro os
  kernel_rfl
theorem run1 (w : World) : HandSHeadRun.RunEq R (PySem.W.view R.prog [56]) hk ob 9000 names (w.withFollow "special-get-raises" true) := by
  intro os
  kernel_rfl
theorem run (w : World) : HandSHeadRun.RunEq R (PySem.W.view R.prog [56]) hk ob 9000 names w := PySem.W.byRow2 "special-get-raises" (P := fun w => HandSHeadRun.RunEq R (PySem.W.view R.prog [56]) hk ob 9000 names w) run0 run1 w
end G48k17

namespace G48k17
open PySem PySem.Spec PyProof.Rows L2 G48
def gt : GT := ⟨[⟨"law", none⟩, ⟨"law", none⟩, ⟨"is_between", none⟩, ⟨"is_gap", none⟩, ⟨"is_row", none⟩, ⟨"need_tables", none⟩, ⟨"widths_of", none⟩, ⟨"no", none⟩, ⟨"both_of", none⟩, ⟨"any_of", none⟩, ⟨"is_number", none⟩, ⟨"same", none⟩, ⟨"less", none⟩, ⟨"worth", none⟩, ⟨"truth_of", none⟩, ⟨"rows_same", none⟩, ⟨"is_list", none⟩, ⟨"is_pairs", none⟩, ⟨"__init__", some 0⟩, ⟨"begin", some 0⟩, ⟨"part", some 0⟩, ⟨"condition", some 0⟩, ⟨"sentence", some 0⟩, ⟨"picked", some 0⟩, ⟨"joined", some 0⟩, ⟨"wide_of", none⟩, ⟨"entries", none⟩, ⟨"not_false", none⟩, ⟨"joined", none⟩, ⟨"is_among", none⟩, ⟨"run", none⟩, ⟨"_law_dice", none⟩, ⟨"_law_next", none⟩, ⟨"_law_cell", none⟩, ⟨"_law_tables", none⟩, ⟨"_law_part", none⟩, ⟨"_law_condition", none⟩, ⟨"_law_sized", none⟩, ⟨"_law_any", none⟩, ⟨"_law_things", none⟩, ⟨"_law_many", none⟩, ⟨"_law_pair", none⟩, ⟨"law", none⟩], [("Looker", 0, 18)], ["seen", "widths"], [("GAP", .str "gap"), ("MOST_TABLES", .int (3)), ("MOST_WIDE", .int (4)), ("MOST_ROWS", .int (6)), ("MOST_NUMBER", .int (99)), ("MOST_NAME", .int (9)), ("MOST_THINGS", .int (60)), ("MOST_COLUMNS", .int (8)), ("SURE", .str "sure"), ("MAYBE", .str "maybe")], tb⟩
def CC (K : PySem.W.Frag) : Nat → Addr := fun c =>  He.ga K "Looker"
def N2 : List Str := ["thing", "low", "high"]
def p2 : List Str := ["thing", "low", "high"]
theorem sc2 : FnScope N2 p2 (defScope s2) := ⟨rfl, rfl, rfl, by decide +kernel, rfl, by decide +kernel, by decide +kernel⟩
theorem ck2 : chSs gt ⟨N2, defScope s2, fun _ => true⟩ F_is_between.body (defBody s2) = true := by decide +kernel
def N3 : List Str := ["cell"]
def p3 : List Str := ["cell"]
theorem sc3 : FnScope N3 p3 (defScope s3) := ⟨rfl, rfl, rfl, by decide +kernel, rfl, by decide +kernel, by decide +kernel⟩
theorem ck3 : chSs gt ⟨N3, defScope s3, fun _ => true⟩ F_is_gap.body (defBody s3) = true := by decide +kernel
def N4 : List Str := ["row", "wide", "cell"]
def p4 : List Str := ["row", "wide"]
theorem sc4 : FnScope N4 p4 (defScope s4) := ⟨rfl, rfl, rfl, by decide +kernel, rfl, by decide +kernel, by decide +kernel⟩
theorem ck4 : chSs gt ⟨N4, defScope s4, fun _ => true⟩ F_is_row.body (defBody s4) = true := by decide +kernel
def N5 : List Str := ["tables", "number", "table", "wide", "rows", "at", "row"]
def p5 : List Str := ["tables"]
theorem sc5 : FnScope N5 p5 (defScope s5) := ⟨rfl, rfl, rfl, by decide +kernel, rfl, by decide +kernel, by decide +kernel⟩
theorem ck5 : chSs gt ⟨N5, defScope s5, fun _ => true⟩ F_need_tables.body (defBody s5) = true := by decide +kernel
def N6 : List Str := ["tables", "wide", "rows"]
def p6 : List Str := ["tables"]
theorem sc6 : FnScope N6 p6 (defScope s6) := ⟨rfl, rfl, rfl, by decide +kernel, rfl, by decide +kernel, by decide +kernel⟩
theorem ck6 : chSs gt ⟨N6, defScope s6, fun _ => true⟩ F_widths_of.body (defBody s6) = true := by decide +kernel
def N7 : List Str := ["one"]
def p7 : List Str := ["one"]
theorem sc7 : FnScope N7 p7 (defScope s7) := ⟨rfl, rfl, rfl, by decide +kernel, rfl, by decide +kernel, by decide +kernel⟩
theorem ck7 : chSs gt ⟨N7, defScope s7, fun _ => true⟩ F_no.body (defBody s7) = true := by decide +kernel
def N8 : List Str := ["some"]
def p8 : List Str := ["some"]
theorem sc8 : FnScope N8 p8 (defScope s8) := ⟨rfl, rfl, rfl, by decide +kernel, rfl, by decide +kernel, by decide +kernel⟩
theorem ck8 : chSs gt ⟨N8, defScope s8, fun _ => true⟩ F_both_of.body (defBody s8) = true := by decide +kernel
def N9 : List Str := ["some", "one"]
def p9 : List Str := ["some"]
theorem sc9 : FnScope N9 p9 (defScope s9) := ⟨rfl, rfl, rfl, by decide +kernel, rfl, by decide +kernel, by decide +kernel⟩
theorem ck9 : chSs gt ⟨N9, defScope s9, fun _ => true⟩ F_any_of.body (defBody s9) = true := by decide +kernel
def N10 : List Str := ["cell"]
def p10 : List Str := ["cell"]
theorem sc10 : FnScope N10 p10 (defScope s10) := ⟨rfl, rfl, rfl, by decide +kernel, rfl, by decide +kernel, by decide +kernel⟩
theorem ck10 : chSs gt ⟨N10, defScope s10, fun _ => true⟩ F_is_number.body (defBody s10) = true := by decide +kernel
def N11 : List Str := ["one", "other"]
def p11 : List Str := ["one", "other"]
theorem sc11 : FnScope N11 p11 (defScope s11) := ⟨rfl, rfl, rfl, by decide +kernel, rfl, by decide +kernel, by decide +kernel⟩
theorem ck11 : chSs gt ⟨N11, defScope s11, fun _ => true⟩ F_same.body (defBody s11) = true := by decide +kernel
def N12 : List Str := ["one", "other"]
def p12 : List Str := ["one", "other"]
theorem sc12 : FnScope N12 p12 (defScope s12) := ⟨rfl, rfl, rfl, by decide +kernel, rfl, by decide +kernel, by decide +kernel⟩
theorem ck12 : chSs gt ⟨N12, defScope s12, fun _ => true⟩ F_less.body (defBody s12) = true := by decide +kernel
def N13 : List Str := ["part", "row", "one", "other"]
def p13 : List Str := ["part", "row"]
theorem sc13 : FnScope N13 p13 (defScope s13) := ⟨rfl, rfl, rfl, by decide +kernel, rfl, by decide +kernel, by decide +kernel⟩
theorem ck13 : chSs gt ⟨N13, defScope s13, fun _ => true⟩ F_worth.body (defBody s13) = true := by decide +kernel
def N14 : List Str := ["condition", "row", "word", "some", "inner"]
def p14 : List Str := ["condition", "row"]
theorem sc14 : FnScope N14 p14 (defScope s14) := ⟨rfl, rfl, rfl, by decide +kernel, rfl, by decide +kernel, by decide +kernel⟩
theorem ck14 : chSs gt ⟨N14, defScope s14, fun _ => true⟩ F_truth_of.body (defBody s14) = true := by decide +kernel
def N15 : List Str := ["one", "other", "a", "b"]
def p15 : List Str := ["one", "other"]
theorem sc15 : FnScope N15 p15 (defScope s15) := ⟨rfl, rfl, rfl, by decide +kernel, rfl, by decide +kernel, by decide +kernel⟩
theorem ck15 : chSs gt ⟨N15, defScope s15, fun _ => true⟩ F_rows_same.body (defBody s15) = true := by decide +kernel
def N16 : List Str := ["row", "one"]
def p16 : List Str := ["row"]
theorem sc16 : FnScope N16 p16 (defScope s16) := ⟨rfl, rfl, rfl, by decide +kernel, rfl, by decide +kernel, by decide +kernel⟩
theorem ck16 : chSs gt ⟨N16, defScope s16, fun _ => true⟩ F_is_list.body (defBody s16) = true := by decide +kernel
def N17 : List Str := ["row", "one"]
def p17 : List Str := ["row"]
theorem sc17 : FnScope N17 p17 (defScope s17) := ⟨rfl, rfl, rfl, by decide +kernel, rfl, by decide +kernel, by decide +kernel⟩
theorem ck17 : chSs gt ⟨N17, defScope s17, fun _ => true⟩ F_is_pairs.body (defBody s17) = true := by decide +kernel
def N18 : List Str := ["self", "widths"]
def p18 : List Str := ["self", "widths"]
theorem sc18 : FnScope N18 p18 (defScope s18) := ⟨rfl, rfl, rfl, by decide +kernel, rfl, by decide +kernel, by decide +kernel⟩
theorem ck18 : chSs gt ⟨N18, defScope s18, fun _ => true⟩ F_Looker_init.body (defBody s18) = true := by decide +kernel
def N19 : List Str := ["self", "thing", "shapes", "at", "shape", "kind", "part"]
def p19 : List Str := ["self", "thing", "shapes"]
theorem sc19 : FnScope N19 p19 (defScope s19) := ⟨rfl, rfl, rfl, by decide +kernel, rfl, by decide +kernel, by decide +kernel⟩
theorem ck19 : chSs gt ⟨N19, defScope s19, fun _ => true⟩ F_Looker_begin.body (defBody s19) = true := by decide +kernel
def N20 : List Str := ["self", "part", "wide", "at"]
def p20 : List Str := ["self", "part", "wide"]
theorem sc20 : FnScope N20 p20 (defScope s20) := ⟨rfl, rfl, rfl, by decide +kernel, rfl, by decide +kernel, by decide +kernel⟩
theorem ck20 : chSs gt ⟨N20, defScope s20, fun _ => true⟩ F_Looker_part.body (defBody s20) = true := by decide +kernel
def N21 : List Str := ["self", "condition", "wide", "kind", "inner"]
def p21 : List Str := ["self", "condition", "wide"]
theorem sc21 : FnScope N21 p21 (defScope s21) := ⟨rfl, rfl, rfl, by decide +kernel, rfl, by decide +kernel, by decide +kernel⟩
theorem ck21 : chSs gt ⟨N21, defScope s21, fun _ => true⟩ F_Looker_condition.body (defBody s21) = true := by decide +kernel
def N22 : List Str := ["self", "sentence", "at", "word", "wide", "other"]
def p22 : List Str := ["self", "sentence"]
theorem sc22 : FnScope N22 p22 (defScope s22) := ⟨rfl, rfl, rfl, by decide +kernel, rfl, by decide +kernel, by decide +kernel⟩
theorem ck22 : chSs gt ⟨N22, defScope s22, fun _ => true⟩ F_Looker_sentence.body (defBody s22) = true := by decide +kernel
def N23 : List Str := ["self", "columns", "wide", "at", "column"]
def p23 : List Str := ["self", "columns", "wide", "at"]
theorem sc23 : FnScope N23 p23 (defScope s23) := ⟨rfl, rfl, rfl, by decide +kernel, rfl, by decide +kernel, by decide +kernel⟩
theorem ck23 : chSs gt ⟨N23, defScope s23, fun _ => true⟩ F_Looker_picked.body (defBody s23) = true := by decide +kernel
def N24 : List Str := ["self", "pairs", "wide", "other", "at", "pair"]
def p24 : List Str := ["self", "pairs", "wide", "other", "at"]
theorem sc24 : FnScope N24 p24 (defScope s24) := ⟨rfl, rfl, rfl, by decide +kernel, rfl, by decide +kernel, by decide +kernel⟩
theorem ck24 : chSs gt ⟨N24, defScope s24, fun _ => true⟩ F_Looker_joined.body (defBody s24) = true := by decide +kernel
def N25 : List Str := ["sentence", "widths"]
def p25 : List Str := ["sentence", "widths"]
theorem sc25 : FnScope N25 p25 (defScope s25) := ⟨rfl, rfl, rfl, by decide +kernel, rfl, by decide +kernel, by decide +kernel⟩
theorem ck25 : chSs gt ⟨N25, defScope s25, fun _ => true⟩ F_wide_of.body (defBody s25) = true := by decide +kernel
def N26 : List Str := ["sentence", "tables", "word", "one", "other", "row", "truth", "column"]
def p26 : List Str := ["sentence", "tables"]
theorem sc26 : FnScope N26 p26 (defScope s26) := ⟨rfl, rfl, rfl, by decide +kernel, rfl, by decide +kernel, by decide +kernel⟩
theorem ck26 : chSs gt ⟨N26, defScope s26, fun _ => true⟩ F_entries.body (defBody s26) = true := by decide +kernel
def N27 : List Str := ["some", "found", "row", "truths", "truth"]
def p27 : List Str := ["some"]
theorem sc27 : FnScope N27 p27 (defScope s27) := ⟨rfl, rfl, rfl, by decide +kernel, rfl, by decide +kernel, by decide +kernel⟩
theorem ck27 : chSs gt ⟨N27, defScope s27, fun _ => true⟩ F_not_false.body (defBody s27) = true := by decide +kernel
def N28 : List Str := ["one", "other", "pairs", "found", "row", "truth", "behind", "mark", "i", "j"]
def p28 : List Str := ["one", "other", "pairs"]
theorem sc28 : FnScope N28 p28 (defScope s28) := ⟨rfl, rfl, rfl, by decide +kernel, rfl, by decide +kernel, by decide +kernel⟩
theorem ck28 : chSs gt ⟨N28, defScope s28, fun _ => true⟩ F_joined.body (defBody s28) = true := by decide +kernel
def N29 : List Str := ["row", "other", "behind", "truth"]
def p29 : List Str := ["row", "other"]
theorem sc29 : FnScope N29 p29 (defScope s29) := ⟨rfl, rfl, rfl, by decide +kernel, rfl, by decide +kernel, by decide +kernel⟩
theorem ck29 : chSs gt ⟨N29, defScope s29, fun _ => true⟩ F_is_among.body (defBody s29) = true := by decide +kernel
def N30 : List Str := ["sentence", "tables", "row", "truth"]
def p30 : List Str := ["sentence", "tables"]
theorem sc30 : FnScope N30 p30 (defScope s30) := ⟨rfl, rfl, rfl, by decide +kernel, rfl, by decide +kernel, by decide +kernel⟩
theorem ck30 : chSs gt ⟨N30, defScope s30, fun _ => true⟩ F_run.body (defBody s30) = true := by decide +kernel
def N31 : List Str := ["_law_script", "_law_mixed", "_law_cell_here"]
def p31 : List Str := ["_law_script"]
theorem sc31 : FnScope N31 p31 (defScope s31) := ⟨rfl, rfl, rfl, by decide +kernel, rfl, by decide +kernel, by decide +kernel⟩
theorem ck31 : chSs gt ⟨N31, defScope s31, fun _ => true⟩ F_law_dice.body (defBody s31) = true := by decide +kernel
def N32 : List Str := ["_law_dice_here", "_law_many_here", "_law_found", "_law_cell_here"]
def p32 : List Str := ["_law_dice_here", "_law_many_here"]
theorem sc32 : FnScope N32 p32 (defScope s32) := ⟨rfl, rfl, rfl, by decide +kernel, rfl, by decide +kernel, by decide +kernel⟩
theorem ck32 : chSs gt ⟨N32, defScope s32, fun _ => true⟩ F_law_next.body (defBody s32) = true := by decide +kernel
def N33 : List Str := ["_law_d", "_law_names", "_law_way"]
def p33 : List Str := ["_law_d", "_law_names"]
theorem sc33 : FnScope N33 p33 (defScope s33) := ⟨rfl, rfl, rfl, by decide +kernel, rfl, by decide +kernel, by decide +kernel⟩
theorem ck33 : chSs gt ⟨N33, defScope s33, fun _ => true⟩ F_law_cell.body (defBody s33) = true := by decide +kernel
def N34 : List Str := ["_law_d", "_law_many_here", "_law_most", "_law_left", "_law_names", "_law_found", "_law_table", "_law_wide", "_law_rows", "_law_turn", "_law_k", "_law_row"]
def p34 : List Str := ["_law_d", "_law_many_here", "_law_most"]
theorem sc34 : FnScope N34 p34 (defScope s34) := ⟨rfl, rfl, rfl, by decide +kernel, rfl, by decide +kernel, by decide +kernel⟩
theorem ck34 : chSs gt ⟨N34, defScope s34, fun _ => true⟩ F_law_tables.body (defBody s34) = true := by decide +kernel
def N35 : List Str := ["_law_d", "_law_wide", "_law_deep", "_law_way"]
def p35 : List Str := ["_law_d", "_law_wide", "_law_deep"]
theorem sc35 : FnScope N35 p35 (defScope s35) := ⟨rfl, rfl, rfl, by decide +kernel, rfl, by decide +kernel, by decide +kernel⟩
theorem ck35 : chSs gt ⟨N35, defScope s35, fun _ => true⟩ F_law_part.body (defBody s35) = true := by decide +kernel
def N36 : List Str := ["_law_d", "_law_wide", "_law_deep", "_law_safe", "_law_way", "_law_far", "_law_word"]
def p36 : List Str := ["_law_d", "_law_wide", "_law_deep", "_law_safe"]
theorem sc36 : FnScope N36 p36 (defScope s36) := ⟨rfl, rfl, rfl, by decide +kernel, rfl, by decide +kernel, by decide +kernel⟩
theorem ck36 : chSs gt ⟨N36, defScope s36, fun _ => true⟩ F_law_condition.body (defBody s36) = true := by decide +kernel
def N37 : List Str := ["_law_d", "_law_wide", "_law_deep", "_law_safe", "_law_widths", "_law_found", "_law_other", "_law_k"]
def p37 : List Str := ["_law_d", "_law_wide", "_law_deep", "_law_safe", "_law_widths"]
theorem sc37 : FnScope N37 p37 (defScope s37) := ⟨rfl, rfl, rfl, by decide +kernel, rfl, by decide +kernel, by decide +kernel⟩
theorem ck37 : chSs gt ⟨N37, defScope s37, fun _ => true⟩ F_law_sized.body (defBody s37) = true := by decide +kernel
def N38 : List Str := ["_law_d", "_law_widths", "_law_deep", "_law_safe", "_law_way", "_law_word", "_law_table", "_law_one", "_law_wide", "_law_many_here", "_law_other", "_law_more", "_law_pairs", "_law_k"]
def p38 : List Str := ["_law_d", "_law_widths", "_law_deep", "_law_safe"]
theorem sc38 : FnScope N38 p38 (defScope s38) := ⟨rfl, rfl, rfl, by decide +kernel, rfl, by decide +kernel, by decide +kernel⟩
theorem ck38 : chSs gt ⟨N38, defScope s38, fun _ => true⟩ F_law_any.body (defBody s38) = true := by decide +kernel
def N39 : List Str := ["_law_thing", "_law_found", "_law_part_here"]
def p39 : List Str := ["_law_thing"]
theorem sc39 : FnScope N39 p39 (defScope s39) := ⟨rfl, rfl, rfl, by decide +kernel, rfl, by decide +kernel, by decide +kernel⟩
theorem ck39 : chSs gt ⟨N39, defScope s39, fun _ => true⟩ F_law_things.body (defBody s39) = true := by decide +kernel
def N40 : List Str := ["_law_sentence", "_law_tables_here", "_law_one", "_law_other"]
def p40 : List Str := ["_law_sentence", "_law_tables_here"]
theorem sc40 : FnScope N40 p40 (defScope s40) := ⟨rfl, rfl, rfl, by decide +kernel, rfl, by decide +kernel, by decide +kernel⟩
theorem ck40 : chSs gt ⟨N40, defScope s40, fun _ => true⟩ F_law_many.body (defBody s40) = true := by decide +kernel
def N41 : List Str := ["_law_d", "_law_widths", "_law_other", "_law_way", "_law_third", "_law_one", "_law_wide", "_law_c", "_law_e", "_law_two", "_law_places", "_law_told", "_law_i", "_law_j", "_law_k"]
def p41 : List Str := ["_law_d", "_law_widths"]
theorem sc41 : FnScope N41 p41 (defScope s41) := ⟨rfl, rfl, rfl, by decide +kernel, rfl, by decide +kernel, by decide +kernel⟩
theorem ck41 : chSs gt ⟨N41, defScope s41, fun _ => true⟩ F_law_pair.body (defBody s41) = true := by decide +kernel
def N42 : List Str := ["_law_script", "_law_d", "_law_turn", "_law_tables_here", "_law_some", "_law_one", "_law_other", "_law_table", "_law_told"]
def p42 : List Str := ["_law_script"]
theorem sc42 : FnScope N42 p42 (defScope s42) := ⟨rfl, rfl, rfl, by decide +kernel, rfl, by decide +kernel, by decide +kernel⟩
theorem ck42 : chSs gt ⟨N42, defScope s42, fun _ => true⟩ F_law.body (defBody s42) = true := by decide +kernel
section
variable {w : World} {K : PySem.W.Frag} {h : Heap} {mg : Str → Option Value} {base : Heap}
theorem up2 (Q : PySem.Program) (c : SaysU fa fn ts tb w K) : ∃ fd, Up fds gt (CC K) Q w K mg base 2 (He.fAd K d2.at_) fd p2 ∧ Binds K fd p2 [] := by
  obtain ⟨fd, Fd⟩ := c.t.d.def_ 2 (d := d2) rfl
  exact ⟨fd, fun n kk T => def_ok T rfl Fd sc2 ck2 rfl rfl (by decide), Fd.bindsN fun _ _ _ _ _ _ us hl => match us, hl with | [_, _, _], _ => rfl⟩
theorem up3 (Q : PySem.Program) (c : SaysU fa fn ts tb w K) : ∃ fd, Up fds gt (CC K) Q w K mg base 3 (He.fAd K d3.at_) fd p3 ∧ Binds K fd p3 [] := by
  obtain ⟨fd, Fd⟩ := c.t.d.def_ 3 (d := d3) rfl
  exact ⟨fd, fun n kk T => def_ok T rfl Fd sc3 ck3 rfl rfl (by decide), Fd.bindsN fun _ _ _ _ _ _ us hl => match us, hl with | [_], _ => rfl⟩
theorem up4 (Q : PySem.Program) (c : SaysU fa fn ts tb w K) : ∃ fd, Up fds gt (CC K) Q w K mg base 4 (He.fAd K d4.at_) fd p4 ∧ Binds K fd p4 [] := by
  obtain ⟨fd, Fd⟩ := c.t.d.def_ 4 (d := d4) rfl
  exact ⟨fd, fun n kk T => def_ok T rfl Fd sc4 ck4 rfl rfl (by decide), Fd.bindsN fun _ _ _ _ _ _ us hl => match us, hl with | [_, _], _ => rfl⟩
theorem up5 (Q : PySem.Program) (c : SaysU fa fn ts tb w K) : ∃ fd, Up fds gt (CC K) Q w K mg base 5 (He.fAd K d5.at_) fd p5 ∧ Binds K fd p5 [] := by
  obtain ⟨fd, Fd⟩ := c.t.d.def_ 5 (d := d5) rfl
  exact ⟨fd, fun n kk T => def_ok T rfl Fd sc5 ck5 rfl rfl (by decide), Fd.bindsN fun _ _ _ _ _ _ us hl => match us, hl with | [_], _ => rfl⟩
theorem up6 (Q : PySem.Program) (c : SaysU fa fn ts tb w K) : ∃ fd, Up fds gt (CC K) Q w K mg base 6 (He.fAd K d6.at_) fd p6 ∧ Binds K fd p6 [] := by
  obtain ⟨fd, Fd⟩ := c.t.d.def_ 6 (d := d6) rfl
  exact ⟨fd, fun n kk T => def_ok T rfl Fd sc6 ck6 rfl rfl (by decide), Fd.bindsN fun _ _ _ _ _ _ us hl => match us, hl with | [_], _ => rfl⟩
theorem up7 (Q : PySem.Program) (c : SaysU fa fn ts tb w K) : ∃ fd, Up fds gt (CC K) Q w K mg base 7 (He.fAd K d7.at_) fd p7 ∧ Binds K fd p7 [] := by
  obtain ⟨fd, Fd⟩ := c.t.d.def_ 7 (d := d7) rfl
  exact ⟨fd, fun n kk T => def_ok T rfl Fd sc7 ck7 rfl rfl (by decide), Fd.bindsN fun _ _ _ _ _ _ us hl => match us, hl with | [_], _ => rfl⟩
theorem up8 (Q : PySem.Program) (c : SaysU fa fn ts tb w K) : ∃ fd, Up fds gt (CC K) Q w K mg base 8 (He.fAd K d8.at_) fd p8 ∧ Binds K fd p8 [] := by
  obtain ⟨fd, Fd⟩ := c.t.d.def_ 8 (d := d8) rfl
  exact ⟨fd, fun n kk T => def_ok T rfl Fd sc8 ck8 rfl rfl (by decide), Fd.bindsN fun _ _ _ _ _ _ us hl => match us, hl with | [_], _ => rfl⟩
theorem up9 (Q : PySem.Program) (c : SaysU fa fn ts tb w K) : ∃ fd, Up fds gt (CC K) Q w K mg base 9 (He.fAd K d9.at_) fd p9 ∧ Binds K fd p9 [] := by
  obtain ⟨fd, Fd⟩ := c.t.d.def_ 9 (d := d9) rfl
  exact ⟨fd, fun n kk T => def_ok T rfl Fd sc9 ck9 rfl rfl (by decide), Fd.bindsN fun _ _ _ _ _ _ us hl => match us, hl with | [_], _ => rfl⟩
theorem up10 (Q : PySem.Program) (c : SaysU fa fn ts tb w K) : ∃ fd, Up fds gt (CC K) Q w K mg base 10 (He.fAd K d10.at_) fd p10 ∧ Binds K fd p10 [] := by
  obtain ⟨fd, Fd⟩ := c.t.d.def_ 10 (d := d10) rfl
  exact ⟨fd, fun n kk T => def_ok T rfl Fd sc10 ck10 rfl rfl (by decide), Fd.bindsN fun _ _ _ _ _ _ us hl => match us, hl with | [_], _ => rfl⟩
theorem up11 (Q : PySem.Program) (c : SaysU fa fn ts tb w K) : ∃ fd, Up fds gt (CC K) Q w K mg base 11 (He.fAd K d11.at_) fd p11 ∧ Binds K fd p11 [] := by
  obtain ⟨fd, Fd⟩ := c.t.d.def_ 11 (d := d11) rfl
  exact ⟨fd, fun n kk T => def_ok T rfl Fd sc11 ck11 rfl rfl (by decide), Fd.bindsN fun _ _ _ _ _ _ us hl => match us, hl with | [_, _], _ => rfl⟩
theorem up12 (Q : PySem.Program) (c : SaysU fa fn ts tb w K) : ∃ fd, Up fds gt (CC K) Q w K mg base 12 (He.fAd K d12.at_) fd p12 ∧ Binds K fd p12 [] := by
  obtain ⟨fd, Fd⟩ := c.t.d.def_ 12 (d := d12) rfl
  exact ⟨fd, fun n kk T => def_ok T rfl Fd sc12 ck12 rfl rfl (by decide), Fd.bindsN fun _ _ _ _ _ _ us hl => match us, hl with | [_, _], _ => rfl⟩
theorem up13 (Q : PySem.Program) (c : SaysU fa fn ts tb w K) : ∃ fd, Up fds gt (CC K) Q w K mg base 13 (He.fAd K d13.at_) fd p13 ∧ Binds K fd p13 [] := by
  obtain ⟨fd, Fd⟩ := c.t.d.def_ 13 (d := d13) rfl
  exact ⟨fd, fun n kk T => def_ok T rfl Fd sc13 ck13 rfl rfl (by decide), Fd.bindsN fun _ _ _ _ _ _ us hl => match us, hl with | [_, _], _ => rfl⟩
theorem up14 (Q : PySem.Program) (c : SaysU fa fn ts tb w K) : ∃ fd, Up fds gt (CC K) Q w K mg base 14 (He.fAd K d14.at_) fd p14 ∧ Binds K fd p14 [] := by
  obtain ⟨fd, Fd⟩ := c.t.d.def_ 14 (d := d14) rfl
  exact ⟨fd, fun n kk T => def_ok T rfl Fd sc14 ck14 rfl rfl (by decide), Fd.bindsN fun _ _ _ _ _ _ us hl => match us, hl with | [_, _], _ => rfl⟩
theorem up15 (Q : PySem.Program) (c : SaysU fa fn ts tb w K) : ∃ fd, Up fds gt (CC K) Q w K mg base 15 (He.fAd K d15.at_) fd p15 ∧ Binds K fd p15 [] := by
  obtain ⟨fd, Fd⟩ := c.t.d.def_ 15 (d := d15) rfl
  exact ⟨fd, fun n kk T => def_ok T rfl Fd sc15 ck15 rfl rfl (by decide), Fd.bindsN fun _ _ _ _ _ _ us hl => match us, hl with | [_, _], _ => rfl⟩
theorem up16 (Q : PySem.Program) (c : SaysU fa fn ts tb w K) : ∃ fd, Up fds gt (CC K) Q w K mg base 16 (He.fAd K d16.at_) fd p16 ∧ Binds K fd p16 [] := by
  obtain ⟨fd, Fd⟩ := c.t.d.def_ 16 (d := d16) rfl
  exact ⟨fd, fun n kk T => def_ok T rfl Fd sc16 ck16 rfl rfl (by decide), Fd.bindsN fun _ _ _ _ _ _ us hl => match us, hl with | [_], _ => rfl⟩
theorem up17 (Q : PySem.Program) (c : SaysU fa fn ts tb w K) : ∃ fd, Up fds gt (CC K) Q w K mg base 17 (He.fAd K d17.at_) fd p17 ∧ Binds K fd p17 [] := by
  obtain ⟨fd, Fd⟩ := c.t.d.def_ 17 (d := d17) rfl
  exact ⟨fd, fun n kk T => def_ok T rfl Fd sc17 ck17 rfl rfl (by decide), Fd.bindsN fun _ _ _ _ _ _ us hl => match us, hl with | [_], _ => rfl⟩
theorem up18 (Q : PySem.Program) (c : SaysU fa fn ts tb w K) : ∃ fd, Up fds gt (CC K) Q w K mg base 18 (He.fAd K d18.at_) fd p18 ∧ Binds K fd p18 [] := by
  obtain ⟨fd, Fd⟩ := c.t.d.def_ 18 (d := d18) rfl
  exact ⟨fd, fun n kk T => def_ok T rfl Fd sc18 ck18 rfl rfl (by decide), Fd.bindsN fun _ _ _ _ _ _ us hl => match us, hl with | [_, _], _ => rfl⟩
theorem up19 (Q : PySem.Program) (c : SaysU fa fn ts tb w K) : ∃ fd, Up fds gt (CC K) Q w K mg base 19 (He.fAd K d19.at_) fd p19 ∧ Binds K fd p19 [] := by
  obtain ⟨fd, Fd⟩ := c.t.d.def_ 19 (d := d19) rfl
  exact ⟨fd, fun n kk T => def_ok T rfl Fd sc19 ck19 rfl rfl (by decide), Fd.bindsN fun _ _ _ _ _ _ us hl => match us, hl with | [_, _, _], _ => rfl⟩
theorem up20 (Q : PySem.Program) (c : SaysU fa fn ts tb w K) : ∃ fd, Up fds gt (CC K) Q w K mg base 20 (He.fAd K d20.at_) fd p20 ∧ Binds K fd p20 [] := by
  obtain ⟨fd, Fd⟩ := c.t.d.def_ 20 (d := d20) rfl
  exact ⟨fd, fun n kk T => def_ok T rfl Fd sc20 ck20 rfl rfl (by decide), Fd.bindsN fun _ _ _ _ _ _ us hl => match us, hl with | [_, _, _], _ => rfl⟩
theorem up21 (Q : PySem.Program) (c : SaysU fa fn ts tb w K) : ∃ fd, Up fds gt (CC K) Q w K mg base 21 (He.fAd K d21.at_) fd p21 ∧ Binds K fd p21 [] := by
  obtain ⟨fd, Fd⟩ := c.t.d.def_ 21 (d := d21) rfl
  exact ⟨fd, fun n kk T => def_ok T rfl Fd sc21 ck21 rfl rfl (by decide), Fd.bindsN fun _ _ _ _ _ _ us hl => match us, hl with | [_, _, _], _ => rfl⟩
theorem up22 (Q : PySem.Program) (c : SaysU fa fn ts tb w K) : ∃ fd, Up fds gt (CC K) Q w K mg base 22 (He.fAd K d22.at_) fd p22 ∧ Binds K fd p22 [] := by
  obtain ⟨fd, Fd⟩ := c.t.d.def_ 22 (d := d22) rfl
  exact ⟨fd, fun n kk T => def_ok T rfl Fd sc22 ck22 rfl rfl (by decide), Fd.bindsN fun _ _ _ _ _ _ us hl => match us, hl with | [_, _], _ => rfl⟩
theorem up23 (Q : PySem.Program) (c : SaysU fa fn ts tb w K) : ∃ fd, Up fds gt (CC K) Q w K mg base 23 (He.fAd K d23.at_) fd p23 ∧ Binds K fd p23 [] := by
  obtain ⟨fd, Fd⟩ := c.t.d.def_ 23 (d := d23) rfl
  exact ⟨fd, fun n kk T => def_ok T rfl Fd sc23 ck23 rfl rfl (by decide), Fd.bindsN fun _ _ _ _ _ _ us hl => match us, hl with | [_, _, _, _], _ => rfl⟩
theorem up24 (Q : PySem.Program) (c : SaysU fa fn ts tb w K) : ∃ fd, Up fds gt (CC K) Q w K mg base 24 (He.fAd K d24.at_) fd p24 ∧ Binds K fd p24 [] := by
  obtain ⟨fd, Fd⟩ := c.t.d.def_ 24 (d := d24) rfl
  exact ⟨fd, fun n kk T => def_ok T rfl Fd sc24 ck24 rfl rfl (by decide), Fd.bindsN fun _ _ _ _ _ _ us hl => match us, hl with | [_, _, _, _, _], _ => rfl⟩
theorem up25 (Q : PySem.Program) (c : SaysU fa fn ts tb w K) : ∃ fd, Up fds gt (CC K) Q w K mg base 25 (He.fAd K d25.at_) fd p25 ∧ Binds K fd p25 [] := by
  obtain ⟨fd, Fd⟩ := c.t.d.def_ 25 (d := d25) rfl
  exact ⟨fd, fun n kk T => def_ok T rfl Fd sc25 ck25 rfl rfl (by decide), Fd.bindsN fun _ _ _ _ _ _ us hl => match us, hl with | [_, _], _ => rfl⟩
theorem up26 (Q : PySem.Program) (c : SaysU fa fn ts tb w K) : ∃ fd, Up fds gt (CC K) Q w K mg base 26 (He.fAd K d26.at_) fd p26 ∧ Binds K fd p26 [] := by
  obtain ⟨fd, Fd⟩ := c.t.d.def_ 26 (d := d26) rfl
  exact ⟨fd, fun n kk T => def_ok T rfl Fd sc26 ck26 rfl rfl (by decide), Fd.bindsN fun _ _ _ _ _ _ us hl => match us, hl with | [_, _], _ => rfl⟩
theorem up27 (Q : PySem.Program) (c : SaysU fa fn ts tb w K) : ∃ fd, Up fds gt (CC K) Q w K mg base 27 (He.fAd K d27.at_) fd p27 ∧ Binds K fd p27 [] := by
  obtain ⟨fd, Fd⟩ := c.t.d.def_ 27 (d := d27) rfl
  exact ⟨fd, fun n kk T => def_ok T rfl Fd sc27 ck27 rfl rfl (by decide), Fd.bindsN fun _ _ _ _ _ _ us hl => match us, hl with | [_], _ => rfl⟩
theorem up28 (Q : PySem.Program) (c : SaysU fa fn ts tb w K) : ∃ fd, Up fds gt (CC K) Q w K mg base 28 (He.fAd K d28.at_) fd p28 ∧ Binds K fd p28 [] := by
  obtain ⟨fd, Fd⟩ := c.t.d.def_ 28 (d := d28) rfl
  exact ⟨fd, fun n kk T => def_ok T rfl Fd sc28 ck28 rfl rfl (by decide), Fd.bindsN fun _ _ _ _ _ _ us hl => match us, hl with | [_, _, _], _ => rfl⟩
theorem up29 (Q : PySem.Program) (c : SaysU fa fn ts tb w K) : ∃ fd, Up fds gt (CC K) Q w K mg base 29 (He.fAd K d29.at_) fd p29 ∧ Binds K fd p29 [] := by
  obtain ⟨fd, Fd⟩ := c.t.d.def_ 29 (d := d29) rfl
  exact ⟨fd, fun n kk T => def_ok T rfl Fd sc29 ck29 rfl rfl (by decide), Fd.bindsN fun _ _ _ _ _ _ us hl => match us, hl with | [_, _], _ => rfl⟩
theorem up30 (Q : PySem.Program) (c : SaysU fa fn ts tb w K) : ∃ fd, Up fds gt (CC K) Q w K mg base 30 (He.fAd K d30.at_) fd p30 ∧ Binds K fd p30 [] := by
  obtain ⟨fd, Fd⟩ := c.t.d.def_ 30 (d := d30) rfl
  exact ⟨fd, fun n kk T => def_ok T rfl Fd sc30 ck30 rfl rfl (by decide), Fd.bindsN fun _ _ _ _ _ _ us hl => match us, hl with | [_, _], _ => rfl⟩
theorem up31 (Q : PySem.Program) (c : SaysU fa fn ts tb w K) : ∃ fd, Up fds gt (CC K) Q w K mg base 31 (He.fAd K d31.at_) fd p31 ∧ Binds K fd p31 [] := by
  obtain ⟨fd, Fd⟩ := c.t.d.def_ 31 (d := d31) rfl
  exact ⟨fd, fun n kk T => def_ok T rfl Fd sc31 ck31 rfl rfl (by decide), Fd.bindsN fun _ _ _ _ _ _ us hl => match us, hl with | [_], _ => rfl⟩
theorem up32 (Q : PySem.Program) (c : SaysU fa fn ts tb w K) : ∃ fd, Up fds gt (CC K) Q w K mg base 32 (He.fAd K d32.at_) fd p32 ∧ Binds K fd p32 [] := by
  obtain ⟨fd, Fd⟩ := c.t.d.def_ 32 (d := d32) rfl
  exact ⟨fd, fun n kk T => def_ok T rfl Fd sc32 ck32 rfl rfl (by decide), Fd.bindsN fun _ _ _ _ _ _ us hl => match us, hl with | [_, _], _ => rfl⟩
theorem up33 (Q : PySem.Program) (c : SaysU fa fn ts tb w K) : ∃ fd, Up fds gt (CC K) Q w K mg base 33 (He.fAd K d33.at_) fd p33 ∧ Binds K fd p33 [] := by
  obtain ⟨fd, Fd⟩ := c.t.d.def_ 33 (d := d33) rfl
  exact ⟨fd, fun n kk T => def_ok T rfl Fd sc33 ck33 rfl rfl (by decide), Fd.bindsN fun _ _ _ _ _ _ us hl => match us, hl with | [_, _], _ => rfl⟩
theorem up34 (Q : PySem.Program) (c : SaysU fa fn ts tb w K) : ∃ fd, Up fds gt (CC K) Q w K mg base 34 (He.fAd K d34.at_) fd p34 ∧ Binds K fd p34 [] := by
  obtain ⟨fd, Fd⟩ := c.t.d.def_ 34 (d := d34) rfl
  exact ⟨fd, fun n kk T => def_ok T rfl Fd sc34 ck34 rfl rfl (by decide), Fd.bindsN fun _ _ _ _ _ _ us hl => match us, hl with | [_, _, _], _ => rfl⟩
theorem up35 (Q : PySem.Program) (c : SaysU fa fn ts tb w K) : ∃ fd, Up fds gt (CC K) Q w K mg base 35 (He.fAd K d35.at_) fd p35 ∧ Binds K fd p35 [] := by
  obtain ⟨fd, Fd⟩ := c.t.d.def_ 35 (d := d35) rfl
  exact ⟨fd, fun n kk T => def_ok T rfl Fd sc35 ck35 rfl rfl (by decide), Fd.bindsN fun _ _ _ _ _ _ us hl => match us, hl with | [_, _, _], _ => rfl⟩
theorem up36 (Q : PySem.Program) (c : SaysU fa fn ts tb w K) : ∃ fd, Up fds gt (CC K) Q w K mg base 36 (He.fAd K d36.at_) fd p36 ∧ Binds K fd p36 [] := by
  obtain ⟨fd, Fd⟩ := c.t.d.def_ 36 (d := d36) rfl
  exact ⟨fd, fun n kk T => def_ok T rfl Fd sc36 ck36 rfl rfl (by decide), Fd.bindsN fun _ _ _ _ _ _ us hl => match us, hl with | [_, _, _, _], _ => rfl⟩
theorem up37 (Q : PySem.Program) (c : SaysU fa fn ts tb w K) : ∃ fd, Up fds gt (CC K) Q w K mg base 37 (He.fAd K d37.at_) fd p37 ∧ Binds K fd p37 [] := by
  obtain ⟨fd, Fd⟩ := c.t.d.def_ 37 (d := d37) rfl
  exact ⟨fd, fun n kk T => def_ok T rfl Fd sc37 ck37 rfl rfl (by decide), Fd.bindsN fun _ _ _ _ _ _ us hl => match us, hl with | [_, _, _, _, _], _ => rfl⟩
theorem up38 (Q : PySem.Program) (c : SaysU fa fn ts tb w K) : ∃ fd, Up fds gt (CC K) Q w K mg base 38 (He.fAd K d38.at_) fd p38 ∧ Binds K fd p38 [] := by
  obtain ⟨fd, Fd⟩ := c.t.d.def_ 38 (d := d38) rfl
  exact ⟨fd, fun n kk T => def_ok T rfl Fd sc38 ck38 rfl rfl (by decide), Fd.bindsN fun _ _ _ _ _ _ us hl => match us, hl with | [_, _, _, _], _ => rfl⟩
theorem up39 (Q : PySem.Program) (c : SaysU fa fn ts tb w K) : ∃ fd, Up fds gt (CC K) Q w K mg base 39 (He.fAd K d39.at_) fd p39 ∧ Binds K fd p39 [] := by
  obtain ⟨fd, Fd⟩ := c.t.d.def_ 39 (d := d39) rfl
  exact ⟨fd, fun n kk T => def_ok T rfl Fd sc39 ck39 rfl rfl (by decide), Fd.bindsN fun _ _ _ _ _ _ us hl => match us, hl with | [_], _ => rfl⟩
theorem up40 (Q : PySem.Program) (c : SaysU fa fn ts tb w K) : ∃ fd, Up fds gt (CC K) Q w K mg base 40 (He.fAd K d40.at_) fd p40 ∧ Binds K fd p40 [] := by
  obtain ⟨fd, Fd⟩ := c.t.d.def_ 40 (d := d40) rfl
  exact ⟨fd, fun n kk T => def_ok T rfl Fd sc40 ck40 rfl rfl (by decide), Fd.bindsN fun _ _ _ _ _ _ us hl => match us, hl with | [_, _], _ => rfl⟩
theorem up41 (Q : PySem.Program) (c : SaysU fa fn ts tb w K) : ∃ fd, Up fds gt (CC K) Q w K mg base 41 (He.fAd K d41.at_) fd p41 ∧ Binds K fd p41 [] := by
  obtain ⟨fd, Fd⟩ := c.t.d.def_ 41 (d := d41) rfl
  exact ⟨fd, fun n kk T => def_ok T rfl Fd sc41 ck41 rfl rfl (by decide), Fd.bindsN fun _ _ _ _ _ _ us hl => match us, hl with | [_, _], _ => rfl⟩
theorem up42 (Q : PySem.Program) (c : SaysU fa fn ts tb w K) : ∃ fd, Up fds gt (CC K) Q w K mg base 42 (He.fAd K d42.at_) fd p42 ∧ Binds K fd p42 [] := by
  obtain ⟨fd, Fd⟩ := c.t.d.def_ 42 (d := d42) rfl
  exact ⟨fd, fun n kk T => def_ok T rfl Fd sc42 ck42 rfl rfl (by decide), Fd.bindsN fun _ _ _ _ _ _ us hl => match us, hl with | [_], _ => rfl⟩
theorem up0 (Q : PySem.Program) (c : SaysU fa fn ts tb w K) : ∃ fd, Up fds gt (CC K) Q w K mg base 0 (He.fAd K d42.at_) fd p42 ∧ Binds K fd p42 [] := by
  obtain ⟨fd, _, b⟩ := up42 (mg := mg) (base := base) Q c
  exact ⟨fd, fun n kk T => fnok_none fun ds => raise_none (callF fds n) 0 0 false none ds, b⟩
theorem up1 (Q : PySem.Program) (c : SaysU fa fn ts tb w K) : ∃ fd, Up fds gt (CC K) Q w K mg base 1 (He.fAd K d42.at_) fd p42 ∧ Binds K fd p42 [] := by
  obtain ⟨fd, _, b⟩ := up42 (mg := mg) (base := base) Q c
  exact ⟨fd, fun n kk T => fnok_none fun ds => raise_none (callF fds n) 0 0 false none ds, b⟩
theorem stat (Q : PySem.Program) (KX : K.In h) (G : h.Ns mainGlobals mg) (c : SaysU fa fn ts tb w K) : Stat fds gt (CC K) Q w K mg base := by
  refine ⟨?_, fun f fi h1 h2 => ?_, fun f fi cl h1 h2 => ?_, fun f fi cl h1 h2 fd hf => ?_, fun x cl f hm => ?_, fun cl x hx => ?_, fun x d hm => ?_, fun x t hm => ?_⟩
  · exact List.forall_mem_cons.mpr ⟨He.free_ok KX G (c.t.d.fact 62 (f := .free "len") rfl), List.forall_mem_cons.mpr ⟨He.free_ok KX G (c.t.d.fact 63 (f := .free "isinstance") rfl), List.forall_mem_cons.mpr ⟨He.free_ok KX G (c.t.d.fact 64 (f := .free "int") rfl), List.forall_mem_cons.mpr ⟨He.free_ok KX G (c.t.d.fact 65 (f := .free "str") rfl), List.forall_mem_cons.mpr ⟨He.free_ok KX G (c.t.d.fact 66 (f := .free "bool") rfl), List.forall_mem_cons.mpr ⟨He.free_ok KX G (c.t.d.fact 67 (f := .free "tuple") rfl), List.forall_mem_cons.mpr ⟨He.free_ok KX G (c.t.d.fact 68 (f := .free "list") rfl), List.forall_mem_cons.mpr ⟨He.free_ok KX G (c.t.d.fact 69 (f := .free "dict") rfl), List.forall_mem_cons.mpr ⟨He.free_ok KX G (c.t.d.fact 70 (f := .free "range") rfl), List.forall_mem_cons.mpr ⟨He.free_ok KX G (c.t.d.fact 71 (f := .free "min") rfl), List.forall_mem_cons.mpr ⟨He.free_ok KX G (c.t.d.fact 72 (f := .free "max") rfl), List.forall_mem_cons.mpr ⟨He.free_ok KX G (c.t.d.fact 73 (f := .free "sum") rfl), List.forall_mem_cons.mpr ⟨He.free_ok KX G (c.t.d.fact 74 (f := .free "sorted") rfl), List.forall_mem_cons.mpr ⟨He.free_ok KX G (c.t.d.fact 75 (f := .free "set") rfl), List.forall_mem_cons.mpr ⟨He.free_ok KX G (c.t.d.fact 76 (f := .free "zip") rfl), List.forall_mem_cons.mpr ⟨He.free_ok KX G (c.t.d.fact 77 (f := .free "enumerate") rfl), List.forall_mem_nil _⟩⟩⟩⟩⟩⟩⟩⟩⟩⟩⟩⟩⟩⟩⟩⟩
  · match f, h1 with
    | 0, h1 => cases h1; obtain ⟨fd, u, b⟩ := up0 (mg := mg) (base := base) Q c; exact ⟨_, fd, _, ⟨u, b⟩, He.glo_ok KX G (c.t.d.fact 40 (f := .glo "law") rfl), keep_def (d := d42) c 42 rfl⟩
    | 1, h1 => cases h1; obtain ⟨fd, u, b⟩ := up1 (mg := mg) (base := base) Q c; exact ⟨_, fd, _, ⟨u, b⟩, He.glo_ok KX G (c.t.d.fact 40 (f := .glo "law") rfl), keep_def (d := d42) c 42 rfl⟩
    | 2, h1 => cases h1; obtain ⟨fd, u, b⟩ := up2 (mg := mg) (base := base) Q c; exact ⟨_, fd, _, ⟨u, b⟩, He.glo_ok KX G (c.t.d.fact 0 (f := .glo "is_between") rfl), keep_def (d := d2) c 2 rfl⟩
    | 3, h1 => cases h1; obtain ⟨fd, u, b⟩ := up3 (mg := mg) (base := base) Q c; exact ⟨_, fd, _, ⟨u, b⟩, He.glo_ok KX G (c.t.d.fact 1 (f := .glo "is_gap") rfl), keep_def (d := d3) c 3 rfl⟩
    | 4, h1 => cases h1; obtain ⟨fd, u, b⟩ := up4 (mg := mg) (base := base) Q c; exact ⟨_, fd, _, ⟨u, b⟩, He.glo_ok KX G (c.t.d.fact 2 (f := .glo "is_row") rfl), keep_def (d := d4) c 4 rfl⟩
    | 5, h1 => cases h1; obtain ⟨fd, u, b⟩ := up5 (mg := mg) (base := base) Q c; exact ⟨_, fd, _, ⟨u, b⟩, He.glo_ok KX G (c.t.d.fact 3 (f := .glo "need_tables") rfl), keep_def (d := d5) c 5 rfl⟩
    | 6, h1 => cases h1; obtain ⟨fd, u, b⟩ := up6 (mg := mg) (base := base) Q c; exact ⟨_, fd, _, ⟨u, b⟩, He.glo_ok KX G (c.t.d.fact 4 (f := .glo "widths_of") rfl), keep_def (d := d6) c 6 rfl⟩
    | 7, h1 => cases h1; obtain ⟨fd, u, b⟩ := up7 (mg := mg) (base := base) Q c; exact ⟨_, fd, _, ⟨u, b⟩, He.glo_ok KX G (c.t.d.fact 5 (f := .glo "no") rfl), keep_def (d := d7) c 7 rfl⟩
    | 8, h1 => cases h1; obtain ⟨fd, u, b⟩ := up8 (mg := mg) (base := base) Q c; exact ⟨_, fd, _, ⟨u, b⟩, He.glo_ok KX G (c.t.d.fact 6 (f := .glo "both_of") rfl), keep_def (d := d8) c 8 rfl⟩
    | 9, h1 => cases h1; obtain ⟨fd, u, b⟩ := up9 (mg := mg) (base := base) Q c; exact ⟨_, fd, _, ⟨u, b⟩, He.glo_ok KX G (c.t.d.fact 7 (f := .glo "any_of") rfl), keep_def (d := d9) c 9 rfl⟩
    | 10, h1 => cases h1; obtain ⟨fd, u, b⟩ := up10 (mg := mg) (base := base) Q c; exact ⟨_, fd, _, ⟨u, b⟩, He.glo_ok KX G (c.t.d.fact 8 (f := .glo "is_number") rfl), keep_def (d := d10) c 10 rfl⟩
    | 11, h1 => cases h1; obtain ⟨fd, u, b⟩ := up11 (mg := mg) (base := base) Q c; exact ⟨_, fd, _, ⟨u, b⟩, He.glo_ok KX G (c.t.d.fact 9 (f := .glo "same") rfl), keep_def (d := d11) c 11 rfl⟩
    | 12, h1 => cases h1; obtain ⟨fd, u, b⟩ := up12 (mg := mg) (base := base) Q c; exact ⟨_, fd, _, ⟨u, b⟩, He.glo_ok KX G (c.t.d.fact 10 (f := .glo "less") rfl), keep_def (d := d12) c 12 rfl⟩
    | 13, h1 => cases h1; obtain ⟨fd, u, b⟩ := up13 (mg := mg) (base := base) Q c; exact ⟨_, fd, _, ⟨u, b⟩, He.glo_ok KX G (c.t.d.fact 11 (f := .glo "worth") rfl), keep_def (d := d13) c 13 rfl⟩
    | 14, h1 => cases h1; obtain ⟨fd, u, b⟩ := up14 (mg := mg) (base := base) Q c; exact ⟨_, fd, _, ⟨u, b⟩, He.glo_ok KX G (c.t.d.fact 12 (f := .glo "truth_of") rfl), keep_def (d := d14) c 14 rfl⟩
    | 15, h1 => cases h1; obtain ⟨fd, u, b⟩ := up15 (mg := mg) (base := base) Q c; exact ⟨_, fd, _, ⟨u, b⟩, He.glo_ok KX G (c.t.d.fact 13 (f := .glo "rows_same") rfl), keep_def (d := d15) c 15 rfl⟩
    | 16, h1 => cases h1; obtain ⟨fd, u, b⟩ := up16 (mg := mg) (base := base) Q c; exact ⟨_, fd, _, ⟨u, b⟩, He.glo_ok KX G (c.t.d.fact 14 (f := .glo "is_list") rfl), keep_def (d := d16) c 16 rfl⟩
    | 17, h1 => cases h1; obtain ⟨fd, u, b⟩ := up17 (mg := mg) (base := base) Q c; exact ⟨_, fd, _, ⟨u, b⟩, He.glo_ok KX G (c.t.d.fact 15 (f := .glo "is_pairs") rfl), keep_def (d := d17) c 17 rfl⟩
    | 18, h1 => cases h1; cases h2
    | 19, h1 => cases h1; cases h2
    | 20, h1 => cases h1; cases h2
    | 21, h1 => cases h1; cases h2
    | 22, h1 => cases h1; cases h2
    | 23, h1 => cases h1; cases h2
    | 24, h1 => cases h1; cases h2
    | 25, h1 => cases h1; obtain ⟨fd, u, b⟩ := up25 (mg := mg) (base := base) Q c; exact ⟨_, fd, _, ⟨u, b⟩, He.glo_ok KX G (c.t.d.fact 23 (f := .glo "wide_of") rfl), keep_def (d := d25) c 25 rfl⟩
    | 26, h1 => cases h1; obtain ⟨fd, u, b⟩ := up26 (mg := mg) (base := base) Q c; exact ⟨_, fd, _, ⟨u, b⟩, He.glo_ok KX G (c.t.d.fact 24 (f := .glo "entries") rfl), keep_def (d := d26) c 26 rfl⟩
    | 27, h1 => cases h1; obtain ⟨fd, u, b⟩ := up27 (mg := mg) (base := base) Q c; exact ⟨_, fd, _, ⟨u, b⟩, He.glo_ok KX G (c.t.d.fact 25 (f := .glo "not_false") rfl), keep_def (d := d27) c 27 rfl⟩
    | 28, h1 => cases h1; obtain ⟨fd, u, b⟩ := up28 (mg := mg) (base := base) Q c; exact ⟨_, fd, _, ⟨u, b⟩, He.glo_ok KX G (c.t.d.fact 26 (f := .glo "joined") rfl), keep_def (d := d28) c 28 rfl⟩
    | 29, h1 => cases h1; obtain ⟨fd, u, b⟩ := up29 (mg := mg) (base := base) Q c; exact ⟨_, fd, _, ⟨u, b⟩, He.glo_ok KX G (c.t.d.fact 27 (f := .glo "is_among") rfl), keep_def (d := d29) c 29 rfl⟩
    | 30, h1 => cases h1; obtain ⟨fd, u, b⟩ := up30 (mg := mg) (base := base) Q c; exact ⟨_, fd, _, ⟨u, b⟩, He.glo_ok KX G (c.t.d.fact 28 (f := .glo "run") rfl), keep_def (d := d30) c 30 rfl⟩
    | 31, h1 => cases h1; obtain ⟨fd, u, b⟩ := up31 (mg := mg) (base := base) Q c; exact ⟨_, fd, _, ⟨u, b⟩, He.glo_ok KX G (c.t.d.fact 29 (f := .glo "_law_dice") rfl), keep_def (d := d31) c 31 rfl⟩
    | 32, h1 => cases h1; obtain ⟨fd, u, b⟩ := up32 (mg := mg) (base := base) Q c; exact ⟨_, fd, _, ⟨u, b⟩, He.glo_ok KX G (c.t.d.fact 30 (f := .glo "_law_next") rfl), keep_def (d := d32) c 32 rfl⟩
    | 33, h1 => cases h1; obtain ⟨fd, u, b⟩ := up33 (mg := mg) (base := base) Q c; exact ⟨_, fd, _, ⟨u, b⟩, He.glo_ok KX G (c.t.d.fact 31 (f := .glo "_law_cell") rfl), keep_def (d := d33) c 33 rfl⟩
    | 34, h1 => cases h1; obtain ⟨fd, u, b⟩ := up34 (mg := mg) (base := base) Q c; exact ⟨_, fd, _, ⟨u, b⟩, He.glo_ok KX G (c.t.d.fact 32 (f := .glo "_law_tables") rfl), keep_def (d := d34) c 34 rfl⟩
    | 35, h1 => cases h1; obtain ⟨fd, u, b⟩ := up35 (mg := mg) (base := base) Q c; exact ⟨_, fd, _, ⟨u, b⟩, He.glo_ok KX G (c.t.d.fact 33 (f := .glo "_law_part") rfl), keep_def (d := d35) c 35 rfl⟩
    | 36, h1 => cases h1; obtain ⟨fd, u, b⟩ := up36 (mg := mg) (base := base) Q c; exact ⟨_, fd, _, ⟨u, b⟩, He.glo_ok KX G (c.t.d.fact 34 (f := .glo "_law_condition") rfl), keep_def (d := d36) c 36 rfl⟩
    | 37, h1 => cases h1; obtain ⟨fd, u, b⟩ := up37 (mg := mg) (base := base) Q c; exact ⟨_, fd, _, ⟨u, b⟩, He.glo_ok KX G (c.t.d.fact 35 (f := .glo "_law_sized") rfl), keep_def (d := d37) c 37 rfl⟩
    | 38, h1 => cases h1; obtain ⟨fd, u, b⟩ := up38 (mg := mg) (base := base) Q c; exact ⟨_, fd, _, ⟨u, b⟩, He.glo_ok KX G (c.t.d.fact 36 (f := .glo "_law_any") rfl), keep_def (d := d38) c 38 rfl⟩
    | 39, h1 => cases h1; obtain ⟨fd, u, b⟩ := up39 (mg := mg) (base := base) Q c; exact ⟨_, fd, _, ⟨u, b⟩, He.glo_ok KX G (c.t.d.fact 37 (f := .glo "_law_things") rfl), keep_def (d := d39) c 39 rfl⟩
    | 40, h1 => cases h1; obtain ⟨fd, u, b⟩ := up40 (mg := mg) (base := base) Q c; exact ⟨_, fd, _, ⟨u, b⟩, He.glo_ok KX G (c.t.d.fact 38 (f := .glo "_law_many") rfl), keep_def (d := d40) c 40 rfl⟩
    | 41, h1 => cases h1; obtain ⟨fd, u, b⟩ := up41 (mg := mg) (base := base) Q c; exact ⟨_, fd, _, ⟨u, b⟩, He.glo_ok KX G (c.t.d.fact 39 (f := .glo "_law_pair") rfl), keep_def (d := d41) c 41 rfl⟩
    | 42, h1 => cases h1; obtain ⟨fd, u, b⟩ := up42 (mg := mg) (base := base) Q c; exact ⟨_, fd, _, ⟨u, b⟩, He.glo_ok KX G (c.t.d.fact 40 (f := .glo "law") rfl), keep_def (d := d42) c 42 rfl⟩
    | f + 43, h1 => exact absurd h1 (by simp [gt])
  · match f, h1 with
    | 0, h1 => cases h1; cases h2
    | 1, h1 => cases h1; cases h2
    | 2, h1 => cases h1; cases h2
    | 3, h1 => cases h1; cases h2
    | 4, h1 => cases h1; cases h2
    | 5, h1 => cases h1; cases h2
    | 6, h1 => cases h1; cases h2
    | 7, h1 => cases h1; cases h2
    | 8, h1 => cases h1; cases h2
    | 9, h1 => cases h1; cases h2
    | 10, h1 => cases h1; cases h2
    | 11, h1 => cases h1; cases h2
    | 12, h1 => cases h1; cases h2
    | 13, h1 => cases h1; cases h2
    | 14, h1 => cases h1; cases h2
    | 15, h1 => cases h1; cases h2
    | 16, h1 => cases h1; cases h2
    | 17, h1 => cases h1; cases h2
    | 18, h1 => cases h1; cases h2; obtain ⟨fd, u, b⟩ := up18 (mg := mg) (base := base) Q c; exact ⟨_, fd, _, ⟨u, b⟩, He.cls_ok (c.t.d.fact 45 (f := .cls "Looker") rfl), He.meth_ok (c.t.d.fact 16 (f := .meth "Looker" "__init__") rfl)⟩
    | 19, h1 => cases h1; cases h2; obtain ⟨fd, u, b⟩ := up19 (mg := mg) (base := base) Q c; exact ⟨_, fd, _, ⟨u, b⟩, He.cls_ok (c.t.d.fact 45 (f := .cls "Looker") rfl), He.meth_ok (c.t.d.fact 17 (f := .meth "Looker" "begin") rfl)⟩
    | 20, h1 => cases h1; cases h2; obtain ⟨fd, u, b⟩ := up20 (mg := mg) (base := base) Q c; exact ⟨_, fd, _, ⟨u, b⟩, He.cls_ok (c.t.d.fact 45 (f := .cls "Looker") rfl), He.meth_ok (c.t.d.fact 18 (f := .meth "Looker" "part") rfl)⟩
    | 21, h1 => cases h1; cases h2; obtain ⟨fd, u, b⟩ := up21 (mg := mg) (base := base) Q c; exact ⟨_, fd, _, ⟨u, b⟩, He.cls_ok (c.t.d.fact 45 (f := .cls "Looker") rfl), He.meth_ok (c.t.d.fact 19 (f := .meth "Looker" "condition") rfl)⟩
    | 22, h1 => cases h1; cases h2; obtain ⟨fd, u, b⟩ := up22 (mg := mg) (base := base) Q c; exact ⟨_, fd, _, ⟨u, b⟩, He.cls_ok (c.t.d.fact 45 (f := .cls "Looker") rfl), He.meth_ok (c.t.d.fact 20 (f := .meth "Looker" "sentence") rfl)⟩
    | 23, h1 => cases h1; cases h2; obtain ⟨fd, u, b⟩ := up23 (mg := mg) (base := base) Q c; exact ⟨_, fd, _, ⟨u, b⟩, He.cls_ok (c.t.d.fact 45 (f := .cls "Looker") rfl), He.meth_ok (c.t.d.fact 21 (f := .meth "Looker" "picked") rfl)⟩
    | 24, h1 => cases h1; cases h2; obtain ⟨fd, u, b⟩ := up24 (mg := mg) (base := base) Q c; exact ⟨_, fd, _, ⟨u, b⟩, He.cls_ok (c.t.d.fact 45 (f := .cls "Looker") rfl), He.meth_ok (c.t.d.fact 22 (f := .meth "Looker" "joined") rfl)⟩
    | 25, h1 => cases h1; cases h2
    | 26, h1 => cases h1; cases h2
    | 27, h1 => cases h1; cases h2
    | 28, h1 => cases h1; cases h2
    | 29, h1 => cases h1; cases h2
    | 30, h1 => cases h1; cases h2
    | 31, h1 => cases h1; cases h2
    | 32, h1 => cases h1; cases h2
    | 33, h1 => cases h1; cases h2
    | 34, h1 => cases h1; cases h2
    | 35, h1 => cases h1; cases h2
    | 36, h1 => cases h1; cases h2
    | 37, h1 => cases h1; cases h2
    | 38, h1 => cases h1; cases h2
    | 39, h1 => cases h1; cases h2
    | 40, h1 => cases h1; cases h2
    | 41, h1 => cases h1; cases h2
    | 42, h1 => cases h1; cases h2
    | f + 43, h1 => exact absurd h1 (by simp [gt])
  · match f, h1 with
    | 0, h1 => cases h1; cases h2
    | 1, h1 => cases h1; cases h2
    | 2, h1 => cases h1; cases h2
    | 3, h1 => cases h1; cases h2
    | 4, h1 => cases h1; cases h2
    | 5, h1 => cases h1; cases h2
    | 6, h1 => cases h1; cases h2
    | 7, h1 => cases h1; cases h2
    | 8, h1 => cases h1; cases h2
    | 9, h1 => cases h1; cases h2
    | 10, h1 => cases h1; cases h2
    | 11, h1 => cases h1; cases h2
    | 12, h1 => cases h1; cases h2
    | 13, h1 => cases h1; cases h2
    | 14, h1 => cases h1; cases h2
    | 15, h1 => cases h1; cases h2
    | 16, h1 => cases h1; cases h2
    | 17, h1 => cases h1; cases h2
    | 18, h1 => cases h1; cases h2; cases hf; rfl
    | 19, h1 => cases h1; cases h2; cases hf; rfl
    | 20, h1 => cases h1; cases h2; cases hf; rfl
    | 21, h1 => cases h1; cases h2; cases hf; rfl
    | 22, h1 => cases h1; cases h2; cases hf; rfl
    | 23, h1 => cases h1; cases h2; cases hf; rfl
    | 24, h1 => cases h1; cases h2; cases hf; rfl
    | 25, h1 => cases h1; cases h2
    | 26, h1 => cases h1; cases h2
    | 27, h1 => cases h1; cases h2
    | 28, h1 => cases h1; cases h2
    | 29, h1 => cases h1; cases h2
    | 30, h1 => cases h1; cases h2
    | 31, h1 => cases h1; cases h2
    | 32, h1 => cases h1; cases h2
    | 33, h1 => cases h1; cases h2
    | 34, h1 => cases h1; cases h2
    | 35, h1 => cases h1; cases h2
    | 36, h1 => cases h1; cases h2
    | 37, h1 => cases h1; cases h2
    | 38, h1 => cases h1; cases h2
    | 39, h1 => cases h1; cases h2
    | 40, h1 => cases h1; cases h2
    | 41, h1 => cases h1; cases h2
    | 42, h1 => cases h1; cases h2
    | f + 43, h1 => exact absurd h1 (by simp [gt])
  · have hm := List.mem_singleton.mp hm
    cases hm
    obtain ⟨fd, u, b⟩ := up18 (mg := mg) (base := base) Q c
    exact ⟨_, fd, _, ⟨u, b⟩, He.glo_ok KX G (c.t.d.fact 44 (f := .glo "Looker") rfl), He.mkr_ok (c.t.d.fact 46 (f := .mkr "Looker") rfl)⟩
  · rcases List.mem_cons.mp hx with hm | hm
    · cases hm
      exact ⟨He.cls_ok (c.t.d.fact 45 (f := .cls "Looker") rfl), He.noat_ok (c.t.d.fact 47 (f := .noat "Looker" "seen") rfl)⟩
    · have hm := List.mem_singleton.mp hm
      cases hm
      exact ⟨He.cls_ok (c.t.d.fact 45 (f := .cls "Looker") rfl), He.noat_ok (c.t.d.fact 48 (f := .noat "Looker" "widths") rfl)⟩
  · rcases List.mem_cons.mp hm with hm | hm
    · cases hm
      obtain ⟨t, e⟩ := He.str_ok KX G (c.t.d.fact 49 (f := .str "GAP" "gap") rfl)
      exact ⟨.str _, _, e, ⟨t, rfl⟩, fun F => .str _⟩
    · rcases List.mem_cons.mp hm with hm | hm
      · cases hm
        obtain ⟨t, e⟩ := He.int_ok KX G (c.t.d.fact 50 (f := .int "MOST_TABLES" (3)) rfl)
        exact ⟨.int _, _, e, ⟨t, rfl⟩, fun F => .int _⟩
      · rcases List.mem_cons.mp hm with hm | hm
        · cases hm
          obtain ⟨t, e⟩ := He.int_ok KX G (c.t.d.fact 51 (f := .int "MOST_WIDE" (4)) rfl)
          exact ⟨.int _, _, e, ⟨t, rfl⟩, fun F => .int _⟩
        · rcases List.mem_cons.mp hm with hm | hm
          · cases hm
            obtain ⟨t, e⟩ := He.int_ok KX G (c.t.d.fact 52 (f := .int "MOST_ROWS" (6)) rfl)
            exact ⟨.int _, _, e, ⟨t, rfl⟩, fun F => .int _⟩
          · rcases List.mem_cons.mp hm with hm | hm
            · cases hm
              obtain ⟨t, e⟩ := He.int_ok KX G (c.t.d.fact 53 (f := .int "MOST_NUMBER" (99)) rfl)
              exact ⟨.int _, _, e, ⟨t, rfl⟩, fun F => .int _⟩
            · rcases List.mem_cons.mp hm with hm | hm
              · cases hm
                obtain ⟨t, e⟩ := He.int_ok KX G (c.t.d.fact 54 (f := .int "MOST_NAME" (9)) rfl)
                exact ⟨.int _, _, e, ⟨t, rfl⟩, fun F => .int _⟩
              · rcases List.mem_cons.mp hm with hm | hm
                · cases hm
                  obtain ⟨t, e⟩ := He.int_ok KX G (c.t.d.fact 55 (f := .int "MOST_THINGS" (60)) rfl)
                  exact ⟨.int _, _, e, ⟨t, rfl⟩, fun F => .int _⟩
                · rcases List.mem_cons.mp hm with hm | hm
                  · cases hm
                    obtain ⟨t, e⟩ := He.int_ok KX G (c.t.d.fact 56 (f := .int "MOST_COLUMNS" (8)) rfl)
                    exact ⟨.int _, _, e, ⟨t, rfl⟩, fun F => .int _⟩
                  · rcases List.mem_cons.mp hm with hm | hm
                    · cases hm
                      obtain ⟨t, e⟩ := He.str_ok KX G (c.t.d.fact 57 (f := .str "SURE" "sure") rfl)
                      exact ⟨.str _, _, e, ⟨t, rfl⟩, fun F => .str _⟩
                    · have hm := List.mem_singleton.mp hm
                      cases hm
                      obtain ⟨t, e⟩ := He.str_ok KX G (c.t.d.fact 58 (f := .str "MAYBE" "maybe") rfl)
                      exact ⟨.str _, _, e, ⟨t, rfl⟩, fun F => .str _⟩
  · rcases List.mem_cons.mp hm with hm | hm
    · cases hm
      exact ⟨_, He.glo_ok KX G (c.t.d.fact 59 (f := .glo "PARTS") rfl), tabK_of (c.t.tab 0 rfl) (c.row (p := tb[0]) (by decide +kernel)) (by decide +kernel) (by decide +kernel)⟩
    · rcases List.mem_cons.mp hm with hm | hm
      · cases hm
        exact ⟨_, He.glo_ok KX G (c.t.d.fact 60 (f := .glo "CONDITIONS") rfl), tabK_of (c.t.tab 1 rfl) (c.row (p := tb[1]) (by decide +kernel)) (by decide +kernel) (by decide +kernel)⟩
      · have hm := List.mem_singleton.mp hm
        cases hm
        exact ⟨_, He.glo_ok KX G (c.t.d.fact 61 (f := .glo "SENTENCES") rfl), tabK_of (c.t.tab 2 rfl) (c.row (p := tb[2]) (by decide +kernel)) (by decide +kernel) (by decide +kernel)⟩
end
end G48k17

section
open PySem PySem.W PySem.Calls PyProof.Rows G48
set_option maxRecDepth 100000 in
set_option maxHeartbeats 0 in
theorem PySem.Challenge.cw_gaprows_k17_whole_sentences_that_are_the_holds : PySem.Challenge.rw_gaprows_k17_whole_sentences_that_are_the.Holds := by
  w_on; o_law
  refine HandSHeadRun.head_any (r := OpenLaw.row PySem.Challenge.rw_gaprows_k17_whole_sentences_that_are_the) (q := view (OpenLaw.row PySem.Challenge.rw_gaprows_k17_whole_sentences_that_are_the).prog [56]) (H := G48k17.hk) (ob := G48k17.ob) (M := 9000) (loose := G48k17.names) (d := HandSHeadRun.topDef (OpenLaw.row PySem.Challenge.rw_gaprows_k17_whole_sentences_that_are_the).prog 56) (kwd := []) G48k17.ob_eq
    (by kernel_rfl) (fun s => by kernel_rfl) G48k17.run (by kernel_rfl) (by kernel_rfl) (by kernel_rfl) (by rfl) (by first | assumption | decide +kernel) (by decide +kernel) ⟨rfl, rfl, rfl, rfl, rfl, by decide +kernel⟩ ?hw ?hc
  case hw => w_witness2
  case hc =>
    refine L2.walk_ofE (l := PySem.Challenge.rw_gaprows_k17_whole_sentences_that_are_the) (n := 63) (k := 2 * 90 + 2) (x := "_law_script") (CX := L2.CX0) rfl (by decide) (by kernel_rfl) ⟨rfl, by decide, by decide⟩ ?F (fun _ _ _ _ z => z)
    intro w mg fa h Y G hmg0
    obtain ⟨K, KX, c⟩ := Y
    have hmg : mg ("law" : PySem.Str) = some (.ref fa) := by
      have e : (HandSHeadRun.topDef (OpenLaw.row PySem.Challenge.rw_gaprows_k17_whole_sentences_that_are_the).prog 56).name = ("law" : PySem.Str) := by kernel_rfl
      rw [← e]
      exact hmg0
    obtain ⟨fd, Fd⟩ := He.SaysD.def_ (SaysU.t c).d 42 (d := G48k17.d42) rfl
    have e := hmg.symm.trans (He.glo_ok KX G (He.SaysD.fact (SaysU.t c).d 40 (f := .glo "law") rfl))
    cases e
    have b := L2.FunD.bindsA (ps := G48k17.p42) Fd fun _ _ _ _ _ _ us hl => match us, hl with | [_], _ => rfl
    refine ⟨K, fd, spF K (G48k17.CC K) (callF G48k17.fds (90 + 1)) G48k17.i_law, KX, fun s v => b s [v] rfl, fun H a ns hl _ hS => sp_law (G48k17.plain ns hl) hS, fun base Kb Gb => ?_⟩
    exact def_ok (top_ok (G48k17.stat PySem.Challenge.rw_gaprows_k17_whole_sentences_that_are_the.prog KX G c) 90) rfl Fd G48k17.sc42 G48k17.ck42 rfl rfl (by decide)
end

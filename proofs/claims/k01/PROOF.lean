import PyProof.Rows.All
import HandS.ForMost
import HandS.ForExc
import HandS.TupAny
import HandS.Style
import HandS.IsInst
import HandS.Wide
import HandS.SortRule
import HandS.SortInts
import HandS.Strs
import HandS.Deep
import HandS.Zip
import HandS.Walk
import HandS.TupMul
import KE.SortData
import KE.DatumOrd
import KE.GoesMore
import KE.GoesEnum
import HandS.Conv
import HandS.Small
import PySem.Challenge.RW_cheapestfree_k01_baskets_and_rows
-- part DEv
set_option Elab.async false
set_option linter.all false
/-! The small language: syntax, values, evaluator. -/
namespace DD
open PySem (PyData Str Operator CmpOp)
abbrev PD := PyData

/-- a line that every sequence keeps below -/
def LIM : Nat := 1000000

/-! ### data -/
def ints? : List PD → Option (List Int)
  | [] => some []
  | .int i :: r => (ints? r).map (i :: ·)
  | _ :: _ => none
def bools? : List PD → Option (List Bool)
  | [] => some []
  | .bool b :: r => (bools? r).map (b :: ·)
  | _ :: _ => none
def pairs? : List PD → Option (List (Int × Int))
  | [] => some []
  | .tuple [.int i, .int j] :: r => (pairs? r).map ((i, j) :: ·)
  | _ :: _ => none
def intss? : List PD → Option (List (List Int))
  | [] => some []
  | .tuple ds :: r => match ints? ds with
    | some is => (intss? r).map (is :: ·)
    | none => none
  | _ :: _ => none
def ofInts (is : List Int) : List PD := is.map PyData.int
def ofPair (p : Int × Int) : PD := .tuple [.int p.1, .int p.2]
def isScal : PD → Bool
  | .none => true
  | .bool _ => true
  | .int _ => true
  | .str _ => true
  | _ => false
/-- places as Python counts them -/
def ixOf (n : Nat) (i : Int) : Option Nat := if 0 ≤ i then (if i < n then some i.toNat else none) else if -(n : Int) ≤ i then some (i + n).toNat else none
def atD {α : Type} (xs : List α) (i : Int) : Option α := match ixOf xs.length i with
  | some j => xs[j]?
  | none => none
def clip (n d : Nat) : Option Int → Nat
  | none => d
  | some v => if v < 0 then (v + (n : Int)).toNat else min v.toNat n
def cutD {α : Type} (xs : List α) (lo hi : Option Int) : List α := (xs.drop (clip xs.length 0 lo)).take (clip xs.length xs.length hi - clip xs.length 0 lo)
def keyAt (kvs : List (PD × PD)) (k : Int) : Option PD := match kvs with
  | [] => none
  | (.int j, v) :: r => if j = k then some v else keyAt r k
  | _ :: r => keyAt r k
def keyIs (k : Int) : PD → Bool
  | .int j => decide (j = k)
  | _ => false
def keyPut (kvs : List (PD × PD)) (k : Int) (v : PD) : List (PD × PD) :=
  if (kvs.any fun p => keyIs k p.1) = true then kvs.map (fun p => if keyIs k p.1 = true then (p.1, v) else p) else kvs ++ [(.int k, v)]

/-! ### sorting -/
def insI (x : Int) : List Int → List Int
  | [] => [x]
  | y :: r => if x ≤ y then x :: y :: r else y :: insI x r
def sortI : List Int → List Int
  | [] => []
  | x :: r => insI x (sortI r)
def leP (p q : Int × Int) : Bool := decide (p.1 < q.1) || (decide (p.1 = q.1) && decide (p.2 ≤ q.2))
def insP (x : Int × Int) : List (Int × Int) → List (Int × Int)
  | [] => [x]
  | y :: r => if leP x y then x :: y :: r else y :: insP x r
def sortP : List (Int × Int) → List (Int × Int)
  | [] => []
  | x :: r => insP x (sortP r)
def leL : List Int → List Int → Bool
  | [], _ => true
  | _ :: _, [] => false
  | x :: xs, y :: ys => decide (x < y) || (decide (x = y) && leL xs ys)
def insL (x : List Int) : List (List Int) → List (List Int)
  | [] => [x]
  | y :: r => if leL x y then x :: y :: r else y :: insL x r
def sortL : List (List Int) → List (List Int)
  | [] => []
  | x :: r => insL x (sortL r)
def maxI : Int → List Int → Int
  | m, [] => m
  | m, x :: r => maxI (if m < x then x else m) r
def minI : Int → List Int → Int
  | m, [] => m
  | m, x :: r => minI (if x < m then x else m) r
def maxP : Int × Int → List (Int × Int) → Int × Int
  | m, [] => m
  | m, x :: r => maxP (if leP x m then m else x) r
def dedupI : List Int → List Int
  | [] => []
  | x :: r => if x ∈ r then dedupI r else x :: dedupI r
def dedupL : List (List Int) → List (List Int)
  | [] => []
  | x :: r => if x ∈ r then dedupL r else x :: dedupL r

/-! ### operators by values; the Bool: a new list -/
def binV (op : Operator) (a b : PD) : Option (PD × Bool) := match op, a, b with
  | .Add, .int i, .int j => some (.int (i + j), false)
  | .Add, .tuple xs, .tuple ys => if xs.length + ys.length ≤ LIM then some (.tuple (xs ++ ys), false) else none
  | .Add, .list xs, .list ys => if xs.length + ys.length ≤ LIM then some (.list (xs ++ ys), true) else none
  | .Add, .bool b, .int j => some (.int ((if b = true then 1 else 0) + j), false)
  | .Sub, .int i, .int j => some (.int (i - j), false)
  | .Sub, .bool b, .int j => some (.int ((if b = true then 1 else 0) - j), false)
  | .Mult, .int i, .int j => if (-(2 ^ 64) < i ∧ i < 2 ^ 64) ∨ (-(2 ^ 64) < j ∧ j < 2 ^ 64) then some (.int (i * j), false) else none
  | .Mult, .list xs, .int j => if 0 ≤ j ∧ j ≤ LIM ∧ xs.length * j.toNat ≤ LIM then some (.list (List.replicate j.toNat xs).flatten, true) else none
  | .Mult, .tuple xs, .int j => if xs.isEmpty = false ∧ 2 ≤ j ∧ j ≤ 1000 ∧ xs.length ≤ 1000 then some (.tuple (List.replicate j.toNat xs).flatten, false) else none
  | .FloorDiv, .int i, .int j => if 0 < j ∧ j < 1073741824 then some (.int (i / j), false) else none
  | .Mod, .int i, .int j => if 0 < j then some (.int (i % j), false) else none
  | .Pow, .int i, .int j => if 0 ≤ j ∧ j ≤ 1000000 ∧ i.natAbs < 2 ^ 64 then some (.int (i ^ j.toNat), false) else none
  | _, _, _ => none
def shp (d : PD) : Bool := PySem.SeqAt.shaped d
def isNon : PD → Bool
  | .none => true
  | _ => false
def inD (x : PD) (ys : List PD) : Bool := ys.any fun y => PyData.eqv y x
def cmpV (op : CmpOp) (a b : PD) : Option Bool := match op, a, b with
  | .Eq, a, b => if shp a && shp b then some (PyData.eqv a b) else none
  | .NotEq, a, b => if shp a && shp b then some (!PyData.eqv a b) else none
  | .Lt, .int i, .int j => some (decide (i < j))
  | .LtE, .int i, .int j => some (decide (i ≤ j))
  | .Gt, .int i, .int j => some (decide (j < i))
  | .GtE, .int i, .int j => some (decide (j ≤ i))
  | .In, x, .list ys => if shp x && shp (.list ys) then some (inD x ys) else none
  | .In, x, .tuple ys => if shp x && shp (.tuple ys) then some (inD x ys) else none
  | .In, .int k, .dict kvs => some (keyAt kvs k).isSome
  | .NotIn, x, .list ys => if shp x && shp (.list ys) then some (!inD x ys) else none
  | .NotIn, x, .tuple ys => if shp x && shp (.tuple ys) then some (!inD x ys) else none
  | .Is, a, .none => some (isNon a)
  | .IsNot, a, .none => some (!isNon a)
  | .Is, .bool a, .bool b => some (decide (a = b))
  | .IsNot, .bool a, .bool b => some (!decide (a = b))
  | _, _, _ => none
def ixV (a i : PD) : Option PD := match a, i with
  | .list xs, .int i => atD xs i
  | .tuple xs, .int i => atD xs i
  | .dict kvs, .int i => keyAt kvs i
  | _, _ => none
def slV (a : PD) (lo hi : Option Int) : Option (PD × Bool) := match a with
  | .list xs => some (.list (cutD xs lo hi), true)
  | .tuple xs => some (.tuple (cutD xs lo hi), false)
  | _ => none
/-- the built-in functions -/
inductive Bt where
  | len | sum | max | min | sorted | all | any | tuple | list | sset | int | str
  deriving DecidableEq
def bltV (f : Bt) (as : List PD) : Option (PD × Bool) := match f, as with
  | .len, [.list xs] => some (.int xs.length, false)
  | .len, [.tuple xs] => some (.int xs.length, false)
  | .sum, [.list xs] => (ints? xs).map fun is => (.int is.sum, false)
  | .sum, [.tuple xs] => (ints? xs).map fun is => (.int is.sum, false)
  | .max, [.int i, .int j] => some (.int (if j > i then j else i), false)
  | .min, [.int i, .int j] => some (.int (if j < i then j else i), false)
  | .max, [.list xs] => match ints? xs with
    | some (i :: r) => some (.int (maxI i r), false)
    | some [] => none
    | none => match pairs? xs with
      | some (p :: r) => some (ofPair (maxP p r), false)
      | _ => none
  | .min, [.list xs] => match ints? xs with
    | some (i :: r) => some (.int (minI i r), false)
    | _ => none
  | .sorted, [.list xs] => match ints? xs with
    | some is => some (.list (ofInts (sortI is)), true)
    | none => match pairs? xs with
      | some ps => if xs.length ≤ LIM then some (.list ((sortP ps).map ofPair), true) else none
      | none => none
  | .sorted, [.tuple xs] => (ints? xs).map fun is => (.list (ofInts (sortI is)), true)
  | .all, [.list xs] => (bools? xs).map fun bs => (.bool (bs.all id), false)
  | .any, [.list xs] => (bools? xs).map fun bs => (.bool (bs.any id), false)
  | .tuple, [.list xs] => some (.tuple xs, false)
  | .tuple, [.tuple xs] => some (.tuple xs, false)
  | .list, [.list xs] => some (.list xs, true)
  | .list, [.tuple xs] => some (.list xs, true)
  | .int, [.bool b] => some (.int (if b then 1 else 0), false)
  | .int, [.int i] => some (.int i, false)
  | .str, [.bool b] => some (.str (if b then "True" else "False"), false)
  | .str, [.int i] => if i.natAbs.log2 < 1920 then some (.str (toString i : String), false) else none
  | _, _ => none
inductive Ty where
  | int | bool | tuple | list | str
  deriving DecidableEq
def isTy : PD → Ty → Bool
  | .int _, .int => true
  | .bool _, .int => true
  | .bool _, .bool => true
  | .tuple _, .tuple => true
  | .list _, .list => true
  | .str _, .str => true
  | _, _ => false
def idxV : List PD → PD → Nat → Option Nat
  | [], _, _ => none
  | y :: r, x, n => if PyData.eqv y x then some n else idxV r x (n + 1)

/-! ### defs by what they compute -/
inductive FO where
  | ret (d : PD) (fr : Bool) (m : PD)
  | ex (x : Str)
structure FSem where
  mu : Bool
  run : List PD → Option FO

/-! ### the small language -/
inductive Tg where
  | nm (i : Nat) | tp (is : List Nat)
  deriving DecidableEq
def Tg.slots : Tg → List Nat
  | .nm i => [i]
  | .tp is => is
mutual
inductive E where
  | nop | int (i : Int) | bl (b : Bool) | non | str (s : Str)
  | gint (x : Str) (i : Int) | gtup (x : Str) (is : List Int)
  | var (i : Nat) | mv (i : Nat) | sc (e : E)
  | bin (op : Operator) (a b : E) | neg (a : E)
  | cmp (op : CmpOp) (a b : E) | chain (op op2 : CmpOp) (a b c : E)
  | and (a b : E) | or (a b : E) | not (a : E) | ite (c a b : E)
  | call (k : Nat) (as : Es) | callm (k : Nat) (v : Nat) (as : Es)
  | blt (f : Bt) (as : Es) | trng (f : Bt) (as : Es) | isi (a : E) (ts : List Ty)
  | ix (a i : E) | ixv (v : Nat) (i : E)
  | slc (a lo hi : E) | slv (v : Nat) (lo hi : E) | rev (a : E)
  | tup (as : Es) | lst (as : Es) | dic0 | dic1 (k v : E)
  | lc (elt : E) (tg : Tg) (it : It) (cond : E)
  | idx (a x : E)
inductive Es where
  | nil | cons (e : E) (es : Es)
inductive It where
  | seq (e : E) | hid (v : Nat) | rng (as : Es) | enu (e : E) | zip (a b : E)
end
mutual
inductive S where
  | set (i : Nat) (e : E) | par (is : List Nat) (es : Es) | unp (is : List Nat) (e : E)
  | stx (v : Nat) (i e : E) | aug (i : Nat) (op : Operator) (e : E) | app (v : Nat) (e : E)
  | exp (e : E) | ret (e : E) | ret0
  | ite (c : E) (a b : Ss) | fr (tg : Tg) (it : It) (b : Ss) | whl (c : E) (b : Ss)
  | rai (x : Str) | pas | brk | cnt
inductive Ss where
  | nil | cons (s : S) (ss : Ss)
end

/-! ### the environment -/
inductive Cell where
  | sh (d : PD) | ow (d : PD) | bo (d : PD)
def Cell.dat : Cell → PD
  | .sh d => d
  | .ow d => d
  | .bo d => d
def Cell.isMut : Cell → Bool
  | .sh _ => false
  | _ => true
def Cell.put : Cell → PD → Cell
  | .sh _, d => .sh d
  | .ow _, d => .ow d
  | .bo _, d => .bo d
abbrev Env := List (Option Cell)
def getC (ρ : Env) (i : Nat) : Option Cell := match ρ[i]? with
  | some (some c) => some c
  | _ => none
def mkC (d : PD) (fr : Bool) : Cell := if fr then .ow d else .sh d
/-- a name is stored -/
def setC (ρ : Env) (i : Nat) (c : Cell) : Option Env := match ρ[i]? with
  | some (some (.bo _)) => none
  | some _ => some (ρ.set i (some c))
  | none => none
def wipeC (ρ : Env) : List Nat → Env
  | [] => ρ
  | v :: vs => (wipeC ρ vs).set v none
def backC (ρ ρ0 : Env) : List Nat → Env
  | [] => ρ
  | v :: vs => (backC ρ ρ0 vs).set v (ρ0.getD v none)
def setTs : List Nat → List PD → Env → Option Env
  | [], [], ρ => some ρ
  | i :: is, d :: ds, ρ => (setC ρ i (.sh d)).bind fun ρ => setTs is ds ρ
  | _, _, _ => none
def setT : Tg → PD → Env → Option Env
  | .nm i, d, ρ => setC ρ i (.sh d)
  | .tp is, .tuple ds, ρ => setTs is ds ρ
  | .tp _, _, _ => none

/-! ### evaluation -/
inductive EO where
  | ok (d : PD) (fr : Bool) (ρ : Env)
  | ex (x : Str)
inductive AO where
  | ok (ds : List PD) (ρ : Env)
  | ex (x : Str)
def EO.bind (r : Option EO) (k : PD → Env → Option EO) : Option EO := match r with
  | some (.ok d _ ρ) => k d ρ
  | some (.ex x) => some (.ex x)
  | none => none
def EO.binA (r : Option EO) (k : PD → Env → Option AO) : Option AO := match r with
  | some (.ok d _ ρ) => k d ρ
  | some (.ex x) => some (.ex x)
  | none => none
def AO.bind (r : Option AO) (k : List PD → Env → Option EO) : Option EO := match r with
  | some (.ok ds ρ) => k ds ρ
  | some (.ex x) => some (.ex x)
  | none => none
def AO.binA (r : Option AO) (k : List PD → Env → Option AO) : Option AO := match r with
  | some (.ok ds ρ) => k ds ρ
  | some (.ex x) => some (.ex x)
  | none => none
def retE (ρ : Env) (d : PD) (fr : Bool := false) : Option EO := some (.ok d fr ρ)
def outE (ρ : Env) : Option (PD × Bool) → Option EO
  | some (d, fr) => some (.ok d fr ρ)
  | none => none
def outB (ρ : Env) : Option Bool → Option EO
  | some b => some (.ok (.bool b) false ρ)
  | none => none
def boolE (d : PD) (k : Bool → Option EO) : Option EO := match d with
  | .bool b => k b
  | _ => none
def intE (d : PD) (k : Int → Option EO) : Option EO := match d with
  | .int i => k i
  | _ => none
def intO (d : PD) : Option Int := match d with
  | .int i => some i
  | _ => none
def callE (s : Option FSem) (ds : List PD) (ρ : Env) : Option EO := match s with
  | some s => if s.mu = false then (match s.run ds with
      | some (.ret d fr _) => some (.ok d fr ρ)
      | some (.ex x) => some (.ex x)
      | none => none) else none
  | none => none
def callmE (s : Option FSem) (v : Nat) (ds : List PD) (ρ : Env) : Option EO := match s, getC ρ v with
  | some s, some c => if s.mu = true ∧ c.isMut = true then (match s.run (c.dat :: ds) with
      | some (.ret d fr m) => some (.ok d fr (ρ.set v (some (c.put m))))
      | some (.ex x) => some (.ex x)
      | none => none) else none
  | _, _ => none
def rngL (ds : List PD) : Option (List PD) := match ds with
  | [.int n] => if -(LIM : Int) ≤ n ∧ n ≤ LIM then some ((List.range n.toNat).map fun i => .int ((0 : Int) + (i : Nat))) else none
  | [.int a, .int b] => if (-(LIM : Int) ≤ a ∧ a ≤ LIM) ∧ (-(LIM : Int) ≤ b ∧ b ≤ LIM) then some ((List.range (b - a).toNat).map fun i => .int (a + (i : Nat))) else none
  | [.int a, .int b, .int c] => if (-(LIM : Int) ≤ a ∧ a ≤ LIM) ∧ (-(LIM : Int) ≤ b ∧ b ≤ LIM) ∧ 0 < c ∧ c ≤ LIM then some ((List.range ((b - a + c - 1) / c).toNat).map fun i => .int (a + (i : Nat) * c)) else none
  | _ => none
def seqL : PD → Option (List PD)
  | .list xs => some xs
  | .tuple xs => some xs
  | _ => none
/-- a comprehension's loop -/
def lcLoop (tg : Tg) (cond elt : Env → Option EO) (vs : List Nat) : List PD → Env → List PD → Option AO
  | [], ρ, acc => some (.ok acc ρ)
  | d :: ds, ρ, acc => match setT tg d ρ with
    | none => none
    | some ρ1 => match cond ρ1 with
      | some (.ok (.bool false) _ ρ2) => lcLoop tg cond elt vs ds (wipeC ρ2 vs) acc
      | some (.ok (.bool true) _ ρ2) => match elt ρ2 with
        | some (.ok y _ ρ3) => lcLoop tg cond elt vs ds (wipeC ρ3 vs) (acc ++ [y])
        | _ => none
      | _ => none
def lcE (tg : Tg) (cond elt : Env → Option EO) (vs : List Nat) (ds : List PD) (ρ : Env) : Option EO :=
  if ds.length ≤ LIM then (match lcLoop tg cond elt (tg.slots) ds (wipeC ρ vs) [] with
    | some (.ok acc ρ') => some (.ok (.list acc) true (backC ρ' ρ vs))
    | _ => none) else none
def hidI : It → List Nat
  | .hid v => [v]
  | _ => []
def isNop : E → Bool
  | .nop => true
  | _ => false
/-- a part of a slice; r : what it computes, where it is there -/
def optI (p : Bool) (ρ0 : Env) (r : Option EO) (k : Option Int → Env → Option EO) : Option EO := if p then k none ρ0 else match r with
  | some (.ok (.int i) _ ρ) => k (some i) ρ
  | some (.ex x) => some (.ex x)
  | _ => none
mutual
def evalE (cs : List FSem) : E → Env → Option EO
  | .nop, _ => none
  | .int i, ρ => retE ρ (.int i)
  | .bl b, ρ => retE ρ (.bool b)
  | .non, ρ => retE ρ .none
  | .str s, ρ => retE ρ (.str s)
  | .gint _ i, ρ => retE ρ (.int i)
  | .gtup _ is, ρ => retE ρ (.tuple (ofInts is))
  | .var i, ρ => match getC ρ i with
    | some (.sh d) => some (.ok d false ρ)
    | some (.ow d) => some (.ok d false (ρ.set i (some (.sh d))))
    | _ => none
  | .mv i, ρ => match getC ρ i with
    | some (.sh d) => some (.ok d false ρ)
    | some (.ow d) => some (.ok d true (ρ.set i none))
    | _ => none
  | .sc e, ρ => match evalE cs e ρ with
    | some (.ok d _ _) => if isScal d then some (.ok d false ρ) else none
    | some (.ex x) => some (.ex x)
    | none => none
  | .bin op a b, ρ => EO.bind (evalE cs a ρ) fun x ρ => EO.bind (evalE cs b ρ) fun y ρ => outE ρ (binV op x y)
  | .neg a, ρ => EO.bind (evalE cs a ρ) fun x ρ => intE x fun i => retE ρ (.int (-i))
  | .cmp op a b, ρ => EO.bind (evalE cs a ρ) fun x ρ => EO.bind (evalE cs b ρ) fun y ρ => outB ρ (cmpV op x y)
  | .chain op op2 a b c, ρ => EO.bind (evalE cs a ρ) fun x ρ => EO.bind (evalE cs b ρ) fun y ρ => match cmpV op x y with
    | some true => EO.bind (evalE cs c ρ) fun z ρ => outB ρ (cmpV op2 y z)
    | some false => retE ρ (.bool false)
    | none => none
  | .and a b, ρ => EO.bind (evalE cs a ρ) fun x ρ => boolE x fun k => if k then EO.bind (evalE cs b ρ) fun y ρ => boolE y fun j => retE ρ (.bool j) else retE ρ (.bool false)
  | .or a b, ρ => EO.bind (evalE cs a ρ) fun x ρ => boolE x fun k => if k then retE ρ (.bool true) else EO.bind (evalE cs b ρ) fun y ρ => boolE y fun j => retE ρ (.bool j)
  | .not a, ρ => EO.bind (evalE cs a ρ) fun x ρ => boolE x fun k => retE ρ (.bool (!k))
  | .ite c a b, ρ => EO.bind (evalE cs c ρ) fun x ρ => boolE x fun k => if k then EO.bind (evalE cs a ρ) fun y ρ => retE ρ y else EO.bind (evalE cs b ρ) fun y ρ => retE ρ y
  | .call k as, ρ => AO.bind (evalEs cs as ρ) fun ds ρ => callE cs[k]? ds ρ
  | .callm k v as, ρ => match getC ρ v with
    | some _ => AO.bind (evalEs cs as ρ) fun ds ρ => callmE cs[k]? v ds ρ
    | none => none
  | .blt f as, ρ => AO.bind (evalEs cs as ρ) fun ds ρ => outE ρ (bltV f ds)
  | .trng f as, ρ => AO.bind (evalEs cs as ρ) fun ds ρ => match rngL ds with
    | some is => outE ρ (bltV f [.list is])
    | none => none
  | .isi a ts, ρ => EO.bind (evalE cs a ρ) fun x ρ => retE ρ (.bool (ts.any (isTy x)))
  | .ix a i, ρ => EO.bind (evalE cs a ρ) fun x ρ => EO.bind (evalE cs i ρ) fun y ρ => (ixV x y).bind fun d => retE ρ d
  | .ixv v i, ρ => match getC ρ v with
    | some _ => EO.bind (evalE cs i ρ) fun y ρ => (match getC ρ v with
      | some c => (ixV c.dat y).bind fun d => retE ρ d
      | none => none)
    | none => none
  | .slc a lo hi, ρ => EO.bind (evalE cs a ρ) fun x ρ => optI (isNop lo) ρ (evalE cs lo ρ) fun l ρ => optI (isNop hi) ρ (evalE cs hi ρ) fun h ρ => outE ρ (slV x l h)
  | .slv v lo hi, ρ => match getC ρ v with
    | some _ => optI (isNop lo) ρ (evalE cs lo ρ) fun l ρ => optI (isNop hi) ρ (evalE cs hi ρ) fun h ρ => (match getC ρ v with
      | some c => outE ρ (slV c.dat l h)
      | none => none)
    | none => none
  | .rev a, ρ => EO.bind (evalE cs a ρ) fun x ρ => match x with
    | .list xs => retE ρ (.list xs.reverse) true
    | .tuple xs => retE ρ (.tuple xs.reverse)
    | _ => none
  | .tup as, ρ => AO.bind (evalEs cs as ρ) fun ds ρ => if ds.length ≤ LIM then retE ρ (.tuple ds) else none
  | .lst as, ρ => AO.bind (evalEs cs as ρ) fun ds ρ => if ds.length ≤ LIM then retE ρ (.list ds) true else none
  | .dic0, ρ => retE ρ (.dict []) true
  | .dic1 k v, ρ => EO.bind (evalE cs k ρ) fun x ρ => EO.bind (evalE cs v ρ) fun y ρ => intE x fun i => retE ρ (.dict [(.int i, y)]) true
  | .lc elt tg it cond, ρ => AO.bind (evalI cs it ρ) fun ds ρ => lcE tg (evalE cs cond) (evalE cs elt) (tg.slots ++ hidI it) ds ρ
  | .idx a x, ρ => EO.bind (evalE cs a ρ) fun xs ρ => match xs with
    | .list l => EO.bind (evalE cs x ρ) fun y ρ => if shp (.list l) && shp y then (idxV l y 0).bind fun n => retE ρ (.int (n : Nat)) else none
    | _ => none
def evalEs (cs : List FSem) : Es → Env → Option AO
  | .nil, ρ => some (.ok [] ρ)
  | .cons e es, ρ => EO.binA (evalE cs e ρ) fun x ρ => AO.binA (evalEs cs es ρ) fun xs ρ => some (.ok (x :: xs) ρ)
def evalI (cs : List FSem) : It → Env → Option AO
  | .seq e, ρ => EO.binA (evalE cs e ρ) fun x ρ => (seqL x).bind fun xs => some (.ok xs ρ)
  | .hid v, ρ => match getC ρ v with
    | some c => match c.dat with
      | .list xs => some (.ok xs ρ)
      | _ => none
    | none => none
  | .rng as, ρ => AO.binA (evalEs cs as ρ) fun ds ρ => (rngL ds).bind fun xs => some (.ok xs ρ)
  | .enu e, ρ => EO.binA (evalE cs e ρ) fun x ρ => (seqL x).bind fun xs => some (.ok ((List.range xs.length).zipWith (fun i y => .tuple [.int ((i : Nat) : Int), y]) xs) ρ)
  | .zip a b, ρ => EO.binA (evalE cs a ρ) fun x ρ => EO.binA (evalE cs b ρ) fun y ρ => match x, y with
    | .list xs, .list ys => some (.ok (xs.zipWith (fun a b => .tuple [a, b]) ys) ρ)
    | .tuple xs, .tuple ys => some (.ok (xs.zipWith (fun a b => .tuple [a, b]) ys) ρ)
    | _, _ => none
end

/-! ### statements -/
inductive SO where
  | nx (ρ : Env) | rt (d : PD) (fr : Bool) (ρ : Env) | bk (ρ : Env) | ct (ρ : Env) | ex (x : Str)
def EO.binS (r : Option EO) (k : PD → Bool → Env → Option SO) : Option SO := match r with
  | some (.ok d fr ρ) => k d fr ρ
  | some (.ex x) => some (.ex x)
  | none => none
def AO.binS (r : Option AO) (k : List PD → Env → Option SO) : Option SO := match r with
  | some (.ok ds ρ) => k ds ρ
  | some (.ex x) => some (.ex x)
  | none => none
def nxO : Option Env → Option SO
  | some ρ => some (.nx ρ)
  | none => none
/-- items evaluated with their newness, for a, b = x, y -/
def evalFs (cs : List FSem) : Es → Env → (List Cell → Env → Option SO) → Option SO
  | .nil, ρ, k => k [] ρ
  | .cons e es, ρ, k => EO.binS (evalE cs e ρ) fun d fr ρ => evalFs cs es ρ fun xs ρ => k (mkC d fr :: xs) ρ
def setCs : List Nat → List Cell → Env → Option Env
  | [], [], ρ => some ρ
  | i :: is, c :: csl, ρ => (setC ρ i c).bind fun ρ => setCs is csl ρ
  | _, _, _ => none
def forL (tg : Tg) (b : Env → Option SO) : List PD → Env → Option SO
  | [], ρ => some (.nx ρ)
  | d :: ds, ρ => match setT tg d ρ with
    | none => none
    | some ρ1 => match b ρ1 with
      | some (.nx ρ2) => forL tg b ds ρ2
      | some (.ct ρ2) => forL tg b ds ρ2
      | some (.bk ρ2) => some (.nx ρ2)
      | r => r
def whlL (c : Env → Option EO) (b : Env → Option SO) : Nat → Env → Option SO
  | 0, _ => none
  | n + 1, ρ => match c ρ with
    | some (.ok (.bool false) _ ρ1) => some (.nx ρ1)
    | some (.ok (.bool true) _ ρ1) => match b ρ1 with
      | some (.nx ρ2) => whlL c b n ρ2
      | some (.ct ρ2) => whlL c b n ρ2
      | some (.bk ρ2) => some (.nx ρ2)
      | r => r
    | some (.ex x) => some (.ex x)
    | _ => none
def FUEL : Nat := 200
def stxV (c : PD) (i v : PD) : Option PD := match c, i with
  | .list xs, .int k => match ixOf xs.length k with
    | some j => some (.list (xs.set j v))
    | none => none
  | .dict kvs, .int k => if kvs.length < LIM then some (.dict (keyPut kvs k v)) else none
  | _, _ => none
def isL : PD → Bool
  | .list _ => true
  | _ => false
def augI (op : Operator) (a b : PD) (k : Int → Option SO) : Option SO := match op, a, b with
  | .Add, .int i, .int j => k (i + j)
  | .Sub, .int i, .int j => k (i - j)
  | .Mult, .int i, .int j => if (-(2 ^ 64) < i ∧ i < 2 ^ 64) ∨ (-(2 ^ 64) < j ∧ j < 2 ^ 64) then k (i * j) else none
  | _, _, _ => none
mutual
def evalS (cs : List FSem) : S → Env → Option SO
  | .set i e, ρ => EO.binS (evalE cs e ρ) fun d fr ρ => nxO (setC ρ i (mkC d fr))
  | .par is es, ρ => evalFs cs es ρ fun xs ρ => nxO (setCs is xs ρ)
  | .unp is e, ρ => EO.binS (evalE cs e ρ) fun d _ ρ => match d with
    | .tuple ds => nxO (setTs is ds ρ)
    | _ => none
  | .stx v i e, ρ => EO.binS (evalE cs e ρ) fun d _ ρ => match getC ρ v with
    | some _ => EO.binS (evalE cs i ρ) fun k _ ρ => (match getC ρ v with
      | some c => if c.isMut then (match stxV c.dat k d with
        | some m => some (.nx (ρ.set v (some (c.put m))))
        | none => none) else none
      | none => none)
    | none => none
  | .aug i op e, ρ => match getC ρ i with
    | some _ => EO.binS (evalE cs e ρ) fun d _ ρ => (match getC ρ i with
      | some (.sh x) => augI op x d fun y => nxO (setC ρ i (.sh (.int y)))
      | some (.ow (.list xs)) => (match op, d with
        | .Add, .list ys => if xs.length + ys.length ≤ LIM then some (.nx (ρ.set i (some (.ow (.list (xs ++ ys)))))) else none
        | .Add, .tuple ys => if xs.length + ys.length ≤ LIM then some (.nx (ρ.set i (some (.ow (.list (xs ++ ys)))))) else none
        | _, _ => none)
      | _ => none)
    | none => none
  | .app v e, ρ => match getC ρ v with
    | some c0 => if isL c0.dat then EO.binS (evalE cs e ρ) fun d _ ρ => (match getC ρ v with
      | some c => if c.isMut then (match c.dat with
        | .list xs => if xs.length < LIM then some (.nx (ρ.set v (some (c.put (.list (xs ++ [d])))))) else none
        | _ => none) else none
      | none => none) else none
    | none => none
  | .exp e, ρ => EO.binS (evalE cs e ρ) fun _ _ ρ => some (.nx ρ)
  | .ret e, ρ => EO.binS (evalE cs e ρ) fun d fr ρ => some (.rt d fr ρ)
  | .ret0, ρ => some (.rt .none false ρ)
  | .ite c a b, ρ => EO.binS (evalE cs c ρ) fun d _ ρ => match d with
    | .bool true => evalSs cs a ρ
    | .bool false => evalSs cs b ρ
    | _ => none
  | .fr tg it b, ρ => AO.binS (evalI cs it ρ) fun ds ρ => forL tg (evalSs cs b) ds ρ
  | .whl c b, ρ => whlL (evalE cs c) (evalSs cs b) FUEL ρ
  | .rai x, _ => some (.ex x)
  | .pas, ρ => some (.nx ρ)
  | .brk, ρ => some (.bk ρ)
  | .cnt, ρ => some (.ct ρ)
def evalSs (cs : List FSem) : Ss → Env → Option SO
  | .nil, ρ => some (.nx ρ)
  | .cons s ss, ρ => match evalS cs s ρ with
    | some (.nx ρ1) => evalSs cs ss ρ1
    | r => r
end
/-- a def -/
def envOf (mu : Bool) (ds : List PD) (n : Nat) : Env := match mu, ds with
  | true, d :: r => some (.bo d) :: (r.map fun d => some (.sh d)) ++ List.replicate (n - ds.length) none
  | _, ds => (ds.map fun d => some (.sh d)) ++ List.replicate (n - ds.length) none
def outF (mu : Bool) : Option SO → Option FO
  | some (.nx ρ) => if mu then (match getC ρ 0 with | some (.bo m) => some (.ret .none false m) | _ => none) else some (.ret .none false .none)
  | some (.rt d fr ρ) => if mu then (match getC ρ 0 with | some (.bo m) => some (.ret d fr m) | _ => none) else some (.ret d fr .none)
  | some (.ex x) => some (.ex x)
  | _ => none
/-- n names, ar of them parameters -/
def defSem (mu : Bool) (ar n : Nat) (cs : List FSem) (b : Ss) : FSem :=
  ⟨mu, fun ds => if ds.length = ar then outF mu (evalSs cs b (envOf mu ds n)) else none⟩
end DD

-- part DRel
set_option Elab.async false
set_option linter.all false
set_option maxRecDepth 100000
/-! Data over the abstract heap; the environment against the slots. -/
namespace DD
open PySem PySem.Spec PyProof.Rows L2

mutual
inductive Rp (K : PySem.W.Frag) (H : Hp) : V → PD → Prop where
  | non : Rp K H .non .none
  | bl (b : Bool) : Rp K H (.bl b) (.bool b)
  | int (i : Int) : Rp K H (.int i) (.int i)
  | str (x : Str) : Rp K H (.str x) (.str x)
  | lst {a : Addr} {xs : List V} {ds : List PD} : SqL K H a xs → RpA K H xs ds → Rp K H (.ref a) (.list ds)
  | tup {a : Addr} {xs : List V} {ds : List PD} : SqT K H a xs → RpA K H xs ds → Rp K H (.ref a) (.tuple ds)
  | dic {a : Addr} {kvs : List (Key × V)} {ds : List (PD × PD)} : H a = some (.dK kvs) → RpK K H kvs ds → Rp K H (.ref a) (.dict ds)
inductive RpA (K : PySem.W.Frag) (H : Hp) : List V → List PD → Prop where
  | nil : RpA K H [] []
  | cons {v : V} {vs : List V} {d : PD} {ds : List PD} : Rp K H v d → RpA K H vs ds → RpA K H (v :: vs) (d :: ds)
inductive RpK (K : PySem.W.Frag) (H : Hp) : List (Key × V) → List (PD × PD) → Prop where
  | nil : RpK K H [] []
  | cons {k : Int} {v : V} {vs : List (Key × V)} {d : PD} {ds : List (PD × PD)} : Rp K H v d → RpK K H vs ds → RpK K H ((.inl k, v) :: vs) ((.int k, d) :: ds)
end

theorem Same.sqt {K : PySem.W.Frag} {H H' : Hp} {a : Addr} {xs : List V} (e : Same H H') (h : SqT K H a xs) : SqT K H' a xs := by
  rcases h with (h | ⟨o, h⟩) | h
  · exact Or.inl (Or.inl (e _ _ h))
  · exact Or.inl (Or.inr ⟨o, e _ _ h⟩)
  · exact Or.inr h

theorem Same.rd {H H' : Hp} {a : Addr} {u : HO} (e : Same H H') (h : Rd H a u) : Rd H' a u := by
  rcases h with h | ⟨o, h⟩
  · exact Or.inl (e _ _ h)
  · exact Or.inr ⟨o, e _ _ h⟩

theorem Same.sql {K : PySem.W.Frag} {H H' : Hp} {a : Addr} {xs : List V} (e : Same H H') (h : SqL K H a xs) : SqL K H' a xs := h.elim (fun h => .inl (Same.rd e h)) .inr
section
variable {K : PySem.W.Frag} {H H' : Hp}
mutual
theorem Rp.mono (e : Same H H') : ∀ {v : V} {d : PD}, Rp K H v d → Rp K H' v d
  | _, _, .non => .non
  | _, _, .bl b => .bl b
  | _, _, .int i => .int i
  | _, _, .str x => .str x
  | _, _, .lst s r => .lst (Same.sql e s) (RpA.mono e r)
  | _, _, .tup s r => .tup (Same.sqt e s) (RpA.mono e r)
  | _, _, .dic s r => .dic (e _ _ s) (RpK.mono e r)
theorem RpA.mono (e : Same H H') : ∀ {vs : List V} {ds : List PD}, RpA K H vs ds → RpA K H' vs ds
  | _, _, .nil => .nil
  | _, _, .cons a b => .cons (Rp.mono e a) (RpA.mono e b)
theorem RpK.mono (e : Same H H') : ∀ {vs : List (Key × V)} {ds : List (PD × PD)}, RpK K H vs ds → RpK K H' vs ds
  | _, _, .nil => .nil
  | _, _, .cons a b => .cons (Rp.mono e a) (RpK.mono e b)
end
theorem RpA.length : ∀ {vs : List V} {ds : List PD}, RpA K H vs ds → vs.length = ds.length
  | _, _, .nil => rfl
  | _, _, .cons _ b => by simp [RpA.length b]
theorem RpA.get : ∀ {vs : List V} {ds : List PD} {i : Nat} {d : PD}, RpA K H vs ds → ds[i]? = some d → ∃ v, vs[i]? = some v ∧ Rp K H v d
  | _, _, _, _, .nil, e => by simp at e
  | _, _, 0, d, .cons a _, e => by
    simp at e
    subst e
    exact ⟨_, rfl, a⟩
  | _, _, i + 1, d, .cons _ b, e => by
    obtain ⟨v, h1, h2⟩ := RpA.get (i := i) b (by simpa using e)
    exact ⟨v, by simpa using h1, h2⟩
theorem RpA.getV : ∀ {vs : List V} {ds : List PD} {i : Nat} {v : V}, RpA K H vs ds → vs[i]? = some v → ∃ d, ds[i]? = some d ∧ Rp K H v d
  | _, _, _, _, .nil, e => by simp at e
  | _, _, 0, d, .cons a _, e => by
    simp at e
    subst e
    exact ⟨_, rfl, a⟩
  | _, _, i + 1, d, .cons _ b, e => by
    obtain ⟨v, h1, h2⟩ := RpA.getV (i := i) b (by simpa using e)
    exact ⟨v, by simpa using h1, h2⟩
theorem RpA.append : ∀ {vs ws : List V} {ds es : List PD}, RpA K H vs ds → RpA K H ws es → RpA K H (vs ++ ws) (ds ++ es)
  | _, _, _, _, .nil, s => s
  | _, _, _, _, .cons a b, s => .cons a (RpA.append b s)
theorem RpA.take : ∀ {vs : List V} {ds : List PD} (n : Nat), RpA K H vs ds → RpA K H (vs.take n) (ds.take n)
  | _, _, 0, _ => .nil
  | _, _, _ + 1, .nil => .nil
  | _, _, n + 1, .cons a b => .cons a (RpA.take n b)
theorem RpA.drop : ∀ {vs : List V} {ds : List PD} (n : Nat), RpA K H vs ds → RpA K H (vs.drop n) (ds.drop n)
  | _, _, 0, r => r
  | _, _, _ + 1, .nil => .nil
  | _, _, n + 1, .cons _ b => RpA.drop n b
theorem RpA.set {v : V} {d : PD} (r : Rp K H v d) : ∀ {vs : List V} {ds : List PD} (n : Nat), RpA K H vs ds → RpA K H (vs.set n v) (ds.set n d)
  | _, _, _, .nil => .nil
  | _, _, 0, .cons _ b => .cons r b
  | _, _, n + 1, .cons a b => .cons a (RpA.set r n b)
theorem RpA.snoc {vs : List V} {ds : List PD} {v : V} {d : PD} (a : RpA K H vs ds) (r : Rp K H v d) : RpA K H (vs ++ [v]) (ds ++ [d]) := a.append (.cons r .nil)
theorem RpA.reverse : ∀ {vs : List V} {ds : List PD}, RpA K H vs ds → RpA K H vs.reverse ds.reverse
  | _, _, .nil => .nil
  | _, _, .cons a b => by
    rw [List.reverse_cons, List.reverse_cons]
    exact (RpA.reverse b).snoc a
theorem RpA.ofInts : ∀ (is : List Int), RpA K H (is.map V.int) (ofInts is)
  | [] => .nil
  | i :: r => .cons (.int i) (RpA.ofInts r)
theorem RpA.ints : ∀ {vs : List V} {ds : List PD} {is : List Int}, RpA K H vs ds → ints? ds = some is → vs = is.map V.int ∧ ds = DD.ofInts is
  | _, _, is, .nil, e => by
    have : is = [] := by simpa [ints?] using e.symm
    subst this
    exact ⟨rfl, rfl⟩
  | _, _, is, .cons (ds := ds) a b, e => by
    cases a with
    | int i =>
      cases q : ints? ds with
      | none => simp [ints?, q] at e
      | some js =>
        have e' : i :: js = is := by simpa [ints?, q] using e
        obtain ⟨h1, h2⟩ := RpA.ints b q
        subst e'
        rw [h1, h2]
        exact ⟨rfl, rfl⟩
    | _ => simp [ints?] at e
theorem RpA.bools : ∀ {vs : List V} {ds : List PD} {is : List Bool}, RpA K H vs ds → bools? ds = some is → vs = is.map V.bl
  | _, _, is, .nil, e => by
    have : is = [] := by simpa [bools?] using e.symm
    subst this
    rfl
  | _, _, is, .cons (ds := ds) a b, e => by
    cases a with
    | bl i =>
      cases q : bools? ds with
      | none => simp [bools?, q] at e
      | some js =>
        have e' : i :: js = is := by simpa [bools?, q] using e
        subst e'
        rw [RpA.bools b q]
        rfl
    | _ => simp [bools?] at e
theorem Rp.int_inv {v : V} {i : Int} (r : Rp K H v (.int i)) : v = .int i := by cases r; rfl
theorem Rp.bl_inv {v : V} {b : Bool} (r : Rp K H v (.bool b)) : v = .bl b := by cases r; rfl
theorem Rp.non_inv {v : V} (r : Rp K H v .none) : v = .non := by cases r; rfl
theorem Rp.str_inv {v : V} {b : Str} (r : Rp K H v (.str b)) : v = .str b := by cases r; rfl
theorem Rp.lst_inv {v : V} {ds : List PD} (r : Rp K H v (.list ds)) : ∃ a xs, v = .ref a ∧ SqL K H a xs ∧ RpA K H xs ds := by
  cases r with
  | lst s t => exact ⟨_, _, rfl, s, t⟩
theorem Rp.tup_inv {v : V} {ds : List PD} (r : Rp K H v (.tuple ds)) : ∃ a xs, v = .ref a ∧ SqT K H a xs ∧ RpA K H xs ds := by
  cases r with
  | tup s t => exact ⟨_, _, rfl, s, t⟩
theorem Rp.dic_inv {v : V} {ds : List (PD × PD)} (r : Rp K H v (.dict ds)) : ∃ a xs, v = .ref a ∧ H a = some (.dK xs) ∧ RpK K H xs ds := by
  cases r with
  | dic s t => exact ⟨_, _, rfl, s, t⟩
theorem Rp.scal {v : V} {d : PD} (r : Rp K H v d) (h : isScal d = true) (H2 : Hp) : Rp K H2 v d := by
  cases r with
  | non => exact .non
  | bl b => exact .bl b
  | int i => exact .int i
  | str x => exact .str x
  | _ => simp [isScal] at h
/-- as the library's own relation -/
def noDic : PD → Bool
  | d => d.canLay0
mutual
theorem Rp.dp : ∀ {v : V} {d : PD}, Rp K H v d → d.canLay0 = true → Dp K H v d
  | _, _, .non, _ => .non
  | _, _, .bl b, _ => .bl b
  | _, _, .int i, _ => .int i
  | _, _, .str x, _ => .str x
  | _, _, .lst s r, h => .lst s (RpA.dp r (by simpa [PyData.canLay0] using h))
  | _, _, .tup s r, h => .tup s (RpA.dp r (by simpa [PyData.canLay0] using h))
  | _, _, .dic s r, h => by simp [PyData.canLay0] at h
theorem RpA.dp : ∀ {vs : List V} {ds : List PD}, RpA K H vs ds → PyData.canLayAll0 ds = true → DpAll K H vs ds
  | _, _, .nil, _ => .nil
  | _, _, .cons a b, h => by
    simp [PyData.canLayAll0] at h
    exact .cons (Rp.dp a h.1) (RpA.dp b h.2)
end
theorem Rp.dpS {v : V} {d : PD} (r : Rp K H v d) (h : shp d = true) : Dp K H v d := r.dp (SeqAt.canLay_of_shaped h)
end

/-! ### a list or dict that one name owns -/
inductive Own (K : PySem.W.Frag) (H Hf : Hp) : V → PD → Prop where
  | lst {a : Addr} {xs : List V} {ds : List PD} : H a = some (.lst xs) → Hf a = none → RpA K Hf xs ds → Own K H Hf (.ref a) (.list ds)
  | dic {a : Addr} {kvs : List (Key × V)} {ds : List (PD × PD)} : H a = some (.dK kvs) → Hf a = none → RpK K Hf kvs ds → Own K H Hf (.ref a) (.dict ds)
section
variable {K : PySem.W.Frag} {H H' Hf Hf' : Hp} {v : V} {d : PD}
theorem Own.ref (o : Own K H Hf v d) : ∃ a, v = .ref a ∧ Hf a = none ∧ ∃ u, H a = some u := by
  cases o with
  | lst h n _ => exact ⟨_, rfl, n, _, h⟩
  | dic h n _ => exact ⟨_, rfl, n, _, h⟩
/-- elsewhere the heap has changed -/
theorem Own.keep (o : Own K H Hf v d) (e : Same Hf Hf') (h : ∀ a u, v = .ref a → H a = some u → H' a = some u) (n : ∀ a, v = .ref a → Hf' a = none) : Own K H' Hf' v d := by
  cases o with
  | lst q z r => exact .lst (h _ _ rfl q) (n _ rfl) (r.mono e)
  | dic q z r => exact .dic (h _ _ rfl q) (n _ rfl) (r.mono e)
/-- it is given up: from now on it stands still -/
theorem Own.freeze (o : Own K H Hf v d) (e : Same Hf H) : ∃ Hf', Same Hf Hf' ∧ Same Hf' H ∧ Rp K Hf' v d ∧ ∀ b, v ≠ .ref b → Hf' b = Hf b := by
  cases o with
  | @lst a xs ds q z r =>
    have s1 : Same Hf (upd Hf a (.lst xs)) := fun b u h => by
      rw [upd_ne (ne_of_none h z)]
      exact h
    refine ⟨upd Hf a (.lst xs), s1, fun b u h => ?_, .lst (SqL.of upd_same) (r.mono s1), fun b hb => upd_ne (fun e => hb (by rw [e]))⟩
    by_cases hb : b = a
    · subst hb
      rw [upd_same] at h
      cases h
      exact q
    · rw [upd_ne hb] at h
      exact e b u h
  | @dic a xs ds q z r =>
    have s1 : Same Hf (upd Hf a (.dK xs)) := fun b u h => by
      rw [upd_ne (ne_of_none h z)]
      exact h
    refine ⟨upd Hf a (.dK xs), s1, fun b u h => ?_, .dic upd_same (r.mono s1), fun b hb => upd_ne (fun e => hb (by rw [e]))⟩
    by_cases hb : b = a
    · subst hb
      rw [upd_same] at h
      cases h
      exact q
    · rw [upd_ne hb] at h
      exact e b u h
end

/-! ### the environment against the slots -/
abbrev Bor := List (Nat × Addr)
def CellOk (K : PySem.W.Frag) (H0 : Hp) (B : Bor) (H Hf : Hp) (i : Nat) (v : V) : Cell → Prop
  | .sh d => Rp K Hf v d
  | .ow d => Own K H Hf v d ∧ ∀ a, v = .ref a → H0 a = none
  | .bo d => Own K H Hf v d ∧ ∀ a, v = .ref a → (i, a) ∈ B
structure Rel (K : PySem.W.Frag) (H0 : Hp) (B : Bor) (σ : L2.St) (H Hf : Hp) (ρ : Env) : Prop where
  ext : Same Hf H
  len : σ.length = ρ.length
  get : ∀ i c, getC ρ i = some c → ∃ v, σ[i]? = some (some v) ∧ CellOk K H0 B H Hf i v c
  sep : ∀ i j c c' a, getC ρ i = some c → getC ρ j = some c' → c.isMut = true → c'.isMut = true → σ[i]? = some (some (.ref a)) → σ[j]? = some (some (.ref a)) → i = j
  ent : ∀ a o, H0 a = some o → (∀ i, (i, a) ∉ B) → H a = some o
  bor : ∀ i a, (i, a) ∈ B → σ[i]? = some (some (.ref a)) ∧ ∃ d, getC ρ i = some (.bo d)
/-- an address that a name at ms may change -/
def MutAt (σ : L2.St) (ρ : Env) (ms : List Nat) (a : Addr) : Prop := ∃ i, i ∈ ms ∧ ∃ c, getC ρ i = some c ∧ c.isMut = true ∧ σ[i]? = some (some (V.ref a))
def Fr (σ : L2.St) (ρ : Env) (ms : List Nat) (H H' : Hp) : Prop := ∀ a o, H a = some o → ¬ MutAt σ ρ ms a → H' a = some o
/-- no name comes to own anything -/
structure Le (ρ ρ' : Env) : Prop where
  len : ρ'.length = ρ.length
  mu : ∀ i c', getC ρ' i = some c' → c'.isMut = true → ∃ c, getC ρ i = some c ∧ c.isMut = true
theorem Le.refl (ρ : Env) : Le ρ ρ := ⟨rfl, fun i c h m => ⟨c, h, m⟩⟩
theorem Le.trans {a b c : Env} (h : Le a b) (h' : Le b c) : Le a c := ⟨h'.len.trans h.len, fun i x hx m => by
  obtain ⟨y, hy, my⟩ := h'.mu i x hx m
  exact h.mu i y hy my⟩
theorem MutAt.up {σ : L2.St} {ρ ρ' : Env} {ms ms' : List Nat} {a : Addr} (l : Le ρ ρ') (s : ∀ i ∈ ms, i ∈ ms') (h : MutAt σ ρ' ms a) : MutAt σ ρ ms' a := by
  obtain ⟨i, hi, c, hc, m, e⟩ := h
  obtain ⟨c', hc', m'⟩ := l.mu i c hc m
  exact ⟨i, s i hi, c', hc', m', e⟩
theorem Fr.refl (σ : L2.St) (ρ : Env) (ms : List Nat) (H : Hp) : Fr σ ρ ms H H := fun _ _ h _ => h
theorem Fr.same {σ : L2.St} {ρ : Env} {ms : List Nat} {H H' : Hp} (e : Same H H') : Fr σ ρ ms H H' := fun a o h _ => e a o h
theorem Fr.trans {σ : L2.St} {ρ ρ' : Env} {ms ms1 ms2 : List Nat} {H H1 H2 : Hp} (a : Fr σ ρ ms1 H H1) (l : Le ρ ρ') (b : Fr σ ρ' ms2 H1 H2) (s1 : ∀ i ∈ ms1, i ∈ ms) (s2 : ∀ i ∈ ms2, i ∈ ms) : Fr σ ρ ms H H2 :=
  fun x o h n => b x o (a x o h fun m => n (m.up (Le.refl ρ) s1)) fun m => n (m.up l s2)
/-- what an expression leaves: its value's relation -/
def ResOk (K : PySem.W.Frag) (H0 : Hp) (σ : L2.St) (ρ' : Env) (H' Hf' : Hp) (v : V) (d : PD) (fr : Bool) : Prop :=
  if fr = true then Own K H' Hf' v d ∧ ∀ a, v = .ref a → H0 a = none ∧ ∀ i c, getC ρ' i = some c → c.isMut = true → σ[i]? ≠ some (some (.ref a)) else Rp K Hf' v d
/-- what was no name's own is frozen as before -/
def Gr (σ : L2.St) (ρ : Env) (H Hf Hf' : Hp) : Prop := ∀ b u, H b = some u → (¬ ∃ i c, getC ρ i = some c ∧ c.isMut = true ∧ σ[i]? = some (some (V.ref b))) → Hf' b = Hf b
/-- from (ρ, H, Hf) to (ρ', H', Hf') -/
structure Step (K : PySem.W.Frag) (H0 : Hp) (B : Bor) (σ : L2.St) (ms : List Nat) (ρ : Env) (H Hf : Hp) (ρ' : Env) (H' Hf' : Hp) : Prop where
  ext : Same Hf Hf'
  rel : Rel K H0 B σ H' Hf' ρ'
  fr : Fr σ ρ ms H H'
  gr : Gr σ ρ H Hf Hf'
  le : Le ρ ρ'
theorem Step.refl {K : PySem.W.Frag} {H0 : Hp} {B : Bor} {σ : L2.St} {ms : List Nat} {ρ : Env} {H Hf : Hp} (R : Rel K H0 B σ H Hf ρ) : Step K H0 B σ ms ρ H Hf ρ H Hf :=
  ⟨fun _ _ h => h, R, Fr.refl _ _ _ _, fun _ _ _ _ => rfl, Le.refl _⟩
theorem Step.trans {K : PySem.W.Frag} {H0 : Hp} {B : Bor} {σ : L2.St} {ms ms1 ms2 : List Nat} {ρ ρ1 ρ2 : Env} {H Hf H1 Hf1 H2 Hf2 : Hp} (a : Step K H0 B σ ms1 ρ H Hf ρ1 H1 Hf1) (b : Step K H0 B σ ms2 ρ1 H1 Hf1 ρ2 H2 Hf2)
    (s1 : ∀ i ∈ ms1, i ∈ ms) (s2 : ∀ i ∈ ms2, i ∈ ms) : Step K H0 B σ ms ρ H Hf ρ2 H2 Hf2 :=
  ⟨Same.trans a.ext b.ext, b.rel, a.fr.trans a.le b.fr s1 s2, fun x u h n => by
    have h1 := a.fr x u h fun ⟨i, _, c, hc, m, e⟩ => n ⟨i, c, hc, m, e⟩
    refine (b.gr x u h1 fun ⟨i, c, hc, m, e⟩ => ?_).trans (a.gr x u h n)
    obtain ⟨c', hc', m'⟩ := a.le.mu i c hc m
    exact n ⟨i, c', hc', m', e⟩, a.le.trans b.le⟩
theorem Step.more {K : PySem.W.Frag} {H0 : Hp} {B : Bor} {σ : L2.St} {ms ms1 : List Nat} {ρ ρ1 : Env} {H Hf H1 Hf1 : Hp} (a : Step K H0 B σ ms1 ρ H Hf ρ1 H1 Hf1) (s1 : ∀ i ∈ ms1, i ∈ ms) : Step K H0 B σ ms ρ H Hf ρ1 H1 Hf1 :=
  ⟨a.ext, a.rel, fun x o h n => a.fr x o h fun m => n (m.up (Le.refl ρ) s1), a.gr, a.le⟩
/-- a new address, or one that a name owned -/
def NewOk (σ : L2.St) (ρ : Env) (H : Hp) (v : V) : Prop := ∀ a, v = .ref a → H a = none ∨ ∃ i c, getC ρ i = some c ∧ c.isMut = true ∧ σ[i]? = some (some (V.ref a))
def PostE (K : PySem.W.Frag) (H0 : Hp) (B : Bor) (σ : L2.St) (ρ : Env) (ms : List Nat) (H Hf : Hp) (d : PD) (fr : Bool) (ρ' : Env) (v : V) (H' : Hp) : Prop :=
  ∃ Hf', Step K H0 B σ ms ρ H Hf ρ' H' Hf' ∧ ResOk K H0 σ ρ' H' Hf' v d fr ∧ (fr = true → NewOk σ ρ H v)
def PostA (K : PySem.W.Frag) (H0 : Hp) (B : Bor) (σ : L2.St) (ρ : Env) (ms : List Nat) (H Hf : Hp) (ds : List PD) (ρ' : Env) (vs : List V) (H' : Hp) : Prop :=
  ∃ Hf', Step K H0 B σ ms ρ H Hf ρ' H' Hf' ∧ RpA K Hf' vs ds

section
variable {K : PySem.W.Frag} {H0 H H' Hf Hf' : Hp} {B : Bor} {σ : L2.St} {ρ ρ' : Env} {i : Nat} {v : V} {d : PD}
theorem getC_set_self {c : Cell} (h : i < ρ.length) : getC (ρ.set i (some c)) i = some c := by
  unfold getC
  rw [List.getElem?_set_self h]
theorem getC_set_none : getC (ρ.set i none) i = none := by
  unfold getC
  by_cases h : i < ρ.length
  · rw [List.getElem?_set_self h]
  · rw [List.getElem?_eq_none (by simpa using h)]
theorem getC_set_ne {c : Option Cell} {j : Nat} (h : i ≠ j) : getC (ρ.set i c) j = getC ρ j := by
  unfold getC
  rw [List.getElem?_set_ne h]
theorem getC_lt {c : Cell} (h : getC ρ i = some c) : i < ρ.length := by
  unfold getC at h
  by_cases q : i < ρ.length
  · exact q
  · rw [List.getElem?_eq_none (by simpa using q)] at h
    simp at h
/-- an owned address is none of the frozen ones, and is tracked -/
theorem Rel.own (R : Rel K H0 B σ H Hf ρ) {c : Cell} (h : getC ρ i = some c) (m : c.isMut = true) : ∃ a, σ[i]? = some (some (.ref a)) ∧ Hf a = none ∧ (∃ u, H a = some u) ∧ Own K H Hf (.ref a) c.dat ∧ (H0 a = none ∨ (i, a) ∈ B) := by
  obtain ⟨v, hv, ok⟩ := R.get i c h
  cases c with
  | sh d => simp [Cell.isMut] at m
  | ow d =>
    obtain ⟨o, n⟩ := ok
    obtain ⟨a, rfl, h1, h2⟩ := o.ref
    exact ⟨a, hv, h1, h2, o, Or.inl (n a rfl)⟩
  | bo d =>
    obtain ⟨o, n⟩ := ok
    obtain ⟨a, rfl, h1, h2⟩ := o.ref
    exact ⟨a, hv, h1, h2, o, Or.inr (n a rfl)⟩
/-- the heap has moved on; what names own stands -/
theorem Rel.move (R : Rel K H0 B σ H Hf ρ) (e1 : Same Hf Hf') (e2 : Same Hf' H') (f : Fr σ ρ [] H H') (n : ∀ i c a, getC ρ i = some c → c.isMut = true → σ[i]? = some (some (.ref a)) → Hf' a = none) : Rel K H0 B σ H' Hf' ρ := by
  have st : ∀ a u, H a = some u → H' a = some u := fun a u h => f a u h (fun ⟨i, hi, _⟩ => by simp at hi)
  refine ⟨e2, R.len, fun i c h => ?_, R.sep, fun a o h hb => st a o (R.ent a o h hb), R.bor⟩
  obtain ⟨v, hv, ok⟩ := R.get i c h
  refine ⟨v, hv, ?_⟩
  cases c with
  | sh d => exact Rp.mono e1 ok
  | ow d => exact ⟨ok.1.keep e1 (fun a u _ q => st a u q) (fun a ea => n i _ a h rfl (by rw [hv, ea])), ok.2⟩
  | bo d => exact ⟨ok.1.keep e1 (fun a u _ q => st a u q) (fun a ea => n i _ a h rfl (by rw [hv, ea])), ok.2⟩
/-- a new object is frozen at once -/
theorem Rel.fresh {a : Addr} {o : HO} (R : Rel K H0 B σ H Hf ρ) (n : H a = none) : Same Hf (upd Hf a o) ∧ Same (upd Hf a o) (upd H a o) ∧ Same H (upd H a o) ∧ Rel K H0 B σ (upd H a o) (upd Hf a o) ρ := by
  have nf : Hf a = none := Same.free R.ext n
  have s1 : Same Hf (upd Hf a o) := fun b u h => by
    rw [upd_ne (ne_of_none h nf)]
    exact h
  have s3 : Same H (upd H a o) := fun b u h => by
    rw [upd_ne (ne_of_none h n)]
    exact h
  have s2 : Same (upd Hf a o) (upd H a o) := fun b u h => by
    by_cases e : b = a
    · subst e
      rw [upd_same] at h ⊢
      exact h
    · rw [upd_ne e] at h ⊢
      exact R.ext b u h
  refine ⟨s1, s2, s3, R.move s1 s2 (Fr.same s3) fun i c b h m e => ?_⟩
  obtain ⟨b', e', h1, ⟨u, h2⟩, _⟩ := R.own h m
  have eb : b' = b := by
    rw [e] at e'
    cases e'
    rfl
  subst eb
  rw [upd_ne (ne_of_none h2 n)]
  exact h1
/-- the heap grows beside -/
theorem Rel.grow {a : Addr} {o : HO} (R : Rel K H0 B σ H Hf ρ) (n : H a = none) : Same H (upd H a o) ∧ Rel K H0 B σ (upd H a o) Hf ρ := by
  have s3 : Same H (upd H a o) := fun b u h => by
    rw [upd_ne (ne_of_none h n)]
    exact h
  refine ⟨s3, R.move (fun _ _ h => h) (Same.trans R.ext s3) (Fr.same s3) fun i c b h m e => ?_⟩
  obtain ⟨b', e', h1, _⟩ := R.own h m
  have eb : b' = b := by
    rw [e] at e'
    cases e'
    rfl
  subst eb
  exact h1
theorem Rel.h0 (R : Rel K H0 B σ H Hf ρ) {a : Addr} (n : H a = none) : H0 a = none := by
  cases q : H0 a with
  | none => rfl
  | some o =>
    by_cases hb : ∃ i, (i, a) ∈ B
    · obtain ⟨i, hi⟩ := hb
      obtain ⟨e, d, g⟩ := R.bor i a hi
      obtain ⟨b, e', _, ⟨u, h2⟩, _⟩ := R.own g rfl
      rw [e] at e'
      cases e'
      rw [n] at h2
      cases h2
    · have := R.ent a o q fun i hi => hb ⟨i, hi⟩
      rw [n] at this
      cases this
/-- a result is given up -/
theorem PostE.frz {ms : List Nat} {fr : Bool} {v : V} (p : PostE K H0 B σ ρ ms H Hf d fr ρ' v H') : PostE K H0 B σ ρ ms H Hf d false ρ' v H' := by
  obtain ⟨Hf1, S, r, hn0⟩ := p
  cases fr with
  | false => exact ⟨Hf1, S, r, fun z => nomatch z⟩
  | true =>
    obtain ⟨o, hn⟩ := r
    obtain ⟨Hf2, s1, s2, rp, ne⟩ := o.freeze S.rel.ext
    obtain ⟨a, rfl, _, _⟩ := o.ref
    refine ⟨Hf2, ⟨Same.trans S.ext s1, S.rel.move s1 s2 (Fr.refl _ _ _ _) fun i c b hc m e => ?_, S.fr, fun b u h n => ?_, S.le⟩, rp, fun z => nomatch z⟩
    · obtain ⟨b', e', h1, _⟩ := S.rel.own hc m
      have eb : b' = b := by
        rw [e] at e'
        cases e'
        rfl
      subst eb
      rw [ne b' fun z => (hn a rfl).2 i c hc m (by rw [e, z])]
      exact h1
    · rw [ne b fun z => ?_]
      · exact S.gr b u h n
      · have eb : a = b := V.ref.inj z
        subst eb
        rcases hn0 rfl a rfl with q | q
        · rw [h] at q
          cases q
        · exact n q
end
end DD

-- part DOps
set_option Elab.async false
set_option linter.all false
set_option maxRecDepth 100000
/-! Operators and built-in functions by values: what the rules of the hand layer give for data. -/
namespace PySem
open AutoListH (joined_fits)
theorem dd_mul_list (l : Addr) (xs : Array Value) (n : Nat) (k : Int) (t : Tok) (sl : Array (Option Value)) (c0 : ¬(!Builtin.List.listFitsIndex k) = true) (c1 : ¬xs.size * k.toNat > (2 ^ 63 - 1) / 8) (c2 : ¬Builtin.List.listTooLong (xs.size * k.toNat) = true) :
    Meets (Builtin.«list.__mul__» ⟨[.ref l, .int k t], []⟩) (fun _ R s => s.heap.get? l = some { cls := .type "list", dict := none, data := .seq xs n, slots := sl } ∧
      R (.ok (.ret (Value.ref s.heap.objs.size))) { s with heap := s.heap.push { cls := Value.type "list", data := Data.seq (List.foldl (fun x1 x2 => x1 ++ x2) #[] (List.replicate (if xs.isEmpty = true then 0 else k.toNat) xs)) } }) :=
  .of_wp fun prog w A R s h => by
    obtain ⟨hp, g, d, tk, os⟩ := s
    obtain ⟨hl, h⟩ := h
    have fit := joined_fits c2
    wp_walk
    refine wpAny_ite_false (decide_eq_false (Nat.not_lt.mpr fit)) ?_
    wp_walk
    exact ⟨_, rfl, h⟩
theorem dd_rmul_list (k : Int) (t : Tok) (l : Addr) (xs : Array Value) (n : Nat) (sl : Array (Option Value)) :
    Meets (Builtin.«int.__rmul__» ⟨[.int k t, .ref l], []⟩) (fun _ R s => s.heap.get? l = some { cls := .type "list", dict := none, data := .seq xs n, slots := sl } ∧ R (.ok (.ret Value.notImplemented)) s) :=
  .of_wp fun prog w A R s h => by
    obtain ⟨hp, g, d, tk, os⟩ := s
    obtain ⟨hl, h⟩ := h
    wp_walk
    exact ⟨_, rfl, h⟩
end PySem
namespace DD
open PySem PySem.Spec PyProof.Rows L2

theorem lim_line {n : Nat} (h : n ≤ LIM) : n ≤ sizeLine := by
  rw [sizeLine_eq]
  exact Nat.le_trans h (by decide)
theorem lim_lt {n : Nat} (h : n ≤ LIM) : n < sizeLine := by
  rw [sizeLine_eq]
  exact Nat.lt_of_le_of_lt h (by decide)

def PostV (K : PySem.W.Frag) (H Hf : Hp) (d : PD) (fr : Bool) (v : V) (H' : Hp) : Prop :=
  ∃ Hf', Same Hf Hf' ∧ Same Hf' H' ∧ Same H H' ∧ (∀ b u, H b = some u → Hf' b = Hf b) ∧
    (if fr = true then Own K H' Hf' v d ∧ ∀ a, v = .ref a → H a = none else Rp K Hf' v d)
section
variable {K : PySem.W.Frag} {H Hf H' : Hp} {d : PD} {v : V} {fr : Bool} {xs : List V} {ds : List PD} {p : Addr}
theorem PostV.here (e : Same Hf H) (r : Rp K Hf v d) : PostV K H Hf d false v H := ⟨Hf, fun _ _ h => h, e, fun _ _ h => h, fun _ _ _ => rfl, r⟩
theorem upd_pair {o : HO} (e : Same Hf H) (n : H p = none) : Same Hf (upd Hf p o) ∧ Same (upd Hf p o) (upd H p o) ∧ Same H (upd H p o) ∧ ∀ b u, H b = some u → upd Hf p o b = Hf b := by
  have nf : Hf p = none := Same.free e n
  refine ⟨fun b u h => ?_, fun b u h => ?_, fun b u h => ?_, fun b u h => ?_⟩
  · rw [upd_ne (ne_of_none h nf)]
    exact h
  · by_cases q : b = p
    · subst q
      rw [upd_same] at h ⊢
      exact h
    · rw [upd_ne q] at h ⊢
      exact e b u h
  · rw [upd_ne (ne_of_none h n)]
    exact h
  · rw [upd_ne (ne_of_none h n)]
theorem PostV.newT (e : Same Hf H) (n : H p = none) (r : RpA K Hf xs ds) : PostV K H Hf (.tuple ds) false (.ref p) (upd H p (.tup xs)) := by
  obtain ⟨s1, s2, s3, s4⟩ := upd_pair (o := .tup xs) e n
  exact ⟨_, s1, s2, s3, s4, Rp.tup (SqT.of upd_same) (r.mono s1)⟩
theorem PostV.newL (e : Same Hf H) (n : H p = none) (r : RpA K Hf xs ds) : PostV K H Hf (.list ds) true (.ref p) (upd H p (.lst xs)) := by
  have s3 : Same H (upd H p (.lst xs)) := fun b u h => by
    rw [upd_ne (ne_of_none h n)]
    exact h
  exact ⟨Hf, fun _ _ h => h, Same.trans e s3, s3, fun _ _ _ => rfl, Own.lst upd_same (Same.free e n) r, fun a ea => by
    cases ea
    exact n⟩
theorem PostV.newD {kvs : List (Key × V)} {dk : List (PD × PD)} (e : Same Hf H) (n : H p = none) (r : RpK K Hf kvs dk) : PostV K H Hf (.dict dk) true (.ref p) (upd H p (.dK kvs)) := by
  have s3 : Same H (upd H p (.dK kvs)) := fun b u h => by
    rw [upd_ne (ne_of_none h n)]
    exact h
  exact ⟨Hf, fun _ _ h => h, Same.trans e s3, s3, fun _ _ _ => rfl, Own.dic upd_same (Same.free e n) r, fun a ea => by
    cases ea
    exact n⟩
theorem PostV.frzV (p : PostV K H Hf d fr v H') : PostV K H Hf d false v H' := by
  obtain ⟨Hf1, s1, s2, s3, s4, r⟩ := p
  cases fr with
  | false => exact ⟨Hf1, s1, s2, s3, s4, r⟩
  | true =>
    obtain ⟨o, hn⟩ := r
    obtain ⟨Hf2, t1, t2, rp, ne⟩ := o.freeze s2
    obtain ⟨a, rfl, _, _⟩ := o.ref
    refine ⟨Hf2, Same.trans s1 t1, t2, s3, fun b u h => ?_, rp⟩
    rw [ne b fun z => ?_]
    · exact s4 b u h
    · cases z
      rw [hn a rfl] at h
      cases h
theorem PostV.toE {H0 : Hp} {B : Bor} {σ : L2.St} {ρ : Env} {ms : List Nat} (R : Rel K H0 B σ H Hf ρ) (p : PostV K H Hf d fr v H') : PostE K H0 B σ ρ ms H Hf d fr ρ v H' := by
  obtain ⟨Hf1, s1, s2, s3, s4, r⟩ := p
  have nn : ∀ i c a, getC ρ i = some c → c.isMut = true → σ[i]? = some (some (V.ref a)) → Hf1 a = none := fun i c a hc m e => by
    obtain ⟨b', e', h1, ⟨u, h2⟩, _⟩ := R.own hc m
    rw [e] at e'
    cases e'
    rw [s4 a u h2]
    exact h1
  refine ⟨Hf1, ⟨s1, R.move s1 s2 (Fr.same s3) nn, Fr.same s3, fun b u h _ => s4 b u h, Le.refl ρ⟩, ?_, fun z a ea => .inl (by
    subst z
    exact r.2 a ea)⟩
  cases fr with
  | false => exact r
  | true =>
    refine ⟨r.1, fun a ea => ⟨R.h0 (r.2 a ea), fun i c hc m z => ?_⟩⟩
    obtain ⟨b', e', _, ⟨u, h2⟩, _⟩ := R.own hc m
    rw [z] at e'
    cases e'
    rw [r.2 a ea] at h2
    cases h2
end

/-- a two-place rule is right for f -/
def R2Ok (K : PySem.W.Frag) (r : R2) (f : PD → PD → Option (PD × Bool)) : Prop := ∀ x y H Hf dx dy d fr, Same Hf H → Rp K Hf x dx → Rp K Hf y dy → f dx dy = some (d, fr) → ∀ Q : VK, (∀ v H', PostV K H Hf d fr v H' → Q v H') → r x y H Q
theorem OpR.or {X : Cx} {f : Value → Value → Sem Value} {r r' : R2} (h : OpR X f r) (h' : OpR X f r') : OpR X f (fun x y H Q => r x y H Q ∨ r' x y H Q) := by
  intro pins s σ H x y v u Q I rx ry q
  rcases q with q | q
  · exact h pins s σ H x y v u Q I rx ry q
  · exact h' pins s σ H x y v u Q I rx ry q
def rNo : R2 := fun _ _ _ _ => False
theorem op_no {X : Cx} {f : Value → Value → Sem Value} : OpR X f rNo := fun _ _ _ _ _ _ _ _ _ _ _ _ q => q.elim

/-- list + list, the first or the second may be locked -/
def rCatL (K : PySem.W.Frag) : R2 := fun x y H Q => ∃ l b xs zs, x = .ref l ∧ y = .ref b ∧ SqL K H l xs ∧ SqL K H b zs ∧ xs.length + zs.length ≤ sizeLine ∧ ∀ p, H p = none → Q (.ref p) (upd H p (.lst (xs ++ zs)))
theorem rd_lst {X : Cx} {pins : List (Addr × Obj)} {s : Shared} {σ : L2.St} {H : Hp} {l : Addr} {xs : List V} (I : Inv X pins σ H s) (h : SqL X.K H l xs) : ∃ (its : List Value) (n : Nat) (sl : Array (Option Value)), Vals xs its ∧ xs.length = its.length ∧
    s.heap.get? l = some { cls := .type "list", dict := none, data := .seq its.toArray n, slots := sl } := by
  obtain ⟨its, rv, ⟨⟨cc, dd, dt, sl⟩, n, ho, hc, hd, hdt⟩, _⟩ := I.list h
  replace hc : cc = .type "list" := hc
  replace hd : dd = none := hd
  replace hdt : dt = .seq its.toArray n := hdt
  subst hc hd hdt
  exact ⟨its, n, sl, rv, rv.length, ho⟩
theorem op_catL {X : Cx} : OpR X (binaryOp .Add) (rCatL X.K) := by
  intro pins s σ H x y v u Q I rx ry h
  obtain ⟨l, b, xs, zs, rfl, rfl, hH, hB, hz, q⟩ := h
  cases rx
  cases ry
  obtain ⟨ia, n, sl, r, hl, e⟩ := rd_lst I hH
  obtain ⟨ib, n2, sl2, r2, hl2, e2⟩ := rd_lst I hB
  refine concat_meets ⟨_, e, rfl⟩ ⟨_, e2, rfl⟩ noFill_list_add seq_list_add PySem.F.slot_list_add PySem.F.entry_list_add (PySem.F.args_list_add_2 _ _) (list_addW l b ia.toArray ib.toArray n n2 none none sl sl2 (by simp only [List.size_toArray]; omega)) ⟨e, e2, ?_⟩
  have ea : ia.toArray ++ ib.toArray = (ia ++ ib).toArray := by simp
  rw [ea]
  exact ⟨V.ref _, _, I.lnew (t' := s.toks) (r.append r2) (by rw [List.length_append]; omega), rfl, q _ I.fresh⟩

/-- list * int, the list may be locked -/
def rRepL (K : PySem.W.Frag) : R2 := fun x y H Q => ∃ l k xs, x = .ref l ∧ y = .int k ∧ SqL K H l xs ∧ 0 ≤ k ∧ k < 2 ^ 63 ∧ xs.length * k.toNat ≤ sizeLine ∧
  ∀ p, H p = none → Q (.ref p) (upd H p (.lst (List.replicate k.toNat xs).flatten))
theorem op_repL {X : Cx} : OpR X (binaryOp .Mult) (rRepL X.K) := by
  intro pins s σ H x y v u Q I rx ry h
  obtain ⟨l, k, xs, rfl, rfl, hH, h1, h2, hz, q⟩ := h
  cases rx
  obtain ⟨t, rfl⟩ := ry
  obtain ⟨ia, n, sl, r, hl, e⟩ := rd_lst I hH
  have sz : ia.toArray.size = ia.length := List.size_toArray
  have a1 : ia.toArray.size * k.toNat ≤ sizeLine := by
    rw [sz, ← hl]
    exact hz
  have a2 : ¬ ia.toArray.size * k.toNat > (2 ^ 63 - 1) / 8 := by
    have : (sizeLine : Nat) ≤ (2 ^ 63 - 1) / 8 := by decide
    omega
  have a3 : ¬ (!Builtin.List.listFitsIndex k) = true := by
    rw [fitsIndex_both (by omega) h2]
    simp
  have a4 : ¬ Builtin.List.listTooLong (ia.toArray.size * k.toNat) = true := by
    rw [notLongL a1]
    simp
  have f0 : ∀ m : Nat, List.foldl (fun x1 x2 => x1 ++ x2) #[] (List.replicate m ia.toArray) = (List.replicate m ia).flatten.toArray := fun m => by
    have q := foldl_rep ia m []
    rw [List.nil_append] at q
    exact q
  have a5 : List.foldl (fun x1 x2 => x1 ++ x2) #[] (List.replicate (if ia.toArray.isEmpty = true then 0 else k.toNat) ia.toArray) = (List.replicate k.toNat ia).flatten.toArray := by
    rw [f0]
    cases ia with
    | nil => simp
    | cons a r' => rw [if_neg (by simp)]
  have tl : s.TypeIs (.ref l) "list" := ⟨_, e, rfl⟩
  have m2 := call_meets (prog := X.prog) (w := X.w) (A := X.A) (E := X.xe) (Q := EP X pins σ Q) F.slot_list_mul tl F.entry_list_mul (F.args_list_mul_2 _ _) (dd_mul_list l ia.toArray n k t sl a3 a2 a4) ⟨e, by
    rw [a5]
    exact ⟨V.ref _, _, I.lnew (t' := s.toks) (r.rep k.toNat) (by rw [PyProof.Rows.lm_len_rep_flat, Nat.mul_comm]; exact hz), rfl, q _ I.fresh⟩⟩
  refine wpAny_binaryOp_repeat_ref (T := "list") (U := "int") (by decide) tl (fun s' => typeIs_int s' k t) noFill_list_mul F.fills_int_mul F.slot_int_rmul repeat_list F.slot_int_index.lookup ?_
  exact call_meets F.slot_int_rmul (typeIs_int s k t) F.entry_int_rmul (F.args_int_rmul_2 _ _) (dd_rmul_list k t l ia.toArray n sl) ⟨e, rfl, tl, m2⟩

/-- a bool and an int -/
def rBI (g : Int → Int → Int) : R2 := fun x y H Q => ∃ b j, x = .bl b ∧ y = .int j ∧ Q (.int (g (if b = true then 1 else 0) j)) H
theorem op_addBI {X : Cx} : OpR X (binaryOp .Add) (rBI fun i j => i + j) := by
  intro pins s σ H x y v u Q I rx ry h
  obtain ⟨b, j, rfl, rfl, q⟩ := h
  cases rx
  obtain ⟨t, rfl⟩ := ry
  exact PySem.IntBool.add_bool_int ⟨.int _, H, I.tok _, ⟨_, rfl⟩, q⟩
theorem op_subBI {X : Cx} : OpR X (binaryOp .Sub) (rBI fun i j => i - j) := by
  intro pins s σ H x y v u Q I rx ry h
  obtain ⟨b, j, rfl, rfl, q⟩ := h
  cases rx
  obtain ⟨t, rfl⟩ := ry
  exact PySem.IntBool.sub_bool_int ⟨.int _, H, I.tok _, ⟨_, rfl⟩, q⟩
def rBin (K : PySem.W.Frag) : Operator → R2
  | .Add => fun x y H Q => rI0 (fun i j => .int (i + j)) x y H Q ∨ (rCatA K x y H Q ∨ (rCatL K x y H Q ∨ rBI (fun i j => i + j) x y H Q))
  | .Sub => fun x y H Q => rI0 (fun i j => .int (i - j)) x y H Q ∨ rBI (fun i j => i - j) x y H Q
  | .Mult => fun x y H Q => rI CMul (fun i j => .int (i * j)) x y H Q ∨ (rRepL K x y H Q ∨ rRepT K x y H Q)
  | .FloorDiv => rI CDiv fun i j => .int (i / j)
  | .Mod => rI (fun _ j => 0 < j) fun i j => .int (i % j)
  | .Pow => rI CPow fun i j => .int (i ^ j.toNat)
  | _ => rNo
theorem bin_ok {X : Cx} (op : Operator) : OpR X (binaryOp op) (rBin X.K op) := by
  cases op with
  | Add => exact op_add.or (op_catA.or (op_catL.or op_addBI))
  | Sub => exact op_sub.or op_subBI
  | Mult => exact op_mul.or (op_repL.or op_repT)
  | FloorDiv => exact op_fdiv
  | Mod => exact op_mod
  | Pow => exact op_pow
  | _ => exact op_no
theorem nil_of_len {α β : Type} {xs : List α} {ds : List β} (h : xs.length = ds.length) : xs = [] ↔ ds = [] := by
  cases xs <;> cases ds <;> simp_all
theorem RpA.flat {K : PySem.W.Frag} {H : Hp} {xs : List V} {ds : List PD} (r : RpA K H xs ds) : ∀ n : Nat, RpA K H (List.replicate n xs).flatten (List.replicate n ds).flatten
  | 0 => .nil
  | n + 1 => by
    rw [List.replicate_succ, List.replicate_succ, List.flatten_cons, List.flatten_cons]
    exact r.append (RpA.flat r n)
theorem bin_sound (K : PySem.W.Frag) (op : Operator) : R2Ok K (rBin K op) (binV op) := by
  intro x y H Hf dx dy d fr e rx ry h Q q
  cases op with
  | Add =>
    cases dx with
    | int i =>
      cases dy with
      | int j =>
        simp only [binV, Option.some.injEq, Prod.mk.injEq] at h
        obtain ⟨rfl, rfl⟩ := h
        exact Or.inl ⟨i, j, rx.int_inv, ry.int_inv, q _ _ (PostV.here e (.int _))⟩
      | _ => simp [binV] at h
    | tuple xs =>
      cases dy with
      | tuple ys =>
        simp only [binV] at h
        split at h
        · rename_i hz
          simp only [Option.some.injEq, Prod.mk.injEq] at h
          obtain ⟨rfl, rfl⟩ := h
          obtain ⟨a, vs, rfl, s1, r1⟩ := rx.tup_inv
          obtain ⟨b, ws, rfl, s2, r2⟩ := ry.tup_inv
          have l1 := r1.length
          have l2 := r2.length
          refine Or.inr (Or.inl ⟨a, b, vs, ws, rfl, rfl, Same.sqt e s1, Same.sqt e s2, lim_line (by omega), fun z => ?_, fun _ z => ?_, fun _ _ p n => ?_⟩)
          · have : xs = [] := (nil_of_len l1).mp z
            subst this
            exact q _ _ (PostV.here e ry)
          · have : ys = [] := (nil_of_len l2).mp z
            subst this
            rw [List.append_nil] at q
            exact q _ _ (PostV.here e rx)
          · exact q _ _ (PostV.newT e n (r1.append r2))
        · cases h
      | _ => simp [binV] at h
    | list xs =>
      cases dy with
      | list ys =>
        simp only [binV] at h
        split at h
        · rename_i hz
          simp only [Option.some.injEq, Prod.mk.injEq] at h
          obtain ⟨rfl, rfl⟩ := h
          obtain ⟨a, vs, rfl, s1, r1⟩ := rx.lst_inv
          obtain ⟨b, ws, rfl, s2, r2⟩ := ry.lst_inv
          have l1 := r1.length
          have l2 := r2.length
          exact Or.inr (Or.inr (Or.inl ⟨a, b, vs, ws, rfl, rfl, Same.sql e s1, Same.sql e s2, lim_line (by omega), fun p n => q _ _ (PostV.newL e n (r1.append r2))⟩))
        · cases h
      | _ => simp [binV] at h
    | bool b =>
      cases dy with
      | int j =>
        simp only [binV, Option.some.injEq, Prod.mk.injEq] at h
        obtain ⟨rfl, rfl⟩ := h
        exact Or.inr (Or.inr (Or.inr ⟨b, j, rx.bl_inv, ry.int_inv, q _ _ (PostV.here e (.int _))⟩))
      | _ => simp [binV] at h
    | _ => simp [binV] at h
  | Sub =>
    cases dx with
    | int i =>
      cases dy with
      | int j =>
        simp only [binV, Option.some.injEq, Prod.mk.injEq] at h
        obtain ⟨rfl, rfl⟩ := h
        exact Or.inl ⟨i, j, rx.int_inv, ry.int_inv, q _ _ (PostV.here e (.int _))⟩
      | _ => simp [binV] at h
    | bool b =>
      cases dy with
      | int j =>
        simp only [binV, Option.some.injEq, Prod.mk.injEq] at h
        obtain ⟨rfl, rfl⟩ := h
        exact Or.inr ⟨b, j, rx.bl_inv, ry.int_inv, q _ _ (PostV.here e (.int _))⟩
      | _ => simp [binV] at h
    | _ => simp [binV] at h
  | Mult =>
    cases dx with
    | int i =>
      cases dy with
      | int j =>
        simp only [binV] at h
        split at h
        · rename_i hz
          simp only [Option.some.injEq, Prod.mk.injEq] at h
          obtain ⟨rfl, rfl⟩ := h
          exact Or.inl ⟨i, j, rx.int_inv, ry.int_inv, hz, q _ _ (PostV.here e (.int _))⟩
        · cases h
      | _ => simp [binV] at h
    | list xs =>
      cases dy with
      | int j =>
        simp only [binV] at h
        split at h
        · rename_i hz
          simp only [Option.some.injEq, Prod.mk.injEq] at h
          obtain ⟨rfl, rfl⟩ := h
          obtain ⟨a, vs, rfl, s1, r1⟩ := rx.lst_inv
          have l1 := r1.length
          refine Or.inr (Or.inl ⟨a, j, vs, rfl, ry.int_inv, Same.sql e s1, hz.1, ?_, ?_, fun p n => q _ _ (PostV.newL e n (r1.flat _))⟩)
          · have := hz.2.1
            unfold LIM at this
            omega
          · rw [l1]
            exact lim_line hz.2.2
        · cases h
      | _ => simp [binV] at h
    | tuple xs =>
      cases dy with
      | int j =>
        simp only [binV] at h
        split at h
        · rename_i hz
          simp only [Option.some.injEq, Prod.mk.injEq] at h
          obtain ⟨rfl, rfl⟩ := h
          obtain ⟨a, vs, rfl, s1, r1⟩ := rx.tup_inv
          have l1 := r1.length
          refine Or.inr (Or.inr ⟨a, j, vs, rfl, ry.int_inv, Same.sqt e s1, fun z => ?_, hz.2.1, hz.2.2.1, by rw [l1]; exact hz.2.2.2, fun p n => q _ _ (PostV.newT e n (r1.flat _))⟩)
          have : xs = [] := (nil_of_len l1).mp z
          subst this
          simp at hz
        · cases h
      | _ => simp [binV] at h
    | _ => simp [binV] at h
  | FloorDiv =>
    cases dx with
    | int i =>
      cases dy with
      | int j =>
        simp only [binV] at h
        split at h
        · rename_i hz
          simp only [Option.some.injEq, Prod.mk.injEq] at h
          obtain ⟨rfl, rfl⟩ := h
          exact ⟨i, j, rx.int_inv, ry.int_inv, hz, q _ _ (PostV.here e (.int _))⟩
        · cases h
      | _ => simp [binV] at h
    | _ => simp [binV] at h
  | Mod =>
    cases dx with
    | int i =>
      cases dy with
      | int j =>
        simp only [binV] at h
        split at h
        · rename_i hz
          simp only [Option.some.injEq, Prod.mk.injEq] at h
          obtain ⟨rfl, rfl⟩ := h
          exact ⟨i, j, rx.int_inv, ry.int_inv, hz, q _ _ (PostV.here e (.int _))⟩
        · cases h
      | _ => simp [binV] at h
    | _ => simp [binV] at h
  | Pow =>
    cases dx with
    | int i =>
      cases dy with
      | int j =>
        simp only [binV] at h
        split at h
        · rename_i hz
          simp only [Option.some.injEq, Prod.mk.injEq] at h
          obtain ⟨rfl, rfl⟩ := h
          exact ⟨i, j, rx.int_inv, ry.int_inv, hz, q _ _ (PostV.here e (.int _))⟩
        · cases h
      | _ => simp [binV] at h
    | _ => simp [binV] at h
  | _ => simp [binV] at h
end DD

-- part DCmp
set_option Elab.async false
set_option linter.all false
set_option maxRecDepth 100000
/-! Comparisons by values. -/
namespace DD
open PySem PySem.Spec PyProof.Rows L2

def R2B (K : PySem.W.Frag) (r : R2) (f : PD → PD → Option Bool) : Prop := ∀ x y H Hf dx dy b, Same Hf H → Rp K Hf x dx → Rp K Hf y dy → f dx dy = some b → ∀ Q : VK, Q (.bl b) H → r x y H Q
theorem room_in {A : Around} {d : PD} {ds : List PD} (sd : shp d = true) (hu : A.units + 65 < cLine) : A.units + 1 + min (PyData.depthAll ds) d.depth < cLine := by
  have h1 := SeqAt.depth_of_shaped sd
  have h2 := Nat.min_le_right (PyData.depthAll ds) d.depth
  omega
def rInT (K : PySem.W.Frag) (neg : Bool) : R2 := fun x y H Q => ∃ d ds, Dp K H x d ∧ Dp K H y (.tuple ds) ∧ SeqAt.shaped d = true ∧ SeqAt.shaped (.tuple ds) = true ∧ Q (.bl (if neg then !inD d ds else inD d ds)) H
theorem op_inT {X : Cx} (hu : X.A.units + 65 < cLine) : OpR X (compareOp .In) (rInT X.K false) := by
  intro pins s σ H x y v u Q I rx ry ⟨d, ds, hd, he, sd, se, q⟩
  obtain ⟨c1, r1⟩ := Dp.reads I d x v hd rx
  obtain ⟨c2, r2⟩ := Dp.reads I (.tuple ds) y u he ry
  have hc : PyData.canLayAll0 ds = true := by
    have := SeqAt.canLay_of_shaped se
    simpa [PyData.canLay0] using this
  exact SeqAt.in_tuple_reads r2 r1 hc (SeqAt.canLay_of_shaped sd) (room_in sd hu) ⟨V.bl _, H, I, rfl, q⟩
theorem op_notInT {X : Cx} (hu : X.A.units + 65 < cLine) : OpR X (compareOp .NotIn) (rInT X.K true) := by
  intro pins s σ H x y v u Q I rx ry ⟨d, ds, hd, he, sd, se, q⟩
  obtain ⟨c1, r1⟩ := Dp.reads I d x v hd rx
  obtain ⟨c2, r2⟩ := Dp.reads I (.tuple ds) y u he ry
  have hc : PyData.canLayAll0 ds = true := by
    have := SeqAt.canLay_of_shaped se
    simpa [PyData.canLay0] using this
  exact SeqAt.notIn_tuple_reads r2 r1 hc (SeqAt.canLay_of_shaped sd) (room_in sd hu) ⟨V.bl _, H, I, rfl, q⟩
/-- k in a dict -/
def rInK (neg : Bool) : R2 := fun x y H Q => ∃ a o, y = .ref a ∧ DGet H a x o ∧ Q (.bl (if neg then !o.isSome else o.isSome)) H
theorem op_inK {X : Cx} (hu : X.A.units + 65 < cLine) : OpR X (compareOp .In) (rInK false) := by
  intro pins s σ H x y v u Q I rx ry ⟨a, o, ey, g, q⟩
  subst ey
  cases ry
  exact d_in (by omega) I g rx fun s' I' => ⟨V.bl _, H, I', rfl, q⟩
theorem op_notInK {X : Cx} (hu : X.A.units + 65 < cLine) : OpR X (compareOp .NotIn) (rInK true) := by
  intro pins s σ H x y v u Q I rx ry ⟨a, o, ey, g, q⟩
  subst ey
  cases ry
  exact d_notIn (by omega) I g rx fun s' I' => ⟨V.bl _, H, I', rfl, q⟩
def rIsNon : R2 := fun x y H Q => y = .non ∧ Q (.bl (decide (x = .non))) H
def rNotNon : R2 := fun x y H Q => y = .non ∧ Q (.bl (!decide (x = .non))) H
def rCmp (K : PySem.W.Frag) : CmpOp → R2
  | .Eq => rEqD K
  | .NotEq => rNeD K
  | .Lt => rI0 fun i j => .bl (decide (i < j))
  | .LtE => rI0 fun i j => .bl (decide (i ≤ j))
  | .Gt => rI0 fun i j => .bl (decide (j < i))
  | .GtE => rI0 fun i j => .bl (decide (j ≤ i))
  | .In => fun x y H Q => rInD K x y H Q ∨ (rInT K false x y H Q ∨ rInK false x y H Q)
  | .NotIn => fun x y H Q => rNotInD K x y H Q ∨ (rInT K true x y H Q ∨ rInK true x y H Q)
  | .Is => fun x y H Q => rIsNon x y H Q ∨ rIsB x y H Q
  | .IsNot => fun x y H Q => rNotNon x y H Q ∨ rNotB x y H Q
theorem cmp_ok {X : Cx} (hu : X.A.units + 65 < cLine) (op : CmpOp) : OpR X (compareOp op) (rCmp X.K op) := by
  cases op with
  | Eq => exact op_eqD (by omega)
  | NotEq => exact op_neD (by omega)
  | Lt => exact op_lt
  | LtE => exact op_le
  | Gt => exact op_gt
  | GtE => exact op_ge
  | In => exact (op_inD hu).or ((op_inT hu).or (op_inK hu))
  | NotIn => exact (op_notInD hu).or ((op_notInT hu).or (op_notInK hu))
  | Is => exact op_isN.or op_isBl
  | IsNot => exact op_notN.or op_notBl
theorem Rp.non_dec {K : PySem.W.Frag} {H : Hp} {v : V} {d : PD} (r : Rp K H v d) : decide (v = V.non) = isNon d := by
  cases r <;> simp [isNon]
theorem valV_keyAt {K : PySem.W.Frag} {H : Hp} (k : Int) : ∀ {kvs : List (Key × V)} {ds : List (PD × PD)}, RpK K H kvs ds →
    match keyAt ds k with
    | some d => ∃ v, valV kvs (Sum.inl k : Key) = some v ∧ Rp K H v d
    | none => valV kvs (Sum.inl k : Key) = none
  | _, _, .nil => by simp [keyAt, valV]
  | _, _, .cons (k := j) (v := v) (vs := vs) (d := d) (ds := ds) a b => by
    have ih := valV_keyAt k b
    by_cases e : j = k
    · subst e
      simp only [keyAt, if_true]
      exact ⟨v, valV_pos rfl, a⟩
    · have ne : ¬ (Sum.inl j : Key) = Sum.inl k := fun z => e (Sum.inl.inj z)
      have e2 : valV (((Sum.inl j : Key), v) :: vs) (Sum.inl k) = valV vs (Sum.inl k) := valV_neg (p := ((Sum.inl j : Key), v)) ne
      simp only [keyAt, if_neg e, e2]
      exact ih
theorem cmp_sound (K : PySem.W.Frag) (op : CmpOp) : R2B K (rCmp K op) (cmpV op) := by
  intro x y H Hf dx dy b e rx ry h Q q
  have eqs : ∀ {c : Bool}, (if (shp dx && shp dy) = true then some c else none) = some b → shp dx = true ∧ shp dy = true ∧ c = b := fun {c} hh => by
    split at hh
    · rename_i z
      rw [Bool.and_eq_true] at z
      exact ⟨z.1, z.2, Option.some.inj hh⟩
    · cases hh
  cases op with
  | Eq =>
    simp only [cmpV] at h
    obtain ⟨s1, s2, rfl⟩ := eqs h
    exact ⟨dx, dy, (rx.mono e).dpS s1, (ry.mono e).dpS s2, s1, s2, q⟩
  | NotEq =>
    simp only [cmpV] at h
    obtain ⟨s1, s2, rfl⟩ := eqs h
    exact ⟨dx, dy, (rx.mono e).dpS s1, (ry.mono e).dpS s2, s1, s2, q⟩
  | Lt =>
    cases dx with
    | int i =>
      cases dy with
      | int j =>
        simp only [cmpV, Option.some.injEq] at h
        subst h
        exact ⟨i, j, rx.int_inv, ry.int_inv, q⟩
      | _ => simp [cmpV] at h
    | _ => simp [cmpV] at h
  | LtE =>
    cases dx with
    | int i =>
      cases dy with
      | int j =>
        simp only [cmpV, Option.some.injEq] at h
        subst h
        exact ⟨i, j, rx.int_inv, ry.int_inv, q⟩
      | _ => simp [cmpV] at h
    | _ => simp [cmpV] at h
  | Gt =>
    cases dx with
    | int i =>
      cases dy with
      | int j =>
        simp only [cmpV, Option.some.injEq] at h
        subst h
        exact ⟨i, j, rx.int_inv, ry.int_inv, q⟩
      | _ => simp [cmpV] at h
    | _ => simp [cmpV] at h
  | GtE =>
    cases dx with
    | int i =>
      cases dy with
      | int j =>
        simp only [cmpV, Option.some.injEq] at h
        subst h
        exact ⟨i, j, rx.int_inv, ry.int_inv, q⟩
      | _ => simp [cmpV] at h
    | _ => simp [cmpV] at h
  | In =>
    cases dy with
    | list ys =>
      simp only [cmpV] at h
      obtain ⟨s1, s2, rfl⟩ := eqs h
      exact Or.inl ⟨dx, ys, (rx.mono e).dpS s1, (ry.mono e).dpS s2, s1, s2, q⟩
    | tuple ys =>
      simp only [cmpV] at h
      obtain ⟨s1, s2, rfl⟩ := eqs h
      exact Or.inr (Or.inl ⟨dx, ys, (rx.mono e).dpS s1, (ry.mono e).dpS s2, s1, s2, q⟩)
    | dict kvs =>
      cases dx with
      | int k =>
        simp only [cmpV, Option.some.injEq] at h
        subst h
        obtain ⟨a, vs, rfl, s1, r1⟩ := (ry.mono e).dic_inv
        have hv := valV_keyAt k r1
        refine Or.inr (Or.inr ⟨a, valV vs (Sum.inl k), rfl, ?_, ?_⟩)
        · rw [rx.int_inv]
          exact DGet.k (k := Sum.inl k) s1
        · cases q' : keyAt kvs k with
          | none =>
            rw [q'] at hv q
            rw [hv]
            exact q
          | some d =>
            rw [q'] at hv q
            obtain ⟨v, hv, _⟩ := hv
            rw [hv]
            exact q
      | _ => simp [cmpV] at h
    | _ => simp [cmpV] at h
  | NotIn =>
    cases dy with
    | list ys =>
      simp only [cmpV] at h
      obtain ⟨s1, s2, rfl⟩ := eqs h
      exact Or.inl ⟨dx, ys, (rx.mono e).dpS s1, (ry.mono e).dpS s2, s1, s2, q⟩
    | tuple ys =>
      simp only [cmpV] at h
      obtain ⟨s1, s2, rfl⟩ := eqs h
      exact Or.inr (Or.inl ⟨dx, ys, (rx.mono e).dpS s1, (ry.mono e).dpS s2, s1, s2, q⟩)
    | _ => simp [cmpV] at h
  | Is =>
    cases dy with
    | none =>
      simp only [cmpV, Option.some.injEq] at h
      subst h
      refine Or.inl ⟨ry.non_inv, ?_⟩
      rw [rx.non_dec]
      exact q
    | bool c =>
      cases dx with
      | bool a =>
        simp only [cmpV, Option.some.injEq] at h
        subst h
        exact Or.inr ⟨a, c, rx.bl_inv, ry.bl_inv, q⟩
      | _ => simp [cmpV] at h
    | _ => simp [cmpV] at h
  | IsNot =>
    cases dy with
    | none =>
      simp only [cmpV, Option.some.injEq] at h
      subst h
      refine Or.inl ⟨ry.non_inv, ?_⟩
      rw [rx.non_dec]
      exact q
    | bool c =>
      cases dx with
      | bool a =>
        simp only [cmpV, Option.some.injEq] at h
        subst h
        exact Or.inr ⟨a, c, rx.bl_inv, ry.bl_inv, q⟩
      | _ => simp [cmpV] at h
    | _ => simp [cmpV] at h
end DD

-- part DBlt
set_option Elab.async false
set_option linter.all false
set_option maxRecDepth 100000
set_option maxHeartbeats 1000000
/-! Built-in functions by values. -/
namespace DD
open PySem PySem.Spec PyProof.Rows L2

/-! ### the order -/
theorem insI_perm (x : Int) : ∀ l, (insI x l).Perm (x :: l)
  | [] => .refl _
  | y :: r => by
    unfold insI
    split
    · exact .refl _
    · exact ((insI_perm x r).cons y).trans (.swap x y r)
theorem sortI_perm : ∀ l, (sortI l).Perm l
  | [] => .refl _
  | x :: r => (insI_perm x (sortI r)).trans ((sortI_perm r).cons x)
theorem insI_sorted (x : Int) : ∀ l : List Int, l.Pairwise (· ≤ ·) → (insI x l).Pairwise (· ≤ ·)
  | [], _ => by simp [insI]
  | y :: r, h => by
    unfold insI
    rw [List.pairwise_cons] at h
    split
    · rename_i hxy
      refine List.pairwise_cons.mpr ⟨fun z hz => ?_, List.pairwise_cons.mpr h⟩
      rcases List.mem_cons.mp hz with rfl | hz
      · exact hxy
      · exact Int.le_trans hxy (h.1 z hz)
    · rename_i hxy
      refine List.pairwise_cons.mpr ⟨fun z hz => ?_, insI_sorted x r h.2⟩
      rcases List.mem_cons.mp ((insI_perm x r).mem_iff.mp hz) with rfl | hz
      · omega
      · exact h.1 z hz
theorem sortI_sorted : ∀ l, (sortI l).Pairwise (· ≤ ·)
  | [] => .nil
  | x :: r => insI_sorted x _ (sortI_sorted r)
theorem sortI_one {l m : List Int} (h : m.Perm l) (s : m.Pairwise (· ≤ ·)) : m = sortI l :=
  List.Perm.eq_of_pairwise (le := (· ≤ ·)) (fun a b _ _ h1 h2 => by omega) s (sortI_sorted l) (h.trans (sortI_perm l).symm)
theorem leP_iff {p q : Int × Int} : leP p q = true ↔ p.1 < q.1 ∨ (p.1 = q.1 ∧ p.2 ≤ q.2) := by
  unfold leP
  simp
theorem insP_perm (x : Int × Int) : ∀ l, (insP x l).Perm (x :: l)
  | [] => .refl _
  | y :: r => by
    unfold insP
    split
    · exact .refl _
    · exact ((insP_perm x r).cons y).trans (.swap x y r)
theorem sortP_perm : ∀ l, (sortP l).Perm l
  | [] => .refl _
  | x :: r => (insP_perm x (sortP r)).trans ((sortP_perm r).cons x)
abbrev LeP (p q : Int × Int) : Prop := p.1 < q.1 ∨ (p.1 = q.1 ∧ p.2 ≤ q.2)
theorem insP_sorted (x : Int × Int) : ∀ l, l.Pairwise LeP → (insP x l).Pairwise LeP
  | [], _ => by simp [insP]
  | y :: r, h => by
    unfold insP
    rw [List.pairwise_cons] at h
    split
    · rename_i hxy
      rw [leP_iff] at hxy
      refine List.pairwise_cons.mpr ⟨fun z hz => ?_, List.pairwise_cons.mpr h⟩
      rcases List.mem_cons.mp hz with rfl | hz
      · exact hxy
      · have := h.1 z hz
        unfold LeP at this ⊢
        omega
    · rename_i hxy
      rw [leP_iff] at hxy
      refine List.pairwise_cons.mpr ⟨fun z hz => ?_, insP_sorted x r h.2⟩
      rcases List.mem_cons.mp ((insP_perm x r).mem_iff.mp hz) with rfl | hz
      · unfold LeP
        omega
      · exact h.1 z hz
theorem sortP_sorted : ∀ l, (sortP l).Pairwise LeP
  | [] => .nil
  | x :: r => insP_sorted x _ (sortP_sorted r)
theorem sortP_one {l m : List (Int × Int)} (h : m.Perm l) (s : m.Pairwise LeP) : m = sortP l :=
  List.Perm.eq_of_pairwise (le := LeP) (fun a b _ _ h1 h2 => by
    unfold LeP at h1 h2
    exact Prod.ext (by omega) (by omega)) s (sortP_sorted l) (h.trans (sortP_perm l).symm)
theorem maxI_mem : ∀ (l : List Int) (m : Int), (maxI m l = m ∨ maxI m l ∈ l) ∧ (m ≤ maxI m l ∧ ∀ y ∈ l, y ≤ maxI m l)
  | [], m => ⟨.inl rfl, Int.le_refl _, fun y h => by simp at h⟩
  | x :: r, m => by
    have ih := maxI_mem r (if m < x then x else m)
    unfold maxI
    by_cases c : m < x
    · rw [if_pos c] at ih ⊢
      refine ⟨.inr ?_, by omega, fun y hy => ?_⟩
      · rcases ih.1 with e | e
        · rw [e]
          exact List.mem_cons_self
        · exact List.mem_cons_of_mem _ e
      · rcases List.mem_cons.mp hy with rfl | hy
        · exact ih.2.1
        · exact ih.2.2 y hy
    · rw [if_neg c] at ih ⊢
      refine ⟨?_, ih.2.1, fun y hy => ?_⟩
      · rcases ih.1 with e | e
        · exact .inl e
        · exact .inr (List.mem_cons_of_mem _ e)
      · rcases List.mem_cons.mp hy with rfl | hy
        · have := ih.2.1
          omega
        · exact ih.2.2 y hy
theorem minI_mem : ∀ (l : List Int) (m : Int), (minI m l = m ∨ minI m l ∈ l) ∧ (minI m l ≤ m ∧ ∀ y ∈ l, minI m l ≤ y)
  | [], m => ⟨.inl rfl, Int.le_refl _, fun y h => by simp at h⟩
  | x :: r, m => by
    have ih := minI_mem r (if x < m then x else m)
    unfold minI
    by_cases c : x < m
    · rw [if_pos c] at ih ⊢
      refine ⟨.inr ?_, by omega, fun y hy => ?_⟩
      · rcases ih.1 with e | e
        · rw [e]
          exact List.mem_cons_self
        · exact List.mem_cons_of_mem _ e
      · rcases List.mem_cons.mp hy with rfl | hy
        · exact ih.2.1
        · exact ih.2.2 y hy
    · rw [if_neg c] at ih ⊢
      refine ⟨?_, ih.2.1, fun y hy => ?_⟩
      · rcases ih.1 with e | e
        · exact .inl e
        · exact .inr (List.mem_cons_of_mem _ e)
      · rcases List.mem_cons.mp hy with rfl | hy
        · have := ih.2.1
          omega
        · exact ih.2.2 y hy

/-! ### rules that the layer lacks -/
/-- sum of a tuple of ints -/
def rSumT (K : PySem.W.Frag) : List V → Hp → VK → Prop := fun vs H Q => ∃ (a : Addr) (ns : List Int), vs = [V.ref a] ∧ SqT K H a (ns.map V.int) ∧ Q (.int ns.sum) H
theorem cr_sumT {X : Cx} (hc : X.calm = true) : CallR X (.builtin "sum") (rSumT X.K) := by
  intro pins s σ H vs us Q I r h
  obtain ⟨a, ns, rfl, hs, q⟩ := h
  obtain ⟨its, rv, hl, _⟩ := I.tuple hs
  rw [Vals.ref1 r]
  have hi := rv.ints
  obtain ⟨xs, e⟩ := hi.allInts.items
  have hn : numsOf (intItems xs).toList = ns := by
    rw [← e]
    exact hi.numsOf
  rw [nums_intItems] at hn
  have hl' : s.heap.IsTuple a its.toArray := hl
  rw [e] at hl'
  refine PySem.W.ktm_sumG (I.ok.hd hc) hl' fun h' tk t' hk => ?_
  refine ⟨V.int ns.sum, H, I.kept hk, ⟨t', ?_⟩, q⟩
  rw [preSum_eq, List.take_of_length_le (by simp), hn]
theorem CallR.no {X : Cx} {f : Value} : CallR X f (fun _ _ _ => False) := fun _ _ _ _ _ _ _ _ _ h => h.elim
/-- sorted of a list of alike data -/
def rSortD (K : PySem.W.Frag) : List V → Hp → VK → Prop := fun vs H Q => ∃ (a : Addr) (bs : List (V × PD)), vs = [V.ref a] ∧ SqL K H a (bs.map Prod.fst) ∧ (∀ b ∈ bs, Dp K H b.1 b.2) ∧
  PySem.W.AllAlike (bs.map Prod.snd) ∧ PySem.W.Sortable (bs.map Prod.snd) ∧ (∀ b ∈ bs, b.2.depth ≤ 60) ∧
  ∀ p, H p = none → Q (.ref p) (upd H p (.lst ((bs.mergeSort (PySem.W.dataLe false Prod.snd)).map Prod.fst)))
theorem each_of {X : Cx} {pins : List (Addr × Obj)} {s : Shared} {σ : L2.St} {H : Hp} (I : Inv X pins σ H s) : ∀ {bs : List (V × PD)} {its : List Value}, Vals (bs.map Prod.fst) its → (∀ b ∈ bs, Dp X.K H b.1 b.2) →
    PySem.W.EachIs (fun v b => RelV b.1 v) its bs ∧ PySem.W.EachIs (fun v b => ∃ as, Reads s.heap v b.2 as) its bs
  | [], _, r, _ => by
    cases r
    exact ⟨.nil, .nil⟩
  | b :: bs, _, r, h => by
    cases r with
    | cons r1 r2 =>
      obtain ⟨e1, e2⟩ := each_of I (bs := bs) r2 fun b hb => h b (List.mem_cons_of_mem _ hb)
      exact ⟨.cons r1 e1, .cons (Dp.reads I b.2 b.1 _ (h b List.mem_cons_self) r1) e2⟩
theorem vals_each : ∀ {out : List Value} {bs : List (V × PD)}, PySem.W.EachIs (fun v b => RelV b.1 v) out bs → Vals (bs.map Prod.fst) out
  | _, _, .nil => .nil
  | _, _, .cons r t => .cons r (vals_each t)
theorem cr_sortD {X : Cx} (hu : X.A.units + 64 < cLine) : CallR X (.builtin "sorted") (rSortD X.K) := by
  intro pins s σ H vs us Q I r h
  obtain ⟨a, bs, rfl, hs, hd, hal, hk, hdp, q⟩ := h
  obtain ⟨its, rv, hl, hz⟩ := I.list hs
  rw [Vals.ref1 r]
  obtain ⟨e1, e2⟩ := each_of I rv hd
  rw [List.length_map] at hz
  refine PySem.W.sorted_data hl.isList e1 e2 hal hk hz (fun b hb => by
    have := hdp b hb
    omega) fun out ho eo => ?_
  obtain ⟨ep, he'⟩ := PyProof.Rows.sortedAll_at s.heap its out.toArray
  have hv := vals_each eo
  refine ⟨V.ref (s.heap.objs.size + 1), upd H (s.heap.objs.size + 1) (.lst ((bs.mergeSort (PySem.W.dataLe false Prod.snd)).map Prod.fst)), ?_, rfl, q _ (I.hok.fresh (Nat.le_succ _))⟩
  refine I.laid (t' := s.toks) (fun _ _ => PyProof.Rows.sortedAll_old) (Nat.le_succ _) ⟨?_, out, ep, hv, he'⟩
  rw [hv.length, ho]
  exact hz
/-- max of a list of pairs of ints -/
def rMaxP (K : PySem.W.Frag) : List V → Hp → VK → Prop := fun vs H Q => ∃ (a : Addr) (xs : List V) (p : Int × Int) (ps : List (Int × Int)), vs = [V.ref a] ∧ SqL K H a xs ∧ DpAll K H xs ((p :: ps).map ofPair) ∧
  ∀ (i : Nat) (v : V), xs[i]? = some v → (p :: ps)[i]? = some (maxP p ps) → Q v H
theorem maxP_of : ∀ (ps : List (Int × Int)) (p : Int × Int), PySem.W.maxOf p ps = maxP p ps
  | [], p => rfl
  | q :: r, p => by
    have ih := maxP_of r
    show PySem.W.maxOf (if PySem.W.DatumOrd.lt p q = true then q else p) r = maxP (if leP q p = true then p else q) r
    rw [ih]
    congr 1
    have e : PySem.W.DatumOrd.lt p q = if p.1 = q.1 then decide (p.2 < q.2) else decide (p.1 < q.1) := rfl
    rw [e]
    have h1 : leP q p = true ↔ q.1 < p.1 ∨ (q.1 = p.1 ∧ q.2 ≤ p.2) := leP_iff
    by_cases c : leP q p = true
    · rw [if_pos c, if_neg]
      rw [h1] at c
      by_cases c2 : p.1 = q.1
      · rw [if_pos c2, decide_eq_true_eq]
        omega
      · rw [if_neg c2, decide_eq_true_eq]
        omega
    · rw [if_neg c, if_pos]
      rw [h1] at c
      by_cases c2 : p.1 = q.1
      · rw [if_pos c2, decide_eq_true_eq]
        omega
      · rw [if_neg c2, decide_eq_true_eq]
        omega
theorem cr_maxP {X : Cx} (hc : X.calm = true) (hu : X.A.units + 64 < cLine) : CallR X (.builtin "max") (rMaxP X.K) := by
  intro pins s σ H vs us Q I r h
  obtain ⟨a, xs, p, ps, rfl, hs, hd, q⟩ := h
  obtain ⟨its, rv, hl, hz⟩ := I.list hs
  rw [Vals.ref1 r]
  obtain ⟨as, ra⟩ := Dp.readsAll I _ _ its hd rv
  have HA : PySem.W.HoldAll s.heap its.toArray.toList (p :: ps) := ⟨as, ra⟩
  have hdep : PySem.W.Datum.depth (Int × Int) = 1 := rfl
  refine PySem.W.max_list_datum (I.ok.hd hc) hl.isList HA (by rw [hdep]; omega) fun i v h' tk hi hv hk => ?_
  have hi' : its[i]? = some v := by simpa using hi
  obtain ⟨x, hx1, hx2⟩ : ∃ x, xs[i]? = some x ∧ RelV x v := by
    cases e : xs[i]? with
    | none =>
      rw [rv.none_of e] at hi'
      cases hi'
    | some x =>
      obtain ⟨u, hu1, hu2⟩ := rv.get e
      rw [hi'] at hu1
      cases hu1
      exact ⟨x, rfl, hu2⟩
  have hpi : (p :: ps)[i]? = some (maxP p ps) := by
    obtain ⟨y, hy1, hy2⟩ := (HA.keeps hk).at (i := i) (v := v) (by simpa using hi')
    obtain ⟨a1, r1⟩ := hy2
    obtain ⟨a2, r2⟩ := hv
    have := PySem.SeqAt.Reads.unique _ _ _ _ _ (by show (ofPair y).canLay0 = true; simp [ofPair, PyData.canLay0, PyData.canLayAll0]) r1 r2
    have e2 : ofPair y = ofPair (PySem.W.maxOf p ps) := this
    rw [maxP_of] at e2
    have : y = maxP p ps := by
      simp only [ofPair, PyData.tuple.injEq, List.cons.injEq, PyData.int.injEq, and_true] at e2
      exact Prod.ext e2.1 e2.2
    rw [hy1, this]
  exact ⟨x, H, I.kept hk, hx2, q i x hx1 hpi⟩

/-! ### sorted of a tuple -/
theorem dd_sorted_tup {prog : Program} {w : World} {A : Around} {E : Value → Shared → Prop} {s : Shared} {l : Addr} {vs : List Value} {ltv : Value → Value → Bool} {Q : Value → Shared → Prop} (O : SrtO.Swo ltv) (hl : s.heap.IsTuple l vs.toArray) (hz : vs.length ≤ sizeLine)
    (hS : 2 ≤ vs.length → ∀ (h1 : Heap) (a : Addr), SrtO.SortableO prog w A.in1.in1 { s with heap := h1 } a vs ltv)
    (h : ∀ (out : List Value) (h1 : Heap), (∀ b o, s.heap.get? b = some o → h1.get? b = some o) → SrtO.Srtd ltv out → SrtO.Stb ltv out vs → Q (.ref h1.objs.size) { s with heap := sortedHeap (h1.push (seqObj "list" vs.toArray 0)) h1.objs.size vs out.toArray }) :
    wpAny (model prog w) A (PySem.call (.builtin "sorted") [.ref l]) Q E s := by
  obtain ⟨o, ho, hc, n, hd⟩ := hl
  refine Calls.call_function_entry kind_sorted plain_sorted entry_sorted (args_sorted1 _) ?_
  unfold Builtin.«sorted»
  refine wpAny_bind (m := checkCount "sorted" 1 1 _) (wpAny_pure ?_)
  refine wpAny_bind (wpAny_collect_seq l (.inr rfl) ho hc hd (fun h1 hk => ?_) (by rw [List.size_toArray]; exact hz))
  have ev : vs.toArray.toList = vs := by simp
  rw [ev]
  refine wpAny_bind (wpAny_newList ?_ hz)
  have hoL : (h1.push (seqObj "list" vs.toArray 0)).get? h1.objs.size = some (seqObj "list" vs.toArray 0) := Heap.get?_push_size _ rfl
  show wpAny _ _ _ _ _ { s with heap := h1.push (seqObj "list" vs.toArray 0) }
  refine wpAny_bind (wpAny_holding (wpAny_call_entry slot_list_sort ⟨_, hoL, rfl⟩ entry_list_sort (SrtO.list_sort_ord O hoL hz (fun h2 => hS h2 _ _) fun out hs hb => ⟨_, rfl, ?_⟩) (args_list_sort _)))
  exact wpAny_pure ⟨_, rfl, h out h1 hk hs hb⟩
def rSortedTu (K : PySem.W.Frag) : List V → Hp → VK → Prop := fun vs H Q => ∃ (a : Addr) (ns : List Int), vs = [V.ref a] ∧ SqT K H a (ns.map V.int) ∧
  ∀ (ns' : List Int) (p : Addr), ns'.Perm ns → ns'.Pairwise (· ≤ ·) → H p = none → Q (.ref p) (upd H p (.lst (ns'.map V.int)))
theorem cr_sortedTu {X : Cx} : CallR X (.builtin "sorted") (rSortedTu X.K) := by
  intro pins s σ H vs us Q I r h
  obtain ⟨a, ns, rfl, hs, q⟩ := h
  obtain ⟨its, rv, hl, hz⟩ := I.tuple hs
  rw [Vals.ref1 r]
  have hi := rv.ints
  refine dd_sorted_tup SrtO.swo_int hl (by rw [← rv.length]; exact hz) (fun h2 h1 a' => SrtO.ints_sortable hi h2) fun out h1 hk o1 o2 => ?_
  obtain ⟨k1, k2, k3⟩ := SrtO.ints_out hi o1 o2
  have I1 : Inv X pins σ H { s with heap := h1 } := I.kept (t' := s.toks) hk
  have hob : (h1.push (seqObj "list" its.toArray 0)).get? h1.objs.size = some (seqObj "list" its.toArray 0) := Heap.get?_push_size _ rfl
  obtain ⟨ep, he'⟩ := PyProof.Rows.sortedHeap_at (vs := its) (out := out.toArray) hob
  have hlen : ((out.map SrtO.iv).map V.int).length ≤ sizeLine := by
    rw [List.length_map, k2.length_eq]
    rw [List.length_map] at hz
    exact hz
  refine ⟨.ref _, upd H h1.objs.size (.lst ((out.map SrtO.iv).map V.int)), I1.laid (t' := s.toks) (fun b o e => ?_) (Nat.le_refl _) ⟨hlen, out, ep, vals_of_ints k1, he'⟩, rfl, q _ _ k2 k3 (I1.hok.fresh (Nat.le_refl _))⟩
  have hlt : b < h1.objs.size := Heap.lt_size e
  rw [PyProof.Rows.sortedHeap_old (Nat.ne_of_lt hlt) (by rw [Heap.size_push]; exact Nat.lt_succ_of_lt hlt)]
  exact Heap.get?_push_of_some _ e

/-! ### the table -/
def bltNm : Bt → Str
  | .len => "len" | .sum => "sum" | .max => "max" | .min => "min" | .sorted => "sorted" | .all => "all" | .any => "any"
  | .tuple => "tuple" | .list => "list" | .sset => "set" | .int => "int" | .str => "str"
def bltVal : Bt → Value
  | .len => .builtin "len" | .sum => .builtin "sum" | .max => .builtin "max" | .min => .builtin "min" | .sorted => .builtin "sorted" | .all => .builtin "all" | .any => .builtin "any"
  | .tuple => .type "tuple" | .list => .type "list" | .sset => .type "set" | .int => .type "int" | .str => .type "str"
theorem bltBoot : ∀ f : Bt, bootBuiltins (bltNm f) = some (bltVal f)
  | .len => by decide +kernel
  | .sum => by decide +kernel
  | .max => by decide +kernel
  | .min => by decide +kernel
  | .sorted => by decide +kernel
  | .all => by decide +kernel
  | .any => by decide +kernel
  | .tuple => by decide +kernel
  | .list => by decide +kernel
  | .sset => by decide +kernel
  | .int => by decide +kernel
  | .str => by decide +kernel
theorem cr_strB {X : Cx} : CallR X (.type "str") (fun xs H Q => ∃ b, xs = [.bl b] ∧ Q (.str (if b then "True" else "False")) H) := by
  intro pins s σ H xs us Q I r h
  obtain ⟨b, rfl, q⟩ := h
  obtain ⟨u, rfl, r1⟩ := vals1 r
  cases r1
  exact PySem.P.str_of_bool ⟨.str _, H, I.tok _, ⟨_, rfl⟩, q⟩
abbrev RC := List V → Hp → VK → Prop
def rBlt (K : PySem.W.Frag) : Bt → RC
  | .len => fun xs H Q => ∃ p ys, xs = [.ref p] ∧ (SqL K H p ys ∨ SqT K H p ys) ∧ Q (.int ys.length) H
  | .sum => fun xs H Q => rSum K xs H Q ∨ rSumT K xs H Q
  | .max => fun xs H Q => (∃ i j, xs = [.int i, .int j] ∧ Q (.int (if j > i then j else i)) H) ∨ (rMax K xs H Q ∨ rMaxP K xs H Q)
  | .min => fun xs H Q => (∃ i j, xs = [.int i, .int j] ∧ Q (.int (if j < i then j else i)) H) ∨ rMin K xs H Q
  | .sorted => fun xs H Q => rSortedI K xs H Q ∨ (rSortD K xs H Q ∨ rSortedTu K xs H Q)
  | .all => rAll K
  | .any => rAny K
  | .tuple => fun xs H Q => ∃ p ys, xs = [.ref p] ∧ ((SqL K H p ys ∧ ∀ l, H l = none → Q (.ref l) (upd H l (.tup ys))) ∨ (SqT K H p ys ∧ Q (.ref p) H))
  | .list => fun xs H Q => ∃ p ys, xs = [.ref p] ∧ (SqL K H p ys ∨ SqT K H p ys) ∧ ∀ l, H l = none → Q (.ref l) (upd H l (.lst ys))
  | .sset => fun _ _ _ => False
  | .int => fun xs H Q => (∃ i, xs = [.int i] ∧ Q (.int i) H) ∨ ∃ k, xs = [.bl k] ∧ Q (.int (if k then 1 else 0)) H
  | .str => fun xs H Q => (∃ i, xs = [.int i] ∧ i.natAbs.log2 < 1920 ∧ Q (.str (toString i : String)) H) ∨ ∃ b, xs = [.bl b] ∧ Q (.str (if b then "True" else "False")) H
theorem blt_ok {X : Cx} (hc : X.calm = true) (hu : X.A.units + 64 < cLine) : ∀ f : Bt, CallR X (bltVal f) (rBlt X.K f)
  | .len => call_len_seq
  | .sum => (cr_sum hc).or (cr_sumT hc)
  | .max => (call_max2 hc).or ((cr_max hc).or (cr_maxP hc hu))
  | .min => (call_min2 hc).or (cr_min hc)
  | .sorted => cr_sortedI.or ((cr_sortD hu).or cr_sortedTu)
  | .all => cr_all hc
  | .any => cr_any hc
  | .tuple => call_tuple_of
  | .list => call_list_of
  | .sset => CallR.no
  | .int => call_int1
  | .str => call_str_int.or cr_strB
theorem RpA.one {K : PySem.W.Frag} {H : Hp} {vs : List V} {d : PD} (r : RpA K H vs [d]) : ∃ v, vs = [v] ∧ Rp K H v d := by
  cases r with
  | cons a b =>
    cases b
    exact ⟨_, rfl, a⟩
theorem RpA.two {K : PySem.W.Frag} {H : Hp} {vs : List V} {d e : PD} (r : RpA K H vs [d, e]) : ∃ v w, vs = [v, w] ∧ Rp K H v d ∧ Rp K H w e := by
  cases r with
  | cons a b =>
    obtain ⟨w, rfl, h⟩ := b.one
    exact ⟨_, _, rfl, a, h⟩
theorem ofPairs : ∀ {ds : List PD} {ps : List (Int × Int)}, pairs? ds = some ps → ds = ps.map ofPair
  | [], ps, h => by
    have : ps = [] := by simpa [pairs?] using h.symm
    subst this
    rfl
  | .tuple [.int i, .int j] :: r, ps, h => by
    cases q : pairs? r with
    | none => simp [pairs?, q] at h
    | some qs =>
      have : (i, j) :: qs = ps := by simpa [pairs?, q] using h
      subst this
      rw [ofPairs q]
      rfl
  | .none :: r, ps, h => by simp [pairs?] at h
  | .bool _ :: r, ps, h => by simp [pairs?] at h
  | .int _ :: r, ps, h => by simp [pairs?] at h
  | .str _ :: r, ps, h => by simp [pairs?] at h
  | .list _ :: r, ps, h => by simp [pairs?] at h
  | .dict _ :: r, ps, h => by simp [pairs?] at h
  | .tuple [] :: r, ps, h => by simp [pairs?] at h
  | .tuple [_] :: r, ps, h => by simp [pairs?] at h
  | .tuple (_ :: _ :: _ :: _) :: r, ps, h => by simp [pairs?] at h
  | .tuple [.none, _] :: r, ps, h => by simp [pairs?] at h
  | .tuple [.bool _, _] :: r, ps, h => by simp [pairs?] at h
  | .tuple [.str _, _] :: r, ps, h => by simp [pairs?] at h
  | .tuple [.list _, _] :: r, ps, h => by simp [pairs?] at h
  | .tuple [.tuple _, _] :: r, ps, h => by simp [pairs?] at h
  | .tuple [.dict _, _] :: r, ps, h => by simp [pairs?] at h
  | .tuple [.int _, .none] :: r, ps, h => by simp [pairs?] at h
  | .tuple [.int _, .bool _] :: r, ps, h => by simp [pairs?] at h
  | .tuple [.int _, .str _] :: r, ps, h => by simp [pairs?] at h
  | .tuple [.int _, .list _] :: r, ps, h => by simp [pairs?] at h
  | .tuple [.int _, .tuple _] :: r, ps, h => by simp [pairs?] at h
  | .tuple [.int _, .dict _] :: r, ps, h => by simp [pairs?] at h
theorem ofPair_lay (p : Int × Int) : (ofPair p).canLay0 = true := by simp [ofPair, PyData.canLay0, PyData.canLayAll0]
theorem ofPairs_lay : ∀ ps : List (Int × Int), PyData.canLayAll0 (ps.map ofPair) = true
  | [] => by simp [PyData.canLayAll0]
  | p :: ps => by simp [PyData.canLayAll0, ofPair_lay p, ofPairs_lay ps]
/-- the values beside their data -/
theorem RpA.zip {K : PySem.W.Frag} {H : Hp} : ∀ {vs : List V} {ps : List (Int × Int)}, RpA K H vs (ps.map ofPair) → ∃ bs : List (V × (Int × Int)), bs.map Prod.fst = vs ∧ bs.map Prod.snd = ps ∧ ∀ b ∈ bs, Rp K H b.1 (ofPair b.2)
  | _, [], r => by
    cases r
    exact ⟨[], rfl, rfl, fun b h => by simp at h⟩
  | _, p :: ps, r => by
    cases r with
    | cons a b =>
      obtain ⟨bs, h1, h2, h3⟩ := RpA.zip b
      refine ⟨(_, p) :: bs, by rw [List.map_cons, h1], by rw [List.map_cons, h2], fun c hc => ?_⟩
      rcases List.mem_cons.mp hc with rfl | hc
      · exact a
      · exact h3 c hc
theorem RpA.of_mem {K : PySem.W.Frag} {H : Hp} : ∀ {bs : List (V × (Int × Int))}, (∀ b ∈ bs, Rp K H b.1 (ofPair b.2)) → RpA K H (bs.map Prod.fst) ((bs.map Prod.snd).map ofPair)
  | [], _ => .nil
  | b :: bs, h => .cons (h b List.mem_cons_self) (RpA.of_mem fun c hc => h c (List.mem_cons_of_mem _ hc))
theorem blt_sound (K : PySem.W.Frag) (f : Bt) (vs : List V) (H Hf : Hp) (ds : List PD) (d : PD) (fr : Bool) (e : Same Hf H) (r : RpA K Hf vs ds) (h : bltV f ds = some (d, fr)) (Q : VK) (q : ∀ v H', PostV K H Hf d fr v H' → Q v H') : rBlt K f vs H Q := by
  unfold bltV at h
  split at h
  · cases h
    obtain ⟨v, rfl, rv⟩ := r.one
    obtain ⟨a, xs, rfl, s, ra⟩ := (rv.mono e).lst_inv
    refine ⟨a, xs, rfl, .inl s, q _ _ ?_⟩
    rw [ra.length]
    exact PostV.here e (.int _)
  · cases h
    obtain ⟨v, rfl, rv⟩ := r.one
    obtain ⟨a, xs, rfl, s, ra⟩ := (rv.mono e).tup_inv
    refine ⟨a, xs, rfl, .inr s, q _ _ ?_⟩
    rw [ra.length]
    exact PostV.here e (.int _)
  · rename_i xs
    cases hi : ints? xs with
    | none => simp [hi] at h
    | some is =>
      simp only [hi, Option.map_some, Option.some.injEq, Prod.mk.injEq] at h
      obtain ⟨rfl, rfl⟩ := h
      obtain ⟨v, rfl, rv⟩ := r.one
      obtain ⟨a, ys, rfl, s, ra⟩ := (rv.mono e).lst_inv
      obtain ⟨e1, _⟩ := ra.ints hi
      exact Or.inl ⟨a, is, rfl, by rw [← e1]; exact s, q _ _ (PostV.here e (.int _))⟩
  · rename_i xs
    cases hi : ints? xs with
    | none => simp [hi] at h
    | some is =>
      simp only [hi, Option.map_some, Option.some.injEq, Prod.mk.injEq] at h
      obtain ⟨rfl, rfl⟩ := h
      obtain ⟨v, rfl, rv⟩ := r.one
      obtain ⟨a, ys, rfl, s, ra⟩ := (rv.mono e).tup_inv
      obtain ⟨e1, _⟩ := ra.ints hi
      exact Or.inr ⟨a, is, rfl, by rw [← e1]; exact s, q _ _ (PostV.here e (.int _))⟩
  · cases h
    obtain ⟨v, w, rfl, rv, rw'⟩ := r.two
    exact Or.inl ⟨_, _, by rw [rv.int_inv, rw'.int_inv], q _ _ (PostV.here e (.int _))⟩
  · cases h
    obtain ⟨v, w, rfl, rv, rw'⟩ := r.two
    exact Or.inl ⟨_, _, by rw [rv.int_inv, rw'.int_inv], q _ _ (PostV.here e (.int _))⟩
  · rename_i xs
    cases hi : ints? xs with
    | some is =>
      cases is with
      | nil => simp [hi] at h
      | cons i is =>
        simp only [hi, Option.some.injEq, Prod.mk.injEq] at h
        obtain ⟨rfl, rfl⟩ := h
        obtain ⟨v, rfl, rv⟩ := r.one
        obtain ⟨a, ys, rfl, s, ra⟩ := (rv.mono e).lst_inv
        obtain ⟨e1, _⟩ := ra.ints hi
        refine Or.inr (Or.inl ⟨a, i :: is, rfl, by rw [← e1]; exact s, by simp, fun m hm hle => ?_⟩)
        have mm := maxI_mem is i
        have e3 : m = maxI i is := by
          have h1 : maxI i is ≤ m := hle _ (by rcases mm.1 with e | e <;> simp [e])
          have h2 : m ≤ maxI i is := by
            rcases List.mem_cons.mp hm with rfl | hm
            · exact mm.2.1
            · exact mm.2.2 m hm
          omega
        rw [e3]
        exact q _ _ (PostV.here e (.int _))
    | none =>
      cases hp : pairs? xs with
      | none => simp [hi, hp] at h
      | some ps =>
        cases ps with
        | nil => simp [hi, hp] at h
        | cons p ps =>
          simp only [hi, hp, Option.some.injEq, Prod.mk.injEq] at h
          obtain ⟨rfl, rfl⟩ := h
          obtain ⟨v, rfl, rv⟩ := r.one
          obtain ⟨a, ys, rfl, s, ra⟩ := rv.lst_inv
          have e1 := ofPairs hp
          rw [e1] at ra
          refine Or.inr (Or.inr ⟨a, ys, p, ps, rfl, Same.sql e s, (ra.mono e).dp (ofPairs_lay _), fun i v hi1 hi2 => ?_⟩)
          obtain ⟨d, hd1, hd2⟩ := ra.getV hi1
          rw [List.getElem?_map, hi2] at hd1
          cases hd1
          exact q _ _ (PostV.here e hd2)
  · rename_i xs
    cases hi : ints? xs with
    | none => simp [hi] at h
    | some is =>
      cases is with
      | nil => simp [hi] at h
      | cons i is =>
        simp only [hi, Option.some.injEq, Prod.mk.injEq] at h
        obtain ⟨rfl, rfl⟩ := h
        obtain ⟨v, rfl, rv⟩ := r.one
        obtain ⟨a, ys, rfl, s, ra⟩ := (rv.mono e).lst_inv
        obtain ⟨e1, _⟩ := ra.ints hi
        refine Or.inr ⟨a, i :: is, rfl, by rw [← e1]; exact s, by simp, fun m hm hle => ?_⟩
        have mm := minI_mem is i
        have e3 : m = minI i is := by
          have h1 : m ≤ minI i is := hle _ (by rcases mm.1 with e | e <;> simp [e])
          have h2 : minI i is ≤ m := by
            rcases List.mem_cons.mp hm with rfl | hm
            · exact mm.2.1
            · exact mm.2.2 m hm
          omega
        rw [e3]
        exact q _ _ (PostV.here e (.int _))
  · rename_i xs
    cases hi : ints? xs with
    | some is =>
      simp only [hi, Option.some.injEq, Prod.mk.injEq] at h
      obtain ⟨rfl, rfl⟩ := h
      obtain ⟨v, rfl, rv⟩ := r.one
      obtain ⟨a, ys, rfl, s, ra⟩ := (rv.mono e).lst_inv
      obtain ⟨e1, _⟩ := ra.ints hi
      refine Or.inl ⟨a, is, rfl, by rw [← e1]; exact s, fun ns' p pm so n => ?_⟩
      rw [sortI_one pm so]
      exact q _ _ (PostV.newL e n (RpA.ofInts _))
    | none =>
      cases hp : pairs? xs with
      | none => simp [hi, hp] at h
      | some ps =>
        simp only [hi, hp] at h
        split at h
        · simp only [Option.some.injEq, Prod.mk.injEq] at h
          obtain ⟨rfl, rfl⟩ := h
          obtain ⟨v, rfl, rv⟩ := r.one
          obtain ⟨a, ys, rfl, s, ra⟩ := rv.lst_inv
          have e1 := ofPairs hp
          rw [e1] at ra
          obtain ⟨bs, b1, b2, b3⟩ := ra.zip
          let cs : List (V × PD) := bs.map fun b => (b.1, ofPair b.2)
          have c1 : cs.map Prod.fst = ys := by
            rw [← b1]
            simp [cs, Function.comp_def]
          have hm : ∀ c ∈ cs, ∃ b ∈ bs, c = (b.1, ofPair b.2) := fun c hc => by
            obtain ⟨b, hb, rfl⟩ := List.mem_map.mp hc
            exact ⟨b, hb, rfl⟩
          refine Or.inr (Or.inl ⟨a, cs, rfl, by rw [c1]; exact Same.sql e s, fun c hc => ?_, fun x hx y hy => ?_, Or.inl fun x hx => ?_, fun c hc => ?_, fun p n => ?_⟩)
          · obtain ⟨b, hb, rfl⟩ := hm c hc
            exact ((b3 b hb).mono e).dp (ofPair_lay _)
          · obtain ⟨c, hc, rfl⟩ := List.mem_map.mp hx
            obtain ⟨c', hc', rfl⟩ := List.mem_map.mp hy
            obtain ⟨b, hb, rfl⟩ := hm c hc
            obtain ⟨b', hb', rfl⟩ := hm c' hc'
            simp [ofPair, PySem.W.alike, PySem.W.alikeAll]
          · obtain ⟨c, hc, rfl⟩ := List.mem_map.mp hx
            obtain ⟨b, hb, rfl⟩ := hm c hc
            exact ⟨_, _, rfl⟩
          · obtain ⟨b, hb, rfl⟩ := hm c hc
            simp [ofPair, PyData.depth, PyData.depthAll]
          · have so : cs.mergeSort (PySem.W.dataLe false Prod.snd) = (bs.mergeSort fun x y => leP x.2 y.2).map fun b => (b.1, ofPair b.2) := by
              refine (PySem.W.sort_maps (f := fun b : V × (Int × Int) => (b.1, ofPair b.2)) fun x _ y _ => ?_).symm
              have := congrFun (congrFun (PySem.W.dataLe_ii (β := V × (Int × Int)) (fun b => b.2.1) (fun b => b.2.2)) x) y
              refine Eq.trans ?_ this.symm
              rw [Bool.eq_iff_iff, leP_iff, decide_eq_true_eq]
            have tr : ∀ x y z : V × (Int × Int), leP x.2 y.2 = true → leP y.2 z.2 = true → leP x.2 z.2 = true := fun x y z h1 h2 => by
              rw [leP_iff] at *
              omega
            have tt : ∀ x y : V × (Int × Int), (leP x.2 y.2 || leP y.2 x.2) = true := fun x y => by
              rw [Bool.or_eq_true, leP_iff, leP_iff]
              omega
            have pm := List.mergeSort_perm bs fun x y => leP x.2 y.2
            have pw := List.pairwise_mergeSort tr tt bs
            have e5 : (bs.mergeSort fun x y => leP x.2 y.2).map Prod.snd = sortP ps := by
              rw [← b2]
              refine sortP_one (pm.map _) (List.pairwise_map.mpr (pw.imp fun h => ?_))
              rw [leP_iff] at h
              exact h
            have rr : RpA K Hf ((bs.mergeSort fun x y => leP x.2 y.2).map Prod.fst) ((sortP ps).map ofPair) := by
              rw [← e5]
              exact RpA.of_mem fun b hb => b3 b (pm.mem_iff.mp hb)
            have e6 : (cs.mergeSort (PySem.W.dataLe false Prod.snd)).map Prod.fst = (bs.mergeSort fun x y => leP x.2 y.2).map Prod.fst := by
              rw [so]
              simp [Function.comp_def]
            rw [e6]
            exact q _ _ (PostV.newL e n rr)
        · cases h
  · rename_i xs
    cases hi : ints? xs with
    | none => simp [hi] at h
    | some is =>
      simp only [hi, Option.map_some, Option.some.injEq, Prod.mk.injEq] at h
      obtain ⟨rfl, rfl⟩ := h
      obtain ⟨v, rfl, rv⟩ := r.one
      obtain ⟨a, ys, rfl, s, ra⟩ := (rv.mono e).tup_inv
      obtain ⟨e1, _⟩ := ra.ints hi
      refine Or.inr (Or.inr ⟨a, is, rfl, by rw [← e1]; exact s, fun ns' p pm so n => ?_⟩)
      rw [sortI_one pm so]
      exact q _ _ (PostV.newL e n (RpA.ofInts _))
  · rename_i xs
    cases hb : bools? xs with
    | none => simp [hb] at h
    | some bs =>
      simp only [hb, Option.map_some, Option.some.injEq, Prod.mk.injEq] at h
      obtain ⟨rfl, rfl⟩ := h
      obtain ⟨v, rfl, rv⟩ := r.one
      obtain ⟨a, ys, rfl, s, ra⟩ := (rv.mono e).lst_inv
      have e1 := ra.bools hb
      exact ⟨a, bs, rfl, by rw [← e1]; exact s, q _ _ (PostV.here e (.bl _))⟩
  · rename_i xs
    cases hb : bools? xs with
    | none => simp [hb] at h
    | some bs =>
      simp only [hb, Option.map_some, Option.some.injEq, Prod.mk.injEq] at h
      obtain ⟨rfl, rfl⟩ := h
      obtain ⟨v, rfl, rv⟩ := r.one
      obtain ⟨a, ys, rfl, s, ra⟩ := (rv.mono e).lst_inv
      have e1 := ra.bools hb
      exact ⟨a, bs, rfl, by rw [← e1]; exact s, q _ _ (PostV.here e (.bl _))⟩
  · cases h
    obtain ⟨v, rfl, rv⟩ := r.one
    obtain ⟨a, ys, rfl, s, ra⟩ := rv.lst_inv
    exact ⟨a, ys, rfl, .inl ⟨Same.sql e s, fun l n => q _ _ (PostV.newT e n ra)⟩⟩
  · cases h
    obtain ⟨v, rfl, rv⟩ := r.one
    obtain ⟨a, ys, rfl, s, ra⟩ := rv.tup_inv
    exact ⟨a, ys, rfl, .inr ⟨Same.sqt e s, q _ _ (PostV.here e rv)⟩⟩
  · cases h
    obtain ⟨v, rfl, rv⟩ := r.one
    obtain ⟨a, ys, rfl, s, ra⟩ := rv.lst_inv
    exact ⟨a, ys, rfl, .inl (Same.sql e s), fun l n => q _ _ (PostV.newL e n ra)⟩
  · cases h
    obtain ⟨v, rfl, rv⟩ := r.one
    obtain ⟨a, ys, rfl, s, ra⟩ := rv.tup_inv
    exact ⟨a, ys, rfl, .inr (Same.sqt e s), fun l n => q _ _ (PostV.newL e n ra)⟩
  · cases h
    obtain ⟨v, rfl, rv⟩ := r.one
    exact Or.inr ⟨_, by rw [rv.bl_inv], q _ _ (PostV.here e (.int _))⟩
  · cases h
    obtain ⟨v, rfl, rv⟩ := r.one
    exact Or.inl ⟨_, by rw [rv.int_inv], q _ _ (PostV.here e (.int _))⟩
  · cases h
    obtain ⟨v, rfl, rv⟩ := r.one
    exact Or.inr ⟨_, by rw [rv.bl_inv], q _ _ (PostV.here e (.str _))⟩
  · split at h
    · rename_i hz
      cases h
      obtain ⟨v, rfl, rv⟩ := r.one
      exact Or.inl ⟨_, by rw [rv.int_inv], hz, q _ _ (PostV.here e (.str _))⟩
    · cases h
  · cases h
end DD

-- part DSub
set_option Elab.async false
set_option linter.all false
set_option maxRecDepth 100000
set_option maxHeartbeats 1000000
/-! Subscripts, slices, isinstance, places, by values. -/
namespace DD
open PySem PySem.Spec PyProof.Rows L2 HT

/-! ### subscripts -/
def rIxK : R2 := fun x y H Q => ∃ a kvs k v, x = .ref a ∧ y = .int k ∧ Rd H a (.dK kvs) ∧ valV kvs (Sum.inl k : Key) = some v ∧ Q v H
theorem ix_dict {X : Cx} : IxR X rIxK := by
  intro value slice pins s σ H x y v u Q I rx ry ⟨a, kvs, k, z, ex, ey, hr, hv, q⟩ hs
  subst ex ey
  cases rx
  obtain ⟨zz, hd, vs, rel, dd⟩ := dk_rd I.hok hr
  obtain ⟨w', hw, rw'⟩ := RelO.some_of (v := z) (o := valueAt vs (Sum.inl k : Key)) (by rw [← hv]; exact rel.val _)
  have kk : (mixKind X.prog X.w).is (Sum.inl k) u = true := kV_is (k := Sum.inl k) ry
  refine subscriptTail_builtinR (x := w') dd.typeIs PySem.F.slot_dict_getitem.lookup ?_ hs
  exact wpAny_getItem_of kk dd.mapOf hw ⟨rfl, z, H, I.tok _, rw', q⟩
def rIxA (K : PySem.W.Frag) : R2 := fun x y H Q => rIxL K x y H Q ∨ (rIxT K x y H Q ∨ rIxK x y H Q)
theorem ix_any {X : Cx} : IxR X (rIxA X.K) := ix_list.or (ix_tup.or ix_dict)
theorem ixN_of (n : Nat) (i : Int) : ixN n i = ixOf n i := by
  unfold ixN ixOf
  rfl
theorem atI_atD {K : PySem.W.Frag} {H : Hp} {xs : List V} {ds : List PD} {i : Int} {d : PD} (r : RpA K H xs ds) (h : atD ds i = some d) : ∃ v, atI xs i = some v ∧ Rp K H v d := by
  unfold atD at h
  unfold atI
  rw [ixN_of, r.length]
  cases e : ixOf ds.length i with
  | none =>
    rw [e] at h
    cases h
  | some j =>
    rw [e] at h
    obtain ⟨v, h1, h2⟩ := r.get h
    exact ⟨v, h1, h2⟩
/-- x is read at the heap as it stands: items as data of the frozen part -/
def Top (K : PySem.W.Frag) (H Hf : Hp) (v : V) : PD → Prop
  | .list ds => ∃ a xs, v = .ref a ∧ SqL K H a xs ∧ RpA K Hf xs ds
  | .tuple ds => ∃ a xs, v = .ref a ∧ SqT K H a xs ∧ RpA K Hf xs ds
  | .dict kvs => ∃ a ys, v = .ref a ∧ H a = some (.dK ys) ∧ RpK K Hf ys kvs
  | _ => True
theorem Rp.top {K : PySem.W.Frag} {H Hf : Hp} {v : V} {d : PD} (e : Same Hf H) (r : Rp K Hf v d) : Top K H Hf v d := by
  cases r with
  | lst s t => exact ⟨_, _, rfl, Same.sql e s, t⟩
  | tup s t => exact ⟨_, _, rfl, Same.sqt e s, t⟩
  | dic s t => exact ⟨_, _, rfl, e _ _ s, t⟩
  | _ => trivial
theorem Own.top {K : PySem.W.Frag} {H Hf : Hp} {v : V} {d : PD} (o : Own K H Hf v d) : Top K H Hf v d := by
  cases o with
  | lst s _ t => exact ⟨_, _, rfl, SqL.of s, t⟩
  | dic s _ t => exact ⟨_, _, rfl, s, t⟩
theorem ix_sound (K : PySem.W.Frag) {H Hf : Hp} {x y : V} {dx dy d : PD} (e : Same Hf H) (t : Top K H Hf x dx) (ry : Rp K Hf y dy) (h : ixV dx dy = some d) (Q : VK) (q : ∀ v, Rp K Hf v d → Q v H) : rIxA K x y H Q := by
  cases dy with
  | int i =>
    have ey := ry.int_inv
    cases dx with
    | list ds =>
      obtain ⟨a, xs, rfl, s, r⟩ := t
      obtain ⟨v, h1, h2⟩ := atI_atD r h
      exact Or.inl ⟨a, xs, i, v, rfl, ey, s, h1, q v h2⟩
    | tuple ds =>
      obtain ⟨a, xs, rfl, s, r⟩ := t
      obtain ⟨v, h1, h2⟩ := atI_atD r h
      exact Or.inr (Or.inl ⟨a, xs, i, v, rfl, ey, s, h1, q v h2⟩)
    | dict kvs =>
      obtain ⟨a, ys, rfl, s, r⟩ := t
      have hv := valV_keyAt i r
      have h' : keyAt kvs i = some d := h
      rw [h'] at hv
      obtain ⟨v, h1, h2⟩ := hv
      exact Or.inr (Or.inr ⟨a, ys, i, v, rfl, ey, .inl s, h1, q v h2⟩)
    | _ => simp [ixV] at h
  | _ => cases dx <;> simp [ixV] at h

/-! ### slices -/
def rSlAny (K : PySem.W.Frag) : V → Option Int → Option Int → Hp → VK → Prop := fun x lo hi H Q => rSlL K x lo hi H Q ∨ rSlA K x lo hi H Q
theorem sl_any {X : Cx} : SlR X (rSlAny X.K) := sl_list.or sl_tupA
theorem clip_sIx (n d : Nat) : ∀ o : Option Int, HT.sIx n d o = clip n d o
  | none => rfl
  | some v => by
    have e : HT.sIx n d (some v) = if v < 0 then (v + (n : Int)).toNat else min v.toNat n := rfl
    rw [e]
    rfl
theorem cutV_cutD {K : PySem.W.Frag} {H : Hp} {xs : List V} {ds : List PD} (r : RpA K H xs ds) (lo hi : Option Int) : RpA K H (cutV xs lo hi) (cutD ds lo hi) := by
  unfold cutV cutD
  rw [clip_sIx, clip_sIx, r.length]
  exact (r.drop _).take _
theorem sl_sound (K : PySem.W.Frag) {H Hf : Hp} {x : V} {dx d : PD} {fr : Bool} {lo hi : Option Int} (e : Same Hf H) (t : Top K H Hf x dx) (hr : ∀ ds, dx = .tuple ds → Rp K Hf x dx) (h : slV dx lo hi = some (d, fr)) (Q : VK) (q : ∀ v H', PostV K H Hf d fr v H' → Q v H') : rSlAny K x lo hi H Q := by
  cases dx with
  | list ds =>
    simp only [slV, Option.some.injEq, Prod.mk.injEq] at h
    obtain ⟨rfl, rfl⟩ := h
    obtain ⟨a, xs, rfl, s, r⟩ := t
    exact Or.inl ⟨a, xs, rfl, s, fun p n => q _ _ (PostV.newL e n (cutV_cutD r lo hi))⟩
  | tuple ds =>
    simp only [slV, Option.some.injEq, Prod.mk.injEq] at h
    obtain ⟨rfl, rfl⟩ := h
    have rp := hr ds rfl
    obtain ⟨a, xs, rfl, s, r⟩ := t
    refine Or.inr ⟨a, xs, rfl, s, fun w => ?_, fun w p n => q _ _ (PostV.newT e n (cutV_cutD r lo hi))⟩
    have ew : cutD ds lo hi = ds := by
      unfold cutD
      rw [clip_sIx, clip_sIx, r.length] at w
      rw [w.1, w.2]
      simp
    rw [ew] at q
    exact q _ _ (PostV.here e rp)
  | _ => simp [slV] at h

/-! ### x[::-1] -/
theorem dd_applied {prog : Program} {w : World} {A : Around} {E : Value → Shared → Prop} {s : Shared} {sl : Addr} {t : Tok} {n : Nat} {Q : Int × Int × Nat → Shared → Prop} (hs : s.heap.IsSliceOf sl .none .none (.int (-1) t)) (h : Q ((n : Int) - 1, -1, n) s) :
    wpAny (model prog w) A (Builtin.Slice.sliceApplied (.ref sl) (pure (n : Int))) Q E s := by
  obtain ⟨os, hos, hcs, hds⟩ := id hs
  unfold Builtin.Slice.sliceApplied Builtin.Slice.sliceFields
  refine wpAny_bind (wpAny_bind (wpAny_field hos hds (x := .none) rfl (wpAny_bind (wpAny_field hos hds (x := .none) rfl (wpAny_bind (wpAny_field hos hds (x := .int (-1) t) rfl (wpAny_pure ?_)))))))
  refine wpAny_bind (slicePart_int ?_)
  show wpAny _ _ (if ((-1 : Int) == 0) = true then _ else _) _ _ s
  rw [if_neg (by decide)]
  refine wpAny_bind (slicePart_none (wpAny_bind (slicePart_none (wpAny_bind (wpAny_pure ?_)))))
  have ep : Builtin.Slice.slicePlaces ((n : Int) - 1) (-1) (-1) = n := by
    unfold Builtin.Slice.slicePlaces
    have z : ¬ ((-1 : Int) > 0) := by decide
    simp only [z, if_false]
    by_cases q : (n : Int) - 1 > -1
    · rw [if_pos q, show (- -1 : Int) = 1 by decide, Int.ediv_one]
      omega
    · rw [if_neg q]
      omega
  show wpAny _ _ (pure ((n : Int) - 1, (-1 : Int), Builtin.Slice.slicePlaces ((n : Int) - 1) (-1) (-1))) _ _ s
  rw [ep]
  exact wpAny_pure h
theorem fm_congr {α β : Type} {f g : α → Option β} : ∀ {l : List α}, (∀ x ∈ l, f x = g x) → l.filterMap f = l.filterMap g
  | [], _ => rfl
  | a :: l, h => by
    rw [List.filterMap_cons, List.filterMap_cons, h a List.mem_cons_self, fm_congr fun x hx => h x (List.mem_cons_of_mem _ hx)]
theorem dd_revPick (xs : Array Value) : ((List.range xs.size).filterMap fun (k : Nat) => xs[((xs.size : Int) - 1 + (k : Int) * -1).toNat]?) = xs.toList.reverse := by
  have e : (List.range xs.size).filterMap (fun (k : Nat) => xs[((xs.size : Int) - 1 + (k : Int) * -1).toNat]?) = ((List.range xs.size).map fun k => xs.size - 1 - k).filterMap (xs[·]?) := by
    rw [List.filterMap_map]
    refine fm_congr fun k hk => ?_
    have := List.mem_range.mp hk
    have : ((xs.size : Int) - 1 + (k : Int) * -1).toNat = xs.size - 1 - k := by omega
    simp only [this, Function.comp_apply]
  rw [e, PySem.W.krv_range, List.filterMap_reverse, PySem.W.krv_all]
theorem dd_getRevT {prog : Program} {w : World} {A : Around} {E : Value → Shared → Prop} {s : Shared} {t sl : Addr} {items : Array Value} {tk : Tok} {Q : Value → Shared → Prop} (ht : IsTup s.heap t items) (hs : s.heap.IsSliceOf sl .none .none (.int (-1) tk)) (hsz : items.size ≤ sizeLine)
    (h : Q (.ref s.heap.objs.size) { s with heap := s.heap.push { cls := .type "tuple", data := .seq items.toList.reverse.toArray } }) : wpAny (model prog w) A (getItem (.ref t) (.ref sl)) Q E s := by
  have big : sizeOk (.seq items.toList.reverse.toArray) := by
    show items.toList.reverse.toArray.size ≤ sizeLine
    rw [List.size_toArray, List.length_reverse, Array.length_toList]
    exact hsz
  obtain ⟨os, hos, hcs, hds⟩ := id hs
  have hTs : s.TypeIs (.ref sl) "slice" := ⟨os, hos, hcs⟩
  unfold getItem
  try with_reducible refine wpAny_holding ?_
  first | refine wpAny_bind (wpAny_pure ?_) | skip
  refine wpAny_bind (wpAny_sequenceKey ht.typeIs (by decide) (wpAny_bind ?_))
  refine wpAny_callSpecial?_slot (name := Str.ofString "__getitem__") ht.typeIs PyProof.Rows.slot_tuple_getitem (wpAny_call_entry PyProof.Rows.slot_tuple_getitem ht.typeIs entry_tuple_getitem ?_ (args_tuple_getitem _ _))
  show wpAny _ _ (Builtin.Tuple.tupleItemsOf (.ref t) >>= _) _ _ s
  refine wpAny_bind (tupleItemsOf_ ht (wpAny_bind (wpAny_typeOf hTs ?_)))
  rw [if_pos (by decide)]
  refine wpAny_bind (dd_applied hs ?_)
  have hno : ¬ ((((items.size : Int) - 1) == 0 && (-1 : Int) == 1 && items.size == items.size) = true) := by simp
  show wpAny _ _ (if ((((items.size : Int) - 1) == 0 && (-1 : Int) == 1 && items.size == items.size) = true) then _ else _) _ _ s
  rw [if_neg hno, dd_revPick]
  first
    | exact wpAny_bind (m := Builtin.Tuple.tupleExact _) (wpAny_newObj_type (wpAny_pure ⟨_, rfl, wpAny_pure h⟩) big)
    | exact wpAny_bind (m := Builtin.Tuple.tupleExact _) (wpAny_newObj_type (wpAny_bind (wpAny_pure (wpAny_pure ⟨_, rfl, wpAny_pure h⟩))) big)
    | exact wpAny_bind (wpAny_bind (m := Builtin.Tuple.tupleExact _) (wpAny_newObj_type (wpAny_pure (wpAny_pure ⟨_, rfl, wpAny_pure h⟩)) big))
    | exact wpAny_bind (wpAny_bind (m := Builtin.Tuple.tupleExact _) (wpAny_newObj_type (wpAny_pure ⟨_, rfl, wpAny_pure h⟩) big))
def tRev (K : PySem.W.Frag) (te : TE) : TE := fun σ H Q => te σ H fun x H1 => ∃ a xs, x = .ref a ∧ ((SqL K H1 a xs ∧ ∀ p, H1 p = none → Q (.ref p) (upd H1 p (.lst xs.reverse))) ∨ (SqT K H1 a xs ∧ ∀ p, H1 p = none → Q (.ref p) (upd H1 p (.tup xs.reverse))))
theorem pe_rev {X : Cx} {e : Expr} {te : TE} {k : Nat} {p1 p2 p3 pos : Pos} (he : PE X e te) : PE X (.Subscript e (.Slice none none (some (.UnaryOp .USub (.Constant (.int 1) k p1) p2)) p3) pos) (tRev X.K te) := by
  refine ⟨fun pins s σ H Q I h => Subscript_ (thn (he.run pins s σ H _ I h) fun v s1 ⟨x, H1, I1, r1, a, xs, ex, q⟩ => ?_)⟩
  subst ex
  cases r1
  have hst : PO X (some (.UnaryOp .USub (.Constant (.int 1) k p1) p2)) (tPart (tUn (rU fun i => .int (-i)) (tC (.int 1)))) := po_some (pe_un un_neg pe_int)
  refine wpAny_Slice (thn (po_none.run pins s1 σ H1 (fun o H2 => o = none ∧ H2 = H1) I1 ⟨rfl, rfl⟩) fun vl s2 ⟨l0, H2, I2, pl, e1, e2⟩ => ?_)
  subst e1 e2
  refine thn (po_none.run pins s2 σ H2 (fun o H3 => o = none ∧ H3 = H2) I2 ⟨rfl, rfl⟩) fun vu s3 ⟨l1, H3, I3, pu, e3, e4⟩ => ?_
  subst e3 e4
  refine thn (hst.run pins s3 σ H3 (fun o H4 => o = some (-1) ∧ H4 = H3) I3 ⟨1, rfl, -1, rfl, rfl, rfl⟩) fun vs s4 ⟨l2, H4, I4, ps, e5, e6⟩ => ?_
  subst e5 e6
  have I5 : Inv X pins σ H4 { s4 with heap := s4.heap.push { cls := .type "slice", data := .fields #[vl, vu, vs] } } := I4.kept (t' := s4.toks) fun b ob q => Heap.get?_push_of_some _ q
  cases pl
  cases pu
  obtain ⟨tk, rfl⟩ : ∃ tk, vs = Value.int (-1) tk := by
    cases ps
    exact ⟨_, rfl⟩
  show wpAny (model X.prog X.w) X.A (subscriptTail e (.Slice none none (some (.UnaryOp .USub (.Constant (.int 1) k p1) p2)) p3) (.ref a) (.ref s4.heap.objs.size)) (EP X pins σ Q) X.xe { s4 with heap := s4.heap.push { cls := .type "slice", data := .fields #[.none, .none, .int (-1) tk] } }
  rcases q with ⟨hx, q⟩ | ⟨hx, q⟩
  · obtain ⟨its, r, ht, hz⟩ := I5.list hx
    have hlen := r.length
    refine tail_any (ops := [.ref a, .ref s4.heap.objs.size]) ht.isList.typeIs (PySem.slot_list_getitem.lookup) ?_ (by with_unfolding_all rfl)
    refine wpAny_getItem_list_slice ht.isList (Heap.IsSliceOf.new _ .none .none (.int (-1) tk)) .none .none (.int _ _) (by decide) ?_ (by rw [List.size_toArray]; omega)
    rw [PySem.W.krv_pick]
    refine ⟨.ref _, _, I5.laid (t' := s4.toks) (o := .lst xs.reverse) (fun b ob z => Heap.get?_push_of_some _ z) (Nat.le_refl _) ⟨?_, _, 0, r.reverse, Heap.get?_push_size _ rfl⟩, rfl, q _ (I5.hok.fresh (Nat.le_refl _))⟩
    rw [List.length_reverse]
    exact hz
  · obtain ⟨its, r, ht, hz⟩ := I5.tuple hx
    have hlen := r.length
    refine tail_any (ops := [.ref a, .ref s4.heap.objs.size]) ht.typeIs (PyProof.Rows.slot_tuple_getitem.lookup) ?_ (by with_unfolding_all rfl)
    refine dd_getRevT ht (Heap.IsSliceOf.new _ .none .none (.int (-1) tk)) (by rw [List.size_toArray]; omega) ?_
    have er : its.toArray.toList.reverse = its.reverse := by simp
    rw [er]
    refine ⟨.ref _, _, I5.laid (t' := s4.toks) (o := .tup xs.reverse) (fun b ob z => Heap.get?_push_of_some _ z) (Nat.le_refl _) ⟨?_, _, r.reverse, IsTup.new _ _⟩, rfl, q _ (I5.hok.fresh (Nat.le_refl _))⟩
    rw [List.length_reverse]
    exact hz

/-! ### isinstance -/
def tyNm : Ty → Str
  | .int => "int" | .bool => "bool" | .tuple => "tuple" | .list => "list" | .str => "str"
def tyS : Ty → String
  | .int => "int" | .bool => "bool" | .tuple => "tuple" | .list => "list" | .str => "str"
theorem tyBoot : ∀ f : Ty, bootBuiltins (tyNm f) = some (.type (tyS f))
  | .int => by decide +kernel
  | .bool => by decide +kernel
  | .tuple => by decide +kernel
  | .list => by decide +kernel
  | .str => by decide +kernel
def dTy : PD → String
  | .none => "NoneType" | .bool _ => "bool" | .int _ => "int" | .str _ => "str" | .list _ => "list" | .tuple _ => "tuple" | .dict _ => "dict"
theorem kit_of_ty (K : PySem.W.Frag) (d : PD) (t : Ty) : PySem.W.kitOne K (.type (dTy d)) (.type (tyS t)) = some (isTy d t) := by
  cases d <;> cases t <;> simp only [dTy, tyS, isTy] <;> first
    | exact kit_ty (by decide +kernel)
    | (show PySem.W.kitOne K (.type _) (.type _) = some _; first | exact kit_ty (by decide +kernel) | decide +kernel)
theorem tyx_of {K : PySem.W.Frag} {H : Hp} {v : V} {d : PD} (r : Rp K H v d) : TyX K H v (.type (dTy d)) := by
  cases r with
  | non => exact .base .non
  | bl b => exact .base (.bl b)
  | int i => exact .base (.int i)
  | str x => exact .base (.str x)
  | lst s _ =>
    rcases s with (s | ⟨o, s⟩) | ⟨o, its, n, h1, h2, _⟩
    · exact .base (.lst s)
    · exact .base (.frz s)
    · exact .kList h1 h2
  | tup s _ =>
    rcases s with (s | ⟨o, s⟩) | ⟨o, its, n, h1, h2, _⟩
    · exact .base (.tup s)
    · exact .fTuple s
    · exact .kTuple h1 h2
  | dic s _ => exact .base (.dK s)
def rIsi1 (K : PySem.W.Frag) (t : Ty) : RC := fun vs H Q => ∃ x d, vs = [x, .ty (tyS t)] ∧ Rp K H x d ∧ Q (.bl (isTy d t)) H
theorem call_isi1 {X : Cx} (t : Ty) : CallR X (.builtin "isinstance") (rIsi1 X.K t) := by
  intro pins s σ H xs us Q I r ⟨x, d, e, rx, q⟩
  exact call_isi pins s σ H xs us Q I r ⟨x, _, _, _, isTy d t, e, .ty _, tyx_of rx, kit_of_ty X.K d t, q⟩
theorem kitAny_of (K : PySem.W.Frag) (d : PD) : ∀ ts : List Ty, PySem.W.kitAny K (.type (dTy d)) (ts.map fun t => .type (tyS t)) = some (ts.any (isTy d))
  | [] => rfl
  | t :: r => by
    rw [List.map_cons, PySem.W.kitAny, kit_of_ty, List.any_cons]
    cases isTy d t with
    | true => rfl
    | false => exact kitAny_of K d r
def rIsiN (K : PySem.W.Frag) (ts : List Ty) : RC := fun vs H Q => ∃ x d tp, vs = [x, .ref tp] ∧ H tp = some (.tup (ts.map fun t => V.ty (tyS t))) ∧ Rp K H x d ∧ Q (.bl (ts.any (isTy d))) H
theorem paired_ty : ∀ ts : List Ty, Paired ClsV (ts.map fun t => V.ty (tyS t)) (ts.map fun t => Value.type (tyS t))
  | [] => .nil
  | t :: r => .cons (.ty _) (paired_ty r)
theorem call_isiN {X : Cx} (ts : List Ty) : CallR X (.builtin "isinstance") (rIsiN X.K ts) := by
  intro pins s σ H xs us Q I r ⟨x, d, tp, e, ht, rx, q⟩
  exact call_isiT pins s σ H xs us Q I r ⟨x, tp, _, _, _, _, e, ht, paired_ty ts, tyx_of rx, kitAny_of X.K d ts, q⟩

/-! ### the place of an item -/
theorem idxV_spec : ∀ (l : List PD) (x : PD) (k n : Nat), idxV l x k = some n → ∃ j, n = k + j ∧ (∃ z, l[j]? = some z ∧ PyData.eqv z x = true) ∧ ∀ m z, m < j → l[m]? = some z → PyData.eqv z x = false
  | [], _, _, _, h => by simp [idxV] at h
  | y :: r, x, k, n, h => by
    unfold idxV at h
    split at h
    · rename_i e
      cases h
      exact ⟨0, rfl, ⟨y, rfl, e⟩, fun m z hm => absurd hm (Nat.not_lt_zero _)⟩
    · rename_i e
      obtain ⟨j, h1, h2, h3⟩ := idxV_spec r x (k + 1) n h
      refine ⟨j + 1, by omega, h2, fun m z hm hz => ?_⟩
      cases m with
      | zero =>
        simp at hz
        subst hz
        simpa using e
      | succ m => exact h3 m z (by omega) (by simpa using hz)
end DD

-- part DIter
set_option Elab.async false
set_option linter.all false
set_option maxRecDepth 100000
set_option maxHeartbeats 2000000
/-! What loops walk. -/
namespace PySem
open Sem (wp)
open AutoSeq1 (wpAny_loadPart')
theorem dd_enum_newT (t : Addr) (items : Array Value) (n : Nat) (dct : Option Addr) (sl : Array (Option Value)) :
    Meets (Builtin.«enumerate.__new__» ⟨[.type "enumerate", .ref t], []⟩) (fun _ R s => s.heap.get? t = some { cls := .type "tuple", dict := dct, data := .seq items n, slots := sl } ∧
      R (.ok (.ret (.ref (s.heap.push { cls := .type "tuple_iterator", data := .fields #[.ref t, .int 0 0] }).objs.size)))
        { s with heap := (s.heap.push { cls := .type "tuple_iterator", data := .fields #[.ref t, .int 0 0] }).push { cls := .type "enumerate", data := .fields #[.none, .bool false, .ref s.heap.objs.size, rawInt 0, .none, .none] } }) :=
  .of_wp fun prog w A R s h => by
    obtain ⟨hp, g, d, tk, os⟩ := s
    obtain ⟨ht, h⟩ := h
    have hsub := sub_enumerate
    have hT : Heap.IsTuple (Shared.heap ⟨hp, g, d, tk, os⟩) t items := ⟨_, ht, rfl, n, rfl⟩
    wp_walk using wpAny_loadPart' ht
    refine wpAny_stack_any fun st => wpAny_pure ?_
    split
    · rename_i c _ _ _ _ _
      cases (c == Value.type "enumerate") <;> (wp_walk using wpAny_loadPart' ht, wpAny_pyIter_tuple hT; exact ⟨_, rfl, h⟩)
    · wp_walk using wpAny_loadPart' ht, wpAny_pyIter_tuple hT
      exact ⟨_, rfl, h⟩
section
variable {prog : Program} {w : World} {A : Around} {E : Value → Shared → Prop} {s : Shared}
theorem dd_call_enumT {t : Addr} {items : Array Value} {Q : Value → Shared → Prop} (hT : s.heap.IsTuple t items)
    (h : ∀ h', IsEnum h' (s.heap.objs.size + 1) s.heap.objs.size 0 .none → h'.IsTupleIter s.heap.objs.size t 0 →
      (∀ b o, s.heap.get? b = some o → h'.get? b = some o) → Q (.ref (s.heap.objs.size + 1)) { s with heap := h' }) :
    wpAny (model prog w) A (call (.type "enumerate") [.ref t]) Q E s := by
  obtain ⟨⟨c, dct, dt, sl⟩, ht, hc, n, hd⟩ := hT
  replace hc : c = .type "tuple" := hc
  replace hd : dt = .seq items n := hd
  subst hc hd
  refine callType_new F.called_enumerate (by decide) (F.typeCall_enumerate_1 _) (F.newCall_enumerate_1 _) (fun obj => F.args_object_init_2 obj _) F.entry_enumerate_new (dd_enum_newT t items n dct sl) ⟨ht, ?_⟩
  have hz : (s.heap.push { cls := .type "tuple_iterator", data := .fields #[.ref t, .int 0 0] }).objs.size = s.heap.objs.size + 1 := Heap.size_push ..
  show _ ∧ _
  rw [hz]
  have he : IsEnum ((s.heap.push { cls := .type "tuple_iterator", data := .fields #[.ref t, .int 0 0] }).push
      { cls := .type "enumerate", data := .fields #[.none, .bool false, .ref s.heap.objs.size, rawInt 0, .none, .none] }) (s.heap.objs.size + 1) s.heap.objs.size 0 .none := by
    have q := Heap.get?_push_size (s.heap.push { cls := .type "tuple_iterator", data := .fields #[.ref t, .int 0 0] })
      (o := { cls := .type "enumerate", data := .fields #[.none, .bool false, .ref s.heap.objs.size, rawInt 0, .none, .none] }) rfl
    rw [hz] at q
    exact q
  exact ⟨⟨_, he, rfl⟩, h _ he ⟨_, Heap.get?_push_of_some _ (Heap.get?_push_size _ rfl), rfl, rfl⟩ fun b o x => Heap.get?_push_of_some _ (Heap.get?_push_of_some _ x)⟩
end
end PySem
namespace DD
open PySem PySem.Spec PyProof.Rows L2

/-! ### enumerate of a tuple -/
def IteT (K : PySem.W.Frag) (a : Addr) : L2.It :=
  ⟨fun i H => ∃ (xs : List V) (x : V), SqT K H a xs ∧ xs[i]? = some x, fun i H v H' => ∃ T x, v = .ref T ∧ H T = none ∧ H' = upd H T (.tup [.int (i : Nat), x]) ∧ ∀ xs, SqT K H a xs → xs[i]? = some x, fun i H => ∃ xs : List V, SqT K H a xs ∧ xs.length ≤ i⟩
theorem turn_enumT {P : Program} {w : World} {K : PySem.W.Frag} {elts : List Expr} {kk : Nat} {tpos : Pos} (a e it : Addr) :
    Turn P w K (.Tuple elts kk tpos) (IteT K a) [e, it] e (fun i h => (∃ old, IsEnum h e it ((i : Nat) : Int) old) ∧ h.IsTupleIter it a i ∧ e ≠ it ∧ a ≠ it) where
  mem := by simp
  obj := fun i h st b hb => by
    obtain ⟨⟨old, he⟩, ⟨o, ho, hc, hd⟩, _⟩ := st
    have e' : b = e ∨ b = it := by simpa using hb
    rcases e' with z | z
    · rw [z]
      exact ⟨_, he, fun v q => nomatch q⟩
    · rw [z]
      exact ⟨o, ho, fun v q => by
        rw [hd] at q
        cases q⟩
  keep := fun i h h' st k => by
    obtain ⟨⟨old, he⟩, hi, hne, hna⟩ := st
    exact ⟨⟨old, k e (by simp) _ he⟩, hi.at fun o q => k it (by simp) o q, hne, hna⟩
  item := by
    intro X hP hw hK hc i pins s σ H E I hf st hg
    subst hP hw hK
    obtain ⟨⟨old, he⟩, hit, hne, hna⟩ := st
    obtain ⟨xs, x, hq, hx⟩ := hg
    obtain ⟨its, rv, p, hz⟩ := I.tuple hq
    obtain ⟨u, hu, ru⟩ := rv.get hx
    have pT : s.heap.IsTuple a its.toArray := p
    have hel : e < s.heap.objs.size := Heap.lt_size he
    have hil : it < s.heap.objs.size := by
      obtain ⟨_, q, _⟩ := hit
      exact Heap.lt_size q
    by_cases hea : e = a
    · exfalso
      obtain ⟨o1, ho1, hc1, _⟩ := pT
      rw [← hea, he] at ho1
      cases ho1
      exact absurd hc1 (by
        show ¬ (Value.type "enumerate" = Value.type "tuple")
        decide)
    have D := Draws.tuple (prog := X.prog) (w := X.w) (A := X.A.in1) (I.ok.hd hc) it a hna its.toArray
    have hin : i < its.toArray.size := by
      have := List.getElem?_eq_some_iff.mp hu
      simpa using this.1
    refine wpAny_pyNext_enum_itemD D he ⟨hit, pT⟩ hin hne (by
      intro hm
      rcases List.mem_cons.mp hm with z | z
      · exact hne z
      · exact hea (by simpa using z)) fun x' h' tk hx' ho hst hT hsz hk => ?_
    have ex' : x' = u := by
      have h1 : its.toArray[i]? = some u := by simpa using hu
      rw [h1] at hx'
      exact (Option.some.inj hx').symm
    subst ex'
    refine ⟨_, rfl, wpAny_letOwnedTupleGo_enum (s := { s with heap := h', toks := tk + 1 }) ho fun h'' he' sb => ?_⟩
    have hT2 : h''.get? s.heap.objs.size = some { cls := .type "tuple", data := .seq #[.int i tk, x'] } := (sb.2 _ (Nat.ne_of_gt hel)).trans hT
    have new : ObjOk X.prog X.w (upd H s.heap.objs.size (.tup [.int (i : Nat), x])) h'' s.heap.objs.size (.tup [.int (i : Nat), x]) :=
      ⟨by show 2 ≤ sizeLine; decide, [.int i tk, x'], .cons ⟨_, rfl⟩ (.cons ru .nil), ⟨_, hT2, rfl, _, rfl⟩⟩
    have I1 : Inv X pins σ (upd H s.heap.objs.size (.tup [.int (i : Nat), x])) { s with heap := h'', toks := tk + 1 } :=
      I.turnedNew (ch := [e, it]) (fun b ob hb q => (sb.2 b (fun z => hb (by simp [z]))).trans (hk b ob (fun z => hb (by simp [z])) (fun z => hb (by simp [z])) q)) hf (Nat.le_refl _) new
    refine ⟨V.ref s.heap.objs.size, _, I1, rfl, ⟨_, x, rfl, I.hok.fresh (Nat.le_refl _), rfl, fun ys hy => by rw [I.tuple_inj hy hq]; exact hx⟩, ⟨⟨x', ?_⟩, hst.1.at fun o q => (sb.2 it (Ne.symm hne)).trans q, hne, hna⟩, fun b hb => ?_⟩
    · have e1 : ((i + 1 : Nat) : Int) = (i : Int) + 1 := by omega
      rw [e1]
      exact he'
    · have hb' : b < s.heap.objs.size := by
        have e' : b = e ∨ b = it := by simpa using hb
        rcases e' with z | z
        · rw [z]
          exact hel
        · rw [z]
          exact hil
      rw [upd_ne (Nat.ne_of_lt hb')]
      exact (hf b hb).1
  done := by
    intro X hP hw hK hc i pins s σ H E I hf st hg
    subst hP hw hK
    obtain ⟨⟨old, he⟩, hit, hne, hna⟩ := st
    obtain ⟨xs, hq, hx⟩ := hg
    obtain ⟨its, rv, p, hz⟩ := I.tuple hq
    obtain ⟨f0, f1, f2, f3, f4, f5⟩ := hf it (by simp)
    have hl := rv.length
    have pT : s.heap.IsTuple a its.toArray := p
    unfold pyNext
    have hT : s.TypeIs (.ref e) "enumerate" := ⟨_, he, rfl⟩
    refine wpAny_bind (wpAny_attempt (wpAny_callSpecial?_slot (name := Str.ofString "__next__") hT F.slot_enumerate_next
      (wpAny_call_entry F.slot_enumerate_next hT F.entry_enumerate_next ?_ (F.args_enumerate_next_1 _))))
    show wpAny _ _ (field (.ref e) 2 >>= _) _ _ _
    refine wpAny_bind (wpAny_field he rfl (x := .ref it) rfl ?_)
    refine wpAny_bind (wpAny_nextOf_tuple_end (I.ok.hd hc) hit pT (by simp; omega) fun h' x he' hx' => ?_)
    obtain ⟨o, ho, hcl⟩ := hx'
    refine wpAny_bind (wpAny_isInstance (T := "StopIteration") (b := true) ⟨o, ho, hcl⟩ isSubtype_stop ?_)
    exact wpAny_pure ⟨rfl, I.turned (t' := s.toks) (fun b o hb q => he' b o hb q) f0 f1 f3 f4 f5⟩
  self := fun A i s Q E st h => by
    obtain ⟨⟨_, he⟩, _⟩ := st
    exact wpAny_pyIter_enum he h
end DD

-- part DMatch
set_option Elab.async false
set_option linter.all false
set_option maxRecDepth 100000
/-! When a Python text is a text of the small language. -/
namespace DD
open PySem PySem.Spec PyProof.Rows L2

structure Tb where
  N : List Str
  cn : List (Str × Bool × Nat)
  gi : List (Str × Int)
  gt : List (Str × List Int)
  exn : List Str

def visB (sc : Scope) (x : Str) : Bool := match sc.names.lookup x with
  | some .local => true
  | some .cell => true
  | some .free => true
  | _ => false
def glB (sc : Scope) (x : Str) : Bool := match sc.names.lookup x with
  | some .globalImplicit => true
  | _ => false
def locB (sc : Scope) (x : Str) : Bool := match sc.names.lookup x with
  | some .local => true
  | some .cell => true
  | _ => false
def lcB (sc : Scope) (x : Str) : Bool := match sc.names.lookup x with
  | some .local => true
  | _ => false
def nmOk (x : Str) : Bool := !(x == ("__debug__" : Str)) && !(x == ("__classdict__" : Str)) && decide (x ≠ ("__name__" : Str))
def slotB (tb : Tb) (sc : Scope) (i : Nat) (x : Str) : Bool := decide (tb.N[i]? = some x) && visB sc x && nmOk x
def nostar : Expr → Bool
  | .Starred _ _ => false
  | _ => true
def noset : Expr → Bool
  | .Set _ _ _ => false
  | _ => true
def nocomp : Expr → Bool
  | .ListComp _ _ _ _ => false
  | .SetComp _ _ _ _ => false
  | .DictComp _ _ _ _ _ => false
  | _ => true
def noslice : Expr → Bool
  | .Slice _ _ _ _ => false
  | _ => true
def baseB : Expr → Bool
  | .Call _ [] _ _ => false
  | _ => true
/-- a plain test: its value's truth -/
def plainT : Expr → Bool
  | .UnaryOp .Not _ _ => false
  | .BoolOp _ _ _ => false
  | .IfExp _ _ _ _ => false
  | .Compare _ _ _ _ => false
  | _ => true
/-- the names of a target with their slots -/
def ownNs : List Nat → List Expr → Option (List (Str × Nat))
  | [], [] => some []
  | i :: is, .Name x _ :: es => (ownNs is es).map ((x, i) :: ·)
  | _, _ => none
def ownOf : Tg → Expr → Option (List (Str × Nat))
  | .nm i, .Name x _ => some [(x, i)]
  | .tp is, .Tuple es _ _ => ownNs is es
  | _, _ => none
def lenEs : Es → Nat
  | .nil => 0
  | .cons _ es => lenEs es + 1
mutual
def mutsE : E → List Nat
  | .sc e => mutsE e
  | .bin _ a b => mutsE a ++ mutsE b
  | .neg a => mutsE a
  | .cmp _ a b => mutsE a ++ mutsE b
  | .chain _ _ a b c => mutsE a ++ (mutsE b ++ mutsE c)
  | .and a b => mutsE a ++ mutsE b
  | .or a b => mutsE a ++ mutsE b
  | .not a => mutsE a
  | .ite c a b => mutsE c ++ (mutsE a ++ mutsE b)
  | .call _ as => mutsEs as
  | .callm _ v as => v :: mutsEs as
  | .blt _ as => mutsEs as
  | .trng _ as => mutsEs as
  | .isi a _ => mutsE a
  | .ix a i => mutsE a ++ mutsE i
  | .ixv _ i => mutsE i
  | .slc a lo hi => mutsE a ++ (mutsE lo ++ mutsE hi)
  | .slv _ lo hi => mutsE lo ++ mutsE hi
  | .rev a => mutsE a
  | .tup as => mutsEs as
  | .lst as => mutsEs as
  | .dic1 k v => mutsE k ++ mutsE v
  | .lc elt _ it cond => mutsI it ++ (mutsE cond ++ mutsE elt)
  | .idx a x => mutsE a ++ mutsE x
  | _ => []
def mutsEs : Es → List Nat
  | .nil => []
  | .cons e es => mutsE e ++ mutsEs es
def mutsI : It → List Nat
  | .seq e => mutsE e
  | .hid _ => []
  | .rng as => mutsEs as
  | .enu e => mutsE e
  | .zip a b => mutsE a ++ mutsE b
end
def isYes : E → Bool
  | .bl true => true
  | _ => false
def ownB (tb : Tb) (sc scope : Scope) (tg : Tg) (t : Expr) : Bool := match ownOf tg t with
  | some own => blkC tb.N sc scope own && own.all (fun p => locB scope p.1) && decide (own.map (·.2)).Nodup
  | none => false
def isTys : List Ty → List Expr → Bool
  | [], [] => true
  | t :: ts, .Name x _ :: es => decide (x = tyNm t) && isTys ts es
  | _, _ => false
def allGl (sc : Scope) : List Expr → Bool
  | [] => true
  | .Name x _ :: es => glB sc x && allGl sc es
  | _ => false
def isTy1 (sc : Scope) (ts : List Ty) : Expr → Bool
  | .Name x _ => (match ts with
    | [t] => decide (x = tyNm t)
    | _ => false) && glB sc x
  | .Tuple es _ _ => isTys ts es && allGl sc es && decide (ts.length ≤ 5)
  | _ => false
def sub0 (xs : List Nat) : Bool := xs.all fun i => decide (i ≠ 0)
def apart (xs ys : List Nat) : Bool := xs.all fun i => decide (i ∉ ys)
mutual
def isE (tb : Tb) (sc : Scope) : E → Expr → Bool
  | .int i, .Constant (.int j) _ _ => decide (i = j)
  | .bl b, .Constant (.bool c) _ _ => decide (b = c)
  | .non, .Constant .none _ _ => true
  | .str s, .Constant (.str t) _ _ => decide (s = t)
  | .gint x i, .Name y _ => decide (x = y) && glB sc y && nmOk y && decide ((x, i) ∈ tb.gi)
  | .gtup x is, .Name y _ => decide (x = y) && glB sc y && nmOk y && decide ((x, is) ∈ tb.gt)
  | .var i, .Name x _ => slotB tb sc i x
  | .mv i, .Name x _ => slotB tb sc i x
  | .sc e, ex => (mutsE e).isEmpty && isE tb sc e ex
  | .bin op a b, .BinOp l o r _ => decide (op = o) && isE tb sc a l && isE tb sc b r
  | .neg a, .UnaryOp .USub x _ => isE tb sc a x
  | .cmp op a b, .Compare l [o] [r] _ => decide (op = o) && noset r && isE tb sc a l && isE tb sc b r
  | .chain op op2 a b c, .Compare l [o, o2] [r, r2] _ => decide (op = o) && decide (op2 = o2) && noset r && noset r2 && isE tb sc a l && isE tb sc b r && isE tb sc c r2
  | .and a b, .BoolOp .And (x :: y :: r) pos => isE tb sc a x && (match r with
    | [] => isE tb sc b y
    | _ :: _ => isE tb sc b (.BoolOp .And (y :: r) pos))
  | .or a b, .BoolOp .Or (x :: y :: r) pos => isE tb sc a x && (match r with
    | [] => isE tb sc b y
    | _ :: _ => isE tb sc b (.BoolOp .Or (y :: r) pos))
  | .not a, .UnaryOp .Not x _ => isE tb sc a x
  | .ite c a b, .IfExp t x y _ => isE tb sc c t && isE tb sc a x && isE tb sc b y
  | .call k as, .Call (.Name x _) (e :: es) [] _ => decide (tb.cn[k]? = some (x, false, lenEs as)) && glB sc x && nmOk x && isEs tb sc as (e :: es)
  | .callm k v as, .Call (.Name x _) (.Name y _ :: es) [] _ => decide (tb.cn[k]? = some (x, true, lenEs as + 1)) && glB sc x && nmOk x && slotB tb sc v y && isEs tb sc as es
  | .blt f as, .Call (.Name x _) (e :: es) [] _ => decide (x = bltNm f) && glB sc x && isEs tb sc as (e :: es)
  | .isi a ts, .Call (.Name x _) [e, t] [] _ => decide (x = ("isinstance" : Str)) && glB sc x && nostar e && isE tb sc a e && isTy1 sc ts t
  | .ix a i, .Subscript e s _ => noslice s && isE tb sc a e && isE tb sc i s
  | .ixv v i, .Subscript (.Name x _) s _ => slotB tb sc v x && noslice s && isE tb sc i s
  | .slc a lo hi, .Subscript e (.Slice l h none _) _ => isE tb sc a e && (match l with
    | none => isNop lo
    | some x => isE tb sc lo x) && (match h with
    | none => isNop hi
    | some x => isE tb sc hi x)
  | .rev a, .Subscript e (.Slice none none (some (.UnaryOp .USub (.Constant (.int j) _ _) _)) _) _ => decide (j = 1) && isE tb sc a e
  | .trng f as, .Call (.Name x _) [.Call (.Name y _) es [] _] [] _ => (decide (f = .tuple) || decide (f = .list)) && decide (x = bltNm f) && glB sc x && decide (y = ("range" : Str)) && glB sc y && (decide (lenEs as = 1) || decide (lenEs as = 2)) && isEs tb sc as es
  | .slv v lo hi, .Subscript (.Name x _) (.Slice l h none _) _ => slotB tb sc v x && (match l with
    | none => isNop lo
    | some x => isE tb sc lo x) && (match h with
    | none => isNop hi
    | some x => isE tb sc hi x)
  | .tup as, .Tuple es _ _ => isEs tb sc as es
  | .lst as, .List es _ => isEs tb sc as es
  | .dic0, .Dict [] [] _ => true
  | .lc elt tg it cond, .ListComp el [⟨t, i, ifs, as⟩] scope _ => decide (as = 0) && ownB tb sc scope tg t && sub0 (tg.slots ++ hidI it) && apart (tg.slots ++ hidI it) (mutsE cond ++ mutsE elt) && noset i && isI tb sc it i t && isE tb (relS scope sc) elt el && (match ifs with
    | [] => isYes cond
    | [c] => isE tb (relS scope sc) cond c
    | _ => false)
  | .idx a x, .Call (.Attribute o m ap) [e] [] cp => decide (m = ("index" : Str)) && baseB o && (ap.endLine == cp.line) && nostar e && isE tb sc a o && isE tb sc x e
  | _, _ => false
def isEs (tb : Tb) (sc : Scope) : Es → List Expr → Bool
  | .nil, [] => true
  | .cons e es, x :: xs => nostar x && isE tb sc e x && isEs tb sc es xs
  | _, _ => false
def isI (tb : Tb) (sc : Scope) : It → Expr → Expr → Bool
  | .seq e, ex, _ => isE tb sc e ex
  | .hid v, .Name x _, _ => slotB tb sc v x
  | .rng as, .Call (.Name x _) (e :: es) [] _, _ => decide (x = ("range" : Str)) && glB sc x && decide (lenEs as ≤ 2) && isEs tb sc as (e :: es)
  | .enu e, .Call (.Name x _) [a] [] _, .Tuple _ _ _ => decide (x = ("enumerate" : Str)) && glB sc x && nostar a && isE tb sc e a
  | .zip a b, .Call (.Name x _) [u, w] [] _, .Tuple _ _ _ => decide (x = ("zip" : Str)) && glB sc x && nostar u && nostar w && isE tb sc a u && isE tb sc b w
  | _, _, _ => false
end
end DD

-- part DCtx
set_option Elab.async false
set_option linter.all false
set_option maxRecDepth 100000
/-! The context, promises, what soundness says. -/
namespace DD
open PySem PySem.Spec PyProof.Rows L2

/-! ### a def's promise -/
def ArgsOk (K : PySem.W.Frag) (H Hf : Hp) (mu : Bool) (vs : List V) (ds : List PD) : Prop :=
  if mu = true then ∃ v r d s, vs = v :: r ∧ ds = d :: s ∧ Own K H Hf v d ∧ RpA K Hf r s else RpA K Hf vs ds
/-- what may change: the first argument's own object -/
def MuAt (mu : Bool) (vs : List V) (a : Addr) : Prop := mu = true ∧ vs.head? = some (V.ref a)
def spF (K : PySem.W.Frag) (mg : Str → Option Value) (s : FSem) (n : Nat) : Sp := fun vs H Q E => vs.length = n ∧ ∃ ds Hf, Same Hf H ∧ ArgsOk K H Hf s.mu vs ds ∧
  match s.run ds with
  | none => False
  | some (.ret d fr m) => ∀ v H' Hf', Same Hf Hf' → Same Hf' H' → (∀ a o, H a = some o → ¬ MuAt s.mu vs a → H' a = some o) → (∀ b u, H b = some u → Hf' b = Hf b) →
      (s.mu = true → ∀ w, vs.head? = some w → Own K H' Hf' w m) →
      (if fr = true then Own K H' Hf' v d ∧ ∀ a, v = .ref a → H a = none else Rp K Hf' v d) → Q v H'
  | some (.ex x) => ∀ C H', mg x = some (.ref C) → (∀ a o, H a = some o → ¬ MuAt s.mu vs a → H' a = some o) → E (.ref C) none H'

structure FInfo where
  f : Addr
  fd : FuncData
  ps : List Str
def bltNames : List Str := ["len", "sum", "max", "min", "sorted", "all", "any", "tuple", "list", "set", "int", "str", "bool", "isinstance", "range", "enumerate", "zip"]

structure DCx (tb : Tb) (cs : List FSem) (fa : List FInfo) (K : PySem.W.Frag) (mg : Str → Option Value) (k : Nat) (sc : Scope) (E : XK) (X : Cx) : Prop where
  hK : X.K = K
  hmg : X.mg = mg
  hN : X.N = tb.N
  nd : X.N.Nodup
  hsc : X.env.scope = sc
  calm : X.calm = true
  room : Room k X.A
  pass : Passes (L2.CX X.prog X.w) X E
  fns : ∀ (i : Nat) (nm : Str) (mu : Bool) (ar : Nat), tb.cn[i]? = some (nm, mu, ar) → ∃ (s : FSem) (g : FInfo), cs[i]? = some s ∧ fa[i]? = some g ∧ s.mu = mu ∧ mg nm = some (.ref g.f) ∧ PySem.W.keepIn X.K (.ref g.f) = true ∧ Binds X.K g.fd g.ps [] ∧ g.ps.length = ar ∧
    FnOk X.prog X.w X.K X.mg X.base (L2.CX X.prog X.w) k g.f g.fd g.ps (spF K mg s ar)
  blt : ∀ x ∈ bltNames, mg x = none
  gi : ∀ x i, (x, i) ∈ tb.gi → ∃ t, mg x = some (.int i t)
  gt : ∀ x is, (x, is) ∈ tb.gt → ∃ a, mg x = some (.ref a) ∧ ∀ H, SqT K H a (is.map V.int)
section
variable {tb : Tb} {cs : List FSem} {fa : List FInfo} {K : PySem.W.Frag} {mg : Str → Option Value} {k : Nat} {sc : Scope} {E : XK} {X : Cx}
theorem DCx.units (C : DCx tb cs fa K mg k sc E X) : X.A.units + 65 < cLine := by
  have := C.room.un
  omega
theorem DCx.slot (C : DCx tb cs fa K mg k sc E X) {i : Nat} {x : Str} {pos : Pos} (h : slotB tb sc i x = true) : PE X (.Name x pos) (tVar i) := by
  unfold slotB nmOk at h
  simp only [Bool.and_eq_true, decide_eq_true_eq, Bool.not_eq_true'] at h
  obtain ⟨⟨h1, h2⟩, ⟨h3, h4⟩, _⟩ := h
  refine pe_var (by rw [C.hN]; exact h1) ?_ h3 h4
  rw [C.hsc]
  unfold visB at h2
  unfold Vis
  split at h2
  · rename_i e
    exact .inl e
  · rename_i e
    exact .inr (.inl e)
  · rename_i e
    exact .inr (.inr e)
  · cases h2
theorem DCx.gl (C : DCx tb cs fa K mg k sc E X) {x : Str} (h : glB sc x = true) : Gl X x := by
  unfold glB at h
  unfold Gl Env.kindOf
  rw [C.hsc]
  split at h
  · rename_i e
    exact e
  · cases h
theorem DCx.nob (C : DCx tb cs fa K mg k sc E X) {x : Str} (h : x ∈ bltNames) : X.mg x = none := by
  rw [C.hmg]
  exact C.blt x h
end

/-! ### what is said of an expression -/
def EFr (H0 : Hp) (B : Bor) (H' : Hp) : Prop := ∀ a o, H0 a = some o → (∀ i, (i, a) ∉ B) → H' a = some o
def ExW (mg : Str → Option Value) (H0 : Hp) (B : Bor) (Ex : XK) (x : Str) : Prop := ∀ C H', mg x = some (Value.ref C) → EFr H0 B H' → Ex (.ref C) none H'
/-- borrowed names stand at slot 0 -/
def BOk (B : Bor) : Prop := ∀ i a, (i, a) ∈ B → i = 0
def GoodE (K : PySem.W.Frag) (mg : Str → Option Value) (cs : List FSem) (Ex : XK) (e : E) (t : TE) : Prop := ∀ H0 B σ H Hf ρ, BOk B → Rel K H0 B σ H Hf ρ →
  match evalE cs e ρ with
  | none => True
  | some (.ok d fr ρ') => ∀ Q : VK, (∀ v H', PostE K H0 B σ ρ (mutsE e) H Hf d fr ρ' v H' → Q v H') → t σ H Q
  | some (.ex x) => ∀ Q : VK, ExW mg H0 B Ex x → t σ H Q
def GoodT (K : PySem.W.Frag) (mg : Str → Option Value) (cs : List FSem) (Ex : XK) (e : E) (t : TT) : Prop := ∀ H0 B σ H Hf ρ, BOk B → Rel K H0 B σ H Hf ρ →
  match evalE cs e ρ with
  | some (.ok (.bool b) _ ρ') => ∀ Q : Bool → Hp → Prop, (∀ H' Hf', Step K H0 B σ (mutsE e) ρ H Hf ρ' H' Hf' → Q b H') → t σ H Q
  | some (.ex x) => ∀ Q : Bool → Hp → Prop, ExW mg H0 B Ex x → t σ H Q
  | _ => True
def GoodA (K : PySem.W.Frag) (mg : Str → Option Value) (cs : List FSem) (Ex : XK) (es : Es) (t : TA) : Prop := ∀ H0 B σ H Hf ρ, BOk B → Rel K H0 B σ H Hf ρ →
  match evalEs cs es ρ with
  | none => True
  | some (.ok ds ρ') => ∀ Q : List V → Hp → Prop, (∀ vs H', PostA K H0 B σ ρ (mutsEs es) H Hf ds ρ' vs H' → Q vs H') → t σ H Q
  | some (.ex x) => ∀ Q : List V → Hp → Prop, ExW mg H0 B Ex x → t σ H Q
/-- what is walked: n items while G stands -/
def Serves (K : PySem.W.Frag) (J : L2.It) (g : Option (Addr × List V)) (Hf : Hp) (ds : List PD) : Prop :=
  (∀ i d H Hf1, Same Hf Hf1 → Same Hf1 H → (∀ a xs, g = some (a, xs) → H a = some (.lst xs)) → ds[i]? = some d → J.go i H ∧ ∀ x H', J.yld i H x H' → PostV K H Hf1 d false x H') ∧
  (∀ H Hf1, Same Hf Hf1 → Same Hf1 H → (∀ a xs, g = some (a, xs) → H a = some (.lst xs)) → J.stop ds.length H)
def GoodI (K : PySem.W.Frag) (mg : Str → Option Value) (cs : List FSem) (Ex : XK) (it : It) (wi : TI) : Prop := ∀ H0 B σ H Hf ρ, BOk B → Rel K H0 B σ H Hf ρ →
  match evalI cs it ρ with
  | none => True
  | some (.ok ds ρ') => ∀ R : L2.It → Hp → Prop, (∀ J H' Hf' g, Step K H0 B σ (mutsI it) ρ H Hf ρ' H' Hf' → Serves K J g Hf' ds →
      (∀ a xs, g = some (a, xs) → H' a = some (.lst xs) ∧ ∃ v c, it = .hid v ∧ getC ρ' v = some c ∧ c.isMut = true ∧ σ[v]? = some (some (V.ref a))) → R J H') → wi σ H R
  | some (.ex x) => ∀ R : L2.It → Hp → Prop, ExW mg H0 B Ex x → wi σ H R

/-- the family of contexts that a text may run in -/
abbrev Fam := Cx → Prop
structure Setg where
  tb : Tb
  cs : List FSem
  fa : List FInfo
  K : PySem.W.Frag
  mg : Str → Option Value
  k : Nat
abbrev Setg.ctx (S : Setg) (sc : Scope) (Ex : XK) (X : Cx) : Prop := DCx S.tb S.cs S.fa S.K S.mg S.k sc Ex X
def SndE (S : Setg) (e : E) : Prop := ∀ (sc : Scope) (Ex : XK) (F : Fam), (∀ X, F X → S.ctx sc Ex X) → ∀ ex, isE S.tb sc e ex = true → ∃ t : TE, (∀ X, F X → PE X ex t) ∧ GoodE S.K S.mg S.cs Ex e t
def SndT (S : Setg) (e : E) : Prop := ∀ (sc : Scope) (Ex : XK) (F : Fam), (∀ X, F X → S.ctx sc Ex X) → ∀ ex, isE S.tb sc e ex = true → ∃ t : TT, (∀ X, F X → PT X ex t) ∧ GoodT S.K S.mg S.cs Ex e t
def SndA (S : Setg) (es : Es) : Prop := ∀ (sc : Scope) (Ex : XK) (F : Fam), (∀ X, F X → S.ctx sc Ex X) → ∀ exs, isEs S.tb sc es exs = true → ∃ t : TA, (∀ X, F X → PA X exs t) ∧ GoodA S.K S.mg S.cs Ex es t
def SndI (S : Setg) (it : It) : Prop := ∀ (sc : Scope) (Ex : XK) (F : Fam), (∀ X, F X → S.ctx sc Ex X) → ∀ ex tg, isI S.tb sc it ex tg = true → ∃ t : TI, (∀ X, F X → PI X tg ex t) ∧ GoodI S.K S.mg S.cs Ex it t

theorem ExW.of {mg : Str → Option Value} {H0 : Hp} {B : Bor} {Ex : XK} {x : Str} (h : ExW mg H0 B Ex x) : ExW mg H0 B Ex x := h
/-! ### plain ways -/
theorem star_ok {e : Expr} (h : nostar e = true) (es : List Expr) (env : PySem.Env) : starEach (e :: es) env = (false, eval e env) :: starEach es env := by
  cases e <;> first | rfl | simp [nostar] at h
theorem star_none {es : List Expr} (h : es.all nostar = true) (env : PySem.Env) (pos : Pos) : (backTo pos (starEach es env)).any (·.1) = false := by
  induction es with
  | nil => rfl
  | cons e r ih =>
    rw [List.all_cons, Bool.and_eq_true] at h
    rw [star_ok h.1]
    unfold backTo at ih ⊢
    rw [List.map_cons, List.any_cons, ih h.2]
    rfl
theorem fold_ok {e : Expr} (h : noset e = true) (env : PySem.Env) (x : Value) : foldedSetIterable e env x = pure x := by
  cases e <;> first | rfl | simp [noset] at h
theorem mark_ok {e : Expr} (h : noset e = true) (op : CmpOp) : behindInMarks op e = false := by
  cases e <;> first | rfl | simp [noset] at h
theorem plainIx_ok {e : Expr} (h : noslice e = true) : PlainIx e := by
  intro o i
  cases e <;> first | rfl | simp [noslice] at h
theorem base_ok {o : Expr} (h : baseB o = true) (m : Str) (env : PySem.Env) (w : Sem Value) : attributeBase o m env w = w := by
  cases o with
  | Call f as ks p =>
    cases as with
    | nil => simp [baseB] at h
    | cons a r =>
      cases f <;> rfl
  | _ => rfl
theorem plainT_ok {e : Expr} (h : plainT e = true) (env : PySem.Env) : ∀ whole, isTrue e env whole = (do let v ← whole; standAt e.pos; holding [v] (truthy v)) := by
  intro whole
  cases e with
  | UnaryOp op x p =>
    cases op with
    | Not => simp [plainT] at h
    | _ => rfl
  | BoolOp _ _ _ => simp [plainT] at h
  | IfExp _ _ _ _ => simp [plainT] at h
  | Compare _ _ _ _ => simp [plainT] at h
  | _ => rfl
theorem swap_ok {e : Expr} (h : nocomp e = true) (tg : Option Expr) (l : Nat) (env : PySem.Env) : swapsWith e tg l env = pure false := by
  cases e <;> first | rfl | simp [nocomp] at h
end DD

-- part DSnd
set_option Elab.async false
set_option linter.all false
set_option maxRecDepth 100000
set_option maxHeartbeats 1000000
/-! Soundness, construct by construct. -/
namespace DD
open PySem PySem.Spec PyProof.Rows L2

section
variable {K : PySem.W.Frag} {mg : Str → Option Value} {cs : List FSem} {Ex : XK} {H0 : Hp} {B : Bor} {σ : L2.St} {ms ms1 ms2 : List Nat} {ρ ρ1 ρ2 : Env} {H Hf H1 Hf1 H2 Hf2 : Hp} {d : PD} {fr : Bool} {v : V}
theorem PostE.after (a : Step K H0 B σ ms1 ρ H Hf ρ1 H1 Hf1) (b : PostE K H0 B σ ρ1 ms2 H1 Hf1 d fr ρ2 v H2) (s1 : ∀ i ∈ ms1, i ∈ ms) (s2 : ∀ i ∈ ms2, i ∈ ms) : PostE K H0 B σ ρ ms H Hf d fr ρ2 v H2 := by
  obtain ⟨Hf2, S, r, n⟩ := b
  refine ⟨Hf2, a.trans S s1 s2, r, fun z x ex => ?_⟩
  rcases n z x ex with q | ⟨i, c, hc, m, e⟩
  · cases hx : H x with
    | none => exact .inl rfl
    | some u =>
      refine .inr (Classical.byContradiction fun hn => ?_)
      have := a.fr x u hx fun ⟨i, _, c, hc, m, e⟩ => hn ⟨i, c, hc, m, e⟩
      rw [q] at this
      cases this
  · obtain ⟨c', hc', m'⟩ := a.le.mu i c hc m
    exact .inr ⟨i, c', hc', m', e⟩
theorem PostE.more (b : PostE K H0 B σ ρ ms2 H Hf d fr ρ2 v H2) (s2 : ∀ i ∈ ms2, i ∈ ms) : PostE K H0 B σ ρ ms H Hf d fr ρ2 v H2 := by
  obtain ⟨Hf2, S, r, n⟩ := b
  exact ⟨Hf2, S.more s2, r, n⟩
theorem PostE.ofV (a : Step K H0 B σ ms1 ρ H Hf ρ1 H1 Hf1) (b : PostV K H1 Hf1 d fr v H2) (s1 : ∀ i ∈ ms1, i ∈ ms) : PostE K H0 B σ ρ ms H Hf d fr ρ1 v H2 :=
  PostE.after a (b.toE (ms := []) a.rel) s1 (fun i h => by simp at h)
theorem GoodE.run {e : E} {t : TE} (g : GoodE K mg cs Ex e t) (hB : BOk B) (R : Rel K H0 B σ H Hf ρ) (h : evalE cs e ρ = some (.ok d fr ρ1)) {Q : VK} (q : ∀ v H1 Hf1, Step K H0 B σ (mutsE e) ρ H Hf ρ1 H1 Hf1 → Rp K Hf1 v d → Q v H1) : t σ H Q := by
  have := g H0 B σ H Hf ρ hB R
  rw [h] at this
  refine this Q fun v H1 p => ?_
  obtain ⟨Hf1, S, r, _⟩ := p.frz
  exact q v H1 Hf1 S r
theorem GoodE.full {e : E} {t : TE} (g : GoodE K mg cs Ex e t) (hB : BOk B) (R : Rel K H0 B σ H Hf ρ) (h : evalE cs e ρ = some (.ok d fr ρ1)) {Q : VK} (q : ∀ v H1, PostE K H0 B σ ρ (mutsE e) H Hf d fr ρ1 v H1 → Q v H1) : t σ H Q := by
  have := g H0 B σ H Hf ρ hB R
  rw [h] at this
  exact this Q q
theorem GoodE.exc {e : E} {t : TE} {x : Str} (g : GoodE K mg cs Ex e t) (hB : BOk B) (R : Rel K H0 B σ H Hf ρ) (h : evalE cs e ρ = some (.ex x)) {Q : VK} (q : ExW mg H0 B Ex x) : t σ H Q := by
  have := g H0 B σ H Hf ρ hB R
  rw [h] at this
  exact this Q q
theorem GoodA.run {e : Es} {t : TA} {ds : List PD} (g : GoodA K mg cs Ex e t) (hB : BOk B) (R : Rel K H0 B σ H Hf ρ) (h : evalEs cs e ρ = some (.ok ds ρ1)) {Q : List V → Hp → Prop} (q : ∀ vs H1 Hf1, Step K H0 B σ (mutsEs e) ρ H Hf ρ1 H1 Hf1 → RpA K Hf1 vs ds → Q vs H1) : t σ H Q := by
  have := g H0 B σ H Hf ρ hB R
  rw [h] at this
  refine this Q fun v H1 p => ?_
  obtain ⟨Hf1, S, r⟩ := p
  exact q v H1 Hf1 S r
theorem GoodA.exc {e : Es} {t : TA} {x : Str} (g : GoodA K mg cs Ex e t) (hB : BOk B) (R : Rel K H0 B σ H Hf ρ) (h : evalEs cs e ρ = some (.ex x)) {Q : List V → Hp → Prop} (q : ExW mg H0 B Ex x) : t σ H Q := by
  have := g H0 B σ H Hf ρ hB R
  rw [h] at this
  exact this Q q
theorem GoodT.run {e : E} {t : TT} {b : Bool} (g : GoodT K mg cs Ex e t) (hB : BOk B) (R : Rel K H0 B σ H Hf ρ) (h : evalE cs e ρ = some (.ok (.bool b) fr ρ1)) {Q : Bool → Hp → Prop} (q : ∀ H1 Hf1, Step K H0 B σ (mutsE e) ρ H Hf ρ1 H1 Hf1 → Q b H1) : t σ H Q := by
  have := g H0 B σ H Hf ρ hB R
  rw [h] at this
  exact this Q q
theorem GoodT.exc {e : E} {t : TT} {x : Str} (g : GoodT K mg cs Ex e t) (hB : BOk B) (R : Rel K H0 B σ H Hf ρ) (h : evalE cs e ρ = some (.ex x)) {Q : Bool → Hp → Prop} (q : ExW mg H0 B Ex x) : t σ H Q := by
  have := g H0 B σ H Hf ρ hB R
  rw [h] at this
  exact this Q q
theorem sub_l {a b : List Nat} : ∀ i ∈ a, i ∈ a ++ b := fun i h => List.mem_append_left _ h
theorem sub_r {a b : List Nat} : ∀ i ∈ b, i ∈ a ++ b := fun i h => List.mem_append_right _ h
theorem sub_nil {b : List Nat} : ∀ i ∈ ([] : List Nat), i ∈ b := fun i h => by simp at h
theorem sub_id {b : List Nat} : ∀ i ∈ b, i ∈ b := fun i h => h
end

variable {S : Setg}
/-! ### constants and names -/
theorem goodC {e : E} {d : PD} {v : V} {K : PySem.W.Frag} {mg : Str → Option Value} {cs : List FSem} {Ex : XK} (he : ∀ ρ, evalE cs e ρ = some (.ok d false ρ)) (r : ∀ H, Rp K H v d) : GoodE K mg cs Ex e (tC v) := by
  intro H0 B σ H Hf ρ hB R
  rw [he]
  exact fun Q q => q v H ((PostV.here R.ext (r Hf)).toE R)
theorem no {P : Prop} (h : false = true) : P := by cases h
theorem snd_int (i : Int) : SndE S (.int i) := by
  intro sc Ex F hF ex h
  cases ex with
  | Constant c j p =>
    cases c with
    | int z =>
      cases (of_decide_eq_true (show decide (i = z) = true from h))
      exact ⟨tC (.int i), fun _ _ => pe_int, goodC (fun _ => rfl) fun H => .int i⟩
    | _ => exact no h
  | _ => exact no h
theorem snd_bl (i : Bool) : SndE S (.bl i) := by
  intro sc Ex F hF ex h
  cases ex with
  | Constant c j p =>
    cases c with
    | bool z =>
      cases (of_decide_eq_true (show decide (i = z) = true from h))
      exact ⟨tC (.bl i), fun _ _ => pe_bl, goodC (fun _ => rfl) fun H => .bl i⟩
    | _ => exact no h
  | _ => exact no h
theorem snd_non : SndE S .non := by
  intro sc Ex F hF ex h
  cases ex with
  | Constant c j p =>
    cases c with
    | none => exact ⟨tC .non, fun _ _ => pe_non, goodC (fun _ => rfl) fun H => .non⟩
    | _ => exact no h
  | _ => exact no h
theorem snd_str (i : Str) : SndE S (.str i) := by
  intro sc Ex F hF ex h
  cases ex with
  | Constant c j p =>
    cases c with
    | str z =>
      cases (of_decide_eq_true (show decide (i = z) = true from h))
      exact ⟨tC (.str i), fun _ _ => pe_str, goodC (fun _ => rfl) fun H => .str i⟩
    | _ => exact no h
  | _ => exact no h
theorem snd_nop : SndE S .nop := by
  intro sc Ex F hF ex h
  cases ex <;> exact no h
end DD

-- part DSnd2
set_option Elab.async false
set_option linter.all false
set_option maxRecDepth 100000
set_option maxHeartbeats 1000000
/-! Soundness: names, operators, calls. -/
namespace DD
open PySem PySem.Spec PyProof.Rows L2
section
variable {K : PySem.W.Frag} {mg : Str → Option Value} {cs : List FSem} {Ex : XK} {H0 : Hp} {B : Bor} {σ : L2.St} {ms ms1 ms2 : List Nat} {ρ ρ1 ρ2 : Env} {H Hf H1 Hf1 H2 Hf2 : Hp} {d : PD} {fr : Bool} {v : V} {i : Nat}
theorem Rel.neq (R : Rel K H0 B σ H Hf ρ) {j : Nat} {c c' : Cell} {a b : Addr} (hi : getC ρ i = some c) (mi : c.isMut = true) (hj : getC ρ j = some c') (mj : c'.isMut = true) (ei : σ[i]? = some (some (.ref a))) (ej : σ[j]? = some (some (.ref b))) (h : i ≠ j) : a ≠ b := fun e => by
  subst e
  exact h (R.sep i j c c' a hi hj mi mj ei ej)
theorem Rel.frzSlot (R : Rel K H0 B σ H Hf ρ) (h : getC ρ i = some (.ow d)) : ∃ v Hf', σ[i]? = some (some v) ∧ Step K H0 B σ ms ρ H Hf (ρ.set i (some (.sh d))) H Hf' ∧ Rp K Hf' v d := by
  obtain ⟨a, ea, hn, ⟨u, hu⟩, o, _⟩ := R.own h rfl
  obtain ⟨Hf1, s1, s2, rp, ne⟩ := o.freeze R.ext
  have hi := getC_lt h
  have le : Le ρ (ρ.set i (some (.sh d))) := ⟨by simp, fun j c hc m => by
    by_cases e : i = j
    · subst e
      rw [getC_set_self hi] at hc
      cases hc
      simp [Cell.isMut] at m
    · rw [getC_set_ne e] at hc
      exact ⟨c, hc, m⟩⟩
  refine ⟨.ref a, Hf1, ea, ⟨s1, ⟨s2, by rw [R.len]; simp, fun j c hc => ?_, fun j l c c' x hj hl mj ml ej el => ?_, R.ent, fun j x hb => ?_⟩, Fr.refl _ _ _ _, fun b w hb n => ?_, le⟩, rp⟩
  · by_cases e : i = j
    · subst e
      rw [getC_set_self hi] at hc
      cases hc
      exact ⟨_, ea, rp⟩
    · rw [getC_set_ne e] at hc
      obtain ⟨w, hw, ok⟩ := R.get j c hc
      refine ⟨w, hw, ?_⟩
      cases c with
      | sh x => exact Rp.mono s1 ok
      | ow x =>
        refine ⟨ok.1.keep s1 (fun _ _ _ q => q) fun b eb => ?_, ok.2⟩
        obtain ⟨b', eb', hb', _⟩ := R.own hc rfl
        have : b = b' := by
          rw [hw, eb] at eb'
          cases eb'
          rfl
        subst this
        rw [ne b fun z => R.neq h rfl hc rfl ea eb' e (V.ref.inj z)]
        exact hb'
      | bo x =>
        refine ⟨ok.1.keep s1 (fun _ _ _ q => q) fun b eb => ?_, ok.2⟩
        obtain ⟨b', eb', hb', _⟩ := R.own hc rfl
        have : b = b' := by
          rw [hw, eb] at eb'
          cases eb'
          rfl
        subst this
        rw [ne b fun z => R.neq h rfl hc rfl ea eb' e (V.ref.inj z)]
        exact hb'
  · have g : ∀ {j : Nat} {c : Cell}, getC (ρ.set i (some (.sh d))) j = some c → c.isMut = true → getC ρ j = some c := fun {j c} hc m => by
      by_cases e : i = j
      · subst e
        rw [getC_set_self hi] at hc
        cases hc
        simp [Cell.isMut] at m
      · rwa [getC_set_ne e] at hc
    exact R.sep j l c c' x (g hj mj) (g hl ml) mj ml ej el
  · obtain ⟨e1, z, e2⟩ := R.bor j x hb
    refine ⟨e1, z, ?_⟩
    have : i ≠ j := fun e => by
      subst e
      rw [h] at e2
      cases e2
    rw [getC_set_ne this]
    exact e2
  · rw [ne b fun z => ?_]
    have : a = b := V.ref.inj z
    subst this
    exact n ⟨i, _, h, rfl, ea⟩
theorem Rel.mvSlot (R : Rel K H0 B σ H Hf ρ) (h : getC ρ i = some (.ow d)) : ∃ v, σ[i]? = some (some v) ∧ Step K H0 B σ ms ρ H Hf (ρ.set i none) H Hf ∧ ResOk K H0 σ (ρ.set i none) H Hf v d true ∧ NewOk σ ρ H v := by
  obtain ⟨a, ea, hn, ⟨u, hu⟩, o, _⟩ := R.own h rfl
  have g : ∀ {j : Nat} {c : Cell}, getC (ρ.set i none) j = some c → i ≠ j ∧ getC ρ j = some c := fun {j c} hc => by
    by_cases e : i = j
    · subst e
      rw [getC_set_none] at hc
      cases hc
    · rw [getC_set_ne e] at hc
      exact ⟨e, hc⟩
  have h0 : H0 a = none := by
    obtain ⟨w, hw, ok⟩ := R.get i _ h
    rw [ea] at hw
    cases hw
    exact ok.2 a rfl
  refine ⟨.ref a, ea, ⟨fun _ _ q => q, ⟨R.ext, by rw [R.len]; simp, fun j c hc => R.get j c (g hc).2, fun j l c c' x hj hl => R.sep j l c c' x (g hj).2 (g hl).2, R.ent, fun j x hb => ?_⟩, Fr.refl _ _ _ _, fun _ _ _ _ => rfl, ⟨by simp, fun j c hc m => ⟨c, (g hc).2, m⟩⟩⟩, ⟨o, fun b eb => ?_⟩, fun b eb => ?_⟩
  · obtain ⟨e1, z, e2⟩ := R.bor j x hb
    refine ⟨e1, z, ?_⟩
    have : i ≠ j := fun e => by
      subst e
      rw [h] at e2
      cases e2
    rw [getC_set_ne this]
    exact e2
  · cases eb
    exact ⟨h0, fun j c hc m z => (g hc).1 (R.sep i j _ c a h (g hc).2 rfl m ea z)⟩
  · cases eb
    exact .inr ⟨i, _, h, rfl, ea⟩
/-- pure and scalar: nothing has happened -/
theorem Step.pure (R : Rel K H0 B σ H Hf ρ) (S : Step K H0 B σ [] ρ H Hf ρ1 H1 Hf1) : Step K H0 B σ ms ρ H Hf ρ H1 Hf := by
  have st : Same H H1 := fun a u h => S.fr a u h fun ⟨i, hi, _⟩ => by simp at hi
  refine ⟨fun _ _ q => q, R.move (fun _ _ q => q) (Same.trans R.ext st) S.fr fun j c b hc m e => ?_, Fr.same st, fun _ _ _ _ => rfl, Le.refl _⟩
  obtain ⟨b', e', h1, _⟩ := R.own hc m
  rw [e] at e'
  cases e'
  exact h1
/-- behind a call that may have changed what name j owns -/
theorem Rel.called {mu : Bool} {j : Nat} {c : Cell} {a : Addr} {m : PD} (R : Rel K H0 B σ H Hf ρ) (hc : mu = true → getC ρ j = some c ∧ c.isMut = true ∧ σ[j]? = some (some (.ref a)))
    (e1 : Same Hf Hf1) (e2 : Same Hf1 H1) (f : ∀ b o, H b = some o → ¬ (mu = true ∧ b = a) → H1 b = some o) (g : ∀ b u, H b = some u → Hf1 b = Hf b) (ho : mu = true → Own K H1 Hf1 (.ref a) m) :
    Step K H0 B σ (if mu = true then [j] else []) ρ H Hf (if mu = true then ρ.set j (some (c.put m)) else ρ) H1 Hf1 := by
  have h0 : ∀ b o, H0 b = some o → (∀ i, (i, b) ∉ B) → H1 b = some o := fun b o h hb => by
    refine f b o (R.ent b o h hb) fun ⟨hm, eb⟩ => ?_
    obtain ⟨h1, h2, h3⟩ := hc hm
    obtain ⟨a', ea', _, _, _, hh⟩ := R.own h1 h2
    rw [h3] at ea'
    cases ea'
    subst eb
    rcases hh with hh | hh
    · rw [h] at hh
      cases hh
    · exact hb _ hh
  have nn : ∀ {l : Nat} {x : Cell} {b : Addr}, getC ρ l = some x → x.isMut = true → σ[l]? = some (some (.ref b)) → Hf1 b = none := fun {l x b} hx hm he => by
    obtain ⟨b', eb', q1, ⟨u, q2⟩, _⟩ := R.own hx hm
    rw [he] at eb'
    cases eb'
    rw [g b u q2]
    exact q1
  cases mu with
  | false =>
    have st : ∀ b o, H b = some o → H1 b = some o := fun b o h => f b o h fun z => nomatch z.1
    exact ⟨e1, R.move e1 e2 (fun b o h _ => st b o h) fun l x b hx hm he => nn hx hm he, fun b o h _ => st b o h, fun b u h _ => g b u h, Le.refl _⟩
  | true =>
    obtain ⟨h1, h2, h3⟩ := hc rfl
    have hj := getC_lt h1
    have pm : (c.put m).isMut = true := by
      cases c with
      | sh _ => simp [Cell.isMut] at h2
      | ow _ => rfl
      | bo _ => rfl
    have gc : ∀ {l : Nat} {x : Cell}, getC (ρ.set j (some (c.put m))) l = some x → (l = j ∧ x = c.put m) ∨ (l ≠ j ∧ getC ρ l = some x) := fun {l x} hx => by
      by_cases e : j = l
      · subst e
        rw [getC_set_self hj] at hx
        cases hx
        exact .inl ⟨rfl, rfl⟩
      · rw [getC_set_ne e] at hx
        exact .inr ⟨fun z => e z.symm, hx⟩
    simp only [if_true]
    refine ⟨e1, ⟨e2, by rw [R.len]; simp, fun l x hx => ?_, fun l n x y b hx hy mx my el en => ?_, h0, fun l b hb => ?_⟩, fun b o h n => f b o h fun z => n ⟨j, by simp, c, h1, h2, by rw [h3, z.2]⟩, fun b u h _ => g b u h, ⟨by simp, fun l x hx mx => ?_⟩⟩
    · rcases gc hx with ⟨rfl, rfl⟩ | ⟨ne, hx⟩
      · obtain ⟨w, hw, ok⟩ := R.get l _ h1
        rw [h3] at hw
        cases hw
        refine ⟨_, h3, ?_⟩
        cases c with
        | sh _ => simp [Cell.isMut] at h2
        | ow _ => exact ⟨ho rfl, ok.2⟩
        | bo _ => exact ⟨ho rfl, ok.2⟩
      · obtain ⟨w, hw, ok⟩ := R.get l x hx
        refine ⟨w, hw, ?_⟩
        have kp : ∀ (z : PD), x.isMut = true → Own K H Hf w z → Own K H1 Hf1 w z := fun z hm o => by
          refine o.keep e1 (fun b u eb q => f b u q fun zz => ?_) fun b eb => nn hx hm (by rw [hw, eb])
          exact R.neq hx hm h1 h2 (by rw [hw, eb]) h3 ne zz.2
        cases x with
        | sh z => exact Rp.mono e1 ok
        | ow z => exact ⟨kp z rfl ok.1, ok.2⟩
        | bo z => exact ⟨kp z rfl ok.1, ok.2⟩
    · rcases gc hx with ⟨q1, q2⟩ | ⟨ne, hx2⟩
      · rcases gc hy with ⟨q3, q4⟩ | ⟨ne', hy2⟩
        · rw [q1, q3]
        · rw [q1] at el ⊢
          exact R.sep j n c y b h1 hy2 h2 my el en
      · rcases gc hy with ⟨q3, q4⟩ | ⟨ne', hy2⟩
        · rw [q3] at en ⊢
          exact R.sep l j x c b hx2 h1 mx h2 el en
        · exact R.sep l n x y b hx2 hy2 mx my el en
    · obtain ⟨q1, z, q2⟩ := R.bor l b hb
      refine ⟨q1, ?_⟩
      by_cases e : j = l
      · subst e
        rw [h1] at q2
        cases q2
        exact ⟨m, getC_set_self hj⟩
      · rw [getC_set_ne e]
        exact ⟨z, q2⟩
    · rcases gc hx with ⟨rfl, rfl⟩ | ⟨ne, hx⟩
      · exact ⟨c, h1, h2⟩
      · exact ⟨x, hx, mx⟩
end

variable {S : Setg}
theorem snd_gint (x : Str) (i : Int) : SndE S (.gint x i) := by
  intro sc Ex F hF ex h
  cases ex with
  | Name y p =>
    have h' : (decide (x = y) && glB sc y && nmOk y && decide ((x, i) ∈ S.tb.gi)) = true := h
    simp only [Bool.and_eq_true, decide_eq_true_eq] at h'
    obtain ⟨⟨⟨rfl, h2⟩, h3⟩, h4⟩ := h'
    refine ⟨tC (.int i), fun X hX => ?_, goodC (fun _ => rfl) fun H => .int i⟩
    have C := hF X hX
    obtain ⟨t, ht⟩ := C.gi x i h4
    unfold nmOk at h3
    simp only [Bool.and_eq_true, Bool.not_eq_true'] at h3
    exact pe_glob (C.gl h2) (by rw [C.hmg]; exact ht) ⟨t, rfl⟩ h3.1.1
  | _ => exact no h
theorem snd_gtup (x : Str) (is : List Int) : SndE S (.gtup x is) := by
  intro sc Ex F hF ex h
  cases ex with
  | Name y p =>
    have h' : (decide (x = y) && glB sc y && nmOk y && decide ((x, is) ∈ S.tb.gt)) = true := h
    simp only [Bool.and_eq_true, decide_eq_true_eq] at h'
    obtain ⟨⟨⟨rfl, h2⟩, h3⟩, h4⟩ := h'
    refine ⟨fun _ H Q => ∀ a, S.mg x = some (.ref a) → (∀ H, SqT S.K H a (is.map V.int)) → Q (.ref a) H, fun X hX => ?_, ?_⟩
    · have C := hF X hX
      obtain ⟨a, ha, hs⟩ := C.gt x is h4
      unfold nmOk at h3
      simp only [Bool.and_eq_true, Bool.not_eq_true'] at h3
      have pg : PE X (.Name x p) (tC (.ref a)) := pe_glob (C.gl h2) (by rw [C.hmg]; exact ha) rfl h3.1.1
      exact ⟨fun pins s σ H Q I q => pg.run pins s σ H Q I (q a ha hs)⟩
    · intro H0 B σ H Hf ρ hB R
      show ∀ Q : VK, _ → _
      intro Q q a ha hs
      exact q _ _ ((PostV.here R.ext (.tup (hs Hf) (RpA.ofInts is))).toE R)
  | _ => exact no h
theorem snd_var (i : Nat) : SndE S (.var i) := by
  intro sc Ex F hF ex h
  cases ex with
  | Name x p =>
    refine ⟨tVar i, fun X hX => (hF X hX).slot h, ?_⟩
    intro H0 B σ H Hf ρ hB R
    unfold evalE
    cases e : getC ρ i with
    | none => trivial
    | some c =>
      cases c with
      | sh d =>
        intro Q q
        obtain ⟨v, hv, ok⟩ := R.get i _ e
        exact ⟨v, hv, q v H ((PostV.here R.ext ok).toE R)⟩
      | ow d =>
        intro Q q
        obtain ⟨v, Hf', hv, St, rp⟩ := R.frzSlot (ms := mutsE (.var i)) e
        exact ⟨v, hv, q v H ⟨Hf', St, rp, fun z => nomatch z⟩⟩
      | bo d => trivial
  | _ => exact no h
theorem snd_mv (i : Nat) : SndE S (.mv i) := by
  intro sc Ex F hF ex h
  cases ex with
  | Name x p =>
    refine ⟨tVar i, fun X hX => (hF X hX).slot h, ?_⟩
    intro H0 B σ H Hf ρ hB R
    unfold evalE
    cases e : getC ρ i with
    | none => trivial
    | some c =>
      cases c with
      | sh d =>
        intro Q q
        obtain ⟨v, hv, ok⟩ := R.get i _ e
        exact ⟨v, hv, q v H ((PostV.here R.ext ok).toE R)⟩
      | ow d =>
        intro Q q
        obtain ⟨v, hv, St, rp, nw⟩ := R.mvSlot (ms := mutsE (.mv i)) e
        exact ⟨v, hv, q v H ⟨Hf, St, rp, fun _ => nw⟩⟩
      | bo d => trivial
  | _ => exact no h
theorem snd_sc {e : E} (he : SndE S e) : SndE S (.sc e) := by
  intro sc Ex F hF ex h
  have h' : ((mutsE e).isEmpty && isE S.tb sc e ex) = true := by
    have : isE S.tb sc (.sc e) ex = ((mutsE e).isEmpty && isE S.tb sc e ex) := by cases ex <;> rfl
    rw [this] at h
    exact h
  rw [Bool.and_eq_true] at h'
  have em : mutsE e = [] := List.isEmpty_iff.mp h'.1
  obtain ⟨t, hp, hg⟩ := he sc Ex F hF ex h'.2
  refine ⟨t, hp, ?_⟩
  intro H0 B σ H Hf ρ hB R
  unfold evalE
  cases ev : evalE S.cs e ρ with
  | none => trivial
  | some r =>
    cases r with
    | ex x => exact fun Q q => hg.exc hB R ev q
    | ok d fr ρ1 =>
      simp only
      by_cases hs : isScal d = true
      · rw [if_pos hs]
        intro Q q
        refine hg.run hB R ev fun v H1 Hf1 St rp => q v H1 ?_
        rw [em] at St
        exact ⟨Hf, St.pure R, rp.scal hs Hf, fun z => nomatch z⟩
      · rw [if_neg hs]
        trivial
theorem snd_bin (op : Operator) {a b : E} (ha : SndE S a) (hb : SndE S b) : SndE S (.bin op a b) := by
  intro sc Ex F hF ex h
  cases ex with
  | BinOp l o r p =>
    have h' : (decide (op = o) && isE S.tb sc a l && isE S.tb sc b r) = true := h
    simp only [Bool.and_eq_true, decide_eq_true_eq] at h'
    obtain ⟨⟨rfl, h1⟩, h2⟩ := h'
    obtain ⟨ta, pa, ga⟩ := ha sc Ex F hF l h1
    obtain ⟨tb, pb, gb⟩ := hb sc Ex F hF r h2
    refine ⟨tOp (rBin S.K op) ta tb, fun X hX => ?_, ?_⟩
    · have C := hF X hX
      have := pe_op (pos := p) (bin_ok (X := X) op) (pa X hX) (pb X hX)
      rw [C.hK] at this
      exact this
    · intro H0 B σ H Hf ρ hB R
      unfold evalE
      cases e1 : evalE S.cs a ρ with
      | none => trivial
      | some r1 =>
        cases r1 with
        | ex x => exact fun Q q => ga.exc hB R e1 q
        | ok d1 fr1 ρ1 =>
          simp only [EO.bind]
          cases e2 : evalE S.cs b ρ1 with
          | none => trivial
          | some r2 =>
            cases r2 with
            | ex x => exact fun Q q => ga.run hB R e1 fun v H1 Hf1 S1 rp => gb.exc hB S1.rel e2 q
            | ok d2 fr2 ρ2 =>
              simp only [outE]
              cases e3 : binV op d1 d2 with
              | none => trivial
              | some dr =>
                obtain ⟨d, fr⟩ := dr
                intro Q q
                refine ga.run hB R e1 fun v H1 Hf1 S1 rp => gb.run hB S1.rel e2 fun w H2 Hf2 S2 rp2 => ?_
                exact bin_sound S.K op v w H2 Hf2 d1 d2 d fr S2.rel.ext (rp.mono S2.ext) rp2 e3 Q fun x H3 pv => q x H3 (PostE.ofV (S1.trans S2 sub_l sub_r) pv sub_id)
  | _ => exact no h
end DD

-- part DSnd3
set_option Elab.async false
set_option linter.all false
set_option maxRecDepth 100000
set_option maxHeartbeats 1000000
/-! Soundness: comparisons, truth, calls. -/
namespace DD
open PySem PySem.Spec PyProof.Rows L2
variable {S : Setg}
theorem snd_neg {a : E} (ha : SndE S a) : SndE S (.neg a) := by
  intro sc Ex F hF ex h
  cases ex with
  | UnaryOp o r p =>
    cases o with
    | USub =>
      obtain ⟨ta, pa, ga⟩ := ha sc Ex F hF r h
      refine ⟨tUn (rU fun i => .int (-i)) ta, fun X hX => pe_un un_neg (pa X hX), ?_⟩
      intro H0 B σ H Hf ρ hB R
      unfold evalE
      cases e1 : evalE S.cs a ρ with
      | none => trivial
      | some r1 =>
        cases r1 with
        | ex x => exact fun Q q => ga.exc hB R e1 q
        | ok d1 fr1 ρ1 =>
          simp only [EO.bind]
          cases d1 with
          | int i => exact fun Q q => ga.run hB R e1 fun v H1 Hf1 S1 rp => ⟨i, rp.int_inv, q _ H1 (PostE.ofV S1 (PostV.here S1.rel.ext (.int _)) sub_id)⟩
          | _ => trivial
    | _ => exact no h
  | _ => exact no h
/-- with the test's reading -/
def SndX (S : Setg) (e : E) : Prop := ∀ (sc : Scope) (Ex : XK) (F : Fam), (∀ X, F X → S.ctx sc Ex X) → ∀ ex, isE S.tb sc e ex = true → ∃ t : TE, (∀ X, F X → PE X ex t ∧ PT X ex (tTest t)) ∧ GoodE S.K S.mg S.cs Ex e t
theorem snd_cmp (op : CmpOp) {a b : E} (ha : SndE S a) (hb : SndE S b) : SndX S (.cmp op a b) := by
  intro sc Ex F hF ex h
  cases ex with
  | Compare l os rs p =>
    match os, rs, h with
    | [o], [r], h =>
      have h' : (decide (op = o) && noset r && isE S.tb sc a l && isE S.tb sc b r) = true := h
      simp only [Bool.and_eq_true, decide_eq_true_eq] at h'
      obtain ⟨⟨⟨rfl, hn⟩, h1⟩, h2⟩ := h'
      obtain ⟨ta, pa, ga⟩ := ha sc Ex F hF l h1
      obtain ⟨tb, pb, gb⟩ := hb sc Ex F hF r h2
      refine ⟨tOp (rCmp S.K op) ta tb, fun X hX => ?_, ?_⟩
      · have C := hF X hX
        have h1 := pe_cmpR (pos := p) (cmp_ok (X := X) C.units op) (pa X hX) (pb X hX) (mark_ok hn op)
        have h2 := pt_cmpR (pos := p) (cmp_ok (X := X) C.units op) (pa X hX) (pb X hX) (mark_ok hn op)
        rw [C.hK] at h1 h2
        exact ⟨h1, h2⟩
      · intro H0 B σ H Hf ρ hB R
        unfold evalE
        cases e1 : evalE S.cs a ρ with
        | none => trivial
        | some r1 =>
          cases r1 with
          | ex x => exact fun Q q => ga.exc hB R e1 q
          | ok d1 fr1 ρ1 =>
            simp only [EO.bind]
            cases e2 : evalE S.cs b ρ1 with
            | none => trivial
            | some r2 =>
              cases r2 with
              | ex x => exact fun Q q => ga.run hB R e1 fun v H1 Hf1 S1 rp => gb.exc hB S1.rel e2 q
              | ok d2 fr2 ρ2 =>
                simp only [outB]
                cases e3 : cmpV op d1 d2 with
                | none => trivial
                | some k =>
                  intro Q q
                  refine ga.run hB R e1 fun v H1 Hf1 S1 rp => gb.run hB S1.rel e2 fun w H2 Hf2 S2 rp2 => ?_
                  exact cmp_sound S.K op v w H2 Hf2 d1 d2 k S2.rel.ext (rp.mono S2.ext) rp2 e3 Q (q _ H2 (PostE.ofV (S1.trans S2 sub_l sub_r) (PostV.here S2.rel.ext (.bl k)) sub_id))
    | [], [], h => exact no h
    | [], _ :: _, h => exact no h
    | [_], [], h => exact no h
    | [_], _ :: _ :: _, h => exact no h
    | _ :: _ :: _, [], h => exact no h
    | _ :: _ :: _, _ :: _, h => exact no h
  | _ => exact no h
theorem snd_chain (op op2 : CmpOp) {a b c : E} (ha : SndE S a) (hb : SndE S b) (hc : SndE S c) : SndX S (.chain op op2 a b c) := by
  intro sc Ex F hF ex h
  cases ex with
  | Compare l os rs p =>
    match os, rs, h with
    | [o, o2], [r, r2], h =>
      have h' : (decide (op = o) && decide (op2 = o2) && noset r && noset r2 && isE S.tb sc a l && isE S.tb sc b r && isE S.tb sc c r2) = true := h
      simp only [Bool.and_eq_true, decide_eq_true_eq] at h'
      obtain ⟨⟨⟨⟨⟨⟨rfl, rfl⟩, hn⟩, hn2⟩, h1⟩, h2⟩, h3⟩ := h'
      obtain ⟨ta, pa, ga⟩ := ha sc Ex F hF l h1
      obtain ⟨tb, pb, gb⟩ := hb sc Ex F hF r h2
      obtain ⟨tc, pc, gc⟩ := hc sc Ex F hF r2 h3
      refine ⟨tChain (rCmp S.K op) (rCmp S.K op2) ta tb tc, fun X hX => ?_, ?_⟩
      · have C := hF X hX
        have h1 := pe_chain (pos := p) (cmp_ok (X := X) C.units op) (cmp_ok (X := X) C.units op2) (pa X hX) (pb X hX) (pc X hX) (hm := mark_ok hn2 op2)
        have h2 := pt_chain (pos := p) (cmp_ok (X := X) C.units op) (cmp_ok (X := X) C.units op2) (pa X hX) (pb X hX) (pc X hX) (hm := mark_ok hn2 op2)
        rw [C.hK] at h1 h2
        exact ⟨h1, h2⟩
      · intro H0 B σ H Hf ρ hB R
        unfold evalE
        cases e1 : evalE S.cs a ρ with
        | none => trivial
        | some r1 =>
          cases r1 with
          | ex x => exact fun Q q => ga.exc hB R e1 q
          | ok d1 fr1 ρ1 =>
            simp only [EO.bind]
            cases e2 : evalE S.cs b ρ1 with
            | none => trivial
            | some r2 =>
              cases r2 with
              | ex x => exact fun Q q => ga.run hB R e1 fun v H1 Hf1 S1 rp => gb.exc hB S1.rel e2 q
              | ok d2 fr2 ρ2 =>
                simp only
                cases e3 : cmpV op d1 d2 with
                | none => trivial
                | some k =>
                  cases k with
                  | false =>
                    intro Q q
                    refine ga.run hB R e1 fun v H1 Hf1 S1 rp => gb.run hB S1.rel e2 fun w H2 Hf2 S2 rp2 => ?_
                    refine cmp_sound S.K op v w H2 Hf2 d1 d2 false S2.rel.ext (rp.mono S2.ext) rp2 e3 _ ⟨false, rfl, ?_⟩
                    exact q _ H2 (PostE.ofV (S1.trans S2 sub_l sub_r) (PostV.here S2.rel.ext (.bl false)) (fun i hi => by
                      rcases List.mem_append.mp hi with hi | hi
                      · exact sub_l i hi
                      · exact sub_r i (sub_l i hi)))
                  | true =>
                    cases e4 : evalE S.cs c ρ2 with
                    | none => trivial
                    | some r3 =>
                      cases r3 with
                      | ex x =>
                        intro Q q
                        refine ga.run hB R e1 fun v H1 Hf1 S1 rp => gb.run hB S1.rel e2 fun w H2 Hf2 S2 rp2 => ?_
                        exact cmp_sound S.K op v w H2 Hf2 d1 d2 true S2.rel.ext (rp.mono S2.ext) rp2 e3 _ ⟨true, rfl, gc.exc hB S2.rel e4 q⟩
                      | ok d3 fr3 ρ3 =>
                        simp only [outB]
                        cases e5 : cmpV op2 d2 d3 with
                        | none => trivial
                        | some k =>
                          intro Q q
                          refine ga.run hB R e1 fun v H1 Hf1 S1 rp => gb.run hB S1.rel e2 fun w H2 Hf2 S2 rp2 => ?_
                          refine cmp_sound S.K op v w H2 Hf2 d1 d2 true S2.rel.ext (rp.mono S2.ext) rp2 e3 _ ⟨true, rfl, ?_⟩
                          refine gc.run hB S2.rel e4 fun z H3 Hf3 S3 rp3 => ?_
                          have S12 : Step S.K H0 B σ (mutsE a ++ mutsE b) ρ H Hf ρ2 H2 Hf2 := S1.trans S2 sub_l sub_r
                          have S13 : Step S.K H0 B σ (mutsE a ++ (mutsE b ++ mutsE c)) ρ H Hf ρ3 H3 Hf3 := S12.trans S3 (fun i hi => by
                            rcases List.mem_append.mp hi with hi | hi
                            · exact sub_l i hi
                            · exact sub_r i (sub_l i hi)) fun i hi => sub_r i (sub_r i hi)
                          exact cmp_sound S.K op2 w z H3 Hf3 d2 d3 k S3.rel.ext (rp2.mono S3.ext) rp3 e5 Q (q _ H3 (PostE.ofV S13 (PostV.here S3.rel.ext (.bl k)) sub_id))
    | [], _, h => exact no h
    | [_], [], h => exact no h
    | [_], _ :: _, h => exact no h
    | [_, _], [], h => exact no h
    | [_, _], [_], h => exact no h
    | [_, _], _ :: _ :: _ :: _, h => exact no h
    | _ :: _ :: _ :: _, _, h => exact no h
  | _ => exact no h
/-- what and, or ask at a text of two and more -/
theorem good_and {K : PySem.W.Frag} {mg : Str → Option Value} {cs : List FSem} {Ex : XK} {a b : E} {ta tb : TE} (ga : GoodE K mg cs Ex a ta) (gb : GoodE K mg cs Ex b tb) : GoodE K mg cs Ex (.and a b) (tAndV ta fun σ H Q => tb σ H fun y H1 => ∃ k, y = .bl k ∧ Q y H1) := by
  intro H0 B σ H Hf ρ hB R
  unfold evalE
  cases e1 : evalE cs a ρ with
  | none => trivial
  | some r1 =>
    cases r1 with
    | ex x => exact fun Q q => ga.exc hB R e1 q
    | ok d1 fr1 ρ1 =>
      simp only [EO.bind]
      cases d1 with
      | bool k =>
        cases k with
        | false =>
          intro Q q
          refine ga.run hB R e1 fun v H1 Hf1 S1 rp => ⟨false, rp.bl_inv, ?_⟩
          exact q _ H1 (PostE.ofV S1 (PostV.here S1.rel.ext (.bl false)) sub_l)
        | true =>
          simp only [boolE, if_true]
          cases e2 : evalE cs b ρ1 with
          | none => trivial
          | some r2 =>
            cases r2 with
            | ex x => exact fun Q q => ga.run hB R e1 fun v H1 Hf1 S1 rp => ⟨true, rp.bl_inv, gb.exc hB S1.rel e2 q⟩
            | ok d2 fr2 ρ2 =>
              simp only
              cases d2 with
              | bool j =>
                intro Q q
                refine ga.run hB R e1 fun v H1 Hf1 S1 rp => ⟨true, rp.bl_inv, ?_⟩
                refine gb.run hB S1.rel e2 fun w H2 Hf2 S2 rp2 => ?_
                exact ⟨j, rp2.bl_inv, q _ H2 (PostE.ofV (S1.trans S2 sub_l sub_r) (PostV.here S2.rel.ext rp2) sub_id)⟩
              | _ => trivial
      | _ => trivial
theorem good_or {K : PySem.W.Frag} {mg : Str → Option Value} {cs : List FSem} {Ex : XK} {a b : E} {ta tb : TE} (ga : GoodE K mg cs Ex a ta) (gb : GoodE K mg cs Ex b tb) : GoodE K mg cs Ex (.or a b) (tOrV ta fun σ H Q => tb σ H fun y H1 => ∃ k, y = .bl k ∧ Q y H1) := by
  intro H0 B σ H Hf ρ hB R
  unfold evalE
  cases e1 : evalE cs a ρ with
  | none => trivial
  | some r1 =>
    cases r1 with
    | ex x => exact fun Q q => ga.exc hB R e1 q
    | ok d1 fr1 ρ1 =>
      simp only [EO.bind]
      cases d1 with
      | bool k =>
        cases k with
        | true =>
          intro Q q
          refine ga.run hB R e1 fun v H1 Hf1 S1 rp => ⟨true, rp.bl_inv, ?_⟩
          exact q _ H1 (PostE.ofV S1 (PostV.here S1.rel.ext (.bl true)) sub_l)
        | false =>
          simp only [boolE, Bool.false_eq_true, if_false]
          cases e2 : evalE cs b ρ1 with
          | none => trivial
          | some r2 =>
            cases r2 with
            | ex x => exact fun Q q => ga.run hB R e1 fun v H1 Hf1 S1 rp => ⟨false, rp.bl_inv, gb.exc hB S1.rel e2 q⟩
            | ok d2 fr2 ρ2 =>
              simp only
              cases d2 with
              | bool j =>
                intro Q q
                refine ga.run hB R e1 fun v H1 Hf1 S1 rp => ⟨false, rp.bl_inv, ?_⟩
                refine gb.run hB S1.rel e2 fun w H2 Hf2 S2 rp2 => ?_
                exact ⟨j, rp2.bl_inv, q _ H2 (PostE.ofV (S1.trans S2 sub_l sub_r) (PostV.here S2.rel.ext rp2) sub_id)⟩
              | _ => trivial
      | _ => trivial
/-- a PE with a stronger end wanted -/
theorem PE.dem {X : Cx} {ex : Expr} {t : TE} (h : PE X ex t) : PE X ex (fun σ H Q => t σ H fun y H1 => ∃ k, y = .bl k ∧ Q y H1) := ⟨fun pins s σ H Q I q =>
  thn (h.run pins s σ H _ I q) fun v s1 ⟨x, H1, I1, r1, ⟨_, _, q1⟩⟩ => ⟨x, H1, I1, r1, q1⟩⟩
theorem snd_and {a b : E} (ha : SndE S a) (hb : SndE S b) : SndE S (.and a b) := by
  intro sc Ex F hF ex h
  cases ex with
  | BoolOp o vs p =>
    match o, vs, h with
    | .And, [x, y], h =>
      have h' : (isE S.tb sc a x && isE S.tb sc b y) = true := h
      rw [Bool.and_eq_true] at h'
      obtain ⟨ta, pa, ga⟩ := ha sc Ex F hF x h'.1
      obtain ⟨tb, pb, gb⟩ := hb sc Ex F hF y h'.2
      exact ⟨_, fun X hX => pe_and (pa X hX) (pe_one (PE.dem (pb X hX))), good_and ga gb⟩
    | .And, x :: y :: z :: r, h =>
      have h' : (isE S.tb sc a x && isE S.tb sc b (.BoolOp .And (y :: z :: r) p)) = true := h
      rw [Bool.and_eq_true] at h'
      obtain ⟨ta, pa, ga⟩ := ha sc Ex F hF x h'.1
      obtain ⟨tb, pb, gb⟩ := hb sc Ex F hF _ h'.2
      exact ⟨_, fun X hX => pe_and (pa X hX) (PE.dem (pb X hX)), good_and ga gb⟩
    | .And, [], h => exact no h
    | .And, [_], h => exact no h
    | .Or, _, h => exact no h
  | _ => exact no h
theorem snd_or {a b : E} (ha : SndE S a) (hb : SndE S b) : SndE S (.or a b) := by
  intro sc Ex F hF ex h
  cases ex with
  | BoolOp o vs p =>
    match o, vs, h with
    | .Or, [x, y], h =>
      have h' : (isE S.tb sc a x && isE S.tb sc b y) = true := h
      rw [Bool.and_eq_true] at h'
      obtain ⟨ta, pa, ga⟩ := ha sc Ex F hF x h'.1
      obtain ⟨tb, pb, gb⟩ := hb sc Ex F hF y h'.2
      exact ⟨_, fun X hX => pe_or (pa X hX) (pe_one (PE.dem (pb X hX))), good_or ga gb⟩
    | .Or, x :: y :: z :: r, h =>
      have h' : (isE S.tb sc a x && isE S.tb sc b (.BoolOp .Or (y :: z :: r) p)) = true := h
      rw [Bool.and_eq_true] at h'
      obtain ⟨ta, pa, ga⟩ := ha sc Ex F hF x h'.1
      obtain ⟨tb, pb, gb⟩ := hb sc Ex F hF _ h'.2
      exact ⟨_, fun X hX => pe_or (pa X hX) (PE.dem (pb X hX)), good_or ga gb⟩
    | .Or, [], h => exact no h
    | .Or, [_], h => exact no h
    | .And, _, h => exact no h
  | _ => exact no h
theorem snd_not {a : E} (ha : SndE S a) : SndE S (.not a) := by
  intro sc Ex F hF ex h
  cases ex with
  | UnaryOp o r p =>
    cases o with
    | Not =>
      obtain ⟨ta, pa, ga⟩ := ha sc Ex F hF r h
      refine ⟨_, fun X hX => pe_not (pa X hX), ?_⟩
      intro H0 B σ H Hf ρ hB R
      unfold evalE
      cases e1 : evalE S.cs a ρ with
      | none => trivial
      | some r1 =>
        cases r1 with
        | ex x => exact fun Q q => ga.exc hB R e1 q
        | ok d1 fr1 ρ1 =>
          simp only [EO.bind]
          cases d1 with
          | bool k => exact fun Q q => ga.run hB R e1 fun v H1 Hf1 S1 rp => ⟨k, rp.bl_inv, q _ H1 (PostE.ofV S1 (PostV.here S1.rel.ext (.bl _)) sub_id)⟩
          | _ => trivial
    | _ => exact no h
  | _ => exact no h
theorem snd_ite {c a b : E} (hc : SndT S c) (ha : SndE S a) (hb : SndE S b) : SndE S (.ite c a b) := by
  intro sc Ex F hF ex h
  cases ex with
  | IfExp t x y p =>
    have h' : (isE S.tb sc c t && isE S.tb sc a x && isE S.tb sc b y) = true := h
    simp only [Bool.and_eq_true] at h'
    obtain ⟨⟨h1, h2⟩, h3⟩ := h'
    obtain ⟨tc, pc, gc⟩ := hc sc Ex F hF t h1
    obtain ⟨ta, pa, ga⟩ := ha sc Ex F hF x h2
    obtain ⟨tb, pb, gb⟩ := hb sc Ex F hF y h3
    refine ⟨_, fun X hX => pe_ifExp (pc X hX) (pa X hX) (pb X hX), ?_⟩
    intro H0 B σ H Hf ρ hB R
    unfold evalE
    cases e1 : evalE S.cs c ρ with
    | none => trivial
    | some r1 =>
      cases r1 with
      | ex x => exact fun Q q => gc.exc hB R e1 q
      | ok d1 fr1 ρ1 =>
        simp only [EO.bind]
        cases d1 with
        | bool k =>
          cases k with
          | true =>
            simp only [boolE, if_true]
            cases e2 : evalE S.cs a ρ1 with
            | none => trivial
            | some r2 =>
              cases r2 with
              | ex x => exact fun Q q => gc.run hB R e1 fun H1 Hf1 S1 => iteT (ga.exc hB S1.rel e2 q)
              | ok d2 fr2 ρ2 =>
                intro Q q
                refine gc.run hB R e1 fun H1 Hf1 S1 => iteT (ga.run hB S1.rel e2 fun w H2 Hf2 S2 rp2 => ?_)
                exact q _ H2 (PostE.ofV (S1.trans S2 sub_l fun i hi => sub_r i (sub_l i hi)) (PostV.here S2.rel.ext rp2) sub_id)
          | false =>
            simp only [boolE, Bool.false_eq_true, if_false]
            cases e2 : evalE S.cs b ρ1 with
            | none => trivial
            | some r2 =>
              cases r2 with
              | ex x => exact fun Q q => gc.run hB R e1 fun H1 Hf1 S1 => iteF (gb.exc hB S1.rel e2 q)
              | ok d2 fr2 ρ2 =>
                intro Q q
                refine gc.run hB R e1 fun H1 Hf1 S1 => iteF (gb.run hB S1.rel e2 fun w H2 Hf2 S2 rp2 => ?_)
                exact q _ H2 (PostE.ofV (S1.trans S2 sub_l fun i hi => sub_r i (sub_r i hi)) (PostV.here S2.rel.ext rp2) sub_id)
        | _ => trivial
  | _ => exact no h

/-! ### argument lists -/
theorem snd_nil : SndA S .nil := by
  intro sc Ex F hF exs h
  cases exs with
  | nil =>
    refine ⟨tNil, fun X hX => pa_nil, ?_⟩
    intro H0 B σ H Hf ρ hB R
    exact fun Q q => q [] H ⟨Hf, Step.refl R, .nil⟩
  | cons _ _ => exact no h
theorem snd_cons {e : E} {es : Es} (he : SndE S e) (hs : SndA S es) : SndA S (.cons e es) := by
  intro sc Ex F hF exs h
  cases exs with
  | nil => exact no h
  | cons x xs =>
    have h' : (nostar x && isE S.tb sc e x && isEs S.tb sc es xs) = true := h
    simp only [Bool.and_eq_true] at h'
    obtain ⟨⟨h1, h2⟩, h3⟩ := h'
    obtain ⟨ta, pa, ga⟩ := he sc Ex F hF x h2
    obtain ⟨tb, pb, gb⟩ := hs sc Ex F hF xs h3
    refine ⟨_, fun X hX => pa_cons (pa X hX) (pb X hX) (star_ok h1 _ _), ?_⟩
    intro H0 B σ H Hf ρ hB R
    unfold evalEs
    cases e1 : evalE S.cs e ρ with
    | none => trivial
    | some r1 =>
      cases r1 with
      | ex x => exact fun Q q => ga.exc hB R e1 q
      | ok d1 fr1 ρ1 =>
        simp only [EO.binA]
        cases e2 : evalEs S.cs es ρ1 with
        | none => trivial
        | some r2 =>
          cases r2 with
          | ex x => exact fun Q q => ga.run hB R e1 fun v H1 Hf1 S1 rp => gb.exc hB S1.rel e2 q
          | ok ds ρ2 =>
            intro Q q
            refine ga.run hB R e1 fun v H1 Hf1 S1 rp => gb.run hB S1.rel e2 fun vs H2 Hf2 S2 rp2 => ?_
            exact q _ H2 ⟨Hf2, S1.trans S2 sub_l sub_r, .cons (rp.mono S2.ext) rp2⟩
theorem isEs_star {tb : Tb} {sc : Scope} : ∀ {es : Es} {xs : List Expr}, isEs tb sc es xs = true → xs.all nostar = true ∧ xs.length = lenEs es
  | .nil, [], _ => ⟨rfl, rfl⟩
  | .nil, _ :: _, h => no h
  | .cons _ _, [], h => no h
  | .cons e es, x :: xs, h => by
    have h' : (nostar x && isE tb sc e x && isEs tb sc es xs) = true := h
    simp only [Bool.and_eq_true] at h'
    obtain ⟨h1, h2⟩ := isEs_star h'.2
    refine ⟨by rw [List.all_cons, h'.1.1, h1]; rfl, ?_⟩
    rw [List.length_cons, h2]
    rfl
theorem evalEs_len {cs : List FSem} : ∀ {es : Es} {ρ : Env} {ds : List PD} {ρ' : Env}, evalEs cs es ρ = some (.ok ds ρ') → ds.length = lenEs es
  | .nil, ρ, ds, ρ', h => by
    unfold evalEs at h
    cases h
    rfl
  | .cons e es, ρ, ds, ρ', h => by
    unfold evalEs at h
    cases e1 : evalE cs e ρ with
    | none => simp [e1, EO.binA] at h
    | some r1 =>
      cases r1 with
      | ex x => simp [e1, EO.binA] at h
      | ok d1 fr1 ρ1 =>
        simp only [e1, EO.binA] at h
        cases e2 : evalEs cs es ρ1 with
        | none => simp [e2, AO.binA] at h
        | some r2 =>
          cases r2 with
          | ex x => simp [e2, AO.binA] at h
          | ok ds1 ρ2 =>
            simp only [e2, AO.binA, Option.some.injEq, AO.ok.injEq] at h
            obtain ⟨rfl, rfl⟩ := h
            rw [List.length_cons, evalEs_len e2]
            rfl
end DD

-- part DSnd4
set_option Elab.async false
set_option linter.all false
set_option maxRecDepth 100000
set_option maxHeartbeats 1000000
/-! Soundness: calls, displays, subscripts. -/
namespace DD
open PySem PySem.Spec PyProof.Rows L2
variable {S : Setg}
theorem nmOk1 {x : Str} (h : nmOk x = true) : (x == ("__debug__" : Str)) = false := by
  unfold nmOk at h
  simp only [Bool.and_eq_true, Bool.not_eq_true'] at h
  exact h.1.1
/-- a def called: the promise used at data -/
theorem call_use {K : PySem.W.Frag} {mg : Str → Option Value} {Ex : XK} {H0 : Hp} {B : Bor} {σ : L2.St} {ρ : Env} {H Hf : Hp} {s : FSem} {n j : Nat} {c : Cell} {a : Addr} {vs : List V} {ds : List PD} (R : Rel K H0 B σ H Hf ρ)
    (hl : vs.length = n) (ha : ArgsOk K H Hf s.mu vs ds) (hc : s.mu = true → getC ρ j = some c ∧ c.isMut = true ∧ σ[j]? = some (some (.ref a)) ∧ vs.head? = some (.ref a)) {Q : VK} :
    match s.run ds with
    | none => True
    | some (.ret d fr m) => (∀ v H', PostE K H0 B σ ρ (if s.mu = true then [j] else []) H Hf d fr (if s.mu = true then ρ.set j (some (c.put m)) else ρ) v H' → Q v H') → spF K mg s n vs H Q Ex
    | some (.ex x) => ExW mg H0 B Ex x → spF K mg s n vs H Q Ex := by
  have mua : ∀ b, MuAt s.mu vs b → s.mu = true ∧ b = a := fun b hb => by
    refine ⟨hb.1, ?_⟩
    have e1 := (hc hb.1).2.2.2
    rw [hb.2] at e1
    exact V.ref.inj (Option.some.inj e1)
  cases er : s.run ds with
  | none => trivial
  | some o =>
    cases o with
    | ret d fr m =>
      intro q
      refine ⟨hl, ds, Hf, R.ext, ha, ?_⟩
      rw [er]
      intro v H' Hf' e1 e2 f g ho rs
      have St := R.called (mu := s.mu) (j := j) (c := c) (a := a) (m := m) (fun hm => ⟨(hc hm).1, (hc hm).2.1, (hc hm).2.2.1⟩) e1 e2 (fun b o hb hn => f b o hb fun z => hn (mua b z)) g (fun hm => ho hm _ (hc hm).2.2.2)
      refine q v H' ⟨Hf', St, ?_, fun hfr b eb => ?_⟩
      · cases fr with
        | false => exact rs
        | true =>
          obtain ⟨o1, o2⟩ := rs
          refine ⟨o1, fun b eb => ⟨R.h0 (o2 b eb), fun i x hx hm z => ?_⟩⟩
          obtain ⟨y, hy, hm'⟩ := St.le.mu i x hx hm
          obtain ⟨b', eb', _, ⟨u, hu⟩, _⟩ := R.own hy hm'
          rw [z] at eb'
          cases eb'
          rw [o2 b eb] at hu
          cases hu
      · subst hfr
        exact .inl (rs.2 b eb)
    | ex x =>
      intro q
      refine ⟨hl, ds, Hf, R.ext, ha, ?_⟩
      rw [er]
      intro C H' hC f
      refine q C H' hC fun b o h0 hb => f b o (R.ent b o h0 hb) fun z => ?_
      obtain ⟨hm, eb⟩ := mua b z
      obtain ⟨h1, h2, h3, _⟩ := hc hm
      obtain ⟨b', eb', _, _, _, hh⟩ := R.own h1 h2
      rw [h3] at eb'
      cases eb'
      subst eb
      rcases hh with hh | hh
      · rw [h0] at hh
        cases hh
      · exact hb _ hh
theorem trueE {K : PySem.W.Frag} {mg : Str → Option Value} {cs : List FSem} {Ex : XK} {e : E} : GoodE K mg cs Ex e (fun _ _ _ => True) := by
  intro H0 B σ H Hf ρ hB R
  cases evalE cs e ρ with
  | none => trivial
  | some r => cases r <;> exact fun _ _ => trivial
theorem snd_call (k : Nat) {as : Es} (ha : SndA S as) : SndE S (.call k as) := by
  intro sc Ex F hF ex h
  cases ex with
  | Call f es kw p =>
    cases f with
    | Name x px =>
      cases es with
      | nil => exact no h
      | cons e es =>
        cases kw with
        | cons _ _ => exact no h
        | nil =>
          have h' : (decide (S.tb.cn[k]? = some (x, false, lenEs as)) && glB sc x && nmOk x && isEs S.tb sc as (e :: es)) = true := h
          simp only [Bool.and_eq_true, decide_eq_true_eq] at h'
          obtain ⟨⟨⟨h1, h2⟩, h3⟩, h4⟩ := h'
          obtain ⟨ta, pa, ga⟩ := ha sc Ex F hF _ h4
          obtain ⟨hst, hln⟩ := isEs_star h4
          rw [List.all_cons, Bool.and_eq_true] at hst
          cases hs : S.cs[k]? with
          | none =>
            refine ⟨fun _ _ _ => True, fun X hX => ?_, trueE⟩
            obtain ⟨s, g, e1, _⟩ := (hF X hX).fns k x false _ h1
            rw [hs] at e1
            cases e1
          | some s =>
            refine ⟨tCall (spF S.K S.mg s (lenEs as)) [] Ex ta, fun X hX => ?_, ?_⟩
            · have C := hF X hX
              obtain ⟨s', g, e1, e2, e3, e4, e5, e6, e7, e8⟩ := C.fns k x false _ h1
              rw [hs] at e1
              cases e1
              exact pe_call e8 C.room (C.gl h2) (by rw [C.hmg]; exact e4) e5 e6 .nil C.pass (pa X hX) (nmOk1 h3) (star_ok hst.1 _ _) (star_none hst.2 _ _)
            · intro H0 B σ H Hf ρ hB R
              unfold evalE
              cases e1 : evalEs S.cs as ρ with
              | none => trivial
              | some r1 =>
                cases r1 with
                | ex x => exact fun Q q => ga.exc hB R e1 q
                | ok ds ρ1 =>
                  simp only [AO.bind, callE, hs]
                  by_cases hm : s.mu = false
                  · rw [if_pos hm]
                    have hlen := evalEs_len e1
                    cases er : s.run ds with
                    | none => trivial
                    | some o =>
                      cases o with
                      | ret d fr m =>
                        intro Q q
                        refine ga.run hB R e1 fun vs H1 Hf1 S1 rp => ?_
                        have := call_use (mg := S.mg) (Ex := Ex) (s := s) (n := lenEs as) (j := 0) (c := .sh .none) (a := 0) (vs := vs) (ds := ds) S1.rel (by rw [rp.length, hlen]) (by unfold ArgsOk; rw [hm]; exact rp) (fun z => by rw [hm] at z; cases z) (Q := Q)
                        rw [er] at this
                        simp only [hm, Bool.false_eq_true, if_false] at this
                        rw [List.append_nil]
                        exact this fun v H' pe => q v H' (PostE.after S1 pe sub_id sub_nil)
                      | ex y =>
                        intro Q q
                        refine ga.run hB R e1 fun vs H1 Hf1 S1 rp => ?_
                        have := call_use (mg := S.mg) (Ex := Ex) (s := s) (n := lenEs as) (j := 0) (c := .sh .none) (a := 0) (vs := vs) (ds := ds) S1.rel (by rw [rp.length, hlen]) (by unfold ArgsOk; rw [hm]; exact rp) (fun z => by rw [hm] at z; cases z) (Q := Q)
                        rw [er] at this
                        rw [List.append_nil]
                        exact this q
                  · rw [if_neg hm]
                    trivial
    | _ => exact no h
  | _ => exact no h
theorem snd_callm (k v : Nat) {as : Es} (ha : SndA S as) : SndE S (.callm k v as) := by
  intro sc Ex F hF ex h
  cases ex with
  | Call f es kw p =>
    cases f with
    | Name x px =>
      cases es with
      | nil => exact no h
      | cons e es =>
        cases e with
        | Name y py =>
          cases kw with
          | cons _ _ => exact no h
          | nil =>
            have h' : (decide (S.tb.cn[k]? = some (x, true, lenEs as + 1)) && glB sc x && nmOk x && slotB S.tb sc v y && isEs S.tb sc as es) = true := h
            simp only [Bool.and_eq_true, decide_eq_true_eq] at h'
            obtain ⟨⟨⟨⟨h1, h2⟩, h3⟩, h5⟩, h4⟩ := h'
            obtain ⟨ta, pa, ga⟩ := ha sc Ex F hF _ h4
            obtain ⟨hst, hln⟩ := isEs_star h4
            cases hs : S.cs[k]? with
            | none =>
              refine ⟨fun _ _ _ => True, fun X hX => ?_, trueE⟩
              obtain ⟨s, g, e1, _⟩ := (hF X hX).fns k x true _ h1
              rw [hs] at e1
              cases e1
            | some s =>
              refine ⟨tCall (spF S.K S.mg s (lenEs as + 1)) [] Ex (tCons (tVar v) ta), fun X hX => ?_, ?_⟩
              · have C := hF X hX
                obtain ⟨s', g, e1, e2, e3, e4, e5, e6, e7, e8⟩ := C.fns k x true _ h1
                rw [hs] at e1
                cases e1
                exact pe_call e8 C.room (C.gl h2) (by rw [C.hmg]; exact e4) e5 e6 .nil C.pass (pa_cons (C.slot h5) (pa X hX) rfl) (nmOk1 h3) rfl (star_none hst _ _)
              · intro H0 B σ H Hf ρ hB R
                unfold evalE
                cases h0 : getC ρ v with
                | none => trivial
                | some c0 =>
                  obtain ⟨w, hw, _⟩ := R.get v c0 h0
                  simp only
                  cases e1 : evalEs S.cs as ρ with
                  | none => trivial
                  | some r1 =>
                    cases r1 with
                    | ex z => exact fun Q q => ⟨w, hw, ga.exc hB R e1 q⟩
                    | ok ds ρ1 =>
                      simp only [AO.bind, callmE, hs]
                      cases hc : getC ρ1 v with
                      | none => trivial
                      | some c =>
                        simp only
                        by_cases hm : s.mu = true ∧ c.isMut = true
                        · rw [if_pos hm]
                          have hlen := evalEs_len e1
                          cases er : s.run (c.dat :: ds) with
                          | none => trivial
                          | some o =>
                            cases o with
                            | ret d fr m =>
                              intro Q q
                              refine ⟨w, hw, ga.run hB R e1 fun vs H1 Hf1 S1 rp => ?_⟩
                              obtain ⟨a, ea, _, _, o, _⟩ := S1.rel.own hc hm.2
                              have ew : w = .ref a := by
                                rw [hw] at ea
                                cases ea
                                rfl
                              have := call_use (mg := S.mg) (Ex := Ex) (s := s) (n := lenEs as + 1) (j := v) (c := c) (a := a) (vs := w :: vs) (ds := c.dat :: ds) S1.rel (by rw [List.length_cons, rp.length, hlen])
                                (by
                                  unfold ArgsOk
                                  rw [if_pos hm.1]
                                  exact ⟨w, vs, c.dat, ds, rfl, rfl, by rw [ew]; exact o, rp⟩) (fun _ => ⟨hc, hm.2, ea, by rw [ew]; rfl⟩) (Q := Q)
                              rw [er] at this
                              simp only [hm.1, if_true] at this
                              rw [List.append_nil]
                              exact this fun v' H' pe => q v' H' (PostE.after S1 pe (fun i hi => List.mem_cons_of_mem _ hi) (fun i hi => by
                                have : i = v := by simpa using hi
                                rw [this]
                                exact List.mem_cons_self))
                            | ex y =>
                              intro Q q
                              refine ⟨w, hw, ga.run hB R e1 fun vs H1 Hf1 S1 rp => ?_⟩
                              obtain ⟨a, ea, _, _, o, _⟩ := S1.rel.own hc hm.2
                              have ew : w = .ref a := by
                                rw [hw] at ea
                                cases ea
                                rfl
                              have := call_use (mg := S.mg) (Ex := Ex) (s := s) (n := lenEs as + 1) (j := v) (c := c) (a := a) (vs := w :: vs) (ds := c.dat :: ds) S1.rel (by rw [List.length_cons, rp.length, hlen])
                                (by
                                  unfold ArgsOk
                                  rw [if_pos hm.1]
                                  exact ⟨w, vs, c.dat, ds, rfl, rfl, by rw [ew]; exact o, rp⟩) (fun _ => ⟨hc, hm.2, ea, by rw [ew]; rfl⟩) (Q := Q)
                              rw [er] at this
                              rw [List.append_nil]
                              exact this q
                        · rw [if_neg hm]
                          trivial
        | _ => exact no h
    | _ => exact no h
  | _ => exact no h
end DD

-- part DSnd5
set_option Elab.async false
set_option linter.all false
set_option maxRecDepth 100000
set_option maxHeartbeats 1000000
/-! Soundness: built-ins, displays, subscripts. -/
namespace DD
open PySem PySem.Spec PyProof.Rows L2
variable {S : Setg}
theorem bltNm_mem (f : Bt) : bltNm f ∈ bltNames := by cases f <;> decide
theorem bltNm_ok (f : Bt) : bltNm f ≠ "__name__" ∧ (bltNm f == ("__debug__" : Str)) = false := by cases f <;> decide
theorem tyNm_mem (f : Ty) : tyNm f ∈ bltNames := by cases f <;> decide
theorem tyNm_ok (f : Ty) : tyNm f ≠ "__name__" ∧ (tyNm f == ("__debug__" : Str)) = false := by cases f <;> decide
theorem snd_blt (f : Bt) {as : Es} (ha : SndA S as) : SndE S (.blt f as) := by
  intro sc Ex F hF ex h
  cases ex with
  | Call g es kw p =>
    cases g with
    | Name x px =>
      cases es with
      | nil => exact no h
      | cons e es =>
        cases kw with
        | cons _ _ => exact no h
        | nil =>
          have h' : (decide (x = bltNm f) && glB sc x && isEs S.tb sc as (e :: es)) = true := h
          simp only [Bool.and_eq_true, decide_eq_true_eq] at h'
          obtain ⟨⟨rfl, h2⟩, h4⟩ := h'
          obtain ⟨ta, pa, ga⟩ := ha sc Ex F hF _ h4
          obtain ⟨hst, hln⟩ := isEs_star h4
          rw [List.all_cons, Bool.and_eq_true] at hst
          refine ⟨tCB (rBlt S.K f) ta, fun X hX => ?_, ?_⟩
          · have C := hF X hX
            have cr := blt_ok (X := X) C.calm (by have := C.units; omega) f
            rw [C.hK] at cr
            have gl := C.gl h2
            have nb := C.nob (bltNm_mem f)
            have bo := bltBoot f
            have o1 := (bltNm_ok f).1
            have o2 := (bltNm_ok f).2
            cases hv : bltVal f with
            | builtin id =>
              rw [hv] at cr bo
              exact pe_callB cr gl nb bo (pa X hX) o1 o2 (star_ok hst.1 _ _) (star_none hst.2 _ _)
            | type T =>
              rw [hv] at cr bo
              exact pe_callTy cr gl nb bo (pa X hX) o1 o2 (star_ok hst.1 _ _) (star_none hst.2 _ _)
            | _ => cases f <;> cases hv
          · intro H0 B σ H Hf ρ hB R
            unfold evalE
            cases e1 : evalEs S.cs as ρ with
            | none => trivial
            | some r1 =>
              cases r1 with
              | ex x => exact fun Q q => ga.exc hB R e1 q
              | ok ds ρ1 =>
                simp only [AO.bind, outE]
                cases e2 : bltV f ds with
                | none => trivial
                | some dr =>
                  obtain ⟨d, fr⟩ := dr
                  intro Q q
                  refine ga.run hB R e1 fun vs H1 Hf1 S1 rp => ?_
                  exact blt_sound S.K f vs H1 Hf1 ds d fr S1.rel.ext rp e2 Q fun v H' pv => q v H' (PostE.ofV S1 pv sub_id)
    | _ => exact no h
  | _ => exact no h
def tTys : List Ty → TA
  | [] => tNil
  | t :: ts => tCons (tC (.ty (tyS t))) (tTys ts)
theorem pa_tys {sc : Scope} {Ex : XK} {X : Cx} (C : S.ctx sc Ex X) : ∀ {ts : List Ty} {es : List Expr}, isTys ts es = true → allGl sc es = true → PA X es (tTys ts)
  | [], [], _, _ => pa_nil
  | [], _ :: _, h, _ => no h
  | _ :: _, [], h, _ => no h
  | t :: ts, e :: es, h, g => by
    cases e with
    | Name x p =>
      have h' : (decide (x = tyNm t) && isTys ts es) = true := h
      have g' : (glB sc x && allGl sc es) = true := g
      simp only [Bool.and_eq_true, decide_eq_true_eq] at h' g'
      obtain ⟨rfl, h2⟩ := h'
      exact pa_cons (pe_bltn (C.gl g'.1) (C.nob (tyNm_mem t)) (tyBoot t) rfl (tyNm_ok t).1 (tyNm_ok t).2) (pa_tys C h2 g'.2) rfl
    | _ => exact no h
theorem tTys_run : ∀ (ts : List Ty) {σ : L2.St} {H : Hp} {Q : List V → Hp → Prop}, Q (ts.map fun t => V.ty (tyS t)) H → tTys ts σ H Q
  | [], _, _, _, q => q
  | t :: ts, σ, H, Q, q => tTys_run ts (Q := fun xs H2 => Q (.ty (tyS t) :: xs) H2) q
theorem snd_isi {a : E} (ts : List Ty) (ha : SndE S a) : SndE S (.isi a ts) := by
  intro sc Ex F hF ex h
  cases ex with
  | Call g es kw p =>
    cases g with
    | Name x px =>
      match es, kw, h with
      | [e, t], [], h =>
        have h' : (decide (x = ("isinstance" : Str)) && glB sc x && nostar e && isE S.tb sc a e && isTy1 sc ts t) = true := h
        simp only [Bool.and_eq_true, decide_eq_true_eq] at h'
        obtain ⟨⟨⟨⟨rfl, h2⟩, h3⟩, h4⟩, h5⟩ := h'
        obtain ⟨ta, pa, ga⟩ := ha sc Ex F hF _ h4
        have bo : bootBuiltins ("isinstance" : Str) = some (.builtin "isinstance") := by decide +kernel
        cases t with
        | Name y py =>
          match ts, h5 with
          | [t], h5 =>
            have h6 : (decide (y = tyNm t) && glB sc y) = true := h5
            simp only [Bool.and_eq_true, decide_eq_true_eq] at h6
            obtain ⟨rfl, h7⟩ := h6
            refine ⟨tCB (rIsi1 S.K t) (tCons ta (tCons (tC (.ty (tyS t))) tNil)), fun X hX => ?_, ?_⟩
            · have C := hF X hX
              have cr := call_isi1 (X := X) t
              rw [C.hK] at cr
              refine pe_callB cr (C.gl h2) (C.nob (by decide)) bo (pa_cons (pa X hX) (pa_cons (pe_bltn (C.gl h7) (C.nob (tyNm_mem t)) (tyBoot t) rfl (tyNm_ok t).1 (tyNm_ok t).2) pa_nil rfl) (star_ok h3 _ _)) (by decide) (by decide) (star_ok h3 _ _) rfl
            · intro H0 B σ H Hf ρ hB R
              unfold evalE
              cases e1 : evalE S.cs a ρ with
              | none => trivial
              | some r1 =>
                cases r1 with
                | ex x => exact fun Q q => ga.exc hB R e1 q
                | ok d fr ρ1 =>
                  intro Q q
                  refine ga.run hB R e1 fun v H1 Hf1 S1 rp => ⟨v, d, rfl, rp.mono S1.rel.ext, ?_⟩
                  have := q _ H1 (PostE.ofV S1 (PostV.here S1.rel.ext (.bl ([t].any (isTy d)))) sub_id)
                  simpa using this
          | [], h5 => exact no h5
          | _ :: _ :: _, h5 => exact no h5
        | Tuple ys k py =>
          have h6 : (isTys ts ys && allGl sc ys && decide (ts.length ≤ 5)) = true := h5
          simp only [Bool.and_eq_true, decide_eq_true_eq] at h6
          obtain ⟨⟨h7, h8⟩, h9⟩ := h6
          refine ⟨tCB (rIsiN S.K ts) (tCons ta (tCons (tTup (tTys ts)) tNil)), fun X hX => ?_, ?_⟩
          · have C := hF X hX
            have cr := call_isiN (X := X) ts
            rw [C.hK] at cr
            have pt : PE X (.Tuple ys k py) (tTup (tTys ts)) := pe_tup (pa_tys C h7 h8)
            exact pe_callB cr (C.gl h2) (C.nob (by decide)) bo (pa_cons (pa X hX) (pa_cons pt pa_nil rfl) (star_ok h3 _ _)) (by decide) (by decide) (star_ok h3 _ _) rfl
          · intro H0 B σ H Hf ρ hB R
            unfold evalE
            cases e1 : evalE S.cs a ρ with
            | none => trivial
            | some r1 =>
              cases r1 with
              | ex x => exact fun Q q => ga.exc hB R e1 q
              | ok d fr ρ1 =>
                intro Q q
                refine ga.run hB R e1 fun v H1 Hf1 S1 rp => ?_
                refine tTys_run ts ⟨by rw [List.length_map]; exact lim_line (Nat.le_trans h9 (by decide)), fun p n => ⟨v, d, p, rfl, upd_same, ?_, ?_⟩⟩
                · exact rp.mono (Same.trans S1.rel.ext (upd_pair (o := .tup (ts.map fun t => V.ty (tyS t))) S1.rel.ext n).2.2.1)
                · have pv : PostV S.K H1 Hf1 (.bool (ts.any (isTy d))) false (.bl (ts.any (isTy d))) (upd H1 p (.tup (ts.map fun t => V.ty (tyS t)))) := by
                    obtain ⟨s1, s2, s3, s4⟩ := upd_pair (o := .tup (ts.map fun t => V.ty (tyS t))) S1.rel.ext n
                    exact ⟨_, s1, s2, s3, s4, .bl _⟩
                  exact q _ _ (PostE.ofV S1 pv sub_id)
        | _ => exact no h5
      | [], _, h => exact no h
      | [_], _, h => exact no h
      | [_, _], _ :: _, h => exact no h
      | _ :: _ :: _ :: _, _, h => exact no h
    | _ => exact no h
  | _ => exact no h
end DD

-- part DSnd6
set_option Elab.async false
set_option linter.all false
set_option maxRecDepth 100000
set_option maxHeartbeats 1000000
/-! Soundness: subscripts, slices, displays. -/
namespace DD
open PySem PySem.Spec PyProof.Rows L2
variable {S : Setg}
theorem snd_ix {a i : E} (ha : SndE S a) (hi : SndE S i) : SndE S (.ix a i) := by
  intro sc Ex F hF ex h
  cases ex with
  | Subscript e s p =>
    have h' : (noslice s && isE S.tb sc a e && isE S.tb sc i s) = true := h
    simp only [Bool.and_eq_true] at h'
    obtain ⟨⟨h1, h2⟩, h3⟩ := h'
    obtain ⟨ta, pa, ga⟩ := ha sc Ex F hF _ h2
    obtain ⟨ti, pi, gi⟩ := hi sc Ex F hF _ h3
    refine ⟨tOp (rIxA S.K) ta ti, fun X hX => ?_, ?_⟩
    · have C := hF X hX
      have := ix_any (X := X)
      rw [C.hK] at this
      exact pe_ix this (pa X hX) (pi X hX) (plainIx_ok h1)
    · intro H0 B σ H Hf ρ hB R
      unfold evalE
      cases e1 : evalE S.cs a ρ with
      | none => trivial
      | some r1 =>
        cases r1 with
        | ex x => exact fun Q q => ga.exc hB R e1 q
        | ok d1 fr1 ρ1 =>
          simp only [EO.bind]
          cases e2 : evalE S.cs i ρ1 with
          | none => trivial
          | some r2 =>
            cases r2 with
            | ex x => exact fun Q q => ga.run hB R e1 fun v H1 Hf1 S1 rp => gi.exc hB S1.rel e2 q
            | ok d2 fr2 ρ2 =>
              simp only
              cases e3 : ixV d1 d2 with
              | none => trivial
              | some d =>
                intro Q q
                refine ga.run hB R e1 fun v H1 Hf1 S1 rp => gi.run hB S1.rel e2 fun w H2 Hf2 S2 rp2 => ?_
                exact ix_sound S.K S2.rel.ext ((rp.mono S2.ext).top S2.rel.ext) rp2 e3 Q fun x rx => q x H2 (PostE.ofV (S1.trans S2 sub_l sub_r) (PostV.here S2.rel.ext rx) sub_id)
  | _ => exact no h
theorem cell_top {K : PySem.W.Frag} {H0 : Hp} {B : Bor} {σ : L2.St} {ρ : Env} {H Hf : Hp} {i : Nat} {c : Cell} (R : Rel K H0 B σ H Hf ρ) (h : getC ρ i = some c) : ∃ v, σ[i]? = some (some v) ∧ Top K H Hf v c.dat ∧ ∀ ds, c.dat = .tuple ds → Rp K Hf v c.dat := by
  obtain ⟨v, hv, ok⟩ := R.get i c h
  refine ⟨v, hv, ?_⟩
  cases c with
  | sh d => exact ⟨Rp.top R.ext ok, fun _ _ => ok⟩
  | ow d =>
    refine ⟨ok.1.top, fun ds e => ?_⟩
    have e' : d = .tuple ds := e
    rw [e'] at ok
    cases ok.1
  | bo d =>
    refine ⟨ok.1.top, fun ds e => ?_⟩
    have e' : d = .tuple ds := e
    rw [e'] at ok
    cases ok.1
theorem snd_ixv (n : Nat) {i : E} (hi : SndE S i) : SndE S (.ixv n i) := by
  intro sc Ex F hF ex h
  cases ex with
  | Subscript e s p =>
    cases e with
    | Name x px =>
      have h' : (slotB S.tb sc n x && noslice s && isE S.tb sc i s) = true := h
      simp only [Bool.and_eq_true] at h'
      obtain ⟨⟨h1, h2⟩, h3⟩ := h'
      obtain ⟨ti, pi, gi⟩ := hi sc Ex F hF _ h3
      refine ⟨tOp (rIxA S.K) (tVar n) ti, fun X hX => ?_, ?_⟩
      · have C := hF X hX
        have := ix_any (X := X)
        rw [C.hK] at this
        exact pe_ix this (C.slot h1) (pi X hX) (plainIx_ok h2)
      · intro H0 B σ H Hf ρ hB R
        unfold evalE
        cases h0 : getC ρ n with
        | none => trivial
        | some c0 =>
          obtain ⟨w, hw, _⟩ := R.get n c0 h0
          simp only
          cases e2 : evalE S.cs i ρ with
          | none => trivial
          | some r2 =>
            cases r2 with
            | ex x => exact fun Q q => ⟨w, hw, gi.exc hB R e2 q⟩
            | ok d2 fr2 ρ2 =>
              simp only [EO.bind]
              cases hc : getC ρ2 n with
              | none => trivial
              | some c =>
                simp only
                cases e3 : ixV c.dat d2 with
                | none => trivial
                | some d =>
                  intro Q q
                  refine ⟨w, hw, gi.run hB R e2 fun y H2 Hf2 S2 rp2 => ?_⟩
                  obtain ⟨w', hw', tp, _⟩ := cell_top S2.rel hc
                  rw [hw] at hw'
                  cases hw'
                  exact ix_sound S.K S2.rel.ext tp rp2 e3 Q fun x rx => q x H2 (PostE.ofV S2 (PostV.here S2.rel.ext rx) sub_id)
    | _ => exact no h
  | _ => exact no h
/-- a part of a slice -/
def GoodO (K : PySem.W.Frag) (mg : Str → Option Value) (cs : List FSem) (Ex : XK) (e : E) (t : TO) : Prop := ∀ H0 B σ H Hf ρ, BOk B → Rel K H0 B σ H Hf ρ →
  if isNop e = true then ∀ Q : Option Int → Hp → Prop, Q none H → t σ H Q else
  match evalE cs e ρ with
  | some (.ok (.int i) _ ρ') => ∀ Q : Option Int → Hp → Prop, (∀ H' Hf', Step K H0 B σ (mutsE e) ρ H Hf ρ' H' Hf' → Q (some i) H') → t σ H Q
  | some (.ex x) => ∀ Q : Option Int → Hp → Prop, ExW mg H0 B Ex x → t σ H Q
  | _ => True
def isO (tb : Tb) (sc : Scope) (lo : E) (l : Option Expr) : Bool := match l with
    | none => isNop lo
    | some x => isE tb sc lo x
theorem snd_o {lo : E} (hl : SndE S lo) {sc : Scope} {Ex : XK} {F : Fam} (hF : ∀ X, F X → S.ctx sc Ex X) {l : Option Expr} (h : isO S.tb sc lo l = true) : ∃ t : TO, (∀ X, F X → PO X l t) ∧ GoodO S.K S.mg S.cs Ex lo t := by
  cases l with
  | none =>
    cases lo with
    | nop =>
      refine ⟨tNoPart, fun X hX => po_none, ?_⟩
      intro H0 B σ H Hf ρ hB R
      simp only [isNop, if_true]
      exact fun Q q => q
    | _ => exact no h
  | some x =>
    have h' : isE S.tb sc lo x = true := h
    obtain ⟨t, p, g⟩ := hl sc Ex F hF x h'
    refine ⟨fun σ H Q => t σ H fun y H1 => ∃ i, y = .int i ∧ Q (some i) H1, fun X hX => po_some (p X hX), ?_⟩
    intro H0 B σ H Hf ρ hB R
    have hno : isNop lo = false := by
      cases lo with
      | nop => cases x <;> exact no h'
      | _ => rfl
    simp only [hno, Bool.false_eq_true, if_false]
    cases e1 : evalE S.cs lo ρ with
    | none => trivial
    | some r1 =>
      cases r1 with
      | ex x => exact fun Q q => g.exc hB R e1 q
      | ok d fr ρ1 =>
        cases d with
        | int i => exact fun Q q => g.run hB R e1 fun v H1 Hf1 S1 rp => ⟨i, rp.int_inv, q H1 Hf1 S1⟩
        | _ => trivial
end DD

-- part DSnd7
set_option Elab.async false
set_option linter.all false
set_option maxRecDepth 100000
set_option maxHeartbeats 1000000
/-! Soundness: slices, displays, places. -/
namespace DD
open PySem PySem.Spec PyProof.Rows L2
section
variable {K : PySem.W.Frag} {mg : Str → Option Value} {cs : List FSem} {Ex : XK} {H0 : Hp} {B : Bor} {σ : L2.St} {ms ms1 ms2 : List Nat} {ρ ρ1 ρ2 : Env} {H Hf H1 Hf1 H2 Hf2 : Hp} {d : PD} {fr : Bool} {v : V}
def OutE (K : PySem.W.Frag) (mg : Str → Option Value) (Ex : XK) (H0 : Hp) (B : Bor) (σ : L2.St) (ρ : Env) (ms : List Nat) (H Hf : Hp) (t : TE) : EO → Prop
  | .ok d fr ρ' => ∀ Q : VK, (∀ v H', PostE K H0 B σ ρ ms H Hf d fr ρ' v H' → Q v H') → t σ H Q
  | .ex x => ∀ Q : VK, ExW mg H0 B Ex x → t σ H Q
theorem GoodE.of {e : E} {t : TE} (h : ∀ H0 B σ H Hf ρ, BOk B → Rel K H0 B σ H Hf ρ → ∀ r, evalE cs e ρ = some r → OutE K mg Ex H0 B σ ρ (mutsE e) H Hf t r) : GoodE K mg cs Ex e t := by
  intro H0 B σ H Hf ρ hB R
  have := h H0 B σ H Hf ρ hB R
  cases e1 : evalE cs e ρ with
  | none => trivial
  | some r => cases r <;> exact this _ e1
theorem GoodE.out {e : E} {t : TE} (g : GoodE K mg cs Ex e t) (hB : BOk B) (R : Rel K H0 B σ H Hf ρ) {r : EO} (h : evalE cs e ρ = some r) : OutE K mg Ex H0 B σ ρ (mutsE e) H Hf t r := by
  have := g H0 B σ H Hf ρ hB R
  rw [h] at this
  cases r <;> exact this
theorem bind_ok {r0 : Option EO} {k : PD → Env → Option EO} {r : EO} (h : EO.bind r0 k = some r) : (∃ x, r0 = some (.ex x) ∧ r = .ex x) ∨ ∃ d fr ρ1, r0 = some (.ok d fr ρ1) ∧ k d ρ1 = some r := by
  cases r0 with
  | none => cases h
  | some r0 =>
    cases r0 with
    | ex x =>
      cases h
      exact .inl ⟨x, rfl, rfl⟩
    | ok d fr ρ1 => exact .inr ⟨d, fr, ρ1, rfl, h⟩
theorem bindA_ok {r0 : Option AO} {k : List PD → Env → Option EO} {r : EO} (h : AO.bind r0 k = some r) : (∃ x, r0 = some (.ex x) ∧ r = .ex x) ∨ ∃ d ρ1, r0 = some (.ok d ρ1) ∧ k d ρ1 = some r := by
  cases r0 with
  | none => cases h
  | some r0 =>
    cases r0 with
    | ex x =>
      cases h
      exact .inl ⟨x, rfl, rfl⟩
    | ok d ρ1 => exact .inr ⟨d, ρ1, rfl, h⟩
theorem GoodO.run {lo : E} {t : TO} {k : Option Int → Env → Option EO} {r : EO} (g : GoodO K mg cs Ex lo t) (hB : BOk B) (R : Rel K H0 B σ H Hf ρ) (h : optI (isNop lo) ρ (evalE cs lo ρ) k = some r) :
    (∃ o ρ1, k o ρ1 = some r ∧ ∀ Q : Option Int → Hp → Prop, (∀ H' Hf', Step K H0 B σ (mutsE lo) ρ H Hf ρ1 H' Hf' → Q o H') → t σ H Q) ∨ (∃ x, r = .ex x ∧ ∀ Q : Option Int → Hp → Prop, ExW mg H0 B Ex x → t σ H Q) := by
  have := g H0 B σ H Hf ρ hB R
  unfold optI at h
  cases hn : isNop lo with
  | true =>
    rw [hn] at this h
    simp only [if_true] at this h
    exact .inl ⟨none, ρ, h, fun Q q => this Q (q H Hf (Step.refl R))⟩
  | false =>
    rw [hn] at this h
    simp only [Bool.false_eq_true, if_false] at this h
    cases e1 : evalE cs lo ρ with
    | none => simp [e1] at h
    | some r1 =>
      rw [e1] at this h
      cases r1 with
      | ex x =>
        simp only [Option.some.injEq] at h
        exact .inr ⟨x, h.symm, this⟩
      | ok d fr ρ1 =>
        cases d with
        | int i => exact .inl ⟨some i, ρ1, h, this⟩
        | _ => simp at h
end
variable {S : Setg}
theorem snd_slc {a lo hi : E} (ha : SndE S a) (hl : SndE S lo) (hh : SndE S hi) : SndE S (.slc a lo hi) := by
  intro sc Ex F hF ex h
  cases ex with
  | Subscript e s p =>
    cases s with
    | Slice l u st ps =>
      cases st with
      | some _ => exact no h
      | none =>
        have h' : (isE S.tb sc a e && isO S.tb sc lo l && isO S.tb sc hi u) = true := by
          cases l <;> cases u <;> exact h
        simp only [Bool.and_eq_true] at h'
        obtain ⟨⟨h1, h2⟩, h3⟩ := h'
        obtain ⟨ta, pa, ga⟩ := ha sc Ex F hF _ h1
        obtain ⟨tl, pl, gl⟩ := snd_o hl hF h2
        obtain ⟨tu, pu, gu⟩ := snd_o hh hF h3
        refine ⟨tSl (rSlAny S.K) ta tl tu, fun X hX => ?_, ?_⟩
        · have C := hF X hX
          have := sl_any (X := X)
          rw [C.hK] at this
          exact pe_slice this (pa X hX) (pl X hX) (pu X hX)
        · refine GoodE.of fun H0 B σ H Hf ρ hB R r hr => ?_
          unfold evalE at hr
          rcases bind_ok hr with ⟨x, e1, rfl⟩ | ⟨d1, f1, ρ1, e1, hr⟩
          · exact fun Q q => ga.exc hB R e1 q
          · have go : ∀ Q : VK, (∀ v H1 Hf1, Step S.K H0 B σ (mutsE a) ρ H Hf ρ1 H1 Hf1 → Rp S.K Hf1 v d1 → tl σ H1 fun l H2 => tu σ H2 fun u H3 => rSlAny S.K v l u H3 Q) → tSl (rSlAny S.K) ta tl tu σ H Q := fun Q q => ga.run hB R e1 q
            cases r with
            | ex x =>
              intro Q q
              refine go Q fun v H1 Hf1 S1 rp => ?_
              rcases gl.run hB S1.rel hr with ⟨o, ρ2, hr2, run2⟩ | ⟨x', ex', run2⟩
              · refine run2 _ fun H2 Hf2 S2 => ?_
                rcases gu.run hB S2.rel hr2 with ⟨o2, ρ3, hr3, run3⟩ | ⟨x', ex', run3⟩
                · unfold outE at hr3
                  split at hr3 <;> cases hr3
                · cases ex'
                  exact run3 _ q
              · cases ex'
                exact run2 _ q
            | ok d fr ρ' =>
              intro Q q
              refine go Q fun v H1 Hf1 S1 rp => ?_
              rcases gl.run hB S1.rel hr with ⟨o, ρ2, hr2, run2⟩ | ⟨x', ex', run2⟩
              · refine run2 _ fun H2 Hf2 S2 => ?_
                rcases gu.run hB S2.rel hr2 with ⟨o2, ρ3, hr3, run3⟩ | ⟨x', ex', run3⟩
                · refine run3 _ fun H3 Hf3 S3 => ?_
                  unfold outE at hr3
                  split at hr3
                  · rename_i dd frr esl
                    cases hr3
                    have r3 := (rp.mono S2.ext).mono S3.ext
                    refine sl_sound S.K S3.rel.ext (r3.top S3.rel.ext) (fun _ _ => r3) esl Q fun w H4 pv => q w H4 (PostE.ofV (S1.trans (S2.trans S3 sub_l sub_r (ms := mutsE lo ++ mutsE hi)) sub_l sub_r) pv sub_id)
                  · cases hr3
                · cases ex'
              · cases ex'
    | _ => exact no h
  | _ => exact no h
theorem snd_slv (n : Nat) {lo hi : E} (hl : SndE S lo) (hh : SndE S hi) : SndE S (.slv n lo hi) := by
  intro sc Ex F hF ex h
  cases ex with
  | Subscript e s p =>
    cases e with
    | Name x px =>
      cases s with
      | Slice l u st ps =>
        cases st with
        | some _ => exact no h
        | none =>
          have h' : (slotB S.tb sc n x && isO S.tb sc lo l && isO S.tb sc hi u) = true := by
            cases l <;> cases u <;> exact h
          simp only [Bool.and_eq_true] at h'
          obtain ⟨⟨h1, h2⟩, h3⟩ := h'
          obtain ⟨tl, pl, gl⟩ := snd_o hl hF h2
          obtain ⟨tu, pu, gu⟩ := snd_o hh hF h3
          refine ⟨tSl (rSlAny S.K) (tVar n) tl tu, fun X hX => ?_, ?_⟩
          · have C := hF X hX
            have := sl_any (X := X)
            rw [C.hK] at this
            exact pe_slice this (C.slot h1) (pl X hX) (pu X hX)
          · refine GoodE.of fun H0 B σ H Hf ρ hB R r hr => ?_
            unfold evalE at hr
            cases h0 : getC ρ n with
            | none => simp [h0] at hr
            | some c0 =>
              simp only [h0] at hr
              obtain ⟨w, hw, _⟩ := R.get n c0 h0
              rcases gl.run hB R hr with ⟨o, ρ2, hr2, run2⟩ | ⟨x', rfl, run2⟩
              · cases r with
                | ex x =>
                  intro Q q
                  refine ⟨w, hw, run2 _ fun H2 Hf2 S2 => ?_⟩
                  rcases gu.run hB S2.rel hr2 with ⟨o2, ρ3, hr3, run3⟩ | ⟨x', ex', run3⟩
                  · cases hc : getC ρ3 n with
                    | none => simp [hc] at hr3
                    | some c =>
                      simp only [hc, outE] at hr3
                      split at hr3 <;> cases hr3
                  · cases ex'
                    exact run3 _ q
                | ok d fr ρ' =>
                  intro Q q
                  refine ⟨w, hw, run2 _ fun H2 Hf2 S2 => ?_⟩
                  rcases gu.run hB S2.rel hr2 with ⟨o2, ρ3, hr3, run3⟩ | ⟨x', ex', run3⟩
                  · refine run3 _ fun H3 Hf3 S3 => ?_
                    cases hc : getC ρ3 n with
                    | none => simp [hc] at hr3
                    | some c =>
                      simp only [hc, outE] at hr3
                      split at hr3
                      · rename_i dd frr esl
                        cases hr3
                        obtain ⟨w', hw', tp, tpl⟩ := cell_top S3.rel hc
                        rw [hw] at hw'
                        cases hw'
                        refine sl_sound S.K S3.rel.ext tp tpl esl Q fun w H4 pv => q w H4 (PostE.ofV (S2.trans S3 sub_l sub_r) pv sub_id)
                      · cases hr3
                  · cases ex'
              · exact fun Q q => ⟨w, hw, run2 _ q⟩
      | _ => exact no h
    | _ => exact no h
  | _ => exact no h
theorem snd_tup {as : Es} (ha : SndA S as) : SndE S (.tup as) := by
  intro sc Ex F hF ex h
  cases ex with
  | Tuple es k p =>
    obtain ⟨ta, pa, ga⟩ := ha sc Ex F hF es h
    refine ⟨tTup ta, fun X hX => pe_tup (pa X hX), ?_⟩
    refine GoodE.of fun H0 B σ H Hf ρ hB R r hr => ?_
    unfold evalE at hr
    rcases bindA_ok hr with ⟨x, e1, rfl⟩ | ⟨ds, ρ1, e1, hr⟩
    · exact fun Q q => ga.exc hB R e1 q
    · split at hr
      · rename_i hz
        cases hr
        intro Q q
        refine ga.run hB R e1 fun vs H1 Hf1 S1 rp => ⟨lim_line (by rw [rp.length]; exact hz), fun p n => ?_⟩
        exact q _ _ (PostE.ofV S1 (PostV.newT S1.rel.ext n rp) sub_id)
      · cases hr
  | _ => exact no h
theorem snd_lst {as : Es} (ha : SndA S as) : SndE S (.lst as) := by
  intro sc Ex F hF ex h
  cases ex with
  | List es p =>
    obtain ⟨ta, pa, ga⟩ := ha sc Ex F hF es h
    refine ⟨_, fun X hX => pe_lst (pa X hX), ?_⟩
    refine GoodE.of fun H0 B σ H Hf ρ hB R r hr => ?_
    unfold evalE at hr
    rcases bindA_ok hr with ⟨x, e1, rfl⟩ | ⟨ds, ρ1, e1, hr⟩
    · exact fun Q q => ga.exc hB R e1 q
    · split at hr
      · rename_i hz
        cases hr
        intro Q q
        refine ga.run hB R e1 fun vs H1 Hf1 S1 rp => ⟨lim_line (by rw [rp.length]; exact hz), fun p n => ?_⟩
        exact q _ _ (PostE.ofV S1 (PostV.newL S1.rel.ext n rp) sub_id)
      · cases hr
  | _ => exact no h
theorem snd_dic0 : SndE S .dic0 := by
  intro sc Ex F hF ex h
  cases ex with
  | Dict ks vs p =>
    cases ks with
    | cons _ _ => exact no h
    | nil =>
      cases vs with
      | cons _ _ => exact no h
      | nil =>
        refine ⟨tDNewK, fun X hX => pe_dnewK, ?_⟩
        refine GoodE.of fun H0 B σ H Hf ρ hB R r hr => ?_
        unfold evalE at hr
        cases hr
        exact fun Q q p n => q _ _ ((PostV.newD (kvs := []) (dk := []) R.ext n .nil).toE R)
  | _ => exact no h
theorem snd_idx {a x : E} (ha : SndE S a) (hx : SndE S x) : SndE S (.idx a x) := by
  intro sc Ex F hF ex h
  cases ex with
  | Call f es kw cp =>
    cases f with
    | Attribute o m ap =>
      match es, kw, h with
      | [e], [], h =>
        have h' : (decide (m = ("index" : Str)) && baseB o && (ap.endLine == cp.line) && nostar e && isE S.tb sc a o && isE S.tb sc x e) = true := h
        simp only [Bool.and_eq_true, decide_eq_true_eq] at h'
        obtain ⟨⟨⟨⟨⟨rfl, h1⟩, h2⟩, h3⟩, h4⟩, h5⟩ := h'
        obtain ⟨ta, pa, ga⟩ := ha sc Ex F hF _ h4
        obtain ⟨tx, px, gx⟩ := hx sc Ex F hF _ h5
        refine ⟨tBM S.K "list" (rIndexD S.K) ta (tCons tx tNil), fun X hX => ?_, ?_⟩
        · have C := hF X hX
          have := mt_indexD (X := X) C.units
          rw [C.hK] at this
          have pb := pe_bm (apos := ap) (cpos := cp) PySem.F.plainAttrs_list PySem.F.slot_list_index PySem.F.type_list_index this (pa X hX) (pa_cons (px X hX) pa_nil (star_ok h3 _ _)) (base_ok h1 _ _ _) (by
            rw [star_ok h3]
            rfl) h2 (star_ok h3 _ _) rfl
          rw [C.hK] at pb
          exact pb
        · refine GoodE.of fun H0 B σ H Hf ρ hB R r hr => ?_
          unfold evalE at hr
          rcases bind_ok hr with ⟨y, e1, rfl⟩ | ⟨d1, f1, ρ1, e1, hr⟩
          · exact fun Q q => ga.exc hB R e1 q
          · cases d1 with
            | list l =>
              simp only at hr
              rcases bind_ok hr with ⟨y, e2, rfl⟩ | ⟨d2, f2, ρ2, e2, hr⟩
              · refine fun Q q => ga.run hB R e1 fun v H1 Hf1 S1 rp => ?_
                obtain ⟨b, xs, rfl, s, rr⟩ := rp.lst_inv
                exact ⟨.inl ⟨rfl, xs, Same.sql S1.rel.ext s⟩, gx.exc hB S1.rel e2 q⟩
              · split at hr
                · rename_i hs
                  rw [Bool.and_eq_true] at hs
                  cases e3 : idxV l d2 0 with
                  | none => simp [e3] at hr
                  | some nn =>
                    rw [e3] at hr
                    cases hr
                    intro Q q
                    refine ga.run hB R e1 fun v H1 Hf1 S1 rp => ?_
                    obtain ⟨b, xs, rfl, s, rr⟩ := rp.lst_inv
                    refine ⟨.inl ⟨rfl, xs, Same.sql S1.rel.ext s⟩, gx.run hB S1.rel e2 fun w H2 Hf2 S2 rp2 => ?_⟩
                    obtain ⟨j, ej, ⟨z, hz, hzz⟩, hno⟩ := idxV_spec l d2 0 nn e3
                    have rl : Rp S.K H2 (.ref b) (.list l) := (rp.mono S2.ext).mono S2.rel.ext
                    refine ⟨b, w, d2, l, j, z, rfl, rfl, rl.dpS hs.1, (rp2.mono S2.rel.ext).dpS hs.2, hs.1, hs.2, hz, hzz, fun m z' hm hz' => hno m z' hm hz', ?_⟩
                    have : nn = j := by omega
                    subst this
                    exact q _ H2 (PostE.ofV (S1.trans S2 sub_l sub_r) (PostV.here S2.rel.ext (.int _)) sub_id)
                · cases hr
            | _ => cases hr
      | [], _, h => exact no h
      | [_], _ :: _, h => exact no h
      | _ :: _ :: _, _, h => exact no h
    | _ => exact no h
  | _ => exact no h
end DD

-- part DSnd8
set_option Elab.async false
set_option linter.all false
set_option maxRecDepth 100000
set_option maxHeartbeats 2000000
/-! Soundness: what loops walk. -/
namespace DD
open PySem PySem.Spec PyProof.Rows L2

/-! ### the iterators serve data -/
section
variable {K : PySem.W.Frag} {H H' Hf : Hp} {a b : Addr} {xs ys : List V} {ds es : List PD}
theorem sv_list (s : SqL K Hf a xs) (r : RpA K Hf xs ds) : Serves K (Itl K a) none Hf ds := by
  refine ⟨fun i d H Hf1 e1 e2 _ hd => ?_, fun H Hf1 e1 e2 _ => ⟨xs, Same.sql e2 (Same.sql e1 s), by rw [r.length]; exact Nat.le_refl _⟩⟩
  obtain ⟨v, hv, rv⟩ := r.get hd
  have q : SqL K H a xs := Same.sql e2 (Same.sql e1 s)
  refine ⟨⟨xs, v, q, hv⟩, fun x H' y => ?_⟩
  obtain ⟨rfl, y⟩ := y
  have z := y xs q
  rw [hv] at z
  cases z
  exact PostV.here e2 (rv.mono e1)
theorem sv_tup (s : SqT K Hf a xs) (r : RpA K Hf xs ds) : Serves K (Itt K a) none Hf ds := by
  refine ⟨fun i d H Hf1 e1 e2 _ hd => ?_, fun H Hf1 e1 e2 _ => ⟨xs, Same.sqt e2 (Same.sqt e1 s), by rw [r.length]; exact Nat.le_refl _⟩⟩
  obtain ⟨v, hv, rv⟩ := r.get hd
  have q : SqT K H a xs := Same.sqt e2 (Same.sqt e1 s)
  refine ⟨⟨xs, v, q, hv⟩, fun x H' y => ?_⟩
  obtain ⟨rfl, y⟩ := y
  have z := y xs q
  rw [hv] at z
  cases z
  exact PostV.here e2 (rv.mono e1)
theorem sv_hid (r : RpA K Hf xs ds) : Serves K (Itl K a) (some (a, xs)) Hf ds := by
  refine ⟨fun i d H Hf1 e1 e2 hg hd => ?_, fun H Hf1 e1 e2 hg => ⟨xs, SqL.of (hg a xs rfl), by rw [r.length]; exact Nat.le_refl _⟩⟩
  obtain ⟨v, hv, rv⟩ := r.get hd
  have q : SqL K H a xs := SqL.of (hg a xs rfl)
  refine ⟨⟨xs, v, q, hv⟩, fun x H' y => ?_⟩
  obtain ⟨rfl, y⟩ := y
  have z := y xs q
  rw [hv] at z
  cases z
  exact PostV.here e2 (rv.mono e1)
theorem getR {n i : Nat} {f : Nat → PD} {d : PD} (h : ((List.range n).map f)[i]? = some d) : i < n ∧ d = f i := by
  by_cases q : i < n
  · rw [List.getElem?_map, List.getElem?_range q] at h
    exact ⟨q, (Option.some.inj h).symm⟩
  · rw [List.getElem?_eq_none (by simpa using q)] at h
    cases h
theorem sv_rng (lo : Int) (n : Nat) : Serves K (Itr lo n) none Hf ((List.range n).map fun i => .int (lo + (i : Nat))) := by
  refine ⟨fun i d H Hf1 e1 e2 _ hd => ?_, fun H Hf1 e1 e2 _ => by
    rw [List.length_map, List.length_range]
    exact Nat.le_refl n⟩
  obtain ⟨q, rfl⟩ := getR hd
  refine ⟨q, fun x H' y => ?_⟩
  obtain ⟨rfl, rfl⟩ := y
  exact PostV.here e2 (.int _)
theorem getE : ∀ {ds : List PD} {i k : Nat} {d : PD}, ((List.range' k ds.length).zipWith (fun (i : Nat) y => PyData.tuple [.int ((i : Nat) : Int), y]) ds)[i]? = some d → ∃ e, ds[i]? = some e ∧ d = .tuple [.int (((k + i : Nat)) : Int), e]
  | [], i, k, d, h => by simp at h
  | e :: r, 0, k, d, h => by
    simp [List.range'] at h
    exact ⟨e, rfl, by rw [← h]; simp⟩
  | e :: r, i + 1, k, d, h => by
    rw [List.length_cons, List.range'_succ, List.zipWith_cons_cons, List.getElem?_cons_succ] at h
    obtain ⟨x, h1, h2⟩ := getE (ds := r) h
    refine ⟨x, by simpa using h1, ?_⟩
    rw [h2]
    have : k + 1 + i = k + (i + 1) := by omega
    rw [this]
theorem getE0 {i : Nat} {d : PD} (h : ((List.range ds.length).zipWith (fun (i : Nat) y => PyData.tuple [.int ((i : Nat) : Int), y]) ds)[i]? = some d) : ∃ e, ds[i]? = some e ∧ d = .tuple [.int ((i : Nat) : Int), e] := by
  rw [List.range_eq_range'] at h
  obtain ⟨e, h1, h2⟩ := getE h
  rw [Nat.zero_add] at h2
  exact ⟨e, h1, h2⟩
theorem lenE : ((List.range ds.length).zipWith (fun (i : Nat) y => PyData.tuple [.int ((i : Nat) : Int), y]) ds).length = ds.length := by simp
theorem sv_enuL (s : SqL K Hf a xs) (r : RpA K Hf xs ds) : Serves K (Ite K a) none Hf ((List.range ds.length).zipWith (fun (i : Nat) y => .tuple [.int ((i : Nat) : Int), y]) ds) := by
  refine ⟨fun i d H Hf1 e1 e2 _ hd => ?_, fun H Hf1 e1 e2 _ => ⟨xs, Same.sql e2 (Same.sql e1 s), by rw [lenE, r.length]; exact Nat.le_refl _⟩⟩
  obtain ⟨e, he, rfl⟩ := getE0 hd
  obtain ⟨v, hv, rv⟩ := r.get he
  have q : SqL K H a xs := Same.sql e2 (Same.sql e1 s)
  refine ⟨⟨xs, v, q, hv⟩, fun x H' y => ?_⟩
  obtain ⟨T, z, rfl, hT, rfl, y⟩ := y
  have w := y xs q
  rw [hv] at w
  cases w
  exact PostV.newT e2 hT (.cons (.int _) (.cons (rv.mono e1) .nil))
theorem sv_enuT (s : SqT K Hf a xs) (r : RpA K Hf xs ds) : Serves K (IteT K a) none Hf ((List.range ds.length).zipWith (fun (i : Nat) y => .tuple [.int ((i : Nat) : Int), y]) ds) := by
  refine ⟨fun i d H Hf1 e1 e2 _ hd => ?_, fun H Hf1 e1 e2 _ => ⟨xs, Same.sqt e2 (Same.sqt e1 s), by rw [lenE, r.length]; exact Nat.le_refl _⟩⟩
  obtain ⟨e, he, rfl⟩ := getE0 hd
  obtain ⟨v, hv, rv⟩ := r.get he
  have q : SqT K H a xs := Same.sqt e2 (Same.sqt e1 s)
  refine ⟨⟨xs, v, q, hv⟩, fun x H' y => ?_⟩
  obtain ⟨T, z, rfl, hT, rfl, y⟩ := y
  have w := y xs q
  rw [hv] at w
  cases w
  exact PostV.newT e2 hT (.cons (.int _) (.cons (rv.mono e1) .nil))
theorem getZ {i : Nat} {d : PD} (h : (ds.zipWith (fun a b => PyData.tuple [a, b]) es)[i]? = some d) : ∃ x y, ds[i]? = some x ∧ es[i]? = some y ∧ d = .tuple [x, y] := by
  rw [List.getElem?_zipWith] at h
  cases e1 : ds[i]? with
  | none => simp [e1] at h
  | some x =>
    cases e2 : es[i]? with
    | none => simp [e1, e2] at h
    | some y =>
      simp [e1, e2] at h
      exact ⟨x, y, rfl, rfl, h.symm⟩
theorem lenZ (h1 : xs.length = ds.length) (h2 : ys.length = es.length) : xs.length ≤ (ds.zipWith (fun a b => PyData.tuple [a, b]) es).length ∨ ys.length ≤ (ds.zipWith (fun a b => PyData.tuple [a, b]) es).length := by
  rw [List.length_zipWith]
  omega
theorem sv_zipL (s : SqL K Hf a xs) (r : RpA K Hf xs ds) (s2 : SqL K Hf b ys) (r2 : RpA K Hf ys es) : Serves K (Itz K a b) none Hf (ds.zipWith (fun a b => .tuple [a, b]) es) := by
  refine ⟨fun i d H Hf1 e1 e2 _ hd => ?_, fun H Hf1 e1 e2 _ => ⟨xs, ys, Same.sql e2 (Same.sql e1 s), Same.sql e2 (Same.sql e1 s2), lenZ r.length r2.length⟩⟩
  obtain ⟨x, y, hx, hy, rfl⟩ := getZ hd
  obtain ⟨v, hv, rv⟩ := r.get hx
  obtain ⟨w, hw, rw'⟩ := r2.get hy
  have q1 : SqL K H a xs := Same.sql e2 (Same.sql e1 s)
  have q2 : SqL K H b ys := Same.sql e2 (Same.sql e1 s2)
  refine ⟨⟨xs, ys, v, w, q1, q2, hv, hw⟩, fun z H' p => ?_⟩
  obtain ⟨T, x', y', rfl, hT, rfl, p1, p2⟩ := p
  have z1 := p1 xs q1
  have z2 := p2 ys q2
  rw [hv] at z1
  rw [hw] at z2
  cases z1
  cases z2
  exact PostV.newT e2 hT (.cons (rv.mono e1) (.cons (rw'.mono e1) .nil))
theorem sv_zipT (s : SqT K Hf a xs) (r : RpA K Hf xs ds) (s2 : SqT K Hf b ys) (r2 : RpA K Hf ys es) : Serves K (RZ.ItzT K a b) none Hf (ds.zipWith (fun a b => .tuple [a, b]) es) := by
  refine ⟨fun i d H Hf1 e1 e2 _ hd => ?_, fun H Hf1 e1 e2 _ => ⟨xs, ys, Same.sqt e2 (Same.sqt e1 s), Same.sqt e2 (Same.sqt e1 s2), lenZ r.length r2.length⟩⟩
  obtain ⟨x, y, hx, hy, rfl⟩ := getZ hd
  obtain ⟨v, hv, rv⟩ := r.get hx
  obtain ⟨w, hw, rw'⟩ := r2.get hy
  have q1 : SqT K H a xs := Same.sqt e2 (Same.sqt e1 s)
  have q2 : SqT K H b ys := Same.sqt e2 (Same.sqt e1 s2)
  refine ⟨⟨xs, ys, v, w, q1, q2, hv, hw⟩, fun z H' p => ?_⟩
  obtain ⟨T, x', y', rfl, hT, rfl, p1, p2⟩ := p
  have z1 := p1 xs q1
  have z2 := p2 ys q2
  rw [hv] at z1
  rw [hw] at z2
  cases z1
  cases z2
  exact PostV.newT e2 hT (.cons (rv.mono e1) (.cons (rw'.mono e1) .nil))
end

/-! ### rules for a sequence of either kind -/
def iSeq (K : PySem.W.Frag) (tl : TE) : TI := fun σ H R => tl σ H fun x H1 => ∃ a xs, x = .ref a ∧ ((SqL K H1 a xs ∧ R (Itl K a) H1) ∨ (SqT K H1 a xs ∧ R (Itt K a) H1))
theorem pi_seq {X : Cx} {tg l : Expr} {tl : TE} (hl : PE X l tl) : PI X tg l (iSeq X.K tl) := by
  refine ⟨fun pins s σ H R I h => thn (hl.run pins s σ H _ I h) fun v s1 ⟨x, H1, I1, r1, a, xs, ex, q⟩ => ?_⟩
  subst ex
  cases r1
  have fp : ∀ b ∈ [s1.heap.objs.size], FpOk X pins H1 b := fun b hb => by
    cases List.mem_singleton.mp hb
    exact I1.fpOk (Nat.le_refl _) (I1.hok.fresh (Nat.le_refl _))
  rcases q with ⟨hs, q⟩ | ⟨hs, q⟩
  · obtain ⟨its, _, pl, _⟩ := I1.list hs
    refine wpAny_pyIter_list pl.isList ⟨s1.heap.objs.size, _, _, Itl X.K a, H1, rfl, ?_, turn_list a _, ⟨_, Heap.get?_push_size _ rfl, rfl, rfl⟩, fp, q⟩
    exact I1.kept (t' := s1.toks) fun b o eo => Heap.get?_push_of_some _ eo
  · obtain ⟨its, _, pt, _⟩ := I1.tuple hs
    have pt' : s1.heap.IsTuple a its.toArray := pt
    refine wpAny_pyIter_tuple pt' ⟨s1.heap.objs.size, _, _, Itt X.K a, H1, rfl, ?_, turn_tuple a _, ⟨_, Heap.get?_push_size _ rfl, rfl, rfl⟩, fp, q⟩
    exact I1.kept (t' := s1.toks) fun b o eo => Heap.get?_push_of_some _ eo
def iEnu (K : PySem.W.Frag) (ta : TA) : TI := fun σ H R => ta σ H fun vs H1 => ∃ a xs, vs = [.ref a] ∧ ((SqL K H1 a xs ∧ R (Ite K a) H1) ∨ (SqT K H1 a xs ∧ R (IteT K a) H1))
theorem pi_enu {X : Cx} {e : Expr} {ta : TA} {p pos tpos : Pos} {elts : List Expr} {kk : Nat} (hg : Gl X "enumerate") (hm : X.mg "enumerate" = none) (ha : PA X [e] ta) (hs : starEach [e] X.env = [(false, eval e X.env)]) :
    PI X (.Tuple elts kk tpos) (.Call (.Name "enumerate" p) [e] [] pos) (iEnu X.K ta) := by
  refine ⟨fun pins s σ H R I h => Call_ (ld_blt I hg hm boot_enumerate (PyProof.Rows.callWith_type1 (thn (ha.run pos pins s σ H _ I h) fun us s1 ⟨vs, H1, I1, r1, a, xs, ex, q⟩ => ?_) hs rfl))⟩
  subst ex
  cases r1 with
  | cons r rr =>
    cases rr
    cases r
    have fp : ∀ b ∈ [s1.heap.objs.size + 1, s1.heap.objs.size], FpOk X pins H1 b := fun b hb => by
      have hle : s1.heap.objs.size ≤ b := by
        rcases List.mem_cons.mp hb with z | z
        · omega
        · have := List.mem_singleton.mp z
          omega
      exact I1.fpOk hle (I1.hok.fresh hle)
    rcases q with ⟨hq, q⟩ | ⟨hq, q⟩
    · obtain ⟨its, _, pl, _⟩ := I1.list hq
      refine call_enumerate_list pl.isList fun h' he hit hsz hk => wpAny_pyIter_enum he ⟨s1.heap.objs.size + 1, _, _, Ite X.K a, H1, rfl, ?_, turn_enum a _ s1.heap.objs.size, ⟨⟨.none, he⟩, hit, Nat.succ_ne_self _⟩, fp, q⟩
      exact I1.kept (t' := s1.toks) hk
    · obtain ⟨its, _, pt, _⟩ := I1.tuple hq
      have pt' : s1.heap.IsTuple a its.toArray := pt
      have hlt : a < s1.heap.objs.size := by
        obtain ⟨o, ho, _⟩ := id pt'
        exact Heap.lt_size ho
      refine dd_call_enumT pt' fun h' he hit hk => wpAny_pyIter_enum he ⟨s1.heap.objs.size + 1, _, _, IteT X.K a, H1, rfl, ?_, turn_enumT a _ s1.heap.objs.size, ⟨⟨.none, he⟩, hit, Nat.succ_ne_self _, Nat.ne_of_lt hlt⟩, fp, q⟩
      exact I1.kept (t' := s1.toks) hk

/-! ### ranges -/
theorem cdiv_eq {d c : Int} (hd : 0 < d) (hc : 0 < c) : (d - 1) / c + 1 = (d + c - 1) / c := by
  have : d + c - 1 = (d - 1) + 1 * c := by omega
  rw [this, Int.add_mul_ediv_right _ _ (by omega)]

variable {S : Setg}
theorem bindAA_ok {r0 : Option AO} {k : List PD → Env → Option AO} {r : AO} (h : AO.binA r0 k = some r) : (∃ x, r0 = some (.ex x) ∧ r = .ex x) ∨ ∃ d ρ1, r0 = some (.ok d ρ1) ∧ k d ρ1 = some r := by
  cases r0 with
  | none => cases h
  | some r0 =>
    cases r0 with
    | ex x =>
      cases h
      exact .inl ⟨x, rfl, rfl⟩
    | ok d ρ1 => exact .inr ⟨d, ρ1, rfl, h⟩
theorem bindEA_ok {r0 : Option EO} {k : PD → Env → Option AO} {r : AO} (h : EO.binA r0 k = some r) : (∃ x, r0 = some (.ex x) ∧ r = .ex x) ∨ ∃ d fr ρ1, r0 = some (.ok d fr ρ1) ∧ k d ρ1 = some r := by
  cases r0 with
  | none => cases h
  | some r0 =>
    cases r0 with
    | ex x =>
      cases h
      exact .inl ⟨x, rfl, rfl⟩
    | ok d fr ρ1 => exact .inr ⟨d, fr, ρ1, rfl, h⟩
def OutI (K : PySem.W.Frag) (mg : Str → Option Value) (Ex : XK) (H0 : Hp) (B : Bor) (σ : L2.St) (ρ : Env) (it : It) (H Hf : Hp) (wi : TI) : AO → Prop
  | .ok ds ρ' => ∀ R : L2.It → Hp → Prop, (∀ J H' Hf' g, Step K H0 B σ (mutsI it) ρ H Hf ρ' H' Hf' → Serves K J g Hf' ds →
      (∀ a xs, g = some (a, xs) → H' a = some (.lst xs) ∧ ∃ v c, it = .hid v ∧ getC ρ' v = some c ∧ c.isMut = true ∧ σ[v]? = some (some (V.ref a))) → R J H') → wi σ H R
  | .ex x => ∀ R : L2.It → Hp → Prop, ExW mg H0 B Ex x → wi σ H R
theorem GoodI.of {K : PySem.W.Frag} {mg : Str → Option Value} {cs : List FSem} {Ex : XK} {it : It} {wi : TI} (h : ∀ H0 B σ H Hf ρ, BOk B → Rel K H0 B σ H Hf ρ → ∀ r, evalI cs it ρ = some r → OutI K mg Ex H0 B σ ρ it H Hf wi r) : GoodI K mg cs Ex it wi := by
  intro H0 B σ H Hf ρ hB R
  have := h H0 B σ H Hf ρ hB R
  cases e1 : evalI cs it ρ with
  | none => trivial
  | some r => cases r <;> exact this _ e1
theorem snd_seq {e : E} (he : SndE S e) : SndI S (.seq e) := by
  intro sc Ex F hF ex tg h
  obtain ⟨t, p, g⟩ := he sc Ex F hF ex h
  refine ⟨iSeq S.K t, fun X hX => ?_, ?_⟩
  · have := pi_seq (tg := tg) (p X hX)
    rw [(hF X hX).hK] at this
    exact this
  · refine GoodI.of fun H0 B σ H Hf ρ hB R r hr => ?_
    unfold evalI at hr
    rcases bindEA_ok hr with ⟨x, e1, rfl⟩ | ⟨d, f1, ρ1, e1, hr⟩
    · exact fun Q q => g.exc hB R e1 q
    · cases d with
      | list ds =>
        cases hr
        refine fun Q q => g.run hB R e1 fun v H1 Hf1 S1 rp => ?_
        obtain ⟨a, xs, rfl, s, rr⟩ := rp.lst_inv
        exact ⟨a, xs, rfl, .inl ⟨Same.sql S1.rel.ext s, q _ H1 Hf1 none S1 (sv_list s rr) fun _ _ z => nomatch z⟩⟩
      | tuple ds =>
        cases hr
        refine fun Q q => g.run hB R e1 fun v H1 Hf1 S1 rp => ?_
        obtain ⟨a, xs, rfl, s, rr⟩ := rp.tup_inv
        exact ⟨a, xs, rfl, .inr ⟨Same.sqt S1.rel.ext s, q _ H1 Hf1 none S1 (sv_tup s rr) fun _ _ z => nomatch z⟩⟩
      | _ => cases hr
theorem snd_hid (n : Nat) : SndI S (.hid n) := by
  intro sc Ex F hF ex tg h
  cases ex with
  | Name x px =>
    refine ⟨iSeq S.K (tVar n), fun X hX => ?_, ?_⟩
    · have := pi_seq (tg := tg) ((hF X hX).slot (i := n) (x := x) (pos := px) h)
      rw [(hF X hX).hK] at this
      exact this
    · refine GoodI.of fun H0 B σ H Hf ρ hB R r hr => ?_
      unfold evalI at hr
      cases hc : getC ρ n with
      | none => simp [hc] at hr
      | some c =>
        simp only [hc] at hr
        obtain ⟨w, hw, ok⟩ := R.get n c hc
        cases c with
        | sh d =>
          cases d with
          | list ds =>
            cases hr
            refine fun Q q => ⟨w, hw, ?_⟩
            obtain ⟨a, xs, rfl, s, rr⟩ := Rp.lst_inv ok
            exact ⟨a, xs, rfl, .inl ⟨Same.sql R.ext s, q _ H Hf none (Step.refl R) (sv_list s rr) fun _ _ z => nomatch z⟩⟩
          | _ => simp [Cell.dat] at hr
        | ow d =>
          cases d with
          | list ds =>
            cases hr
            refine fun Q q => ⟨w, hw, ?_⟩
            cases ok.1 with
            | lst hH hn rr =>
              rename_i a xs
              exact ⟨a, xs, rfl, .inl ⟨SqL.of hH, q _ H Hf (some (a, xs)) (Step.refl R) (sv_hid rr) fun a' xs' z => by
                cases z
                exact ⟨hH, n, _, rfl, hc, rfl, hw⟩⟩⟩
          | _ => simp [Cell.dat] at hr
        | bo d =>
          cases d with
          | list ds =>
            cases hr
            refine fun Q q => ⟨w, hw, ?_⟩
            cases ok.1 with
            | lst hH hn rr =>
              rename_i a xs
              exact ⟨a, xs, rfl, .inl ⟨SqL.of hH, q _ H Hf (some (a, xs)) (Step.refl R) (sv_hid rr) fun a' xs' z => by
                cases z
                exact ⟨hH, n, _, rfl, hc, rfl, hw⟩⟩⟩
          | _ => simp [Cell.dat] at hr
  | _ => exact no h
theorem snd_enu {e : E} (he : SndE S e) : SndI S (.enu e) := by
  intro sc Ex F hF ex tg h
  cases ex with
  | Call g es kw p =>
    cases g with
    | Name x px =>
      obtain ⟨a, us, k, tp, rfl, rfl, rfl⟩ : ∃ a us k tp, es = [a] ∧ kw = [] ∧ tg = .Tuple us k tp := by
        cases es with
        | nil => exact no h
        | cons a es =>
          cases es with
          | cons _ _ => cases kw <;> exact no h
          | nil =>
            cases kw with
            | cons _ _ => exact no h
            | nil =>
              cases tg with
              | Tuple us k tp => exact ⟨_, _, _, _, rfl, rfl, rfl⟩
              | _ => exact no h
      · have h' : (decide (x = ("enumerate" : Str)) && glB sc x && nostar a && isE S.tb sc e a) = true := h
        simp only [Bool.and_eq_true, decide_eq_true_eq] at h'
        obtain ⟨⟨⟨rfl, h2⟩, h3⟩, h4⟩ := h'
        obtain ⟨t, pp, g⟩ := he sc Ex F hF a h4
        refine ⟨iEnu S.K (tCons t tNil), fun X hX => ?_, ?_⟩
        · have C := hF X hX
          have := pi_enu (p := px) (pos := p) (tpos := tp) (elts := us) (kk := k) (C.gl h2) (C.nob (by decide)) (pa_cons (pp X hX) pa_nil (star_ok h3 _ _)) (star_ok h3 _ _)
          rw [C.hK] at this
          exact this
        · refine GoodI.of fun H0 B σ H Hf ρ hB R r hr => ?_
          unfold evalI at hr
          rcases bindEA_ok hr with ⟨x, e1, rfl⟩ | ⟨d, f1, ρ1, e1, hr⟩
          · exact fun Q q => g.exc hB R e1 q
          · cases d with
            | list ds =>
              cases hr
              refine fun Q q => g.run hB R e1 fun v H1 Hf1 S1 rp => ?_
              obtain ⟨a, xs, rfl, s, rr⟩ := rp.lst_inv
              exact ⟨a, xs, rfl, .inl ⟨Same.sql S1.rel.ext s, q _ H1 Hf1 none S1 (sv_enuL s rr) fun _ _ z => nomatch z⟩⟩
            | tuple ds =>
              cases hr
              refine fun Q q => g.run hB R e1 fun v H1 Hf1 S1 rp => ?_
              obtain ⟨a, xs, rfl, s, rr⟩ := rp.tup_inv
              exact ⟨a, xs, rfl, .inr ⟨Same.sqt S1.rel.ext s, q _ H1 Hf1 none S1 (sv_enuT s rr) fun _ _ z => nomatch z⟩⟩
            | _ => cases hr
    | _ => exact no h
  | _ => exact no h
theorem snd_zip {a b : E} (ha : SndE S a) (hb : SndE S b) : SndI S (.zip a b) := by
  intro sc Ex F hF ex tg h
  cases ex with
  | Call g es kw p =>
    cases g with
    | Name x px =>
      obtain ⟨u, w, us, k, tp, rfl, rfl, rfl⟩ : ∃ u w us k tp, es = [u, w] ∧ kw = [] ∧ tg = .Tuple us k tp := by
        cases es with
        | nil => exact no h
        | cons a es =>
          cases es with
          | nil => cases kw <;> exact no h
          | cons b es =>
            cases es with
            | cons _ _ => cases kw <;> exact no h
            | nil =>
              cases kw with
              | cons _ _ => exact no h
              | nil =>
                cases tg with
                | Tuple us k tp => exact ⟨_, _, _, _, _, rfl, rfl, rfl⟩
                | _ => exact no h
      · have h' : (decide (x = ("zip" : Str)) && glB sc x && nostar u && nostar w && isE S.tb sc a u && isE S.tb sc b w) = true := h
        simp only [Bool.and_eq_true, decide_eq_true_eq] at h'
        obtain ⟨⟨⟨⟨⟨rfl, h2⟩, h3⟩, h4⟩, h5⟩, h6⟩ := h'
        obtain ⟨ta, pa, ga⟩ := ha sc Ex F hF u h5
        obtain ⟨tb, pb, gb⟩ := hb sc Ex F hF w h6
        refine ⟨RZ.iZipA S.K (tCons ta (tCons tb tNil)), fun X hX => ?_, ?_⟩
        · have C := hF X hX
          have := RZ.pi_zipA (p := px) (pos := p) (tpos := tp) (elts := us) (kk := k) (C.gl h2) (C.nob (by decide)) (pa_cons (pa X hX) (pa_cons (pb X hX) pa_nil (star_ok h4 _ _)) (star_ok h3 _ _)) (star_ok h3 _ _) (by
            rw [star_ok h4]
            rfl)
          rw [C.hK] at this
          exact this
        · refine GoodI.of fun H0 B σ H Hf ρ hB R r hr => ?_
          unfold evalI at hr
          rcases bindEA_ok hr with ⟨x, e1, rfl⟩ | ⟨d, f1, ρ1, e1, hr⟩
          · exact fun Q q => ga.exc hB R e1 q
          · rcases bindEA_ok hr with ⟨x, e2, rfl⟩ | ⟨d2, f2, ρ2, e2, hr⟩
            · exact fun Q q => ga.run hB R e1 fun v H1 Hf1 S1 rp => gb.exc hB S1.rel e2 q
            · cases d with
              | list ds =>
                cases d2 with
                | list es =>
                  cases hr
                  refine fun Q q => ga.run hB R e1 fun v H1 Hf1 S1 rp => gb.run hB S1.rel e2 fun v2 H2 Hf2 S2 rp2 => ?_
                  obtain ⟨a, xs, rfl, s, rr⟩ := (rp.mono S2.ext).lst_inv
                  obtain ⟨b, ys, rfl, s2, rr2⟩ := rp2.lst_inv
                  exact ⟨a, b, xs, ys, rfl, .inl ⟨Same.sql S2.rel.ext s, Same.sql S2.rel.ext s2, q _ H2 Hf2 none (S1.trans S2 sub_l sub_r) (sv_zipL s rr s2 rr2) fun _ _ z => nomatch z⟩⟩
                | _ => cases hr
              | tuple ds =>
                cases d2 with
                | tuple es =>
                  cases hr
                  refine fun Q q => ga.run hB R e1 fun v H1 Hf1 S1 rp => gb.run hB S1.rel e2 fun v2 H2 Hf2 S2 rp2 => ?_
                  obtain ⟨a, xs, rfl, s, rr⟩ := (rp.mono S2.ext).tup_inv
                  obtain ⟨b, ys, rfl, s2, rr2⟩ := rp2.tup_inv
                  exact ⟨a, b, xs, ys, rfl, .inr ⟨Same.sqt S2.rel.ext s, Same.sqt S2.rel.ext s2, q _ H2 Hf2 none (S1.trans S2 sub_l sub_r) (sv_zipT s rr s2 rr2) fun _ _ z => nomatch z⟩⟩
                | _ => cases hr
              | _ => cases hr
    | _ => exact no h
  | _ => exact no h
theorem snd_rng {as : Es} (ha : SndA S as) : SndI S (.rng as) := by
  intro sc Ex F hF ex tg h
  cases ex with
  | Call g es kw p =>
    cases g with
    | Name x px =>
      match es, kw, h with
      | e :: es, [], h =>
        have h' : (decide (x = ("range" : Str)) && glB sc x && decide (lenEs as ≤ 2) && isEs S.tb sc as (e :: es)) = true := h
        simp only [Bool.and_eq_true, decide_eq_true_eq] at h'
        obtain ⟨⟨⟨rfl, h2⟩, h3⟩, h4⟩ := h'
        obtain ⟨t, pp, g⟩ := ha sc Ex F hF _ h4
        obtain ⟨hst, hln⟩ := isEs_star h4
        rw [List.all_cons, Bool.and_eq_true] at hst
        have lim : ∀ {z : Int}, -(LIM : Int) ≤ z ∧ z ≤ LIM → -(2 ^ 62) ≤ z ∧ z < 2 ^ 62 := fun {z} hz => by
          unfold LIM at hz
          omega
        cases es with
        | nil =>
          refine ⟨iRng1 t, fun X hX => ?_, ?_⟩
          · have C := hF X hX
            exact pi_range1 (C.gl h2) (C.nob (by decide)) (pp X hX) (star_ok hst.1 _ _)
          · refine GoodI.of fun H0 B σ H Hf ρ hB R r hr => ?_
            unfold evalI at hr
            rcases bindAA_ok hr with ⟨x, e1, rfl⟩ | ⟨ds, ρ1, e1, hr⟩
            · exact fun Q q => g.exc hB R e1 q
            · have hl := evalEs_len e1
              rw [← hln] at hl
              match ds, hl, hr with
              | [d], hl, hr =>
                cases d with
                | int n =>
                  unfold rngL at hr
                  by_cases hn : -(LIM : Int) ≤ n ∧ n ≤ LIM
                  · simp only [hn, and_self, if_true] at hr
                    cases hr
                    refine fun Q q => g.run hB R e1 fun vs H1 Hf1 S1 rp => ?_
                    cases rp with
                    | cons r1 rr =>
                      cases rr
                      cases r1
                      exact ⟨n, rfl, (lim hn).1, (lim hn).2, q _ H1 Hf1 none S1 (sv_rng 0 n.toNat) fun _ _ z => nomatch z⟩
                  · simp only [hn, if_false] at hr
                    cases hr
                | _ => cases hr
        | cons e2 es =>
          cases es with
          | nil =>
            rw [List.all_cons, Bool.and_eq_true] at hst
            refine ⟨iRng2 t, fun X hX => ?_, ?_⟩
            · have C := hF X hX
              exact pi_range2 (C.gl h2) (C.nob (by decide)) (pp X hX) (by rw [star_ok hst.1, star_ok hst.2.1]; rfl) (star_ok hst.2.1 _ _)
            · refine GoodI.of fun H0 B σ H Hf ρ hB R r hr => ?_
              unfold evalI at hr
              rcases bindAA_ok hr with ⟨x, e1, rfl⟩ | ⟨ds, ρ1, e1, hr⟩
              · exact fun Q q => g.exc hB R e1 q
              · have hl := evalEs_len e1
                rw [← hln] at hl
                match ds, hl, hr with
                | [d, d2], hl, hr =>
                  cases d with
                  | int n =>
                    cases d2 with
                    | int m =>
                      unfold rngL at hr
                      by_cases hn : (-(LIM : Int) ≤ n ∧ n ≤ LIM) ∧ (-(LIM : Int) ≤ m ∧ m ≤ LIM)
                      · simp only [hn, and_self, if_true] at hr
                        cases hr
                        refine fun Q q => g.run hB R e1 fun vs H1 Hf1 S1 rp => ?_
                        cases rp with
                        | cons r1 rr =>
                          cases rr with
                          | cons r2 rr =>
                            cases rr
                            cases r1
                            cases r2
                            exact ⟨n, m, rfl, ⟨(lim hn.1).1, (lim hn.1).2, (lim hn.2).1, (lim hn.2).2⟩, q _ H1 Hf1 none S1 (sv_rng n (m - n).toNat) fun _ _ z => nomatch z⟩
                      · simp only [hn, if_false] at hr
                        cases hr
                    | _ => cases hr
                  | _ => cases hr
          | cons e3 es =>
            cases es with
            | nil =>
              simp at hln
              omega
            | cons _ _ =>
              simp at hln
              omega
      | [], _, h => exact no h
      | _ :: _, _ :: _, h => exact no h
    | _ => exact no h
  | _ => exact no h
end DD

-- part DSnd9
set_option Elab.async false
set_option linter.all false
set_option maxRecDepth 100000
set_option maxHeartbeats 2000000
/-! Soundness: tests. -/
namespace DD
open PySem PySem.Spec PyProof.Rows L2
variable {S : Setg}
theorem SndX.e {e : E} (h : SndX S e) : SndE S e := fun sc Ex F hF ex hx => by
  obtain ⟨t, p, g⟩ := h sc Ex F hF ex hx
  exact ⟨t, fun X hX => (p X hX).1, g⟩
theorem GoodT.ofE {K : PySem.W.Frag} {mg : Str → Option Value} {cs : List FSem} {Ex : XK} {e : E} {t : TE} (g : GoodE K mg cs Ex e t) : GoodT K mg cs Ex e (tTest t) := by
  intro H0 B σ H Hf ρ hB R
  cases e1 : evalE cs e ρ with
  | none => trivial
  | some r =>
    cases r with
    | ex x => exact fun Q q => g.exc hB R e1 q
    | ok d fr ρ1 =>
      cases d with
      | bool b => exact fun Q q => g.run hB R e1 fun v H1 Hf1 S1 rp => ⟨b, rp.bl_inv, q H1 Hf1 S1⟩
      | _ => trivial
def isBO : Expr → Bool
  | .BoolOp _ _ _ => true
  | _ => false
/-- a test, as it stands alone and within and, or -/
def SndW (S : Setg) (e : E) : Prop := ∀ (sc : Scope) (Ex : XK) (F : Fam), (∀ X, F X → S.ctx sc Ex X) → ∀ ex, isE S.tb sc e ex = true → plainT ex = true ∨ (∃ t : TT, (∀ X, F X → PT X ex t ∧ (isBO ex = true → PW X ex t)) ∧ GoodT S.K S.mg S.cs Ex e t)
theorem SndW.t {e : E} (h : SndW S e) (he : SndE S e) : SndT S e := fun sc Ex F hF ex hx => by
  rcases h sc Ex F hF ex hx with pl | ⟨t, p, g⟩
  · obtain ⟨t, p, g⟩ := he sc Ex F hF ex hx
    exact ⟨tTest t, fun X hX => pt_val (p X hX) (plainT_ok pl _), GoodT.ofE g⟩
  · exact ⟨t, fun X hX => (p X hX).1, g⟩
/-- alone: any test -/
theorem SndW.any {e : E} (h : SndW S e) (he : SndE S e) {sc : Scope} {Ex : XK} {F : Fam} (hF : ∀ X, F X → S.ctx sc Ex X) {ex : Expr} (hx : isE S.tb sc e ex = true) : ∃ t : TT, (∀ X, F X → PT X ex t ∧ (isBO ex = true → PW X ex t)) ∧ GoodT S.K S.mg S.cs Ex e t := by
  rcases h sc Ex F hF ex hx with pl | r
  · obtain ⟨t, p, g⟩ := he sc Ex F hF ex hx
    refine ⟨tTest t, fun X hX => ⟨pt_val (p X hX) (plainT_ok pl _), fun z => ?_⟩, GoodT.ofE g⟩
    cases ex <;> first | exact no z | exact no pl
  · exact r
theorem SndX.w {e : E} (h : SndX S e) (hb : ∀ tb sc ex, isE tb sc e ex = true → isBO ex = false) : SndW S e := fun sc Ex F hF ex hx => by
  obtain ⟨t, p, g⟩ := h sc Ex F hF ex hx
  exact .inr ⟨tTest t, fun X hX => ⟨(p X hX).2, fun z => by rw [hb _ _ _ hx] at z; cases z⟩, GoodT.ofE g⟩
theorem wCmp (op : CmpOp) {a b : E} (h : SndX S (.cmp op a b)) : SndW S (.cmp op a b) := h.w fun tb sc ex hx => by
  cases ex <;> first | rfl | exact no hx
theorem wChain (op op2 : CmpOp) {a b c : E} (h : SndX S (.chain op op2 a b c)) : SndW S (.chain op op2 a b c) := h.w fun tb sc ex hx => by
  cases ex <;> first | rfl | exact no hx
theorem wNot {a : E} (ha : SndW S a) (he : SndE S a) : SndW S (.not a) := fun sc Ex F hF ex h => by
  cases ex with
  | UnaryOp o r p =>
    cases o with
    | Not =>
      obtain ⟨t, pt, g⟩ := ha.any he hF (ex := r) h
      refine .inr ⟨tNot t, fun X hX => ⟨pt_not (pt X hX).1, fun z => no z⟩, ?_⟩
      intro H0 B σ H Hf ρ hB R
      unfold evalE
      cases e1 : evalE S.cs a ρ with
      | none => trivial
      | some r1 =>
        cases r1 with
        | ex x => exact fun Q q => g.exc hB R e1 q
        | ok d fr ρ1 =>
          simp only [EO.bind]
          cases d with
          | bool b => exact fun Q q => g.run hB R e1 fun H1 Hf1 S1 => q H1 Hf1 S1
          | _ => trivial
    | _ => exact no h
  | _ => exact no h
theorem gtAnd {K : PySem.W.Frag} {mg : Str → Option Value} {cs : List FSem} {Ex : XK} {a b : E} {ta tb : TT} (ga : GoodT K mg cs Ex a ta) (gb : GoodT K mg cs Ex b tb) : GoodT K mg cs Ex (.and a b) (tAnd ta tb) := by
  intro H0 B σ H Hf ρ hB R
  unfold evalE
  cases e1 : evalE cs a ρ with
  | none => trivial
  | some r1 =>
    cases r1 with
    | ex x => exact fun Q q => ga.exc hB R e1 q
    | ok d fr ρ1 =>
      simp only [EO.bind]
      cases d with
      | bool k =>
        cases k with
        | false => exact fun Q q => ga.run hB R e1 fun H1 Hf1 S1 => iteF (q H1 Hf1 (S1.more sub_l))
        | true =>
          simp only [boolE, if_true]
          cases e2 : evalE cs b ρ1 with
          | none => trivial
          | some r2 =>
            cases r2 with
            | ex x => exact fun Q q => ga.run hB R e1 fun H1 Hf1 S1 => iteT (gb.exc hB S1.rel e2 q)
            | ok d2 fr2 ρ2 =>
              simp only
              cases d2 with
              | bool j => exact fun Q q => ga.run hB R e1 fun H1 Hf1 S1 => iteT (gb.run hB S1.rel e2 fun H2 Hf2 S2 => q H2 Hf2 (S1.trans S2 sub_l sub_r))
              | _ => trivial
      | _ => trivial
theorem gtOr {K : PySem.W.Frag} {mg : Str → Option Value} {cs : List FSem} {Ex : XK} {a b : E} {ta tb : TT} (ga : GoodT K mg cs Ex a ta) (gb : GoodT K mg cs Ex b tb) : GoodT K mg cs Ex (.or a b) (tOr ta tb) := by
  intro H0 B σ H Hf ρ hB R
  unfold evalE
  cases e1 : evalE cs a ρ with
  | none => trivial
  | some r1 =>
    cases r1 with
    | ex x => exact fun Q q => ga.exc hB R e1 q
    | ok d fr ρ1 =>
      simp only [EO.bind]
      cases d with
      | bool k =>
        cases k with
        | true => exact fun Q q => ga.run hB R e1 fun H1 Hf1 S1 => iteT (q H1 Hf1 (S1.more sub_l))
        | false =>
          simp only [boolE, Bool.false_eq_true, if_false]
          cases e2 : evalE cs b ρ1 with
          | none => trivial
          | some r2 =>
            cases r2 with
            | ex x => exact fun Q q => ga.run hB R e1 fun H1 Hf1 S1 => iteF (gb.exc hB S1.rel e2 q)
            | ok d2 fr2 ρ2 =>
              simp only
              cases d2 with
              | bool j => exact fun Q q => ga.run hB R e1 fun H1 Hf1 S1 => iteF (gb.run hB S1.rel e2 fun H2 Hf2 S2 => q H2 Hf2 (S1.trans S2 sub_l sub_r))
              | _ => trivial
      | _ => trivial
theorem wAnd {a b : E} (ha : SndW S a) (hae : SndE S a) (hb : SndW S b) (hbe : SndE S b) : SndW S (.and a b) := fun sc Ex F hF ex h => by
  cases ex with
  | BoolOp o vs p =>
    match o, vs, h with
    | .And, [x, y], h =>
      have h' : (isE S.tb sc a x && isE S.tb sc b y) = true := h
      rw [Bool.and_eq_true] at h'
      obtain ⟨ta, pa, ga⟩ := ha.any hae hF h'.1
      obtain ⟨tb, pb, gb⟩ := hb.any hbe hF h'.2
      refine .inr ⟨tAnd ta tb, fun X hX => ?_, gtAnd ga gb⟩
      have w : PW X (.BoolOp .And [x, y] p) (tAnd ta tb) := pw_and (pa X hX).1 (pw_and1 (pb X hX).1)
      exact ⟨w.pt, fun _ => w⟩
    | .And, x :: y :: z :: r, h =>
      have h' : (isE S.tb sc a x && isE S.tb sc b (.BoolOp .And (y :: z :: r) p)) = true := h
      rw [Bool.and_eq_true] at h'
      obtain ⟨ta, pa, ga⟩ := ha.any hae hF h'.1
      obtain ⟨tb, pb, gb⟩ := hb.any hbe hF h'.2
      refine .inr ⟨tAnd ta tb, fun X hX => ?_, gtAnd ga gb⟩
      have w : PW X (.BoolOp .And (x :: y :: z :: r) p) (tAnd ta tb) := pw_and (pa X hX).1 ((pb X hX).2 rfl)
      exact ⟨w.pt, fun _ => w⟩
    | .And, [], h => exact no h
    | .And, [_], h => exact no h
    | .Or, _, h => exact no h
  | _ => exact no h
theorem wOr {a b : E} (ha : SndW S a) (hae : SndE S a) (hb : SndW S b) (hbe : SndE S b) : SndW S (.or a b) := fun sc Ex F hF ex h => by
  cases ex with
  | BoolOp o vs p =>
    match o, vs, h with
    | .Or, [x, y], h =>
      have h' : (isE S.tb sc a x && isE S.tb sc b y) = true := h
      rw [Bool.and_eq_true] at h'
      obtain ⟨ta, pa, ga⟩ := ha.any hae hF h'.1
      obtain ⟨tb, pb, gb⟩ := hb.any hbe hF h'.2
      refine .inr ⟨tOr ta tb, fun X hX => ?_, gtOr ga gb⟩
      have w : PW X (.BoolOp .Or [x, y] p) (tOr ta tb) := pw_or (pa X hX).1 (pw_or1 (pb X hX).1)
      exact ⟨w.pt, fun _ => w⟩
    | .Or, x :: y :: z :: r, h =>
      have h' : (isE S.tb sc a x && isE S.tb sc b (.BoolOp .Or (y :: z :: r) p)) = true := h
      rw [Bool.and_eq_true] at h'
      obtain ⟨ta, pa, ga⟩ := ha.any hae hF h'.1
      obtain ⟨tb, pb, gb⟩ := hb.any hbe hF h'.2
      refine .inr ⟨tOr ta tb, fun X hX => ?_, gtOr ga gb⟩
      have w : PW X (.BoolOp .Or (x :: y :: z :: r) p) (tOr ta tb) := pw_or (pa X hX).1 ((pb X hX).2 rfl)
      exact ⟨w.pt, fun _ => w⟩
    | .Or, [], h => exact no h
    | .Or, [_], h => exact no h
    | .And, _, h => exact no h
  | _ => exact no h
theorem isE_sc (tb : Tb) (sc : Scope) (e : E) (ex : Expr) : isE tb sc (.sc e) ex = ((mutsE e).isEmpty && isE tb sc e ex) := by cases ex <;> rfl
theorem wSc {a : E} (ha : SndW S a) : SndW S (.sc a) := fun sc Ex F hF ex h => by
  rw [isE_sc, Bool.and_eq_true] at h
  have em : mutsE a = [] := List.isEmpty_iff.mp h.1
  rcases ha sc Ex F hF ex h.2 with pl | ⟨t, p, g⟩
  · exact .inl pl
  · refine .inr ⟨t, p, ?_⟩
    intro H0 B σ H Hf ρ hB R
    unfold evalE
    cases e1 : evalE S.cs a ρ with
    | none => trivial
    | some r1 =>
      cases r1 with
      | ex x => exact fun Q q => g.exc hB R e1 q
      | ok d fr ρ1 =>
        simp only
        by_cases hs : isScal d = true
        · rw [if_pos hs]
          cases d with
          | bool b =>
            refine fun Q q => g.run hB R e1 fun H1 Hf1 S1 => q H1 Hf ?_
            rw [em] at S1
            exact S1.pure R
          | _ => trivial
        · rw [if_neg hs]
          trivial
/-- of a plain kind -/
def plE : E → Bool
  | .sc _ => false
  | .cmp _ _ _ => false
  | .chain _ _ _ _ _ => false
  | .and _ _ => false
  | .or _ _ => false
  | .not _ => false
  | .ite _ _ _ => false
  | _ => true
theorem wPl {e : E} (h : plE e = true) : SndW S e := fun sc Ex F hF ex hx => .inl (by
  cases e <;> first
    | exact no h
    | (cases ex <;> first
      | rfl
      | exact no hx
      | (rename_i o _ _; cases o <;> first | rfl | exact no hx)
      | (rename_i o _ ; cases o <;> first | rfl | exact no hx)))
end DD

-- part DSndA
set_option Elab.async false
set_option linter.all false
set_option maxRecDepth 100000
set_option maxHeartbeats 2000000
/-! The environment stored to; targets. -/
namespace DD
open PySem PySem.Spec PyProof.Rows L2
section
variable {K : PySem.W.Frag} {mg : Str → Option Value} {cs : List FSem} {Ex : XK} {H0 : Hp} {B : Bor} {σ σ' : L2.St} {ms ms1 ms2 : List Nat} {ρ ρ' ρ1 ρ2 : Env} {H Hf H1 Hf1 H2 Hf2 : Hp} {d : PD} {fr : Bool} {v : V} {i : Nat} {c : Cell}
/-- fewer names are known -/
theorem Rel.sub (R : Rel K H0 B σ H Hf ρ) (hl : σ'.length = σ.length) (hl2 : ρ'.length = ρ.length) (h : ∀ j c, getC ρ' j = some c → getC ρ j = some c ∧ σ'[j]? = σ[j]?) (hb : ∀ j a, (j, a) ∈ B → σ'[j]? = σ[j]? ∧ getC ρ' j = getC ρ j) : Rel K H0 B σ' H Hf ρ' := by
  refine ⟨R.ext, by rw [hl, hl2, R.len], fun j c hc => ?_, fun j l c c' a hj hl mj ml ej el => ?_, R.ent, fun j a hj => ?_⟩
  · obtain ⟨h1, h2⟩ := h j c hc
    rw [h2]
    exact R.get j c h1
  · obtain ⟨h1, h2⟩ := h j c hj
    obtain ⟨h3, h4⟩ := h l c' hl
    rw [h2] at ej
    rw [h4] at el
    exact R.sep j l c c' a h1 h3 mj ml ej el
  · obtain ⟨h1, h2⟩ := hb j a hj
    rw [h1, h2]
    exact R.bor j a hj
theorem Rel.updD {D : Addr} {o : HO} (R : Rel K H0 B σ H Hf ρ) (hf : Hf D = none) (h0 : H0 D = none) (no : ∀ i c, getC ρ i = some c → c.isMut = true → σ[i]? ≠ some (some (.ref D))) : Rel K H0 B σ (upd H D o) Hf ρ := by
  have ne : ∀ {b : Addr} {u : HO}, Hf b = some u → b ≠ D := fun h e => by
    rw [e, hf] at h
    cases h
  refine ⟨fun b u h => by rw [upd_ne (ne h)]; exact R.ext b u h, R.len, fun j c hc => ?_, R.sep, fun b u h hb => ?_, R.bor⟩
  · obtain ⟨w, hw, ok⟩ := R.get j c hc
    refine ⟨w, hw, ?_⟩
    cases c with
    | sh x => exact ok
    | ow x => exact ⟨ok.1.keep (fun _ _ q => q) (fun b u eb q => by
        rw [upd_ne fun z => no j _ hc rfl (by rw [hw, eb, z])]
        exact q) fun b eb => by
          obtain ⟨b', eb', hb', _⟩ := R.own hc rfl
          rw [hw, eb] at eb'
          cases eb'
          exact hb', ok.2⟩
    | bo x => exact ⟨ok.1.keep (fun _ _ q => q) (fun b u eb q => by
        rw [upd_ne fun z => no j _ hc rfl (by rw [hw, eb, z])]
        exact q) fun b eb => by
          obtain ⟨b', eb', hb', _⟩ := R.own hc rfl
          rw [hw, eb] at eb'
          cases eb'
          exact hb', ok.2⟩
  · rw [upd_ne fun z => ?_]
    · exact R.ent b u h hb
    · rw [z, h0] at h
      cases h
theorem setC_some (h : setC ρ i c = some ρ') : ρ' = ρ.set i (some c) ∧ i < ρ.length ∧ ∀ x, getC ρ i ≠ some (.bo x) := by
  unfold setC at h
  unfold getC
  cases q : ρ[i]? with
  | none => simp [q] at h
  | some o =>
    have hl : i < ρ.length := by
      rw [List.getElem?_eq_some_iff] at q
      exact q.1
    cases o with
    | none =>
      simp only [q, Option.some.injEq] at h
      exact ⟨h.symm, hl, fun x => nofun⟩
    | some c0 =>
      cases c0 with
      | bo _ => simp [q] at h
      | sh x =>
        simp only [q, Option.some.injEq] at h
        exact ⟨h.symm, hl, fun x => nofun⟩
      | ow x =>
        simp only [q, Option.some.injEq] at h
        exact ⟨h.symm, hl, fun x => nofun⟩
/-- a name is stored -/
theorem Rel.put (R : Rel K H0 B σ H Hf ρ) (h : setC ρ i (mkC d fr) = some ρ') (r : if fr = true then Own K H Hf v d ∧ ∀ a, v = .ref a → H0 a = none ∧ ∀ j c, getC ρ j = some c → c.isMut = true → σ[j]? ≠ some (some (.ref a)) else Rp K Hf v d) : Rel K H0 B (σ.set i (some v)) H Hf ρ' := by
  obtain ⟨rfl, hl, nb⟩ := setC_some h
  have hls : i < σ.length := by
    rw [R.len]
    exact hl
  have gc : ∀ {l : Nat} {x : Cell}, getC (ρ.set i (some (mkC d fr))) l = some x → (l = i ∧ x = mkC d fr) ∨ (l ≠ i ∧ getC ρ l = some x) := fun {l x} hx => by
    by_cases e : i = l
    · subst e
      rw [getC_set_self hl] at hx
      cases hx
      exact .inl ⟨rfl, rfl⟩
    · rw [getC_set_ne e] at hx
      exact .inr ⟨fun z => e z.symm, hx⟩
  refine ⟨R.ext, by rw [List.length_set, List.length_set, R.len], fun j c hc => ?_, fun j l c c' a hj hl' mj ml ej el => ?_, R.ent, fun j a hb => ?_⟩
  · rcases gc hc with ⟨rfl, rfl⟩ | ⟨ne, hc⟩
    · refine ⟨v, by rw [List.getElem?_set_self hls], ?_⟩
      cases fr with
      | false => exact r
      | true => exact ⟨r.1, fun a ea => (r.2 a ea).1⟩
    · obtain ⟨w, hw, ok⟩ := R.get j c hc
      exact ⟨w, by rw [List.getElem?_set_ne (Ne.symm ne)]; exact hw, ok⟩
  · rcases gc hj with ⟨q1, q2⟩ | ⟨ne, hj2⟩
    · rcases gc hl' with ⟨q3, q4⟩ | ⟨ne', hl2⟩
      · rw [q1, q3]
      · rw [q1, List.getElem?_set_self hls] at ej
        rw [List.getElem?_set_ne (Ne.symm ne')] at el
        rw [q2] at mj
        cases fr with
        | false => simp [mkC, Cell.isMut] at mj
        | true => exact absurd el ((r.2 a (Option.some.inj (Option.some.inj ej))).2 l c' hl2 ml)
    · rcases gc hl' with ⟨q3, q4⟩ | ⟨ne', hl2⟩
      · rw [q3, List.getElem?_set_self hls] at el
        rw [List.getElem?_set_ne (Ne.symm ne)] at ej
        rw [q4] at ml
        cases fr with
        | false => simp [mkC, Cell.isMut] at ml
        | true => exact absurd ej ((r.2 a (Option.some.inj (Option.some.inj el))).2 j c hj2 mj)
      · rw [List.getElem?_set_ne (Ne.symm ne)] at ej
        rw [List.getElem?_set_ne (Ne.symm ne')] at el
        exact R.sep j l c c' a hj2 hl2 mj ml ej el
  · obtain ⟨e1, z, e2⟩ := R.bor j a hb
    have ne : i ≠ j := fun e => by
      subst e
      exact nb z e2
    rw [List.getElem?_set_ne ne, getC_set_ne ne]
    exact ⟨e1, z, e2⟩
theorem Rel.putSh (R : Rel K H0 B σ H Hf ρ) (h : setC ρ i (.sh d) = some ρ') (r : Rp K Hf v d) : Rel K H0 B (σ.set i (some v)) H Hf ρ' := R.put (d := d) (fr := false) h r

/-! ### targets -/
def gNs : List Nat → TGs
  | [] => gNil
  | i :: is => gCons (gName i) (gNs is)
def gTg (K : PySem.W.Frag) : Tg → TG
  | .nm i => gName i
  | .tp is => gTup K is.length (gNs is)
structure OffOk (vs : List Nat) (σ σ' : L2.St) (ρ ρ' : Env) : Prop where
  ls : σ'.length = σ.length
  lr : ρ'.length = ρ.length
  st : ∀ j, j ∉ vs → σ'[j]? = σ[j]?
  en : ∀ j, j ∉ vs → getC ρ' j = getC ρ j
  sh : ∀ j c, j ∈ vs → getC ρ' j = some c → c.isMut = false
theorem OffOk.le {vs : List Nat} (o : OffOk vs σ σ' ρ ρ') : Le ρ ρ' := ⟨o.lr, fun j c hc m => by
  by_cases hj : j ∈ vs
  · have := o.sh j c hj hc
    rw [this] at m
    cases m
  · rw [o.en j hj] at hc
    exact ⟨c, hc, m⟩⟩
theorem OffOk.mutAt {vs : List Nat} {a : Addr} (o : OffOk vs σ σ' ρ ρ') (h : MutAt σ' ρ' ms a) : MutAt σ ρ ms a := by
  obtain ⟨j, hj, c, hc, m, e⟩ := h
  by_cases hv : j ∈ vs
  · have := o.sh j c hv hc
    rw [this] at m
    cases m
  · exact ⟨j, hj, c, by rw [← o.en j hv]; exact hc, m, by rw [← o.st j hv]; exact e⟩
theorem setTs_ok : ∀ {is : List Nat} {ds : List PD} {vs : List V} {σ : L2.St} {ρ ρ' : Env}, Rel K H0 B σ H Hf ρ → setTs is ds ρ = some ρ' → RpA K Hf vs ds →
    ∀ Q : L2.St → Hp → Prop, (∀ σ', Rel K H0 B σ' H Hf ρ' → OffOk is σ σ' ρ ρ' → Q σ' H) → gNs is vs σ H Q
  | [], [], _, σ, ρ, ρ', R, h, .nil, Q, q => by
    cases h
    exact ⟨rfl, q σ R ⟨rfl, rfl, fun _ _ => rfl, fun _ _ => rfl, fun _ _ z => by cases z⟩⟩
  | [], _ :: _, _, _, _, _, _, h, _, _, _ => by cases h
  | _ :: _, [], _, _, _, _, _, h, _, _, _ => by cases h
  | i :: is, d :: ds, _, σ, ρ, ρ', R, h, .cons (v := v) (vs := vs) r rr, Q, q => by
    unfold setTs at h
    cases e1 : setC ρ i (.sh d) with
    | none => simp [e1] at h
    | some ρ1 =>
      rw [e1] at h
      have R1 := R.putSh e1 r
      obtain ⟨rfl, hl, nb⟩ := setC_some e1
      refine ⟨v, vs, rfl, ?_⟩
      refine setTs_ok R1 h rr Q fun σ' R' o => q σ' R' ⟨by rw [o.ls, List.length_set], by rw [o.lr, List.length_set], fun j hj => ?_, fun j hj => ?_, fun j c hj hc => ?_⟩
      · rw [o.st j fun z => hj (List.mem_cons_of_mem _ z), List.getElem?_set_ne fun z => hj (by rw [z]; exact List.mem_cons_self)]
      · rw [o.en j fun z => hj (List.mem_cons_of_mem _ z), getC_set_ne fun z => hj (by rw [z]; exact List.mem_cons_self)]
      · by_cases hj' : j ∈ is
        · exact o.sh j c hj' hc
        · rcases List.mem_cons.mp hj with e | hj
          · rw [o.en j hj', e, getC_set_self hl] at hc
            cases hc
            rfl
          · exact absurd hj hj'
theorem setTs_len : ∀ {is : List Nat} {ds : List PD} {ρ ρ' : Env}, setTs is ds ρ = some ρ' → ds.length = is.length
  | [], [], _, _, _ => rfl
  | [], _ :: _, _, _, h => by cases h
  | _ :: _, [], _, _, h => by cases h
  | i :: is, d :: ds, ρ, ρ', h => by
    unfold setTs at h
    cases e1 : setC ρ i (.sh d) with
    | none => simp [e1] at h
    | some ρ1 =>
      rw [e1] at h
      rw [List.length_cons, List.length_cons, setTs_len h]
/-- d's value goes to the target -/
theorem setT_ok {tg : Tg} (R : Rel K H0 B σ H Hf ρ) (h : setT tg d ρ = some ρ') (r : Rp K Hf v d) (Q : L2.St → Hp → Prop) (q : ∀ σ', Rel K H0 B σ' H Hf ρ' → OffOk tg.slots σ σ' ρ ρ' → Q σ' H) : gTg K tg v σ H Q := by
  cases tg with
  | nm i =>
    have R1 := R.putSh (i := i) h r
    obtain ⟨rfl, hl, nb⟩ := setC_some (show setC ρ i (.sh d) = some ρ' from h)
    refine q _ R1 ⟨by rw [List.length_set], by rw [List.length_set], fun j hj => ?_, fun j hj => ?_, fun j c hj hc => ?_⟩
    · rw [List.getElem?_set_ne fun z => hj (by rw [z]; exact List.mem_singleton.mpr rfl)]
    · rw [getC_set_ne fun z => hj (by rw [z]; exact List.mem_singleton.mpr rfl)]
    · rw [List.mem_singleton.mp hj, getC_set_self hl] at hc
      cases hc
      rfl
  | tp is =>
    cases d with
    | tuple ds =>
      have h' : setTs is ds ρ = some ρ' := h
      obtain ⟨a, xs, rfl, s, rr⟩ := r.tup_inv
      exact ⟨a, xs, rfl, Same.sqt R.ext s, by rw [rr.length, setTs_len h'], setTs_ok R h' rr Q q⟩
    | _ => cases h

/-! ### wiping -/
theorem getC_wipe {i : Nat} : ∀ {vs : List Nat}, i ∉ vs → getC (wipeC ρ vs) i = getC ρ i
  | [], _ => rfl
  | v :: vs, h => by
    rw [wipeC, getC_set_ne fun z => h (by rw [z]; exact List.mem_cons_self), getC_wipe fun z => h (List.mem_cons_of_mem _ z)]
theorem getC_wiped {i : Nat} {c : Cell} : ∀ {vs : List Nat}, getC (wipeC ρ vs) i = some c → i ∉ vs
  | [], _ => by simp
  | v :: vs, h => by
    rw [wipeC] at h
    by_cases e : v = i
    · subst e
      rw [getC_set_none] at h
      cases h
    · rw [getC_set_ne e] at h
      simp only [List.mem_cons, not_or]
      exact ⟨fun z => e z.symm, getC_wiped h⟩
theorem len_wipe : ∀ {vs : List Nat}, (wipeC ρ vs).length = ρ.length
  | [] => rfl
  | v :: vs => by rw [wipeC, List.length_set, len_wipe]
theorem getC_getD {i : Nat} : getC (ρ.set i (ρ2.getD i none)) i = if i < ρ.length then getC ρ2 i else none := by
  by_cases h : i < ρ.length
  · rw [if_pos h]
    unfold getC
    rw [List.getElem?_set_self h, List.getD_eq_getElem?_getD]
    cases ρ2[i]? with
    | none => rfl
    | some x => rfl
  · rw [if_neg h]
    unfold getC
    rw [List.getElem?_eq_none (by simpa using h)]
theorem getC_back {i : Nat} : ∀ {vs : List Nat}, i ∉ vs → getC (backC ρ ρ2 vs) i = getC ρ i
  | [], _ => rfl
  | v :: vs, h => by
    rw [backC, getC_set_ne fun z => h (by rw [z]; exact List.mem_cons_self), getC_back fun z => h (List.mem_cons_of_mem _ z)]
theorem len_back : ∀ {vs : List Nat}, (backC ρ ρ2 vs).length = ρ.length
  | [] => rfl
  | v :: vs => by rw [backC, List.length_set, len_back]
theorem getC_backed {i : Nat} : ∀ {vs : List Nat}, i ∈ vs → ρ.length = ρ2.length → getC (backC ρ ρ2 vs) i = getC ρ2 i
  | [], h, _ => by cases h
  | v :: vs, h, hl => by
    rw [backC]
    by_cases e : v = i
    · subst e
      rw [getC_getD, len_back]
      by_cases q : v < ρ.length
      · rw [if_pos q]
      · rw [if_neg q]
        unfold getC
        rw [List.getElem?_eq_none (by omega)]
    · rw [getC_set_ne e]
      rcases List.mem_cons.mp h with z | z
      · exact absurd z.symm e
      · exact getC_backed z hl
theorem wipe_ext : ∀ {vs : List Nat} {a b : L2.St}, a.length = b.length → (∀ j, j ∉ vs → a[j]? = b[j]?) → wipe a vs = wipe b vs
  | [], a, b, hl, h => List.ext_getElem? fun j => h j (by simp)
  | v :: vs, a, b, hl, h => by
    have key : ∀ (vs : List Nat) (a : L2.St) (j : Nat), (wipe a vs)[j]? = if j ∈ vs ∧ j < a.length then some none else a[j]? := fun vs => by
      induction vs with
      | nil =>
        intro a j
        simp [wipe]
      | cons v vs ih =>
        intro a j
        unfold wipe
        by_cases e : v = j
        · subst e
          by_cases hl : v < a.length
          · rw [List.getElem?_set_self (by rw [wipe_length]; exact hl), if_pos ⟨List.mem_cons_self, hl⟩]
          · rw [List.getElem?_eq_none (by rw [List.length_set, wipe_length]; omega), if_neg (fun z => hl z.2), List.getElem?_eq_none (by omega)]
        · rw [List.getElem?_set_ne e, ih a j]
          by_cases q : j ∈ vs
          · simp [q]
          · have e' : ¬ j = v := fun z => e z.symm
            simp [q, e']
    refine List.ext_getElem? fun j => ?_
    rw [key, key, hl]
    by_cases q : j ∈ v :: vs
    · by_cases hj : j < b.length
      · rw [if_pos ⟨q, hj⟩, if_pos ⟨q, hj⟩]
      · rw [if_neg (fun z => hj z.2), if_neg (fun z => hj z.2), List.getElem?_eq_none (by omega), List.getElem?_eq_none (by omega)]
    · rw [if_neg (fun z => q z.1), if_neg (fun z => q z.1), h j q]
end
end DD

-- part DSndB
set_option Elab.async false
set_option linter.all false
set_option maxRecDepth 100000
set_option maxHeartbeats 2000000
/-! Soundness: comprehensions. -/
namespace DD
open PySem PySem.Spec PyProof.Rows L2
section
variable {K : PySem.W.Frag} {mg : Str → Option Value} {cs : List FSem} {Ex : XK} {H0 : Hp} {B : Bor} {σ σ' σ2 : L2.St} {ms ms1 ms2 vs ws : List Nat} {ρ ρ' ρ1 ρ2 ρ3 : Env} {H Hf H1 Hf1 H2 Hf2 H3 Hf3 : Hp} {d : PD} {fr : Bool} {v : V} {i : Nat} {c : Cell} {D : Addr} {xs : List V} {acc : List PD}
/-- what stands through the turns, by the start (ρ1, H1, Hf1) -/
structure LcIn (K : PySem.W.Frag) (σ : L2.St) (ms vs : List Nat) (D : Addr) (ρ1 : Env) (H1 Hf1 : Hp) (ρ : Env) (H Hf : Hp) (xs : List V) (acc : List PD) : Prop where
  ext : Same Hf1 Hf
  fr : Fr σ ρ1 ms H1 H
  gr : Gr σ ρ1 H1 Hf1 Hf
  le : Le ρ1 ρ
  hid : ∀ j c a, j ∈ vs → getC ρ1 j = some c → c.isMut = true → σ[j]? = some (some (.ref a)) → Hf a = none ∧ H a = H1 a
  no : ∀ j c, j ∈ vs → getC ρ j = some c → c.isMut = false
  lst : H D = some (.lst xs)
  dat : RpA K Hf xs acc
  free : Hf D = none
theorem LcIn.step (R1 : Rel K H0 B σ H1 Hf1 ρ1) (hD : H1 D = none) (L : LcIn K σ ms vs D ρ1 H1 Hf1 ρ H Hf xs acc) (off : ∀ j c, getC ρ j = some c → c.isMut = true → σ2[j]? = σ[j]?) (S : Step K H0 B σ2 ms2 ρ H Hf ρ3 H3 Hf3) (hs : ∀ i ∈ ms2, i ∈ ms) : LcIn K σ ms vs D ρ1 H1 Hf1 ρ3 H3 Hf3 xs acc := by
  have up : ∀ {a : Addr} {j : Nat} {c : Cell}, getC ρ j = some c → c.isMut = true → σ2[j]? = some (some (V.ref a)) → ∃ c', getC ρ1 j = some c' ∧ c'.isMut = true ∧ σ[j]? = some (some (V.ref a)) := fun {a j c} hc m e => by
    obtain ⟨c', hc', m'⟩ := L.le.mu j c hc m
    exact ⟨c', hc', m', by rw [← off j c hc m]; exact e⟩
  have nD : ¬ ∃ j c, getC ρ j = some c ∧ c.isMut = true ∧ σ2[j]? = some (some (V.ref D)) := fun ⟨j, c, hc, m, e⟩ => by
    obtain ⟨c', hc', m', e'⟩ := up hc m e
    obtain ⟨b, eb, _, ⟨u, hu⟩, _⟩ := R1.own hc' m'
    rw [e'] at eb
    cases eb
    rw [hD] at hu
    cases hu
  have frA : ∀ a o, H a = some o → (¬ ∃ j c, getC ρ j = some c ∧ c.isMut = true ∧ σ2[j]? = some (some (V.ref a))) → H3 a = some o ∧ Hf3 a = Hf a := fun a o h n => ⟨S.fr a o h fun ⟨j, _, c, hc, m, e⟩ => n ⟨j, c, hc, m, e⟩, S.gr a o h n⟩
  refine ⟨Same.trans L.ext S.ext, fun a o h n => ?_, fun b u h n => ?_, L.le.trans S.le, fun j c a hj hc m e => ?_, fun j c hj hc => ?_, (frA D _ L.lst nD).1, L.dat.mono S.ext, ?_⟩
  · refine S.fr a o (L.fr a o h n) fun ⟨j, hj, c, hc, m, e⟩ => ?_
    obtain ⟨c', hc', m', e'⟩ := up hc m e
    exact n ⟨j, hs j hj, c', hc', m', e'⟩
  · have h2 := L.fr b u h fun ⟨j, _, c, hc, m, e⟩ => n ⟨j, c, hc, m, e⟩
    rw [(frA b u h2 fun ⟨j, c, hc, m, e⟩ => ?_).2]
    · exact L.gr b u h n
    · obtain ⟨c', hc', m', e'⟩ := up hc m e
      exact n ⟨j, c', hc', m', e'⟩
  · obtain ⟨h1, h2⟩ := L.hid j c a hj hc m e
    obtain ⟨b, eb, _, ⟨u, hu⟩, _⟩ := R1.own hc m
    rw [e] at eb
    cases eb
    rw [hu] at h2
    obtain ⟨q1, q2⟩ := frA a u h2 fun ⟨l, c2, hc2, m2, e2⟩ => by
      obtain ⟨c', hc', m', e'⟩ := up hc2 m2 e2
      have el : l = j := R1.sep l j c' c a hc' hc m' m e' e
      subst el
      have := L.no l c2 hj hc2
      rw [this] at m2
      cases m2
    rw [q2, h1, q1, hu]
    exact ⟨rfl, rfl⟩
  · cases m : c.isMut with
    | false => rfl
    | true =>
      obtain ⟨c', hc', m'⟩ := S.le.mu j c hc m
      rw [L.no j c' hj hc'] at m'
      cases m'
  · rw [(frA D _ L.lst nD).2]
    exact L.free
theorem LcIn.app (R1 : Rel K H0 B σ H1 Hf1 ρ1) (hD : H1 D = none) (L : LcIn K σ ms vs D ρ1 H1 Hf1 ρ H Hf xs acc) (r : Rp K Hf v d) : LcIn K σ ms vs D ρ1 H1 Hf1 ρ (upd H D (.lst (xs ++ [v]))) Hf (xs ++ [v]) (acc ++ [d]) := by
  have ne : ∀ {a : Addr} {u : HO}, H1 a = some u → a ≠ D := fun h e => by
    rw [e, hD] at h
    cases h
  refine ⟨L.ext, fun a o h n => by rw [upd_ne (ne h)]; exact L.fr a o h n, L.gr, L.le, fun j c a hj hc m e => ?_, L.no, upd_same, L.dat.snoc r, L.free⟩
  obtain ⟨b, eb, _, ⟨u, hu⟩, _⟩ := R1.own hc m
  rw [e] at eb
  cases eb
  rw [upd_ne (ne hu)]
  exact L.hid j c a hj hc m e
/-- other names known -/
theorem LcIn.names (L : LcIn K σ ms vs D ρ1 H1 Hf1 ρ H Hf xs acc) (h : Le ρ ρ') : LcIn K σ ms vs D ρ1 H1 Hf1 ρ' H Hf xs acc :=
  ⟨L.ext, L.fr, L.gr, L.le.trans h, L.hid, (fun j c hj hc => by
    cases m : c.isMut with
    | false => rfl
    | true =>
      obtain ⟨c', hc', m'⟩ := h.mu j c hc m
      rw [L.no j c' hj hc'] at m'
      cases m'), L.lst, L.dat, L.free⟩
theorem le_wipe : Le ρ (wipeC ρ vs) := ⟨len_wipe, fun j c hc m => ⟨c, by rw [← getC_wipe (getC_wiped hc)]; exact hc, m⟩⟩
/-- the names come back -/
theorem LcIn.back (hB : BOk B) (h0 : ∀ j ∈ vs, j ≠ 0) (R1 : Rel K H0 B σ H1 Hf1 ρ1) (L : LcIn K σ ms vs D ρ1 H1 Hf1 ρ H Hf xs acc) (hw : ∀ j ∈ ws, j ∈ vs) (R : Rel K H0 B (wipe σ ws) H Hf ρ) : Step K H0 B σ ms ρ1 H1 Hf1 (backC ρ ρ1 vs) H Hf := by
  have hl := L.le.len
  have le : Le ρ1 (backC ρ ρ1 vs) := ⟨by rw [len_back, hl], fun j c hc m => by
    by_cases hj : j ∈ vs
    · rw [getC_backed hj hl] at hc
      exact ⟨c, hc, m⟩
    · rw [getC_back hj] at hc
      exact L.le.mu j c hc m⟩
  refine ⟨L.ext, ⟨R.ext, by rw [len_back, hl, R1.len], fun j c hc => ?_, fun j l c c' a hj hl' mj ml ej el => ?_, R.ent, fun j a hb => ?_⟩, L.fr, L.gr, le⟩
  · by_cases hj : j ∈ vs
    · rw [getC_backed hj hl] at hc
      obtain ⟨w, hw', ok⟩ := R1.get j c hc
      refine ⟨w, hw', ?_⟩
      cases c with
      | sh x => exact Rp.mono L.ext ok
      | ow x =>
        refine ⟨ok.1.keep L.ext (fun b u eb q => ?_) fun b eb => ?_, ok.2⟩
        · rw [(L.hid j _ b hj hc rfl (by rw [hw', eb])).2]
          exact q
        · exact (L.hid j _ b hj hc rfl (by rw [hw', eb])).1
      | bo x =>
        refine ⟨ok.1.keep L.ext (fun b u eb q => ?_) fun b eb => ?_, ok.2⟩
        · rw [(L.hid j _ b hj hc rfl (by rw [hw', eb])).2]
          exact q
        · exact (L.hid j _ b hj hc rfl (by rw [hw', eb])).1
    · rw [getC_back hj] at hc
      obtain ⟨w, hw', ok⟩ := R.get j c hc
      exact ⟨w, (wipe_some hw').1, ok⟩
  · obtain ⟨x, hx, mx⟩ := le.mu j c hj mj
    obtain ⟨y, hy, my⟩ := le.mu l c' hl' ml
    exact R1.sep j l x y a hx hy mx my ej el
  · have e0 := hB j a hb
    have nv : j ∉ vs := fun z => h0 j z e0
    rw [getC_back nv]
    exact ⟨(R1.bor j a hb).1, (R.bor j a hb).2⟩
end

theorem drop_at {α : Type} : ∀ {l : List α} {i : Nat} {x : α} {r : List α}, l.drop i = x :: r → l[i]? = some x ∧ l.drop (i + 1) = r
  | [], i, _, _, h => by simp at h
  | a :: l, 0, _, _, h => by
    simp at h
    exact ⟨by simp [h.1], by simp [h.2]⟩
  | a :: l, i + 1, x, r, h => by
    obtain ⟨h1, h2⟩ := drop_at (l := l) (i := i) (by simpa using h)
    exact ⟨by simpa using h1, by simpa using h2⟩

variable {S : Setg}
def SndL (S : Setg) (elt : E) (tg : Tg) (it : It) (cond : E) : Prop := ∀ (sc : Scope) (Ex : XK) (F : Fam), (∀ X, F X → S.ctx sc Ex X) → ∀ ex, isE S.tb sc (.lc elt tg it cond) ex = true → ∃ t : TE, (∀ X, F X → PE X ex t ∧
    ∀ (y : Str) (py spos : Pos) (i : Nat), X.N[i]? = some y → X.env.scope.names.lookup y = some .local → swapsWith ex (some (.Name y py)) spos.line X.env = pure true → PS X (.Assign [.Name y py] ex spos) (tAsg t (gName i))) ∧ GoodE S.K S.mg S.cs Ex (.lc elt tg it cond) t
theorem pgTg {X : Cx} {sc scope : Scope} {N : List Str} (hc : X.calm = true) (hX : X.N = N) (nd : X.N.Nodup) (hs : X.env.scope = relS scope sc) (hf : ∀ x, X.fn x = (scope.names.lookup x == some .cell)) {tg : Tg} {t : Expr} {own : List (Str × Nat)} (ho : ownOf tg t = some own) (h1 : ∀ p ∈ own, N[p.2]? = some p.1) (h2 : ∀ p ∈ own, locB scope p.1 = true) : PG X t (gTg X.K tg) := by
  have one : ∀ {i : Nat} {x : Str} {pos : Pos}, N[i]? = some x → locB scope x = true → PG X (.Name x pos) (gName i) := fun {i x pos} hi hl => by
    unfold locB at hl
    have h3 : scope.names.lookup x = some .local ∨ scope.names.lookup x = some .cell := by
      split at hl
      · rename_i e
        exact .inl e
      · rename_i e
        exact .inr e
      · cases hl
    have keep : ∀ {k : NameKind}, k ≠ .free → scope.names.lookup x = some k → X.env.scope.names.lookup x = some k := fun {k} hk e => by
      rw [hs]
      exact lookup_relS_keep hk e
    rcases h3 with e | e
    · exact pg_name nd (by rw [hX]; exact hi) (.inl (keep (by decide) e)) (.inr (keep (by decide) e))
    · exact pg_name nd (by rw [hX]; exact hi) (.inr (keep (by decide) e)) (.inl (by rw [hf, e]; rfl))
  cases tg with
  | nm i =>
    cases t with
    | Name x p =>
      cases ho
      exact one (h1 _ (List.mem_singleton.mpr rfl)) (h2 _ (List.mem_singleton.mpr rfl))
    | _ => cases ho
  | tp is =>
    cases t with
    | Tuple es k p =>
      have go : ∀ {is : List Nat} {es : List Expr} {own : List (Str × Nat)}, ownNs is es = some own → (∀ p ∈ own, N[p.2]? = some p.1) → (∀ p ∈ own, locB scope p.1 = true) → PGs X es (gNs is) ∧ (assignEach es X.env).length = is.length ∧ (assignEach es X.env).findIdx? (·.1) = none := fun {is} => by
        induction is with
        | nil =>
          intro es own h _ _
          cases es with
          | nil => exact ⟨pgs_nil, rfl, rfl⟩
          | cons _ _ => cases h
        | cons i is ih =>
          intro es own h h1 h2
          cases es with
          | nil => cases h
          | cons e es =>
            cases e with
            | Name x p =>
              have h' : (ownNs is es).map ((x, i) :: ·) = some own := h
              cases hr : ownNs is es with
              | none => simp [hr] at h'
              | some own2 =>
                rw [hr] at h'
                cases h'
                obtain ⟨p1, p2, p3⟩ := ih hr (fun p hp => h1 p (List.mem_cons_of_mem _ hp)) fun p hp => h2 p (List.mem_cons_of_mem _ hp)
                refine ⟨pgs_cons (one (h1 _ List.mem_cons_self) (h2 _ List.mem_cons_self)) p1, ?_, ?_⟩
                · show (assignEach es X.env).length + 1 = is.length + 1
                  rw [p2]
                · show ((false, assign (.Name x p) X.env) :: assignEach es X.env).findIdx? (·.1) = none
                  rw [List.findIdx?_cons, p3]
                  rfl
            | _ => cases h
      obtain ⟨p1, p2, p3⟩ := go (show ownNs is es = some own from ho) h1 h2
      exact pg_tup hc p1 p2 p3
    | _ => cases ho
theorem own_slots {tg : Tg} {t : Expr} {own : List (Str × Nat)} (ho : ownOf tg t = some own) : own.map (·.2) = tg.slots := by
  cases tg with
  | nm i =>
    cases t with
    | Name x p =>
      cases ho
      rfl
    | _ => cases ho
  | tp is =>
    cases t with
    | Tuple es k p =>
      have go : ∀ {is : List Nat} {es : List Expr} {own : List (Str × Nat)}, ownNs is es = some own → own.map (·.2) = is := fun {is} => by
        induction is with
        | nil =>
          intro es own h
          cases es with
          | nil =>
            cases h
            rfl
          | cons _ _ => cases h
        | cons i is ih =>
          intro es own h
          cases es with
          | nil => cases h
          | cons e es =>
            cases e with
            | Name x p =>
              have h' : (ownNs is es).map ((x, i) :: ·) = some own := h
              cases hr : ownNs is es with
              | none => simp [hr] at h'
              | some own2 =>
                rw [hr] at h'
                cases h'
                rw [List.map_cons, ih hr]
            | _ => cases h
      exact go (show ownNs is es = some own from ho)
    | _ => cases ho
theorem goodYes {K : PySem.W.Frag} {mg : Str → Option Value} {cs : List FSem} {Ex : XK} : GoodT K mg cs Ex (.bl true) tYes := by
  intro H0 B σ H Hf ρ hB R
  exact fun Q q => q H Hf (Step.refl R)
theorem blkCtx {sc scope : Scope} {Ex : XK} {X : Cx} (C : S.ctx sc Ex X) (s : Shared) (H : Hp) (Ca : Addr) (cl : List (Str × Addr)) (fp : List Addr) : S.ctx (relS scope sc) (fun _ _ _ => False) (X.blk s H scope (compEnvC scope cl Ca X.env) fp) :=
  ⟨C.hK, C.hmg, C.hN, C.nd, by rw [← C.hsc]; rfl, C.calm, C.room, fun pins σ H s e s' I c => by
    obtain ⟨a, B, H', cls, d, h⟩ := c
    exact h.2.2.2.2.2.2.2.elim, C.fns, C.blt, C.gi, C.gt⟩
end DD

-- part DSndC
set_option Elab.async false
set_option linter.all false
set_option maxRecDepth 100000
set_option maxHeartbeats 2000000
/-! Soundness: comprehensions, joined. -/
namespace DD
open PySem PySem.Spec PyProof.Rows L2
variable {S : Setg}
theorem good_lc {K : PySem.W.Frag} {mg : Str → Option Value} {cs : List FSem} {Ex Ex2 : XK} {elt cond : E} {tg : Tg} {it : It} {wi : TI} {tt : TT} {te : TE} (gi : GoodI K mg cs Ex it wi) (gc : GoodT K mg cs Ex2 cond tt) (ge : GoodE K mg cs Ex2 elt te)
    (h0 : ∀ j ∈ tg.slots ++ hidI it, j ≠ 0) (hap : ∀ j ∈ tg.slots ++ hidI it, j ∉ mutsE cond ++ mutsE elt) : GoodE K mg cs Ex (.lc elt tg it cond) (tLc wi (gTg K tg) tt te tg.slots) := by
  refine GoodE.of fun H0 B σ H Hf ρ hB R r hr => ?_
  unfold evalE at hr
  have g := gi H0 B σ H Hf ρ hB R
  rcases bindA_ok hr with ⟨x, e1, rfl⟩ | ⟨ds, ρ1, e1, hr⟩
  · rw [e1] at g
    exact fun Q q => g _ q
  · rw [e1] at g
    unfold lcE at hr
    split at hr
    · rename_i hz
      generalize hvs : tg.slots ++ hidI it = vs at h0 hap hr
      have hsl : ∀ j ∈ tg.slots, j ∈ vs := fun j hj => by
        rw [← hvs]
        exact List.mem_append_left _ hj
      split at hr
      · rename_i acc ρf hL
        cases hr
        intro Q q
        refine g _ fun J H1 Hf1 gg S1 sv hg D hD => ?_
        have R1 := S1.rel
        have ow1 : ∀ {j : Nat} {c : Cell}, getC ρ1 j = some c → c.isMut = true → σ[j]? ≠ some (some (V.ref D)) := fun {j c} hc m e => by
          obtain ⟨b, eb, _, ⟨u, hu⟩, _⟩ := R1.own hc m
          rw [e] at eb
          cases eb
          rw [hD] at hu
          cases hu
        let Good : Nat → Hp → Prop := fun i H' => ∃ ρi Hfi xs acci, lcLoop tg (evalE cs cond) (evalE cs elt) tg.slots (ds.drop i) ρi acci = some (.ok acc ρf) ∧ Rel K H0 B (wipe σ tg.slots) H' Hfi ρi ∧
          LcIn K σ (mutsE cond ++ mutsE elt) vs D ρ1 H1 Hf1 ρi H' Hfi xs acci ∧ acci.length ≤ i
        have subR : ∀ {σ2 : L2.St} {Hx Hfx : Hp} {ρx : Env} {ws : List Nat}, Rel K H0 B σ2 Hx Hfx ρx → (∀ j, j ∉ tg.slots → σ2[j]? = (wipe σ tg.slots)[j]?) → σ2.length = σ.length → (∀ j ∈ tg.slots, j ∈ ws) → (∀ j ∈ ws, j ∈ vs) → Rel K H0 B (wipe σ tg.slots) Hx Hfx (wipeC ρx ws) :=
          fun {σ2 Hx Hfx ρx ws} Rx hst hlen hw1 hw2 => by
            refine Rx.sub (by rw [wipe_length, hlen]) len_wipe (fun j c hc => ?_) fun j a hj => ?_
            · have nj := getC_wiped hc
              rw [getC_wipe nj] at hc
              exact ⟨hc, (hst j fun z => nj (hw1 j z)).symm⟩
            · have e0 := hB j a hj
              have nw : j ∉ ws := fun z => h0 j (hw2 j z) e0
              exact ⟨(hst j fun z => nw (hw1 j z)).symm, getC_wipe nw⟩
        have out : ∀ j, j ∉ tg.slots → (wipe σ tg.slots)[j]? = σ[j]? := fun j hj => wipe_out hj
        refine ⟨fun i m H' => m = ds.length - i ∧ i ≤ ds.length ∧ Good i H', ⟨ds.length, rfl, Nat.zero_le _, wipeC ρ1 vs, Hf1, [], [], hL, ?_, ?_, Nat.le_refl _⟩, ?_⟩
        · exact subR (R1.grow hD).2 (fun j hj => (out j hj).symm) rfl hsl fun j hj => hj
        · refine ⟨fun _ _ z => z, Fr.same (R1.grow hD).1, fun _ _ _ _ => rfl, le_wipe, fun j c a hj hc m e => ?_, fun j c hj hc => absurd hj (getC_wiped hc), upd_same, .nil, Same.free R1.ext hD⟩
          obtain ⟨b, eb, hn, ⟨u, hu⟩, _⟩ := R1.own hc m
          rw [e] at eb
          cases eb
          exact ⟨hn, upd_ne (ne_of_none hu hD)⟩
        · rintro i m Hh ⟨rfl, hi, ρi, Hfi, xs, acci, hl, Ri, L, hacc⟩
          have hgi : ∀ a xs', gg = some (a, xs') → Hh a = some (.lst xs') := fun a xs' ea => by
            obtain ⟨q1, v, c, q2, q3, q4, q5⟩ := hg a xs' ea
            refine L.fr a _ q1 fun ⟨j, hj, c', hc', m', e'⟩ => ?_
            have ej : j = v := R1.sep j v c' c a hc' q3 m' q4 e' q5
            refine hap v ?_ (by rw [← ej]; exact hj)
            rw [← hvs, q2]
            exact List.mem_append_right _ (List.mem_singleton.mpr rfl)
          by_cases hlt : i < ds.length
          · have hdr : ds.drop i = ds[i] :: ds.drop (i + 1) := List.drop_eq_getElem_cons hlt
            have hd : ds[i]? = some ds[i] := List.getElem?_eq_getElem hlt
            rw [hdr] at hl
            unfold lcLoop at hl
            obtain ⟨go, yld⟩ := sv.1 i ds[i] Hh Hfi L.ext Ri.ext hgi hd
            cases hset : setT tg ds[i] ρi with
            | none => simp [hset] at hl
            | some ρ2 =>
              simp only [hset] at hl
              refine .inr ⟨go, Good (i + 1), fun H' p => ⟨ds.length - (i + 1), by omega, rfl, hlt, p⟩, fun x H' y => ?_⟩
              obtain ⟨Hf2, S2, rp, _⟩ := (yld x H' y).toE (ms := []) Ri
              have L2' := L.step (σ2 := wipe σ tg.slots) R1 hD (fun j c hc mm => out j fun z => by
                have := L.no j c (hsl j z) hc
                rw [this] at mm
                cases mm) S2 (fun _ z => by cases z)
              refine setT_ok S2.rel hset rp _ fun σ' R' o => ⟨?_, ?_⟩
              · refine (wipe_ext (by rw [o.ls, wipe_length]) fun j hj => ?_)
                rw [o.st j hj, out j hj]
              have L3 := L2'.names o.le
              have off' : ∀ j c, getC ρ2 j = some c → c.isMut = true → σ'[j]? = σ[j]? := fun j c hc mm => by
                have nj : j ∉ tg.slots := fun z => by
                  have := o.sh j c z hc
                  rw [this] at mm
                  cases mm
                rw [o.st j nj, out j nj]
              cases hc : evalE cs cond ρ2 with
              | none => simp [hc] at hl
              | some rc =>
                rw [hc] at hl
                cases rc with
                | ex _ => cases hl
                | ok dc fc ρ3 =>
                  cases dc with
                  | bool b =>
                    refine gc.run hB R' hc fun H3 Hf3 S3 => ?_
                    have L4 := L3.step R1 hD off' S3 (fun j hj => sub_l j hj)
                    have hlen : σ'.length = σ.length := by rw [o.ls, wipe_length]
                    cases b with
                    | false =>
                      refine iteF ⟨wipeC ρ3 tg.slots, Hf3, xs, acci, hl, subR S3.rel o.st hlen (fun _ z => z) hsl, L4.names le_wipe, by omega⟩
                    | true =>
                      simp only at hl
                      cases he : evalE cs elt ρ3 with
                      | none => simp [he] at hl
                      | some re =>
                        rw [he] at hl
                        cases re with
                        | ex _ => cases hl
                        | ok dy fy ρ4 =>
                          refine iteT (ge.run hB S3.rel he fun yv H4 Hf4 S4 rp4 => ?_)
                          have off3 : ∀ j c, getC ρ3 j = some c → c.isMut = true → σ'[j]? = σ[j]? := fun j c hc mm => by
                            obtain ⟨c', hc', m'⟩ := S3.le.mu j c hc mm
                            exact off' j c' hc' m'
                          have L5 := L4.step R1 hD off3 S4 (fun j hj => sub_r j hj)
                          have hx := L5.dat.length
                          refine ⟨xs, L5.lst, lim_lt ?_, wipeC ρ4 tg.slots, Hf4, xs ++ [yv], acci ++ [dy], hl, ?_, (L5.app R1 hD rp4).names le_wipe, by rw [List.length_append]; simp; omega⟩
                          · omega
                          · refine subR (S4.rel.updD L5.free (R1.h0 hD) fun j c hc mm e => ?_) o.st hlen (fun _ z => z) hsl
                            obtain ⟨c', hc', m'⟩ := S4.le.mu j c hc mm
                            obtain ⟨c2, hc2, m2⟩ := L4.le.mu j c' hc' m'
                            exact ow1 hc2 m2 (by rw [← off3 j c' hc' m']; exact e)
                  | _ => cases hl
          · have ei : i = ds.length := by omega
            subst ei
            rw [List.drop_length] at hl
            unfold lcLoop at hl
            cases hl
            refine .inl ⟨sv.2 Hh Hfi L.ext Ri.ext hgi, q _ _ (PostE.after S1 ⟨Hfi, L.back hB h0 R1 hsl Ri, ⟨.lst L.lst L.free L.dat, fun a ea => ?_⟩, fun _ a ea => ?_⟩ sub_l sub_r)⟩
            · cases ea
              refine ⟨R1.h0 hD, fun j c hc mm => ?_⟩
              obtain ⟨c', hc', m'⟩ := (L.back hB h0 R1 hsl Ri).le.mu j c hc mm
              exact ow1 hc' m'
            · cases ea
              exact .inl hD
      · cases hr
    · cases hr
theorem snd_lc {elt cond : E} {tg : Tg} {it : It} (he : SndE S elt) (hi : SndI S it) (hc : SndT S cond) : SndL S elt tg it cond := by
  intro sc Ex F hF ex h
  cases ex with
  | ListComp el gs scope pos =>
    match gs, h with
    | [⟨t, i, ifs, as⟩], h =>
      obtain ⟨h1, h2, h3, h4, h5, h6, h7, rfl⟩ : ownB S.tb sc scope tg t = true ∧ sub0 (tg.slots ++ hidI it) = true ∧ apart (tg.slots ++ hidI it) (mutsE cond ++ mutsE elt) = true ∧ noset i = true ∧ isI S.tb sc it i t = true ∧ isE S.tb (relS scope sc) elt el = true ∧
          ((ifs = [] ∧ isYes cond = true) ∨ ∃ c, ifs = [c] ∧ isE S.tb (relS scope sc) cond c = true) ∧ as = 0 := by
        match ifs, h with
        | [], h =>
          have h' : (decide (as = 0) && ownB S.tb sc scope tg t && sub0 (tg.slots ++ hidI it) && apart (tg.slots ++ hidI it) (mutsE cond ++ mutsE elt) && noset i && isI S.tb sc it i t && isE S.tb (relS scope sc) elt el && isYes cond) = true := h
          simp only [Bool.and_eq_true, decide_eq_true_eq] at h'
          obtain ⟨⟨⟨⟨⟨⟨⟨rfl, h1⟩, h2⟩, h3⟩, h4⟩, h5⟩, h6⟩, h7⟩ := h'
          exact ⟨h1, h2, h3, h4, h5, h6, .inl ⟨rfl, h7⟩, rfl⟩
        | [c], h =>
          have h' : (decide (as = 0) && ownB S.tb sc scope tg t && sub0 (tg.slots ++ hidI it) && apart (tg.slots ++ hidI it) (mutsE cond ++ mutsE elt) && noset i && isI S.tb sc it i t && isE S.tb (relS scope sc) elt el && isE S.tb (relS scope sc) cond c) = true := h
          simp only [Bool.and_eq_true, decide_eq_true_eq] at h'
          obtain ⟨⟨⟨⟨⟨⟨⟨rfl, h1⟩, h2⟩, h3⟩, h4⟩, h5⟩, h6⟩, h7⟩ := h'
          exact ⟨h1, h2, h3, h4, h5, h6, .inr ⟨c, rfl, h7⟩, rfl⟩
        | _ :: _ :: _, h =>
          have h' : (_ && false) = true := h
          rw [Bool.and_false] at h'
          cases h'
      cases ho : ownOf tg t with
      | none => simp [ownB, ho] at h1
      | some own =>
        simp only [ownB, ho, Bool.and_eq_true, decide_eq_true_eq, List.all_eq_true] at h1
        obtain ⟨⟨hb, hl⟩, _⟩ := h1
        have ok := blkOk_by hb
        obtain ⟨wi, pi, gi⟩ := hi sc Ex F hF i t h5
        let F2 : Fam := fun Y => ∃ X s H Ca cl fp, F X ∧ Y = X.blk s H scope (compEnvC scope cl Ca X.env) fp
        have hF2 : ∀ Y, F2 Y → S.ctx (relS scope sc) (fun _ _ _ => False) Y := fun Y ⟨X, s, H, Ca, cl, fp, hX, e⟩ => by
          rw [e]
          exact blkCtx (hF X hX) s H Ca cl fp
        obtain ⟨te, pe, ge⟩ := he _ _ F2 hF2 el h6
        obtain ⟨tt, pt, gc⟩ : ∃ tt : TT, (∀ Y, F2 Y → PTs Y ifs tt) ∧ GoodT S.K S.mg S.cs (fun _ _ _ => False) cond tt := by
          rcases h7 with ⟨rfl, h7⟩ | ⟨c, rfl, h7⟩
          · cases cond with
            | bl b =>
              cases b with
              | true => exact ⟨tYes, fun _ _ => pts_nil, goodYes⟩
              | false => exact no h7
            | _ => exact no h7
          · obtain ⟨tt, pt, gc⟩ := hc _ _ F2 hF2 c h7
            exact ⟨tt, fun Y hY => pts_one (pt Y hY), gc⟩
        have e0 : ∀ j ∈ tg.slots ++ hidI it, j ≠ 0 := fun j hj => by
          have := List.all_eq_true.mp h2 j hj
          exact of_decide_eq_true this
        have ap : ∀ j ∈ tg.slots ++ hidI it, j ∉ mutsE cond ++ mutsE elt := fun j hj => by
          have := List.all_eq_true.mp h3 j hj
          exact of_decide_eq_true this
        refine ⟨tLc wi (gTg S.K tg) tt te tg.slots, fun X hX => ?_, good_lc gi gc ge e0 ap⟩
        have C := hF X hX
        have okX : BlkOk X.N X.env.scope scope own := by
          rw [C.hN, C.hsc]
          exact ok
        have hg : ∀ (s : Shared) (H : Hp) (Ca : Addr) (cl : List (Str × Addr)) (fp : List Addr), PG (X.blk s H scope (compEnvC scope cl Ca X.env) fp) t (gTg S.K tg) := fun s H Ca cl fp => by
          have Cb := blkCtx (scope := scope) C s H Ca cl fp
          have := pgTg (X := X.blk s H scope (compEnvC scope cl Ca X.env) fp) Cb.calm Cb.hN Cb.nd Cb.hsc (fun x => rfl) ho (fun p hp => ok.ix p hp) hl
          rw [Cb.hK] at this
          exact this
        have hm : ∀ (s : Shared) (H : Hp) (Ca : Addr) (cl : List (Str × Addr)) (fp : List Addr), F2 (X.blk s H scope (compEnvC scope cl Ca X.env) fp) := fun s H Ca cl fp => ⟨X, s, H, Ca, cl, fp, hX, rfl⟩
        have es := own_slots ho
        refine ⟨?_, fun y py spos i hy hyl hsw => ?_⟩
        · have := pe_lc (pos := pos) C.calm C.nd (pi X hX) okX hg (fun s H Ca cl fp => pt _ (hm s H Ca cl fp)) (fun s H Ca cl fp => pe _ (hm s H Ca cl fp)) (fun x => fold_ok h4 X.env x)
          rw [es] at this
          exact this
        · have := ps_setLc (pos := pos) (spos := spos) (py := py) C.calm C.nd hy hyl hsw (pi X hX) okX hg (fun s H Ca cl fp => pt _ (hm s H Ca cl fp)) (fun s H Ca cl fp => pe _ (hm s H Ca cl fp)) (fun x => fold_ok h4 X.env x)
          rw [es] at this
          exact this
    | [], h => exact no h
    | ⟨_, _, _, _⟩ :: _ :: _, h => exact no h
  | _ => exact no h
end DD

-- part DSndD
set_option Elab.async false
set_option linter.all false
set_option maxRecDepth 100000
set_option maxHeartbeats 2000000
/-! Soundness: reversed, tuples and lists of ranges, tests by if-expressions. -/
namespace DD
open PySem PySem.Spec PyProof.Rows L2
variable {S : Setg}
theorem snd_rev {a : E} (ha : SndE S a) : SndE S (.rev a) := by
  intro sc Ex F hF ex h
  cases ex with
  | Subscript e s p =>
    obtain ⟨j, k, p1, p2, p3, rfl⟩ : ∃ j k p1 p2 p3, s = .Slice none none (some (.UnaryOp .USub (.Constant (.int j) k p1) p2)) p3 := by
      cases s with
      | Slice lo hi st p3 =>
        cases lo with
        | some _ => exact no h
        | none =>
          cases hi with
          | some _ => exact no h
          | none =>
            cases st with
            | none => exact no h
            | some st =>
              cases st with
              | UnaryOp o x p2 =>
                cases o with
                | USub =>
                  cases x with
                  | Constant c k p1 =>
                    cases c with
                    | int j => exact ⟨j, k, p1, p2, p3, rfl⟩
                    | _ => exact no h
                  | _ => exact no h
                | _ => exact no h
              | _ => exact no h
      | _ => exact no h
    have h' : (decide (j = 1) && isE S.tb sc a e) = true := h
    simp only [Bool.and_eq_true, decide_eq_true_eq] at h'
    obtain ⟨rfl, h1⟩ := h'
    obtain ⟨t, pe, g⟩ := ha sc Ex F hF e h1
    refine ⟨tRev S.K t, fun X hX => ?_, ?_⟩
    · have C := hF X hX
      have := pe_rev (k := k) (p1 := p1) (p2 := p2) (p3 := p3) (pos := p) (pe X hX)
      rw [C.hK] at this
      exact this
    · refine GoodE.of fun H0 B σ H Hf ρ hB R r hr => ?_
      unfold evalE at hr
      rcases bind_ok hr with ⟨x, e1, rfl⟩ | ⟨d1, f1, ρ1, e1, hr⟩
      · exact fun Q q => g.exc hB R e1 q
      · cases d1 with
        | list ds =>
          cases hr
          refine fun Q q => g.run hB R e1 fun v H1 Hf1 S1 rp => ?_
          obtain ⟨b, xs, rfl, s, rr⟩ := rp.lst_inv
          exact ⟨b, xs, rfl, .inl ⟨Same.sql S1.rel.ext s, fun p n => q _ _ (PostE.ofV S1 (PostV.newL S1.rel.ext n rr.reverse) sub_id)⟩⟩
        | tuple ds =>
          cases hr
          refine fun Q q => g.run hB R e1 fun v H1 Hf1 S1 rp => ?_
          obtain ⟨b, xs, rfl, s, rr⟩ := rp.tup_inv
          exact ⟨b, xs, rfl, .inr ⟨Same.sqt S1.rel.ext s, fun p n => q _ _ (PostE.ofV S1 (PostV.newT S1.rel.ext n rr.reverse) sub_id)⟩⟩
        | _ => cases hr
  | _ => exact no h
/-- what range's arguments tell -/
theorem rngL_ok {ds : List PD} {is : List PD} (h : rngL ds = some is) (hl : ds.length = 1 ∨ ds.length = 2) : ∃ a b : Int, (ds = [.int b] ∧ a = 0 ∨ ds = [.int a, .int b]) ∧ (-(LIM : Int) ≤ a ∧ a ≤ LIM) ∧ (-(LIM : Int) ≤ b ∧ b ≤ LIM) ∧ is = (List.range (b - a).toNat).map fun i => .int (a + (i : Nat)) := by
  match ds, h, hl with
  | [d], h, _ =>
    cases d with
    | int n =>
      unfold rngL at h
      by_cases hn : -(LIM : Int) ≤ n ∧ n ≤ LIM
      · simp only [hn, and_self, if_true, Option.some.injEq] at h
        refine ⟨0, n, .inl ⟨rfl, rfl⟩, by unfold LIM; omega, hn, ?_⟩
        rw [← h, Int.sub_zero]
      · simp only [hn, if_false] at h
        cases h
    | _ => cases h
  | [d, d2], h, _ =>
    cases d with
    | int n =>
      cases d2 with
      | int m =>
        unfold rngL at h
        by_cases hn : (-(LIM : Int) ≤ n ∧ n ≤ LIM) ∧ (-(LIM : Int) ≤ m ∧ m ≤ LIM)
        · simp only [hn, and_self, if_true, Option.some.injEq] at h
          exact ⟨n, m, .inr rfl, hn.1, hn.2, h.symm⟩
        · simp only [hn, if_false] at h
          cases h
      | _ => cases h
    | _ => cases h
  | [], _, hl => simp at hl
  | _ :: _ :: _ :: _, _, hl => simp at hl
theorem rg_ok {a b : Int} (h1 : -(LIM : Int) ≤ a ∧ a ≤ LIM) (h2 : -(LIM : Int) ≤ b ∧ b ≤ LIM) : RgOk a b := by
  unfold LIM at h1 h2
  exact ⟨by omega, by omega, by omega, by omega, by omega⟩
theorem rg_rp {K : PySem.W.Frag} {H : Hp} (a b : Int) : RpA K H (rgV a b) ((List.range (b - a).toNat).map fun i => .int (a + (i : Nat))) := by
  unfold rgV
  generalize (b - a).toNat = n
  have : ∀ l : List Nat, RpA K H (l.map fun i => V.int (a + (i : Nat))) (l.map fun i => .int (a + (i : Nat))) := fun l => by
    induction l with
    | nil => exact .nil
    | cons x r ih => exact .cons (.int _) ih
  exact this _
/-- the ends of a range, read as arguments -/
def tRg (t : TA) : L2.St → Hp → (Int → Int → Hp → Prop) → Prop := fun σ H Q => t σ H fun vs H1 => ∃ a b : Int, (vs = [.int b] ∧ a = 0 ∨ vs = [.int a, .int b]) ∧ Q a b H1
theorem prg_any {X : Cx} {es : List Expr} {t : TA} {p pos : Pos} (hg : Gl X "range") (hm : X.mg "range" = none) (ha : PA X es t) (hl : es.length = 1 ∨ es.length = 2) (hst : es.all nostar = true) : PRg X (.Call (.Name "range" p) es [] pos) (tRg t) := by
  intro pins s σ H Q I h
  match es, hl, hst, ha with
  | [e1], _, hst, ha =>
    rw [List.all_cons, Bool.and_eq_true] at hst
    refine Call_ (ld_blt I hg hm boot_range (PyProof.Rows.callWith_type1 (thn (ha.run pos pins s σ H _ I h) fun us s1 ⟨vs, H1, I1, r1, a, b, hv, q⟩ => ?_) (star_ok hst.1 _ _) rfl))
    rcases hv with ⟨rfl, rfl⟩ | rfl
    · cases r1 with
      | cons r rr =>
        cases rr
        obtain ⟨t, rfl⟩ := r
        exact call_range_1 ⟨_, 0, b, _, _, _, H1, rfl, IsRange.new _ _ _ _ _ _ _, I1.kept fun c u e => Heap.get?_push_of_some _ e, q⟩
    · cases r1 with
      | cons r rr =>
        cases rr with
        | cons r' rr =>
          cases rr
          obtain ⟨t, rfl⟩ := r
          obtain ⟨t', rfl⟩ := r'
          exact call_range_2 ⟨_, a, b, _, _, _, H1, rfl, IsRange.new _ _ _ _ _ _ _, I1.kept fun c u e => Heap.get?_push_of_some _ e, q⟩
  | [e1, e2], _, hst, ha =>
    rw [List.all_cons, Bool.and_eq_true, List.all_cons, Bool.and_eq_true] at hst
    refine Call_ (ld_blt I hg hm boot_range (PyProof.Rows.callWith_type1 (thn (ha.run pos pins s σ H _ I h) fun us s1 ⟨vs, H1, I1, r1, a, b, hv, q⟩ => ?_) (star_ok hst.1 _ _) (by
      rw [star_ok hst.2.1]
      rfl)))
    rcases hv with ⟨rfl, rfl⟩ | rfl
    · cases r1 with
      | cons r rr =>
        cases rr
        obtain ⟨t, rfl⟩ := r
        exact call_range_1 ⟨_, 0, b, _, _, _, H1, rfl, IsRange.new _ _ _ _ _ _ _, I1.kept fun c u e => Heap.get?_push_of_some _ e, q⟩
    · cases r1 with
      | cons r rr =>
        cases rr with
        | cons r' rr =>
          cases rr
          obtain ⟨t, rfl⟩ := r
          obtain ⟨t', rfl⟩ := r'
          exact call_range_2 ⟨_, a, b, _, _, _, H1, rfl, IsRange.new _ _ _ _ _ _ _, I1.kept fun c u e => Heap.get?_push_of_some _ e, q⟩
theorem snd_trng {f : Bt} {as : Es} (ha : SndA S as) : SndE S (.trng f as) := by
  intro sc Ex F hF ex h
  cases ex with
  | Call g es0 kw p =>
    obtain ⟨x, px, y, py, es, p2, rfl, rfl, rfl⟩ : ∃ x px y py es p2, g = .Name x px ∧ es0 = [.Call (.Name y py) es [] p2] ∧ kw = [] := by
      cases g with
      | Name x px =>
        cases es0 with
        | nil => exact no h
        | cons c es0 =>
          cases c with
          | Call g2 es k2 p2 =>
            cases g2 with
            | Name y py =>
              cases k2 with
              | cons _ _ => cases es0 <;> exact no h
              | nil =>
                cases es0 with
                | cons _ _ => exact no h
                | nil =>
                  cases kw with
                  | cons _ _ => exact no h
                  | nil => exact ⟨_, _, _, _, _, _, rfl, rfl, rfl⟩
            | _ => exact no h
          | _ => exact no h
      | _ => exact no h
    have h' : ((decide (f = .tuple) || decide (f = .list)) && decide (x = bltNm f) && glB sc x && decide (y = ("range" : Str)) && glB sc y && (decide (lenEs as = 1) || decide (lenEs as = 2)) && isEs S.tb sc as es) = true := h
    simp only [Bool.and_eq_true, Bool.or_eq_true, decide_eq_true_eq] at h'
    obtain ⟨⟨⟨⟨⟨⟨h1, rfl⟩, h3⟩, rfl⟩, h5⟩, h6⟩, h7⟩ := h'
    obtain ⟨t, pa, g⟩ := ha sc Ex F hF es h7
    obtain ⟨hst, hln⟩ := isEs_star h7
    have hgo : ∀ {X : Cx}, F X → PRg X (.Call (.Name "range" py) es [] p2) (tRg t) := fun {X} hX => prg_any ((hF X hX).gl h5) ((hF X hX).nob (by decide)) (pa X hX) (by rw [hln]; exact h6) hst
    have run : ∀ {H0 B σ H Hf ρ ds ρ1 is} {Q : Int → Int → Hp → Prop}, BOk B → Rel S.K H0 B σ H Hf ρ → evalEs S.cs as ρ = some (.ok ds ρ1) → rngL ds = some is →
        (∀ a b H1 Hf1, Step S.K H0 B σ (mutsEs as) ρ H Hf ρ1 H1 Hf1 → RgOk a b → is = (List.range (b - a).toNat).map (fun i => .int (a + (i : Nat))) → Q a b H1) → tRg t σ H Q := fun {H0 B σ H Hf ρ ds ρ1 is Q} hB R e1 e2 q => by
      obtain ⟨a, b, hd, h1, h2, rfl⟩ := rngL_ok e2 (by rw [evalEs_len e1]; exact h6)
      refine g.run hB R e1 fun vs H1 Hf1 S1 rp => ⟨a, b, ?_, q a b H1 Hf1 S1 (rg_ok h1 h2) rfl⟩
      rcases hd with ⟨rfl, rfl⟩ | rfl
      · obtain ⟨v, rfl, rv⟩ := rp.one
        exact .inl ⟨by rw [rv.int_inv], rfl⟩
      · obtain ⟨v, w, rfl, rv, rw'⟩ := rp.two
        exact .inr (by rw [rv.int_inv, rw'.int_inv])
    rcases h1 with rfl | rfl
    · refine ⟨tTupRg (tRg t), fun X hX => pe_tupRg (hF X hX).calm ((hF X hX).gl h3) ((hF X hX).nob (by decide)) (hgo hX), ?_⟩
      refine GoodE.of fun H0 B σ H Hf ρ hB R r hr => ?_
      unfold evalE at hr
      rcases bindA_ok hr with ⟨x, e1, rfl⟩ | ⟨ds, ρ1, e1, hr⟩
      · exact fun Q q => g.exc hB R e1 q
      · cases e2 : rngL ds with
        | none => simp [e2] at hr
        | some is =>
          simp only [e2, bltV, outE, Option.some.injEq] at hr
          subst hr
          refine fun Q q => run hB R e1 e2 fun a b H1 Hf1 S1 ok e => ⟨ok, fun p n => ?_⟩
          rw [e] at q
          exact q _ _ (PostE.ofV S1 (PostV.newT S1.rel.ext n (rg_rp a b)) sub_id)
    · refine ⟨tLstRg (tRg t), fun X hX => pe_listRg (hF X hX).calm ((hF X hX).gl h3) ((hF X hX).nob (by decide)) (hgo hX), ?_⟩
      refine GoodE.of fun H0 B σ H Hf ρ hB R r hr => ?_
      unfold evalE at hr
      rcases bindA_ok hr with ⟨x, e1, rfl⟩ | ⟨ds, ρ1, e1, hr⟩
      · exact fun Q q => g.exc hB R e1 q
      · cases e2 : rngL ds with
        | none => simp [e2] at hr
        | some is =>
          simp only [e2, bltV, outE, Option.some.injEq] at hr
          subst hr
          refine fun Q q => run hB R e1 e2 fun a b H1 Hf1 S1 ok e => ⟨ok, fun p n => ?_⟩
          rw [e] at q
          exact q _ _ (PostE.ofV S1 (PostV.newL S1.rel.ext n (rg_rp a b)) sub_id)
  | _ => exact no h
/-- a if t else b as a test -/
theorem wIte {c a b : E} (hc : SndT S c) (ha : SndT S a) (hb : SndT S b) : SndW S (.ite c a b) := fun sc Ex F hF ex h => by
  cases ex with
  | IfExp t x y p =>
    have h' : (isE S.tb sc c t && isE S.tb sc a x && isE S.tb sc b y) = true := h
    simp only [Bool.and_eq_true] at h'
    obtain ⟨⟨h1, h2⟩, h3⟩ := h'
    obtain ⟨tc, pc, gc⟩ := hc sc Ex F hF t h1
    obtain ⟨ta, pa, ga⟩ := ha sc Ex F hF x h2
    obtain ⟨tb, pb, gb⟩ := hb sc Ex F hF y h3
    refine .inr ⟨fun σ H Q => tc σ H fun k H1 => if k = true then ta σ H1 Q else tb σ H1 Q, fun X hX => ⟨⟨fun pins s σ H Q I hw => ?_⟩, fun z => no z⟩, ?_⟩
    · refine isTrue_IfExp (thn ((pc X hX).run pins s σ H _ I hw) fun k s1 ⟨H1, I1, q1⟩ => ?_)
      cases k with
      | true => exact (pa X hX).run pins s1 σ H1 Q I1 q1
      | false => exact (pb X hX).run pins s1 σ H1 Q I1 q1
    · intro H0 B σ H Hf ρ hB R
      unfold evalE
      cases e1 : evalE S.cs c ρ with
      | none => trivial
      | some r1 =>
        cases r1 with
        | ex x => exact fun Q q => gc.exc hB R e1 q
        | ok d fr ρ1 =>
          simp only [EO.bind]
          cases d with
          | bool k =>
            cases k with
            | true =>
              simp only [boolE, if_true]
              cases e2 : evalE S.cs a ρ1 with
              | none => trivial
              | some r2 =>
                cases r2 with
                | ex x => exact fun Q q => gc.run hB R e1 fun H1 Hf1 S1 => iteT (ga.exc hB S1.rel e2 q)
                | ok d2 fr2 ρ2 =>
                  simp only [retE]
                  cases d2 with
                  | bool j => exact fun Q q => gc.run hB R e1 fun H1 Hf1 S1 => iteT (ga.run hB S1.rel e2 fun H2 Hf2 S2 => q H2 Hf2 (S1.trans S2 sub_l fun i hi => sub_r i (sub_l i hi)))
                  | _ => trivial
            | false =>
              simp only [boolE, Bool.false_eq_true, if_false]
              cases e2 : evalE S.cs b ρ1 with
              | none => trivial
              | some r2 =>
                cases r2 with
                | ex x => exact fun Q q => gc.run hB R e1 fun H1 Hf1 S1 => iteF (gb.exc hB S1.rel e2 q)
                | ok d2 fr2 ρ2 =>
                  simp only [retE]
                  cases d2 with
                  | bool j => exact fun Q q => gc.run hB R e1 fun H1 Hf1 S1 => iteF (gb.run hB S1.rel e2 fun H2 Hf2 S2 => q H2 Hf2 (S1.trans S2 sub_l fun i hi => sub_r i (sub_r i hi)))
                  | _ => trivial
          | _ => trivial
  | _ => exact no h
end DD

-- part DStm
set_option Elab.async false
set_option linter.all false
set_option maxRecDepth 100000
set_option maxHeartbeats 2000000
/-! Statements: the match of texts. -/
namespace DD
open PySem PySem.Spec PyProof.Rows L2

/-- whether a, b = x, y stores from the right (its names): by the block's names alone -/
def swP (sc : Scope) (ts vs : List Expr) : Option (Option (List Str)) :=
  if (!(ts.length == 2 || ts.length == 3) || vs.length != ts.length || (if sc.kind.isAnnotationScope then ScopeKind.function else sc.kind) != .function) = true then some none else
  if (vs.any fun | .Starred .. => true | _ => false) = true then some none else
  let line := (ts.head?.map (·.pos.line)).getD 0
  let names := ts.filterMap fun
    | .Name id pos => if sc.names.lookup id == some .local && pos.line == line then some id else none
    | _ => none
  if (names.length != ts.length || names.eraseDups.length != names.length) = true then some none else
  if (vs.all (foldedForSure 8)) = true then some none else
  if (vs.all (constantsAlone 8)) = true then none else some (some names)
theorem five {c1 c2 c3 c4 c5 : Prop} [Decidable c1] [Decidable c2] [Decidable c3] [Decidable c4] [Decidable c5] {N : List Str} {U : Sem (Option (List Str))} {r : Option (List Str)}
    (h : (if c1 then some none else if c2 then some none else if c3 then some none else if c4 then some none else if c5 then none else some (some N)) = some r) :
    (if c1 then pure none else if c2 then pure none else if c3 then pure none else if c4 then pure none else if c5 then U else pure (some N)) = (pure r : Sem (Option (List Str))) := by
  by_cases h1 : c1
  · rw [if_pos h1] at h ⊢
    cases h
    rfl
  rw [if_neg h1] at h ⊢
  by_cases h2 : c2
  · rw [if_pos h2] at h ⊢
    cases h
    rfl
  rw [if_neg h2] at h ⊢
  by_cases h3 : c3
  · rw [if_pos h3] at h ⊢
    cases h
    rfl
  rw [if_neg h3] at h ⊢
  by_cases h4 : c4
  · rw [if_pos h4] at h ⊢
    cases h
    rfl
  rw [if_neg h4] at h ⊢
  by_cases h5 : c5
  · rw [if_pos h5] at h
    cases h
  rw [if_neg h5] at h ⊢
  cases h
  rfl
theorem swP_is {sc : Scope} {ts vs : List Expr} {env : PySem.Env} {k k2 : Nat} {p p2 : Pos} {r : Option (List Str)} (he : env.scope = sc) (h : swP sc ts vs = some r) : swappedStores [.Tuple ts k p] (.Tuple vs k2 p2) env = pure r := by
  subst he
  unfold swP at h
  unfold swappedStores Env.kindOf Env.blockKind
  dsimp only at h ⊢
  exact five h
/-- stored as a name of the block -/
def storeB (tb : Tb) (sc : Scope) (i : Nat) (x : Str) : Bool := decide (tb.N[i]? = some x) && locB sc x
def storesB (tb : Tb) (sc : Scope) : List Nat → List Expr → Bool
  | [], [] => true
  | i :: is, .Name x _ :: es => storeB tb sc i x && storesB tb sc is es
  | _, _ => false
def storeT (tb : Tb) (sc : Scope) : Tg → Expr → Bool
  | .nm i, .Name x _ => storeB tb sc i x
  | .tp is, .Tuple es _ _ => storesB tb sc is es
  | _, _ => false
def isLcE : E → Bool
  | .lc _ _ _ _ => true
  | _ => false
/-- name = [..]: the store stands within the block's end -/
def lcSw (sc : Scope) (x : Str) (px : Pos) : Expr → Bool
  | .ListComp _ _ cs cp => lcB sc x && (px.line == cp.line) && !(cs.names.any fun (n, k) => n == x && (k == .local || k == .cell))
  | _ => false
def cellB (sc : Scope) (x : Str) : Bool := match sc.names.lookup x with
  | some .cell => true
  | _ => false
def isTupE : Expr → Bool
  | .Tuple _ _ _ => true
  | _ => false
def isListE : Expr → Bool
  | .List _ _ => true
  | _ => false
def augB : Operator → Bool
  | .Add => true
  | .Sub => true
  | .Mult => true
  | _ => false
def nmLc (sc : Scope) : Expr → Bool
  | .Name x _ => lcB sc x
  | _ => false
mutual
def isS (tb : Tb) (sc : Scope) : S → Stmt → Bool
  | .set i e, .Assign [.Name x px] ex _ => storeB tb sc i x && isE tb sc e ex && (nocomp ex || cellB sc x || (isLcE e && lcSw sc x px ex))
  | .par is es, .Assign [.Tuple ts _ _] (.Tuple vs _ _) _ => storesB tb sc is ts && decide is.Nodup && decide (vs.length = is.length) && decide (is.length ≤ 8) && isEs tb sc es vs && (decide (swP sc ts vs = some none) || (decide (swP sc ts vs = some (some (is.filterMap fun i => tb.N[i]?))) && (decide (is.length = 2) || decide (is.length = 3)) && ts.all (nmLc sc)))
  | .unp is e, .Assign [.Tuple ts _ _] ex _ => storesB tb sc is ts && !isTupE ex && isE tb sc e ex
  | .stx v i e, .Assign [.Subscript (.Name x _) ix _] ex _ => slotB tb sc v x && noslice ix && isE tb sc e ex && isE tb sc i ix
  | .aug i op e, .AugAssign (.Name x _) o ex _ => storeB tb sc i x && decide (op = o) && augB op && isE tb sc e ex
  | .app v e, .Expr (.Call (.Attribute (.Name x _) m ap) [ex] [] cp) _ => slotB tb sc v x && decide (m = ("append" : Str)) && (ap.endLine == cp.line) && nostar ex && isE tb sc e ex
  | .exp e, .Expr ex _ => nocomp ex && isE tb sc e ex
  | .ret e, .Return (some ex) _ => isE tb sc e ex
  | .ret0, .Return none _ => true
  | .ite c a b, .If t x y _ => isE tb sc c t && isSs tb sc a x && isSs tb sc b y
  | .fr tg it b, .For t i body [] _ => storeT tb sc tg t && noset i && (hidI it).isEmpty && isI tb sc it i t && isSs tb sc b body
  | .whl c b, .While t body [] _ => isE tb sc c t && isSs tb sc b body
  | .rai x, .Raise (some (.Call (.Name y _) [.Constant (.str _) _ _] [] _)) none _ => decide (x = y) && decide (x ∈ tb.exn) && glB sc y && nmOk y
  | .pas, .Pass _ => true
  | .brk, .Break _ => true
  | .cnt, .Continue _ => true
  | _, _ => false
def isSs (tb : Tb) (sc : Scope) : Ss → List Stmt → Bool
  | .nil, [] => true
  | .cons s ss, st :: sts => isS tb sc s st && isSs tb sc ss sts
  | _, _ => false
end

/-! ### what is said of a statement -/
section
variable {K : PySem.W.Frag} {mg : Str → Option Value} {cs : List FSem} {Ex : XK} {H0 : Hp} {B : Bor} {σ σ' : L2.St} {ms ms1 ms2 : List Nat} {ρ ρ' ρ1 ρ2 : Env} {H Hf H1 Hf1 H2 Hf2 H' Hf' : Hp} {d : PD} {fr : Bool} {v : V} {i : Nat} {c : Cell}
structure PostS (K : PySem.W.Frag) (H0 : Hp) (B : Bor) (Hf : Hp) (ρ' : Env) (σ' : L2.St) (H' Hf' : Hp) : Prop where
  ext : Same Hf Hf'
  rel : Rel K H0 B σ' H' Hf' ρ'
  gr : ∀ b u, H0 b = some u → Hf' b = Hf b
theorem PostS.refl (R : Rel K H0 B σ H Hf ρ) : PostS K H0 B Hf ρ σ H Hf := ⟨fun _ _ h => h, R, fun _ _ _ => rfl⟩
theorem PostS.trans (a : PostS K H0 B Hf ρ1 σ H1 Hf1) (b : PostS K H0 B Hf1 ρ2 σ' H2 Hf2) : PostS K H0 B Hf ρ2 σ' H2 Hf2 := ⟨Same.trans a.ext b.ext, b.rel, fun x u h => (b.gr x u h).trans (a.gr x u h)⟩
theorem PostS.ofStep (R : Rel K H0 B σ H Hf ρ) (S : Step K H0 B σ ms ρ H Hf ρ1 H1 Hf1) : PostS K H0 B Hf ρ1 σ H1 Hf1 := by
  refine ⟨S.ext, S.rel, fun b u h => ?_⟩
  by_cases hb : ∃ i, (i, b) ∈ B
  · obtain ⟨i, hi⟩ := hb
    obtain ⟨e1, x, g1⟩ := R.bor i b hi
    obtain ⟨e2, y, g2⟩ := S.rel.bor i b hi
    obtain ⟨a1, q1, n1, _⟩ := R.own g1 rfl
    obtain ⟨a2, q2, n2, _⟩ := S.rel.own g2 rfl
    rw [e1] at q1 q2
    cases q1
    cases q2
    rw [n1, n2]
  · refine S.gr b u (R.ent b u h fun i hi => hb ⟨i, hi⟩) fun ⟨j, c, hc, m, e⟩ => ?_
    obtain ⟨a, q, _, _, _, hh⟩ := R.own hc m
    rw [e] at q
    cases q
    rcases hh with hh | hh
    · rw [h] at hh
      cases hh
    · exact hb ⟨j, hh⟩
/-- a value that leaves -/
def RetOk (K : PySem.W.Frag) (H0 : Hp) (H' Hf' : Hp) (v : V) (d : PD) (fr : Bool) : Prop := if fr = true then Own K H' Hf' v d ∧ ∀ a, v = .ref a → H0 a = none else Rp K Hf' v d
def EndOk (K : PySem.W.Frag) (mg : Str → Option Value) (H0 : Hp) (B : Bor) (Hf : Hp) (Ex : XK) (D : Ends) : SO → Prop
  | .nx ρ' => ∀ σ' H' Hf', PostS K H0 B Hf ρ' σ' H' Hf' → D.nx σ' H'
  | .ct ρ' => ∀ σ' H' Hf', PostS K H0 B Hf ρ' σ' H' Hf' → D.ct σ' H'
  | .bk ρ' => ∀ σ' H' Hf', PostS K H0 B Hf ρ' σ' H' Hf' → D.bk σ' H'
  | .rt d fr ρ' => ∀ v σ' H' Hf', PostS K H0 B Hf ρ' σ' H' Hf' → RetOk K H0 H' Hf' v d fr → D.rt v H'
  | .ex x => ExW mg H0 B Ex x
theorem EndOk.after {D : Ends} {o : SO} (p : PostS K H0 B Hf ρ σ H1 Hf1) (h : EndOk K mg H0 B Hf Ex D o) : EndOk K mg H0 B Hf1 Ex D o := by
  cases o with
  | nx ρ' => exact fun σ' H' Hf' q => h σ' H' Hf' (p.trans q)
  | ct ρ' => exact fun σ' H' Hf' q => h σ' H' Hf' (p.trans q)
  | bk ρ' => exact fun σ' H' Hf' q => h σ' H' Hf' (p.trans q)
  | rt d fr ρ' => exact fun v σ' H' Hf' q r => h v σ' H' Hf' (p.trans q) r
  | ex x => exact h
def GoodS (K : PySem.W.Frag) (mg : Str → Option Value) (cs : List FSem) (Ex : XK) (s : S) (t : TS) : Prop := ∀ H0 B σ H Hf ρ, BOk B → Rel K H0 B σ H Hf ρ → ∀ o, evalS cs s ρ = some o → ∀ D : Ends, EndOk K mg H0 B Hf Ex D o → t D σ H
def GoodSs (K : PySem.W.Frag) (mg : Str → Option Value) (cs : List FSem) (Ex : XK) (s : Ss) (t : TS) : Prop := ∀ H0 B σ H Hf ρ, BOk B → Rel K H0 B σ H Hf ρ → ∀ o, evalSs cs s ρ = some o → ∀ D : Ends, EndOk K mg H0 B Hf Ex D o → t D σ H
theorem bindS_ok {r0 : Option EO} {k : PD → Bool → Env → Option SO} {r : SO} (h : EO.binS r0 k = some r) : (∃ x, r0 = some (.ex x) ∧ r = .ex x) ∨ ∃ d fr ρ1, r0 = some (.ok d fr ρ1) ∧ k d fr ρ1 = some r := by
  cases r0 with
  | none => cases h
  | some r0 =>
    cases r0 with
    | ex x =>
      cases h
      exact .inl ⟨x, rfl, rfl⟩
    | ok d fr ρ1 => exact .inr ⟨d, fr, ρ1, rfl, h⟩
theorem bindAS_ok {r0 : Option AO} {k : List PD → Env → Option SO} {r : SO} (h : AO.binS r0 k = some r) : (∃ x, r0 = some (.ex x) ∧ r = .ex x) ∨ ∃ d ρ1, r0 = some (.ok d ρ1) ∧ k d ρ1 = some r := by
  cases r0 with
  | none => cases h
  | some r0 =>
    cases r0 with
    | ex x =>
      cases h
      exact .inl ⟨x, rfl, rfl⟩
    | ok d ρ1 => exact .inr ⟨d, ρ1, rfl, h⟩
theorem nxO_ok {r0 : Option Env} {r : SO} (h : nxO r0 = some r) : ∃ ρ', r0 = some ρ' ∧ r = .nx ρ' := by
  cases r0 with
  | none => cases h
  | some ρ' =>
    cases h
    exact ⟨ρ', rfl, rfl⟩
end
structure SCx (S : Setg) (sc : Scope) (Ex : XK) (X : Cx) : Prop where
  c : S.ctx sc Ex X
  fnc : ∀ x, sc.names.lookup x = some .cell → X.fn x = true
  kd : sc.kind = .function
  own : PassesOwn (model X.prog X.w) X.A X.env X.xe
  rai : ∀ x, x ∈ S.tb.exn → ∃ Ca, S.mg x = some (.ref Ca) ∧ ∀ (m : Str) (j : Nat) (p p2 pos : Pos), Gl X x → nmOk x = true → PMk X (.Call (.Name x p) [.Constant (.str m) j p2] [] pos) (fun _ H Q => Q (.ref Ca) none H)
  tk : Takes X (fun cls d _ H => Ex cls d H)
def SndS (S : Setg) (s : DD.S) : Prop := ∀ (sc : Scope) (Ex : XK) (F : Fam), (∀ X, F X → SCx S sc Ex X) → ∀ st, isS S.tb sc s st = true → ∃ t : TS, (∀ X, F X → PS X st t) ∧ GoodS S.K S.mg S.cs Ex s t
def SndSs (S : Setg) (s : Ss) : Prop := ∀ (sc : Scope) (Ex : XK) (F : Fam), (∀ X, F X → SCx S sc Ex X) → ∀ sts, isSs S.tb sc s sts = true → ∃ t : TS, (∀ X, F X → PSs X sts t) ∧ GoodSs S.K S.mg S.cs Ex s t
end DD

-- part DStm2
set_option Elab.async false
set_option linter.all false
set_option maxRecDepth 100000
set_option maxHeartbeats 2000000
/-! Statements: soundness, one by one. -/
namespace DD
open PySem PySem.Spec PyProof.Rows L2
variable {S : Setg}
theorem storeOk {sc : Scope} {Ex : XK} {X : Cx} (C : SCx S sc Ex X) {i : Nat} {x : Str} (h : storeB S.tb sc i x = true) : X.N[i]? = some x ∧ Loc X.env.scope x ∧ (X.fn x = true ∨ X.env.scope.names.lookup x = some .local) := by
  unfold storeB locB at h
  simp only [Bool.and_eq_true, decide_eq_true_eq] at h
  obtain ⟨h1, h2⟩ := h
  rw [C.c.hN]
  unfold L2.Loc
  rw [C.c.hsc]
  split at h2
  · rename_i e
    exact ⟨h1, .inl e, .inr e⟩
  · rename_i e
    exact ⟨h1, .inr e, .inl (C.fnc x e)⟩
  · cases h2
theorem pgD {sc : Scope} {Ex : XK} {X : Cx} (C : SCx S sc Ex X) {i : Nat} {x : Str} {pos : Pos} (h : storeB S.tb sc i x = true) : PG X (.Name x pos) (gName i) := by
  obtain ⟨h1, h2, h3⟩ := storeOk C h
  exact pg_name C.c.nd h1 h2 h3
theorem pgsD {sc : Scope} {Ex : XK} {X : Cx} (C : SCx S sc Ex X) : ∀ {is : List Nat} {ts : List Expr}, storesB S.tb sc is ts = true → PGs X ts (gNs is) ∧ (assignEach ts X.env).length = is.length ∧ (assignEach ts X.env).findIdx? (·.1) = none
  | [], [], _ => ⟨pgs_nil, rfl, rfl⟩
  | [], _ :: _, h => no h
  | _ :: _, [], h => no h
  | i :: is, e :: es, h => by
    cases e with
    | Name x p =>
      have h' : (storeB S.tb sc i x && storesB S.tb sc is es) = true := h
      rw [Bool.and_eq_true] at h'
      obtain ⟨p1, p2, p3⟩ := pgsD C h'.2
      refine ⟨pgs_cons (pgD C h'.1) p1, ?_, ?_⟩
      · show (assignEach es X.env).length + 1 = is.length + 1
        rw [p2]
      · show ((false, assign (.Name x p) X.env) :: assignEach es X.env).findIdx? (·.1) = none
        rw [List.findIdx?_cons, p3]
        rfl
    | _ => exact no h
theorem pgtD {sc : Scope} {Ex : XK} {X : Cx} (C : SCx S sc Ex X) {tg : Tg} {t : Expr} (h : storeT S.tb sc tg t = true) : PG X t (gTg S.K tg) := by
  cases tg with
  | nm i =>
    cases t with
    | Name x p => exact pgD C h
    | _ => exact no h
  | tp is =>
    cases t with
    | Tuple es k p =>
      obtain ⟨p1, p2, p3⟩ := pgsD C (show storesB S.tb sc is es = true from h)
      have := pg_tup (pos := p) (k := k) C.c.calm p1 p2 p3
      rw [C.c.hK] at this
      exact this
    | _ => exact no h
theorem good_set {K : PySem.W.Frag} {mg : Str → Option Value} {cs : List FSem} {Ex : XK} {i : Nat} {e : E} {t : TE} (g : GoodE K mg cs Ex e t) : GoodS K mg cs Ex (.set i e) (tAsg t (gName i)) := by
  intro H0 B σ H Hf ρ hB R o ho D hD
  unfold evalS at ho
  rcases bindS_ok ho with ⟨x, e1, rfl⟩ | ⟨d, fr, ρ1, e1, ho⟩
  · exact g.exc hB R e1 hD
  · obtain ⟨ρ', e2, rfl⟩ := nxO_ok ho
    refine g.full hB R e1 fun v H1 ⟨Hf1, S1, rs, nw⟩ => ?_
    exact hD _ H1 Hf1 ((PostS.ofStep R S1).trans (PostS.refl (S1.rel.put e2 rs)))
theorem swCell {sc : Scope} {env : PySem.Env} (hs : env.scope = sc) {ex : Expr} {x : Str} {px : Pos} {l : Nat} (h : nocomp ex = true ∨ cellB sc x = true) : swapsWith ex (some (.Name x px)) l env = pure false := by
  rcases h with h | h
  · exact swap_ok h _ _ _
  · have hk : (env.kindOf x == some .local) = false := by
      unfold cellB at h
      unfold Env.kindOf
      rw [hs]
      split at h
      · rename_i e
        rw [e]
        rfl
      · cases h
    cases hn : nocomp ex with
    | true => exact swap_ok hn _ _ _
    | false =>
      cases ex <;> first
        | (show (pure (_ && (env.kindOf x == some .local) && _ && _) : Sem Bool) = pure false
           rw [hk, Bool.and_false, Bool.false_and, Bool.false_and])
        | (simp [nocomp] at hn)
theorem snd_set {i : Nat} {e : E} (he : SndE S e) (hl : ∀ elt tg it cond, e = .lc elt tg it cond → SndL S elt tg it cond) : SndS S (.set i e) := by
  intro sc Ex F hF st h
  cases st with
  | Assign ts ex pos =>
    obtain ⟨x, px, rfl⟩ : ∃ x px, ts = [.Name x px] := by
      cases ts with
      | nil => exact no h
      | cons t ts =>
        cases ts with
        | cons _ _ => cases t <;> exact no h
        | nil =>
          cases t with
          | Name x px => exact ⟨x, px, rfl⟩
          | _ => exact no h
    · have h' : (storeB S.tb sc i x && isE S.tb sc e ex && (nocomp ex || cellB sc x || (isLcE e && lcSw sc x px ex))) = true := h
      simp only [Bool.and_eq_true, Bool.or_eq_true] at h'
      obtain ⟨⟨h1, h2⟩, h3⟩ := h'
      rcases h3 with h3 | ⟨h3, h4⟩
      · obtain ⟨t, p, g⟩ := he sc Ex F (fun X hX => (hF X hX).c) ex h2
        refine ⟨tAsg t (gName i), fun X hX => ?_, good_set g⟩
        have C := hF X hX
        obtain ⟨q1, q2, q3⟩ := storeOk C h1
        exact ps_set C.c.nd q1 q2 (p X hX) (swCell C.c.hsc h3) q3
      · cases e with
        | lc elt tg it cond =>
          obtain ⟨t, p, g⟩ := hl _ _ _ _ rfl sc Ex F (fun X hX => (hF X hX).c) ex h2
          refine ⟨tAsg t (gName i), fun X hX => ?_, good_set g⟩
          have C := hF X hX
          cases ex with
          | ListComp el gs cs cp =>
            have h5 : (lcB sc x && (px.line == cp.line) && !(cs.names.any fun (n, k) => n == x && (k == .local || k == .cell))) = true := h4
            simp only [Bool.and_eq_true, Bool.not_eq_true'] at h5
            obtain ⟨⟨h6, h7⟩, h8⟩ := h5
            have hx : X.env.scope.names.lookup x = some .local := by
              unfold lcB at h6
              rw [C.c.hsc]
              split at h6
              · assumption
              · cases h6
            exact (p X hX).2 x px pos i (storeOk C h1).1 hx (sw_true (by rw [C.c.hsc]; exact C.kd) hx h7 h8)
          | _ => exact no h4
        | _ => exact no h3
  | _ => exact no h
theorem snd_unp {is : List Nat} {e : E} (he : SndE S e) : SndS S (.unp is e) := by
  intro sc Ex F hF st h
  cases st with
  | Assign ts ex pos =>
    obtain ⟨us, k, p, rfl⟩ : ∃ us k p, ts = [.Tuple us k p] := by
      cases ts with
      | nil => exact no h
      | cons t ts =>
        cases ts with
        | cons _ _ => cases t <;> exact no h
        | nil =>
          cases t with
          | Tuple us k p => exact ⟨us, k, p, rfl⟩
          | _ => exact no h
    · have h' : (storesB S.tb sc is us && !isTupE ex && isE S.tb sc e ex) = true := h
      simp only [Bool.and_eq_true, Bool.not_eq_true'] at h'
      obtain ⟨⟨h1, h2⟩, h3⟩ := h'
      obtain ⟨t, pe, g⟩ := he sc Ex F (fun X hX => (hF X hX).c) ex h3
      refine ⟨tAsg t (gTg S.K (.tp is)), fun X hX => ?_, ?_⟩
      · have C := hF X hX
        refine ps_asg (pe X hX) (pgtD C (tg := .tp is) h1) ?_ ?_ rfl
        · show swapsWith ex (some (.Tuple us k p)) pos.line X.env = pure false
          cases ex <;> rfl
        · cases ex <;> first | rfl | (exact Bool.noConfusion h2)
      · intro H0 B σ H Hf ρ hB R o ho D hD
        unfold evalS at ho
        rcases bindS_ok ho with ⟨x, e1, rfl⟩ | ⟨d, fr, ρ1, e1, ho⟩
        · exact g.exc hB R e1 hD
        · cases d with
          | tuple ds =>
            obtain ⟨ρ', e2, rfl⟩ := nxO_ok ho
            refine g.run hB R e1 fun v H1 Hf1 S1 rp => ?_
            exact setT_ok (tg := .tp is) (d := .tuple ds) S1.rel e2 rp D.nx fun σ' R' _ => hD _ H1 Hf1 ((PostS.ofStep R S1).trans (PostS.refl R'))
          | _ => cases ho
  | _ => exact no h
theorem snd_ret {e : E} (he : SndE S e) : SndS S (.ret e) := by
  intro sc Ex F hF st h
  cases st with
  | Return v pos =>
    cases v with
    | none => exact no h
    | some ex =>
      obtain ⟨t, pe, g⟩ := he sc Ex F (fun X hX => (hF X hX).c) ex h
      refine ⟨tRet t, fun X hX => ps_ret (pe X hX), ?_⟩
      intro H0 B σ H Hf ρ hB R o ho D hD
      unfold evalS at ho
      rcases bindS_ok ho with ⟨x, e1, rfl⟩ | ⟨d, fr, ρ1, e1, ho⟩
      · exact g.exc hB R e1 hD
      · cases ho
        refine g.full hB R e1 fun v H1 ⟨Hf1, S1, rs, nw⟩ => hD v σ H1 Hf1 (PostS.ofStep R S1) ?_
        cases fr with
        | false => exact rs
        | true => exact ⟨rs.1, fun a ea => (rs.2 a ea).1⟩
  | _ => exact no h
theorem snd_ret0 : SndS S .ret0 := by
  intro sc Ex F hF st h
  cases st with
  | Return v pos =>
    cases v with
    | some _ => exact no h
    | none =>
      refine ⟨tRetN, fun X hX => ps_retN, ?_⟩
      intro H0 B σ H Hf ρ hB R o ho D hD
      unfold evalS at ho
      cases ho
      exact hD .non σ H Hf (PostS.refl R) Rp.non
  | _ => exact no h
theorem snd_exp {e : E} (he : SndE S e) : SndS S (.exp e) := by
  intro sc Ex F hF st h
  cases st with
  | Expr ex pos =>
    have h' : (nocomp ex && isE S.tb sc e ex) = true := by
      have : isS S.tb sc (.exp e) (.Expr ex pos) = (nocomp ex && isE S.tb sc e ex) := by cases ex <;> rfl
      rw [← this]
      exact h
    rw [Bool.and_eq_true] at h'
    obtain ⟨t, pe, g⟩ := he sc Ex F (fun X hX => (hF X hX).c) ex h'.2
    refine ⟨tDrop t, fun X hX => ps_expr (pe X hX) (swap_ok h'.1 _ _ _), ?_⟩
    intro H0 B σ H Hf ρ hB R o ho D hD
    unfold evalS at ho
    rcases bindS_ok ho with ⟨x, e1, rfl⟩ | ⟨d, fr, ρ1, e1, ho⟩
    · exact g.exc hB R e1 hD
    · cases ho
      exact g.run hB R e1 fun v H1 Hf1 S1 rp => hD σ H1 Hf1 (PostS.ofStep R S1)
  | _ => exact no h
theorem snd_pas : SndS S .pas := by
  intro sc Ex F hF st h
  cases st with
  | Pass pos =>
    refine ⟨tNext, fun X hX => ps_pass, ?_⟩
    intro H0 B σ H Hf ρ hB R o ho D hD
    unfold evalS at ho
    cases ho
    exact hD σ H Hf (PostS.refl R)
  | _ => exact no h
theorem snd_brk : SndS S .brk := by
  intro sc Ex F hF st h
  cases st with
  | Break pos =>
    refine ⟨tBreak, fun X hX => ps_break, ?_⟩
    intro H0 B σ H Hf ρ hB R o ho D hD
    unfold evalS at ho
    cases ho
    exact hD σ H Hf (PostS.refl R)
  | _ => exact no h
theorem snd_cnt : SndS S .cnt := by
  intro sc Ex F hF st h
  cases st with
  | Continue pos =>
    refine ⟨tCont, fun X hX => ps_continue, ?_⟩
    intro H0 B σ H Hf ρ hB R o ho D hD
    unfold evalS at ho
    cases ho
    exact hD σ H Hf (PostS.refl R)
  | _ => exact no h
theorem snd_rai {x : Str} : SndS S (.rai x) := by
  intro sc Ex F hF st h
  cases st with
  | Raise exc cause pos =>
    obtain ⟨y, p, m, j, p2, p3, rfl, rfl⟩ : ∃ y p m j p2 p3, exc = some (.Call (.Name y p) [.Constant (.str m) j p2] [] p3) ∧ cause = none := by
      cases exc with
      | none => exact no h
      | some e =>
        cases e with
        | Call f as ks p3 =>
          cases f with
          | Name y p =>
            cases as with
            | nil => exact no h
            | cons a as =>
              cases a with
              | Constant c j p2 =>
                cases c with
                | str m =>
                  cases as with
                  | cons _ _ => exact no h
                  | nil =>
                    cases ks with
                    | cons _ _ => exact no h
                    | nil =>
                      cases cause with
                      | some _ => exact no h
                      | none => exact ⟨y, p, m, j, p2, p3, rfl, rfl⟩
                | _ => exact no h
              | _ => exact no h
          | _ => exact no h
        | _ => exact no h
    · have h' : (decide (x = y) && decide (x ∈ S.tb.exn) && glB sc y && nmOk y) = true := h
      simp only [Bool.and_eq_true, decide_eq_true_eq] at h'
      obtain ⟨⟨⟨rfl, h1⟩, h2⟩, h3⟩ := h'
      refine ⟨fun _ _ H => ∀ Ca, S.mg x = some (.ref Ca) → Ex (.ref Ca) none H, fun X hX => ?_, ?_⟩
      · have C := hF X hX
        obtain ⟨Ca, e1, pm⟩ := C.rai x h1
        have := ps_raise (pos := pos) C.c.calm C.tk (pm m j p p2 p3 (C.c.gl h2) h3)
        exact ⟨fun pins s σ H D I q => this.run pins s σ H D I (q Ca e1)⟩
      · intro H0 B σ H Hf ρ hB R o ho D hD
        unfold evalS at ho
        cases ho
        exact fun Ca e => hD Ca H e R.ent
  | _ => exact no h
end DD

-- part DStm3
set_option Elab.async false
set_option linter.all false
set_option maxRecDepth 100000
set_option maxHeartbeats 2000000
/-! Statements: stores into lists and dicts, appends, in-place operators. -/
namespace PySem
open Sem (wp)
open AutoSeq1 (wpAny_loadPart')
theorem dd_iadd_tuple (l : Addr) (xs : Array Value) (n : Nat) (b : Addr) (ys : Array Value) (m : Nat) (dct : Option Addr) (sl : Array (Option Value)) (h0 : ¬(!xs.isEmpty && Builtin.List.listTooLong (xs.size + ys.size)) = true) (h1 : xs.size ≤ sizeLine) (h2 : xs.size + ys.size ≤ sizeLine + 1) :
    Meets (Builtin.«list.__iadd__» ⟨[.ref l, .ref b], []⟩) (fun _ R s => s.heap.get? l = some { cls := .type "list", data := .seq xs n } ∧ s.heap.get? b = some { cls := .type "tuple", dict := dct, data := .seq ys m, slots := sl } ∧
      R (.ok (.ret (Value.ref l))) { s with heap := s.heap.update l (Obj.mapSeq fun x => x ++ ys) }) :=
  .of_wp fun prog w A R s h => by
    obtain ⟨hp, g, d, tk, os⟩ := s
    obtain ⟨hl, hb, h⟩ := h
    have f1 := AutoSeq1.idx_int
    have f4 := AutoSeq1.sub_tuple_list
    have f5 := AutoSeq1.sub_list_tuple
    have f2 := AutoSeq1.sub_tuple_tuple
    have f3 := AutoSeq1.sub_list_list
    have hz' : (xs ++ ys).size ≤ sizeLine + 1 := by
      rw [Array.size_append]
      exact h2
    wp_walk using (wpAny_updateSeq hl rfl (hz := h1) (_hz' := hz')), wpAny_loadPart' hl, wpAny_loadPart' hb
    exact ⟨_, rfl, h⟩
theorem dd_iadd_list (l : Addr) (xs : Array Value) (n : Nat) (b : Addr) (ys : Array Value) (m : Nat) (dct : Option Addr) (sl : Array (Option Value)) (h0 : ¬(!xs.isEmpty && Builtin.List.listTooLong (xs.size + ys.size)) = true) (h1 : xs.size ≤ sizeLine) (h2 : xs.size + ys.size ≤ sizeLine + 1) :
    Meets (Builtin.«list.__iadd__» ⟨[.ref l, .ref b], []⟩) (fun _ R s => s.heap.get? l = some { cls := .type "list", data := .seq xs n } ∧ s.heap.get? b = some { cls := .type "list", dict := dct, data := .seq ys m, slots := sl } ∧
      R (.ok (.ret (Value.ref l))) { s with heap := s.heap.update l (Obj.mapSeq fun x => x ++ ys) }) :=
  .of_wp fun prog w A R s h => by
    obtain ⟨hp, g, d, tk, os⟩ := s
    obtain ⟨hl, hb, h⟩ := h
    have f1 := AutoSeq1.idx_int
    have f4 := AutoSeq1.sub_tuple_list
    have f5 := AutoSeq1.sub_list_tuple
    have f2 := AutoSeq1.sub_tuple_tuple
    have f3 := AutoSeq1.sub_list_list
    have hz' : (xs ++ ys).size ≤ sizeLine + 1 := by
      rw [Array.size_append]
      exact h2
    wp_walk using (wpAny_updateSeq hl rfl (hz := h1) (_hz' := hz')), wpAny_loadPart' hl, wpAny_loadPart' hb
    exact ⟨_, rfl, h⟩
section
variable {M : Model} {A : Around} {E : Value → Shared → Prop} {s : Shared} {a b : Value}
theorem dd_b1 {Q : Option Value → Shared → Prop} (ha : s.TypeIs a "list") (hb : s.TypeIs b "tuple") (h : Q none s) : wpAny M A (binaryOp1 "add" a b) Q E s := by
  unfold binaryOp1
  refine wpAny_bind (wpAny_typeOf ha (wpAny_bind (wpAny_typeOf hb (wpAny_bind (wpAny_of_eq noFill_list_add ?_)))))
  have e : (Value.type "list" == Value.type "tuple") = false := by decide
  simp only [e, Bool.false_eq_true, if_false, Bool.false_and, pure_bind]
  refine wpAny_bind (wpAny_of_eq noFill_tuple_add ?_)
  simp only [Bool.false_eq_true, if_false, Bool.false_and, pure_bind]
  exact wpAny_pure h
theorem dd_iadd_road {Q : Value → Shared → Prop} (ha : s.TypeIs a "list") (hb : s.TypeIs b "tuple") (hc : wpAny M A (call (.builtin "list.__iadd__") [a, b]) Q E s) : wpAny M A (inplaceOp .Add a b) Q E s := by
  have z1 : typeLookup (.type "list") (dunderI "add") = pure (some (.builtin "list.__iadd__")) := PySem.F.slot_list_iadd.lookup
  have z2 : isSeqSlot (some (.builtin "list.__iadd__")) = true := by decide +kernel
  have z3 : fillsInplaceSlot (.type "list") "add" (Operator.Add == .Add) = pure false := by
    unfold fillsInplaceSlot
    show (typeLookup (.type "list") (dunderI "add") >>= fun y => pure (y.isSome && !isSeqSlot y)) = pure false
    rw [z1]
    show (pure (true && !isSeqSlot (some (.builtin "list.__iadd__"))) : Sem Bool) = pure false
    rw [z2]
    rfl
  have z4 : seqSlot? (.type "list") (dunderI "add") = pure (some (.builtin "list.__iadd__")) := PySem.seqSlot_of z1 z2
  unfold inplaceOp
  refine wpAny_holding (wpAny_bind (wpAny_typeOf ha (wpAny_bind (wpAny_of_eq z3 ?_))))
  show wpAny M A (if false = true then _ else _) Q E s
  rw [if_neg Bool.false_ne_true]
  exact wpAny_bind (dd_b1 ha hb (wpAny_bind (wpAny_of_eq z4 (wpAny_bind (wpAny_rule hc)))))
end
end PySem
namespace DD
open PySem PySem.Spec PyProof.Rows L2
theorem iop_extL {X : Cx} : OpR X (inplaceOp .Add) (fun x y H Q => ∃ l b xs zs, x = .ref l ∧ y = .ref b ∧ H l = some (.lst xs) ∧ SqL X.K H b zs ∧ xs.length + zs.length ≤ sizeLine ∧ Q (.ref l) (upd H l (.lst (xs ++ zs)))) := by
  intro pins s σ H x y v u Q I rx ry h
  obtain ⟨l, b, xs, zs, rfl, rfl, hH, hB, hz, q⟩ := h
  cases rx
  cases ry
  obtain ⟨_, ia, n, r, hl, e⟩ := I.lstM hH
  obtain ⟨ib, n2, sl, r2, hl2, e2⟩ := rd_lst I hB
  have c1 : ia.toArray.size + ib.toArray.size ≤ sizeLine := by
    simp only [List.size_toArray]
    omega
  have c2 : ¬ (!ia.toArray.isEmpty && Builtin.List.listTooLong (ia.toArray.size + ib.toArray.size)) = true := by
    rw [notLongL c1, Bool.and_false]
    exact Bool.false_ne_true
  have c3 : ia.toArray.size ≤ sizeLine := by omega
  have go := dd_iadd_list l ia.toArray n b ib.toArray n2 none sl c2 c3 (by omega)
  refine iadd_road ⟨_, e, rfl⟩ ⟨_, e2, rfl⟩ (call_meets PySem.F.slot_list_iadd ⟨_, e, rfl⟩ PySem.F.entry_list_iadd (PySem.F.args_list_iadd_2 _ _) go ⟨e, e2, .ref l, _, ?_, rfl, q⟩)
  exact I.lset (its' := ia ++ ib) (t' := s.toks) hH e (by simp) (r.append r2) (by rw [List.length_append]; omega)
theorem iop_extT {X : Cx} : OpR X (inplaceOp .Add) (fun x y H Q => ∃ l b xs zs, x = .ref l ∧ y = .ref b ∧ H l = some (.lst xs) ∧ SqT X.K H b zs ∧ xs.length + zs.length ≤ sizeLine ∧ Q (.ref l) (upd H l (.lst (xs ++ zs)))) := by
  intro pins s σ H x y v u Q I rx ry h
  obtain ⟨l, b, xs, zs, rfl, rfl, hH, hB, hz, q⟩ := h
  cases rx
  cases ry
  obtain ⟨_, ia, n, r, hl, e⟩ := I.lstM hH
  obtain ⟨ib, r2, pt, _⟩ := I.tuple hB
  obtain ⟨⟨cc, dct, dt, sl⟩, e2, hc, m, hd⟩ := pt
  replace hc : cc = .type "tuple" := hc
  replace hd : dt = .seq ib.toArray m := hd
  subst hc hd
  have hl2 := r2.length
  have c1 : ia.toArray.size + ib.toArray.size ≤ sizeLine := by
    simp only [List.size_toArray]
    omega
  have c2 : ¬ (!ia.toArray.isEmpty && Builtin.List.listTooLong (ia.toArray.size + ib.toArray.size)) = true := by
    rw [notLongL c1, Bool.and_false]
    exact Bool.false_ne_true
  have go := dd_iadd_tuple l ia.toArray n b ib.toArray m dct sl c2 (by omega) (by omega)
  refine dd_iadd_road ⟨_, e, rfl⟩ ⟨_, e2, rfl⟩ (call_meets PySem.F.slot_list_iadd ⟨_, e, rfl⟩ PySem.F.entry_list_iadd (PySem.F.args_list_iadd_2 _ _) go ⟨e, e2, .ref l, _, ?_, rfl, q⟩)
  exact I.lset (its' := ia ++ ib) (t' := s.toks) hH e (by simp) (r.append r2) (by rw [List.length_append]; omega)
/-- op= by values -/
def rAug (K : PySem.W.Frag) : Operator → R2
  | .Add => fun x y H Q => rI0 (fun i j => .int (i + j)) x y H Q ∨ (∃ l b xs zs, x = .ref l ∧ y = .ref b ∧ H l = some (.lst xs) ∧ SqL K H b zs ∧ xs.length + zs.length ≤ sizeLine ∧ Q (.ref l) (upd H l (.lst (xs ++ zs)))) ∨
      (∃ l b xs zs, x = .ref l ∧ y = .ref b ∧ H l = some (.lst xs) ∧ SqT K H b zs ∧ xs.length + zs.length ≤ sizeLine ∧ Q (.ref l) (upd H l (.lst (xs ++ zs))))
  | .Sub => rI0 fun i j => .int (i - j)
  | .Mult => rI CMul fun i j => .int (i * j)
  | _ => rNo
theorem aug_ok {X : Cx} (op : Operator) : OpR X (inplaceOp op) (rAug X.K op) := by
  cases op with
  | Add => exact iop_add.or (iop_extL.or iop_extT)
  | Sub => exact iop_sub
  | Mult => exact iop_mul
  | _ => exact op_no
section
variable {K : PySem.W.Frag} {mg : Str → Option Value} {cs : List FSem} {Ex : XK} {H0 : Hp} {B : Bor} {σ σ' : L2.St} {ms ms1 ms2 : List Nat} {ρ ρ' ρ1 ρ2 : Env} {H Hf H1 Hf1 H2 Hf2 H' Hf' : Hp} {d : PD} {fr : Bool} {v : V} {i : Nat} {c : Cell} {a : Addr}
/-- an owned object is changed in place -/
theorem Rel.change (R : Rel K H0 B σ H Hf ρ) (hc : getC ρ i = some c) (m : c.isMut = true) (e : σ[i]? = some (some (.ref a))) {o : HO} {m' : PD} (ho : Own K (upd H a o) Hf (.ref a) m') : PostS K H0 B Hf (ρ.set i (some (c.put m'))) σ (upd H a o) Hf := by
  obtain ⟨b, eb, hn, _⟩ := R.own hc m
  rw [e] at eb
  cases eb
  have := R.called (mu := true) (j := i) (c := c) (a := a) (m := m') (Hf1 := Hf) (H1 := upd H a o) (fun _ => ⟨hc, m, e⟩) (fun _ _ z => z) (fun b u h => by
    rw [upd_ne fun z => by
      rw [z, hn] at h
      cases h]
    exact R.ext b u h) (fun b u h n => by
    rw [upd_ne fun z => n ⟨rfl, z⟩]
    exact h) (fun _ _ _ => rfl) (fun _ => ho)
  simp only [if_true] at this
  exact PostS.ofStep R this
theorem RpK.any {k : Int} : ∀ {kvs : List (Key × V)} {ds : List (PD × PD)}, RpK K Hf kvs ds → (kvs.any fun kv => decide (kv.1 = (Sum.inl k : Key))) = ds.any fun p => keyIs k p.1
  | _, _, .nil => rfl
  | _, _, .cons (k := j) a b => by
    rw [List.any_cons, List.any_cons, RpK.any b]
    congr 1
    show decide ((Sum.inl j : Key) = Sum.inl k) = decide (j = k)
    by_cases e : j = k
    · subst e
      rw [decide_eq_true rfl, decide_eq_true rfl]
    · rw [decide_eq_false e, decide_eq_false fun z => e (Sum.inl.inj z)]
theorem RpK.map {k : Int} (r : Rp K Hf v d) : ∀ {kvs : List (Key × V)} {ds : List (PD × PD)}, RpK K Hf kvs ds → RpK K Hf (kvs.map fun kv => if kv.1 = (Sum.inl k : Key) then (kv.1, v) else kv) (ds.map fun p => if keyIs k p.1 = true then (p.1, d) else p)
  | _, _, .nil => .nil
  | _, _, .cons (k := j) a b => by
    rw [List.map_cons, List.map_cons]
    by_cases e : j = k
    · subst e
      rw [if_pos rfl, if_pos (by simp [keyIs])]
      exact .cons r (RpK.map r b)
    · rw [if_neg fun z => e (Sum.inl.inj z), if_neg (by simp [keyIs, e])]
      exact .cons a (RpK.map r b)
theorem RpK.append : ∀ {kvs ls : List (Key × V)} {ds es : List (PD × PD)}, RpK K Hf kvs ds → RpK K Hf ls es → RpK K Hf (kvs ++ ls) (ds ++ es)
  | _, _, _, _, .nil, s => s
  | _, _, _, _, .cons a b, s => .cons a (RpK.append b s)
theorem RpK.put {k : Int} (r : Rp K Hf v d) {kvs : List (Key × V)} {ds : List (PD × PD)} (h : RpK K Hf kvs ds) : RpK K Hf (putK kvs (Sum.inl k : Key) v) (keyPut ds k d) := by
  unfold putK keyPut
  rw [h.any (k := k)]
  split
  · exact h.map r
  · exact h.append (.cons r .nil)
theorem RpK.length : ∀ {kvs : List (Key × V)} {ds : List (PD × PD)}, RpK K Hf kvs ds → kvs.length = ds.length
  | _, _, .nil => rfl
  | _, _, .cons a b => by rw [List.length_cons, List.length_cons, RpK.length b]
/-- o[i] = v -/
def rSet : TSet := fun o i v H Q => rSetL o i v H Q ∨ rSetD o i v H Q
theorem set_any {X : Cx} (hu : X.A.units + 1 < cLine) : PSet X rSet := by
  intro pins s σ H o i v ov iv u Q I ro ri rv h
  rcases h with h | h
  · exact set_list pins s σ H o i v ov iv u Q I ro ri rv h
  · exact set_dict hu pins s σ H o i v ov iv u Q I ro ri rv h
end
variable {S : Setg}
theorem snd_stx {n : Nat} {i e : E} (hi : SndE S i) (he : SndE S e) : SndS S (.stx n i e) := by
  intro sc Ex F hF st h
  cases st with
  | Assign ts ex pos =>
    obtain ⟨x, px, ix, p2, rfl⟩ : ∃ x px ix p2, ts = [.Subscript (.Name x px) ix p2] := by
      cases ts with
      | nil => exact no h
      | cons t ts =>
        cases ts with
        | cons _ _ =>
          cases t with
          | Subscript o _ _ => cases o <;> exact no h
          | _ => exact no h
        | nil =>
          cases t with
          | Subscript o ix p2 =>
            cases o with
            | Name x px => exact ⟨x, px, ix, p2, rfl⟩
            | _ => exact no h
          | _ => exact no h
    have h' : (slotB S.tb sc n x && noslice ix && isE S.tb sc e ex && isE S.tb sc i ix) = true := h
    simp only [Bool.and_eq_true] at h'
    obtain ⟨⟨⟨h1, h2⟩, h3⟩, h4⟩ := h'
    obtain ⟨te, pe, ge⟩ := he sc Ex F (fun X hX => (hF X hX).c) ex h3
    obtain ⟨ti, pi, gi⟩ := hi sc Ex F (fun X hX => (hF X hX).c) ix h4
    refine ⟨tAsg te (gSub (tVar n) ti rSet), fun X hX => ?_, ?_⟩
    · have C := hF X hX
      refine ps_asg (pe X hX) (pg_sub (C.c.slot h1) (pi X hX) (set_any (by have := C.c.units; omega)) fun v => ?_) ?_ ?_ rfl
      · cases ix <;> first | rfl | exact no h2
      · show swapsWith ex (some (.Subscript (.Name x px) ix p2)) pos.line X.env = pure false
        cases ex <;> rfl
      · cases ex <;> rfl
    · intro H0 B σ H Hf ρ hB R o ho D hD
      unfold evalS at ho
      rcases bindS_ok ho with ⟨x, e1, rfl⟩ | ⟨d, fr, ρ1, e1, ho⟩
      · exact ge.exc hB R e1 hD
      · cases h0 : getC ρ1 n with
        | none => simp [h0] at ho
        | some c0 =>
          simp only [h0] at ho
          rcases bindS_ok ho with ⟨y, e2, rfl⟩ | ⟨k, fr2, ρ2, e2, ho⟩
          · refine ge.run hB R e1 fun v H1 Hf1 S1 rp => ?_
            obtain ⟨w, hw, _⟩ := S1.rel.get n c0 h0
            exact ⟨w, hw, gi.exc hB S1.rel e2 hD⟩
          · cases hc : getC ρ2 n with
            | none => simp [hc] at ho
            | some c =>
              simp only [hc] at ho
              by_cases hm : c.isMut = true
              · rw [if_pos hm] at ho
                cases hs : stxV c.dat k d with
                | none => simp [hs] at ho
                | some m =>
                  simp only [hs, Option.some.injEq] at ho
                  subst ho
                  refine ge.run hB R e1 fun v H1 Hf1 S1 rp => ?_
                  obtain ⟨w, hw, _⟩ := S1.rel.get n c0 h0
                  refine ⟨w, hw, gi.run hB S1.rel e2 fun y H2 Hf2 S2 rp2 => ?_⟩
                  obtain ⟨a, ea, hn, _, ow, _⟩ := S2.rel.own hc hm
                  have ew : w = .ref a := by
                    rw [hw] at ea
                    cases ea
                    rfl
                  have P2 := (PostS.ofStep R S1).trans (PostS.ofStep S1.rel S2)
                  have rd := rp.mono S2.ext
                  unfold stxV at hs
                  cases hcd : c.dat with
                  | list xs =>
                    rw [hcd] at ow hs
                    cases k with
                    | int kk =>
                      simp only at hs
                      cases hix : ixOf xs.length kk with
                      | none => simp [hix] at hs
                      | some j =>
                        simp only [hix, Option.some.injEq] at hs
                        subst hs
                        cases ow with
                        | lst hH hn2 rr =>
                          rename_i vs
                          refine .inl ⟨a, vs, kk, j, ew, rp2.int_inv, hH, by rw [rr.length]; exact hix, ?_⟩
                          exact hD σ _ Hf2 (P2.trans (S2.rel.change hc hm ea (Own.lst upd_same hn (rr.set rd j))))
                    | _ => simp at hs
                  | dict kvs =>
                    rw [hcd] at ow hs
                    cases k with
                    | int kk =>
                      simp only at hs
                      by_cases hz : kvs.length < LIM
                      · rw [if_pos hz] at hs
                        cases hs
                        cases ow with
                        | dic hH hn2 rr =>
                          rename_i vs
                          have dp : DPut H2 a y v (upd H2 a (.dK (putK vs (Sum.inl kk : Key) v))) := by
                            rw [rp2.int_inv]
                            exact DPut.k (k := (Sum.inl kk : Key)) hH (lim_lt (by rw [rr.length]; omega))
                          exact .inr ⟨a, upd H2 a (.dK (putK vs (Sum.inl kk : Key) v)), ew, dp, hD σ _ Hf2 (P2.trans (S2.rel.change hc hm ea (Own.dic upd_same hn (rr.put rd))))⟩
                      · rw [if_neg hz] at hs
                        cases hs
                    | _ => simp at hs
                  | _ =>
                    rw [hcd] at hs
                    cases k <;> simp at hs
              · rw [if_neg hm] at ho
                cases ho
  | _ => exact no h
theorem snd_app {n : Nat} {e : E} (he : SndE S e) : SndS S (.app n e) := by
  intro sc Ex F hF st h
  cases st with
  | Expr ex pos =>
    obtain ⟨x, px, m, ap, ex, cp, rfl⟩ : ∃ x px m ap ex' cp, ex = .Call (.Attribute (.Name x px) m ap) [ex'] [] cp := by
      cases ex with
      | Call f as ks cp =>
        cases f with
        | Attribute o m ap =>
          cases o with
          | Name x px =>
            cases as with
            | nil => exact no h
            | cons a as =>
              cases as with
              | cons _ _ => exact no h
              | nil =>
                cases ks with
                | cons _ _ => exact no h
                | nil => exact ⟨x, px, m, ap, a, cp, rfl⟩
          | _ => exact no h
        | _ => exact no h
      | _ => exact no h
    have h' : (slotB S.tb sc n x && decide (m = ("append" : Str)) && (ap.endLine == cp.line) && nostar ex && isE S.tb sc e ex) = true := h
    simp only [Bool.and_eq_true, decide_eq_true_eq] at h'
    obtain ⟨⟨⟨⟨h1, rfl⟩, h2⟩, h3⟩, h4⟩ := h'
    obtain ⟨te, pe, ge⟩ := he sc Ex F (fun X hX => (hF X hX).c) ex h4
    refine ⟨tDrop (tBM S.K "list" rAppend (tVar n) (tCons te tNil)), fun X hX => ?_, ?_⟩
    · have C := hF X hX
      have pb := pe_bm (apos := ap) (cpos := cp) PySem.F.plainAttrs_list PySem.F.slot_list_append PySem.F.type_list_append mt_append (C.c.slot (pos := px) h1) (pa_cons (pe X hX) pa_nil (star_ok h3 _ _)) rfl (by
        rw [star_ok h3]
        rfl) h2 (star_ok h3 _ _) rfl
      rw [C.c.hK] at pb
      exact ps_expr pb rfl
    · intro H0 B σ H Hf ρ hB R o ho D hD
      unfold evalS at ho
      cases h0 : getC ρ n with
      | none => simp [h0] at ho
      | some c0 =>
        simp only [h0] at ho
        by_cases hl : isL c0.dat = true
        · rw [if_pos hl] at ho
          obtain ⟨w, hw, tp, _⟩ := cell_top R h0
          have ty : tyV S.K "list" w H := by
            cases hd : c0.dat with
            | list ds =>
              rw [hd] at tp
              obtain ⟨a, xs, rfl, s, _⟩ := tp
              exact .inl ⟨rfl, xs, s⟩
            | _ =>
              rw [hd] at hl
              cases hl
          rcases bindS_ok ho with ⟨y, e2, rfl⟩ | ⟨d, fr2, ρ2, e2, ho⟩
          · exact ⟨w, hw, ty, ge.exc hB R e2 hD⟩
          · cases hc : getC ρ2 n with
            | none => simp [hc] at ho
            | some c =>
              simp only [hc] at ho
              by_cases hm : c.isMut = true
              · rw [if_pos hm] at ho
                refine ⟨w, hw, ty, ge.run hB R e2 fun v H2 Hf2 S2 rp => ?_⟩
                obtain ⟨a, ea, hn, _, ow, _⟩ := S2.rel.own hc hm
                have ew : w = .ref a := by
                  rw [hw] at ea
                  cases ea
                  rfl
                cases hcd : c.dat with
                | list xs =>
                  rw [hcd] at ow ho
                  simp only at ho
                  by_cases hz : xs.length < LIM
                  · rw [if_pos hz] at ho
                    cases ho
                    cases ow with
                    | lst hH hn2 rr =>
                      rename_i vs
                      refine ⟨a, vs, v, ew, rfl, hH, lim_lt (by rw [rr.length]; omega), ?_⟩
                      exact hD σ _ Hf2 ((PostS.ofStep R S2).trans (S2.rel.change hc hm ea (Own.lst upd_same hn (rr.snoc rp))))
                  · rw [if_neg hz] at ho
                    cases ho
                | _ =>
                  rw [hcd] at ho
                  cases ho
              · rw [if_neg hm] at ho
                cases ho
        · rw [if_neg hl] at ho
          cases ho
  | _ => exact no h
end DD

-- part DStm4
set_option Elab.async false
set_option linter.all false
set_option maxRecDepth 100000
set_option maxHeartbeats 2000000
/-! Statements: in-place operators, several names at once, if, loops, blocks. -/
namespace DD
open PySem PySem.Spec PyProof.Rows L2
variable {S : Setg}
theorem augI_ok {op : Operator} {a b : PD} {k : Int → Option SO} {o : SO} (h : augI op a b k = some o) : ∃ i j z, a = .int i ∧ b = .int j ∧ k z = some o ∧ ∀ (K : PySem.W.Frag) (H : Hp) (Q : VK), Q (.int z) H → rAug K op (.int i) (.int j) H Q := by
  cases op with
  | Add =>
    cases a with
    | int i =>
      cases b with
      | int j => exact ⟨i, j, i + j, rfl, rfl, h, fun K H Q q => .inl ⟨i, j, rfl, rfl, q⟩⟩
      | _ => cases h
    | _ => cases h
  | Sub =>
    cases a with
    | int i =>
      cases b with
      | int j => exact ⟨i, j, i - j, rfl, rfl, h, fun K H Q q => ⟨i, j, rfl, rfl, q⟩⟩
      | _ => cases h
    | _ => cases h
  | Mult =>
    cases a with
    | int i =>
      cases b with
      | int j =>
        unfold augI at h
        simp only at h
        split at h
        · rename_i hz
          exact ⟨i, j, i * j, rfl, rfl, h, fun K H Q q => ⟨i, j, rfl, rfl, hz, q⟩⟩
        · cases h
      | _ => cases h
    | _ => cases h
  | _ => cases h
theorem snd_aug {n : Nat} {op : Operator} {e : E} (he : SndE S e) : SndS S (.aug n op e) := by
  intro sc Ex F hF st h
  cases st with
  | AugAssign t o ex pos =>
    cases t with
    | Name x px =>
      have h' : (storeB S.tb sc n x && decide (op = o) && augB op && isE S.tb sc e ex) = true := h
      simp only [Bool.and_eq_true, decide_eq_true_eq] at h'
      obtain ⟨⟨⟨h1, rfl⟩, h2⟩, h3⟩ := h'
      obtain ⟨te, pe, ge⟩ := he sc Ex F (fun X hX => (hF X hX).c) ex h3
      refine ⟨tAug n te (rAug S.K op), fun X hX => ?_, ?_⟩
      · have C := hF X hX
        obtain ⟨q1, q2, q3⟩ := storeOk C h1
        have := aug_ok (X := X) op
        rw [C.c.hK] at this
        exact ps_aug C.c.nd q1 q2 (pe X hX) this q3
      · intro H0 B σ H Hf ρ hB R o ho D hD
        unfold evalS at ho
        cases h0 : getC ρ n with
        | none => simp [h0] at ho
        | some c0 =>
          simp only [h0] at ho
          obtain ⟨w, hw, _⟩ := R.get n c0 h0
          rcases bindS_ok ho with ⟨y, e2, rfl⟩ | ⟨d, fr2, ρ2, e2, ho⟩
          · exact ⟨w, hw, ge.exc hB R e2 hD⟩
          · refine ⟨w, hw, ge.run hB R e2 fun y H2 Hf2 S2 rp => ?_⟩
            have P2 := PostS.ofStep R S2
            cases hc : getC ρ2 n with
            | none => simp [hc] at ho
            | some c =>
              simp only [hc] at ho
              obtain ⟨w', hw', ok⟩ := S2.rel.get n c hc
              rw [hw] at hw'
              cases hw'
              cases c with
              | sh x =>
                simp only at ho
                obtain ⟨i, j, z, rfl, rfl, ho, run⟩ := augI_ok ho
                obtain ⟨ρ', e3, rfl⟩ := nxO_ok ho
                have ew : w = .int i := Rp.int_inv ok
                rw [ew, rp.int_inv]
                exact run _ _ _ (hD _ H2 Hf2 (P2.trans (PostS.refl (S2.rel.putSh e3 (.int z)))))
              | bo _ => simp at ho
              | ow x =>
                cases x with
                | list xs =>
                  obtain ⟨a, ea, hn, _, ow, _⟩ := S2.rel.own hc rfl
                  have ew : w = .ref a := by
                    rw [hw] at ea
                    cases ea
                    rfl
                  have same : σ.set n (some (.ref a)) = σ := by
                    refine List.ext_getElem? fun j => ?_
                    by_cases ej : n = j
                    · subst ej
                      rw [List.getElem?_set_self (List.getElem?_eq_some_iff.mp ea).1, ea]
                    · rw [List.getElem?_set_ne ej]
                  simp only at ho
                  cases op with
                  | Add =>
                    cases d with
                    | list ys =>
                      simp only at ho
                      split at ho
                      · rename_i hz
                        cases ho
                        obtain ⟨b, zs, rfl, s, rr2⟩ := rp.lst_inv
                        cases ow with
                        | lst hH hn2 rr =>
                          rename_i vs
                          refine .inr (.inl ⟨a, b, vs, zs, ew, rfl, hH, Same.sql S2.rel.ext s, lim_line (by rw [rr.length, rr2.length]; exact hz), ?_⟩)
                          show D.nx (List.set σ n (some (V.ref a))) _
                          rw [same]
                          exact hD σ _ Hf2 (P2.trans (S2.rel.change hc rfl ea (Own.lst upd_same hn (rr.append rr2))))
                      · cases ho
                    | tuple ys =>
                      simp only at ho
                      split at ho
                      · rename_i hz
                        cases ho
                        obtain ⟨b, zs, rfl, s, rr2⟩ := rp.tup_inv
                        cases ow with
                        | lst hH hn2 rr =>
                          rename_i vs
                          refine .inr (.inr ⟨a, b, vs, zs, ew, rfl, hH, Same.sqt S2.rel.ext s, lim_line (by rw [rr.length, rr2.length]; exact hz), ?_⟩)
                          show D.nx (List.set σ n (some (V.ref a))) _
                          rw [same]
                          exact hD σ _ Hf2 (P2.trans (S2.rel.change hc rfl ea (Own.lst upd_same hn (rr.append rr2))))
                      · cases ho
                    | _ => simp at ho
                  | _ => simp at ho
                | _ => simp at ho
    | _ => exact no h
  | _ => exact no h
theorem snd_ite' {c : E} {a b : Ss} (hc : SndT S c) (ha : SndSs S a) (hb : SndSs S b) : SndS S (.ite c a b) := by
  intro sc Ex F hF st h
  cases st with
  | If t x y pos =>
    have h' : (isE S.tb sc c t && isSs S.tb sc a x && isSs S.tb sc b y) = true := h
    simp only [Bool.and_eq_true] at h'
    obtain ⟨⟨h1, h2⟩, h3⟩ := h'
    obtain ⟨tc, pc, gc⟩ := hc sc Ex F (fun X hX => (hF X hX).c) t h1
    obtain ⟨ta, pa, ga⟩ := ha sc Ex F hF x h2
    obtain ⟨tb, pb, gb⟩ := hb sc Ex F hF y h3
    refine ⟨tIfS tc ta tb, fun X hX => ps_if (pc X hX) (pa X hX) (pb X hX), ?_⟩
    intro H0 B σ H Hf ρ hB R o ho D hD
    unfold evalS at ho
    rcases bindS_ok ho with ⟨y, e2, rfl⟩ | ⟨d, fr2, ρ2, e2, ho⟩
    · exact gc.exc hB R e2 hD
    · cases d with
      | bool k =>
        cases k with
        | true =>
          refine gc.run hB R e2 fun H1 Hf1 S1 => iteT ?_
          have P1 := PostS.ofStep R S1
          exact ga H0 B σ H1 Hf1 ρ2 hB S1.rel o ho D (hD.after P1)
        | false =>
          refine gc.run hB R e2 fun H1 Hf1 S1 => iteF ?_
          have P1 := PostS.ofStep R S1
          exact gb H0 B σ H1 Hf1 ρ2 hB S1.rel o ho D (hD.after P1)
      | _ => cases ho
  | _ => exact no h
theorem snd_snil : SndSs S .nil := by
  intro sc Ex F hF sts h
  cases sts with
  | nil =>
    refine ⟨tNext, fun X hX => pss_nil, ?_⟩
    intro H0 B σ H Hf ρ hB R o ho D hD
    unfold evalSs at ho
    cases ho
    exact hD σ H Hf (PostS.refl R)
  | cons _ _ => exact no h
theorem snd_scons {s : DD.S} {ss : Ss} (hs : SndS S s) (hss : SndSs S ss) : SndSs S (.cons s ss) := by
  intro sc Ex F hF sts h
  cases sts with
  | nil => exact no h
  | cons st sts =>
    have h' : (isS S.tb sc s st && isSs S.tb sc ss sts) = true := h
    rw [Bool.and_eq_true] at h'
    obtain ⟨t, p, g⟩ := hs sc Ex F hF st h'.1
    obtain ⟨u, pu, gu⟩ := hss sc Ex F hF sts h'.2
    refine ⟨tSeq t u, fun X hX => pss_cons (p X hX) (pu X hX), ?_⟩
    intro H0 B σ H Hf ρ hB R o ho D hD
    unfold evalSs at ho
    cases e1 : evalS S.cs s ρ with
    | none => simp [e1] at ho
    | some o1 =>
      rw [e1] at ho
      refine g H0 B σ H Hf ρ hB R o1 e1 _ ?_
      cases o1 with
      | nx ρ1 => exact fun σ1 H1 Hf1 P1 => gu H0 B σ1 H1 Hf1 ρ1 hB P1.rel o ho D (hD.after P1)
      | rt d fr ρ1 =>
        cases ho
        exact hD
      | bk ρ1 =>
        cases ho
        exact hD
      | ct ρ1 =>
        cases ho
        exact hD
      | ex x =>
        cases ho
        exact hD
theorem snd_fr {tg : Tg} {it : It} {b : Ss} (hi : SndI S it) (hb : SndSs S b) : SndS S (.fr tg it b) := by
  intro sc Ex F hF st h
  cases st with
  | For t i body orelse pos =>
    cases orelse with
    | cons _ _ => exact no h
    | nil =>
      have h' : (storeT S.tb sc tg t && noset i && (hidI it).isEmpty && isI S.tb sc it i t && isSs S.tb sc b body) = true := h
      simp only [Bool.and_eq_true] at h'
      obtain ⟨⟨⟨⟨h1, h2⟩, h3⟩, h4⟩, h5⟩ := h'
      obtain ⟨wi, pi, gi⟩ := hi sc Ex F (fun X hX => (hF X hX).c) i t h4
      obtain ⟨tb, pb, gb⟩ := hb sc Ex F hF body h5
      refine ⟨tFor wi (gTg S.K tg) tb, fun X hX => ?_, ?_⟩
      · have C := hF X hX
        exact ps_for C.own C.c.calm (pi X hX) (pgtD C h1) (pb X hX) (fun x => fold_ok h2 X.env x)
      · intro H0 B σ H Hf ρ hB R o ho D hD
        unfold evalS at ho
        have g := gi H0 B σ H Hf ρ hB R
        rcases bindAS_ok ho with ⟨y, e2, rfl⟩ | ⟨ds, ρ1, e2, ho⟩
        · rw [e2] at g
          exact g _ hD
        · rw [e2] at g
          refine g _ fun J H1 Hf1 gg S1 sv hg => ?_
          have ng : ∀ a xs, gg = some (a, xs) → False := fun a xs e => by
            obtain ⟨_, v, _, q, _⟩ := hg a xs e
            rw [q] at h3
            cases h3
          have P1 := PostS.ofStep R S1
          let Good : Nat → L2.St → Hp → Prop := fun i σ' H' => ∃ ρi Hfi, PostS S.K H0 B Hf ρi σ' H' Hfi ∧ Same Hf1 Hfi ∧ forL tg (evalSs S.cs b) (ds.drop i) ρi = some o
          refine ⟨fun i m σ' H' => m = ds.length - i ∧ i ≤ ds.length ∧ Good i σ' H', ⟨ds.length, rfl, Nat.zero_le _, ρ1, Hf1, P1, fun _ _ z => z, ho⟩, ?_⟩
          rintro i m σ' Hh ⟨rfl, hi, ρi, Hfi, Pi, ext, hl⟩
          by_cases hlt : i < ds.length
          · have hdr : ds.drop i = ds[i] :: ds.drop (i + 1) := List.drop_eq_getElem_cons hlt
            have hd : ds[i]? = some ds[i] := List.getElem?_eq_getElem hlt
            rw [hdr] at hl
            unfold forL at hl
            obtain ⟨go, yld⟩ := sv.1 i ds[i] Hh Hfi ext Pi.rel.ext (fun a xs e => (ng a xs e).elim) hd
            cases hset : setT tg ds[i] ρi with
            | none => simp [hset] at hl
            | some ρ2 =>
              simp only [hset] at hl
              refine .inr ⟨go, Good (i + 1), fun σ2 H2 p => ⟨ds.length - (i + 1), by omega, rfl, hlt, p⟩, fun x H' y => ?_⟩
              obtain ⟨Hf2, S2, rp, _⟩ := (yld x H' y).toE (ms := []) Pi.rel
              have P2 := Pi.trans (PostS.ofStep Pi.rel S2)
              refine setT_ok S2.rel hset rp _ fun σ2 R2 _ => ?_
              have P3 := P2.trans (PostS.refl (Hf := Hf2) R2)
              have x3 : Same Hf1 Hf2 := Same.trans ext S2.ext
              cases hb' : evalSs S.cs b ρ2 with
              | none => simp [hb'] at hl
              | some ob =>
                rw [hb'] at hl
                refine gb H0 B σ2 H' Hf2 ρ2 hB R2 ob hb' _ ?_
                cases ob with
                | nx ρ3 => exact fun σ4 H4 Hf4 P4 => ⟨ρ3, Hf4, P3.trans P4, Same.trans x3 P4.ext, hl⟩
                | ct ρ3 => exact fun σ4 H4 Hf4 P4 => ⟨ρ3, Hf4, P3.trans P4, Same.trans x3 P4.ext, hl⟩
                | bk ρ3 =>
                  cases hl
                  exact hD.after P3
                | rt d fr ρ3 =>
                  cases hl
                  exact hD.after P3
                | ex x =>
                  cases hl
                  exact hD
          · have ei : i = ds.length := by omega
            subst ei
            rw [List.drop_length] at hl
            unfold forL at hl
            cases hl
            exact .inl ⟨sv.2 Hh Hfi ext Pi.rel.ext (fun a xs e => (ng a xs e).elim), hD σ' Hh Hfi Pi⟩
  | _ => exact no h
theorem snd_whl {c : E} {b : Ss} (hc : SndT S c) (hb : SndSs S b) : SndS S (.whl c b) := by
  intro sc Ex F hF st h
  cases st with
  | While t body orelse pos =>
    cases orelse with
    | cons _ _ => exact no h
    | nil =>
      have h' : (isE S.tb sc c t && isSs S.tb sc b body) = true := h
      rw [Bool.and_eq_true] at h'
      obtain ⟨tc, pc, gc⟩ := hc sc Ex F (fun X hX => (hF X hX).c) t h'.1
      obtain ⟨tb, pb, gb⟩ := hb sc Ex F hF body h'.2
      refine ⟨tWhile tc tb, fun X hX => ps_while (hF X hX).own (pc X hX) (pb X hX), ?_⟩
      intro H0 B σ H Hf ρ hB R o ho D hD
      unfold evalS at ho
      refine ⟨fun m σ' H' => ∃ ρi Hfi, PostS S.K H0 B Hf ρi σ' H' Hfi ∧ whlL (evalE S.cs c) (evalSs S.cs b) m ρi = some o, ⟨FUEL, ρ, Hf, PostS.refl R, ho⟩, ?_⟩
      rintro m σ' Hh ⟨ρi, Hfi, Pi, hl⟩
      cases m with
      | zero => cases hl
      | succ m =>
        unfold whlL at hl
        cases hc' : evalE S.cs c ρi with
        | none => simp [hc'] at hl
        | some rc =>
          rw [hc'] at hl
          cases rc with
          | ex x =>
            cases hl
            exact gc.exc hB Pi.rel hc' hD
          | ok d fr ρ2 =>
            cases d with
            | bool k =>
              refine gc.run hB Pi.rel hc' fun H1 Hf1 S1 => ?_
              have P1 := Pi.trans (PostS.ofStep Pi.rel S1)
              cases k with
              | false =>
                cases hl
                exact iteF (hD σ' H1 Hf1 P1)
              | true =>
                simp only at hl
                refine iteT ⟨fun σ2 H2 => ∃ ρi Hfi, PostS S.K H0 B Hf ρi σ2 H2 Hfi ∧ whlL (evalE S.cs c) (evalSs S.cs b) m ρi = some o, fun σ2 H2 p => ⟨m, Nat.lt_succ_self m, p⟩, ?_⟩
                cases hb' : evalSs S.cs b ρ2 with
                | none => simp [hb'] at hl
                | some ob =>
                  rw [hb'] at hl
                  refine gb H0 B σ' H1 Hf1 ρ2 hB S1.rel ob hb' _ ?_
                  cases ob with
                  | nx ρ3 => exact fun σ4 H4 Hf4 P4 => ⟨ρ3, Hf4, P1.trans P4, hl⟩
                  | ct ρ3 => exact fun σ4 H4 Hf4 P4 => ⟨ρ3, Hf4, P1.trans P4, hl⟩
                  | bk ρ3 =>
                    cases hl
                    exact hD.after P1
                  | rt d fr ρ3 =>
                    cases hl
                    exact hD.after P1
                  | ex x =>
                    cases hl
                    exact hD
            | _ => cases hl
  | _ => exact no h
end DD

-- part DStm5
set_option Elab.async false
set_option linter.all false
set_option maxRecDepth 100000
set_option maxHeartbeats 2000000
/-! Statements: several names at once; all together. -/
namespace DD
open PySem PySem.Spec PyProof.Rows L2
section
variable {K : PySem.W.Frag} {mg : Str → Option Value} {cs : List FSem} {Ex : XK} {H0 : Hp} {B : Bor} {σ σ' : L2.St} {ms ms1 ms2 : List Nat} {ρ ρ' ρ1 ρ2 : Env} {H Hf H1 Hf1 H2 Hf2 H' Hf' : Hp} {d : PD} {fr : Bool} {v : V} {i : Nat} {c : Cell} {a : Addr}
/-- values that stand beside: (value, datum, new) -/
abbrev Ent := V × PD × Bool
structure EntOk (K : PySem.W.Frag) (H0 : Hp) (σ : L2.St) (ρ : Env) (H Hf : Hp) (l : List Ent) : Prop where
  ok : ∀ e ∈ l, ResOk K H0 σ ρ H Hf e.1 e.2.1 e.2.2
  ap : l.Pairwise fun e e' => e.2.2 = true → e'.2.2 = true → e.1 ≠ e'.1
theorem EntOk.step (R : Rel K H0 B σ H Hf ρ) {l : List Ent} (h : EntOk K H0 σ ρ H Hf l) (S : Step K H0 B σ ms ρ H Hf ρ1 H1 Hf1) : EntOk K H0 σ ρ1 H1 Hf1 l := by
  refine ⟨fun e he => ?_, h.ap⟩
  have := h.ok e he
  unfold ResOk at this ⊢
  cases hfr : e.2.2 with
  | false =>
    rw [hfr] at this
    simp only [Bool.false_eq_true, if_false] at this ⊢
    exact this.mono S.ext
  | true =>
    rw [hfr] at this
    simp only [if_true] at this ⊢
    obtain ⟨o, q⟩ := this
    refine ⟨o.keep S.ext (fun a u ea hu => S.fr a u hu fun ⟨j, _, c, hc, m, ej⟩ => (q a ea).2 j c hc m ej) fun a ea => ?_, fun a ea => ⟨(q a ea).1, fun j c hc m ej => ?_⟩⟩
    · obtain ⟨b, eb, n, u, hu⟩ := o.ref
      rw [ea] at eb
      cases eb
      rw [S.gr a u hu fun ⟨j, c, hc, m, ej⟩ => (q a ea).2 j c hc m ej]
      exact n
    · obtain ⟨c', hc', m'⟩ := S.le.mu j c hc m
      exact (q a ea).2 j c' hc' m' ej
theorem EntOk.snoc {l : List Ent} (h : EntOk K H0 σ ρ H Hf l) (r : ResOk K H0 σ ρ H Hf v d fr) (n : fr = true → ∀ e ∈ l, e.2.2 = true → e.1 ≠ v) : EntOk K H0 σ ρ H Hf (l ++ [(v, d, fr)]) := by
  refine ⟨fun e he => ?_, ?_⟩
  · rcases List.mem_append.mp he with he | he
    · exact h.ok e he
    · cases List.mem_singleton.mp he
      exact r
  · rw [List.pairwise_append]
    refine ⟨h.ap, List.pairwise_singleton _ _, fun e he e' he' f f' => ?_⟩
    cases List.mem_singleton.mp he'
    exact n f' e he f
theorem EntOk.grow {p : Addr} {o : HO} (R : Rel K H0 B σ H Hf ρ) {l : List Ent} (h : EntOk K H0 σ ρ H Hf l) (n : H p = none) : EntOk K H0 σ ρ (upd H p o) Hf l :=
  h.step (ms := []) R ⟨fun _ _ z => z, (R.grow n).2, Fr.same (R.grow n).1, fun _ _ _ _ => rfl, Le.refl _⟩
theorem EntOk.put {l : List Ent} (h : EntOk K H0 σ ρ H Hf ((v, d, fr) :: l)) (hl : i < ρ.length) (hs : i < σ.length) : EntOk K H0 (σ.set i (some v)) (ρ.set i (some (mkC d fr))) H Hf l := by
  have hp := List.pairwise_cons.mp h.ap
  refine ⟨fun e he => ?_, hp.2⟩
  have := h.ok e (List.mem_cons_of_mem _ he)
  unfold ResOk at this ⊢
  cases hfr : e.2.2 with
  | false =>
    rw [hfr] at this
    exact this
  | true =>
    rw [hfr] at this
    simp only [if_true] at this ⊢
    refine ⟨this.1, fun a ea => ⟨(this.2 a ea).1, fun j c hc m ej => ?_⟩⟩
    by_cases hj : i = j
    · subst hj
      rw [getC_set_self hl] at hc
      rw [List.getElem?_set_self hs] at ej
      cases fr with
      | false =>
        cases hc
        simp [mkC, Cell.isMut] at m
      | true =>
        have ev : v = .ref a := Option.some.inj (Option.some.inj ej)
        exact hp.1 e he rfl hfr (by rw [ev, ea])
    · rw [getC_set_ne hj] at hc
      rw [List.getElem?_set_ne hj] at ej
      exact (this.2 a ea).2 j c hc m ej
def setsV : List Nat → List V → L2.St → L2.St
  | i :: is, v :: vs, σ => setsV is vs (σ.set i (some v))
  | _, _, σ => σ
theorem puts_ok : ∀ {is : List Nat} {l : List Ent} {σ : L2.St} {ρ ρ' : Env}, Rel K H0 B σ H Hf ρ → EntOk K H0 σ ρ H Hf l → setCs is (l.map fun e => mkC e.2.1 e.2.2) ρ = some ρ' → Rel K H0 B (setsV is (l.map (·.1)) σ) H Hf ρ' ∧ is.length = l.length
  | [], [], σ, ρ, ρ', R, _, h => by
    cases h
    exact ⟨R, rfl⟩
  | [], _ :: _, _, _, _, _, _, h => by cases h
  | _ :: _, [], _, _, _, _, _, h => by cases h
  | i :: is, (v, d, fr) :: l, σ, ρ, ρ', R, E, h => by
    have h' : (setC ρ i (mkC d fr)).bind (fun ρ => setCs is (l.map fun e => mkC e.2.1 e.2.2) ρ) = some ρ' := h
    cases e1 : setC ρ i (mkC d fr) with
    | none => simp [e1] at h'
    | some ρ1 =>
      rw [e1] at h'
      have R1 := R.put e1 (E.ok _ List.mem_cons_self)
      obtain ⟨rfl, hl, _⟩ := setC_some e1
      obtain ⟨q1, q2⟩ := puts_ok R1 (E.put hl (by rw [R.len]; exact hl)) h'
      exact ⟨q1, by rw [List.length_cons, List.length_cons, q2]⟩
theorem gNs_sets : ∀ {is : List Nat} {vs : List V} {σ : L2.St} {Q : L2.St → Hp → Prop}, is.length = vs.length → Q (setsV is vs σ) H → gNs is vs σ H Q
  | [], [], σ, Q, _, q => ⟨rfl, q⟩
  | [], _ :: _, _, _, h, _ => by cases h
  | _ :: _, [], _, _, h, _ => by cases h
  | i :: is, v :: vs, σ, Q, h, q => ⟨v, vs, rfl, gNs_sets (by simpa using h) q⟩
/-- the items, one after another -/
def FsOk (cs : List FSem) : Es → Env → List (PD × Bool) → Env → Prop
  | .nil, ρ, ds, ρ' => ds = [] ∧ ρ' = ρ
  | .cons e es, ρ, ds, ρ' => ∃ d fr ρ1 r, evalE cs e ρ = some (.ok d fr ρ1) ∧ ds = (d, fr) :: r ∧ FsOk cs es ρ1 r ρ'
def FsEx (cs : List FSem) : Es → Env → Str → Prop
  | .nil, _, _ => False
  | .cons e es, ρ, x => evalE cs e ρ = some (.ex x) ∨ ∃ d fr ρ1, evalE cs e ρ = some (.ok d fr ρ1) ∧ FsEx cs es ρ1 x
theorem fs_cases : ∀ {es : Es} {ρ : Env} {k : List Cell → Env → Option SO} {o : SO}, evalFs cs es ρ k = some o → (∃ x, o = .ex x ∧ FsEx cs es ρ x) ∨ ∃ ds ρ', k (ds.map fun p => mkC p.1 p.2) ρ' = some o ∧ FsOk cs es ρ ds ρ'
  | .nil, ρ, k, o, h => .inr ⟨[], ρ, h, rfl, rfl⟩
  | .cons e es, ρ, k, o, h => by
    unfold evalFs at h
    rcases bindS_ok h with ⟨x, e1, rfl⟩ | ⟨d, fr, ρ1, e1, h⟩
    · exact .inl ⟨x, rfl, .inl e1⟩
    · rcases fs_cases h with ⟨x, rfl, hx⟩ | ⟨ds, ρ', hk, hok⟩
      · exact .inl ⟨x, rfl, .inr ⟨d, fr, ρ1, e1, hx⟩⟩
      · exact .inr ⟨(d, fr) :: ds, ρ', hk, d, fr, ρ1, ds, e1, rfl, hok⟩
end
variable {S : Setg}
def AllE (S : Setg) : Es → Prop
  | .nil => True
  | .cons e es => SndE S e ∧ AllE S es
def GoodF (K : PySem.W.Frag) (mg : Str → Option Value) (cs : List FSem) (Ex : XK) (es : Es) (t : TA) : Prop := ∀ H0 B σ H Hf ρ, BOk B → Rel K H0 B σ H Hf ρ →
  (∀ x, FsEx cs es ρ x → ∀ Q : List V → Hp → Prop, ExW mg H0 B Ex x → t σ H Q) ∧
  (∀ ds ρ', FsOk cs es ρ ds ρ' → ∀ l : List Ent, EntOk K H0 σ ρ H Hf l → ∀ Q : List V → Hp → Prop, (∀ vs H' Hf', vs.length = ds.length → Step K H0 B σ (mutsEs es) ρ H Hf ρ' H' Hf' → EntOk K H0 σ ρ' H' Hf' (l ++ vs.zip ds) → Q vs H') → t σ H Q)
theorem snd_fs : ∀ {es : Es}, AllE S es → ∀ (sc : Scope) (Ex : XK) (F : Fam), (∀ X, F X → S.ctx sc Ex X) → ∀ exs, isEs S.tb sc es exs = true → ∃ t : TA, (∀ X, F X → PA X exs t) ∧ GoodF S.K S.mg S.cs Ex es t
  | .nil, _, sc, Ex, F, hF, exs, h => by
    cases exs with
    | nil =>
      refine ⟨tNil, fun X hX => pa_nil, ?_⟩
      intro H0 B σ H Hf ρ hB R
      refine ⟨fun x hx => hx.elim, fun ds ρ' hok l hl Q q => ?_⟩
      obtain ⟨rfl, rfl⟩ := hok
      exact q [] H Hf rfl (Step.refl R) (by simpa using hl)
    | cons _ _ => exact no h
  | .cons e es, ha, sc, Ex, F, hF, exs, h => by
    cases exs with
    | nil => exact no h
    | cons x xs =>
      have h' : (nostar x && isE S.tb sc e x && isEs S.tb sc es xs) = true := h
      simp only [Bool.and_eq_true] at h'
      obtain ⟨⟨h1, h2⟩, h3⟩ := h'
      obtain ⟨ta, pa, ga⟩ := ha.1 sc Ex F hF x h2
      obtain ⟨tb, pb, gb⟩ := snd_fs ha.2 sc Ex F hF xs h3
      refine ⟨tCons ta tb, fun X hX => pa_cons (pa X hX) (pb X hX) (star_ok h1 _ _), ?_⟩
      intro H0 B σ H Hf ρ hB R
      refine ⟨fun y hy Q q => ?_, fun ds ρ' hok l hl Q q => ?_⟩
      · rcases hy with hy | ⟨d, fr, ρ1, e1, hy⟩
        · exact ga.exc hB R hy q
        · exact ga.run hB R e1 fun v H1 Hf1 S1 rp => (gb H0 B σ H1 Hf1 ρ1 hB S1.rel).1 y hy _ q
      · obtain ⟨d, fr, ρ1, r, e1, rfl, hok⟩ := hok
        refine ga.full hB R e1 fun v H1 ⟨Hf1, S1, rs, nw⟩ => ?_
        have E1 := (hl.step R S1).snoc rs fun hfr e he hfe => by
          intro ev
          have o1 := (hl.ok e he)
          unfold ResOk at o1
          rw [hfe] at o1
          simp only [if_true] at o1
          obtain ⟨a, ea, _, u, hu⟩ := o1.1.ref
          rcases nw hfr a (by rw [← ev, ea]) with z | ⟨j, c, hc, m, ej⟩
          · rw [hu] at z
            cases z
          · exact (o1.2 a ea).2 j c hc m ej
        refine (gb H0 B σ H1 Hf1 ρ1 hB S1.rel).2 r ρ' hok _ E1 _ fun vs H2 Hf2 hl2 S2 E2 => ?_
        refine q (v :: vs) H2 Hf2 (by rw [List.length_cons, List.length_cons, hl2]) (S1.trans S2 sub_l sub_r) ?_
        rw [List.zip_cons_cons]
        rw [List.append_assoc] at E2
        exact E2
theorem storesN {tb : Tb} {sc : Scope} : ∀ {is : List Nat} {ts : List Expr}, storesB tb sc is ts = true → ts.length = is.length
  | [], [], _ => rfl
  | [], _ :: _, h => no h
  | _ :: _, [], h => no h
  | i :: is, e :: es, h => by
    cases e with
    | Name x p =>
      have h' : (storeB tb sc i x && storesB tb sc is es) = true := h
      rw [Bool.and_eq_true] at h'
      rw [List.length_cons, List.length_cons, storesN h'.2]
    | _ => exact no h
theorem lc_of {sc : Scope} {x : Str} (h : lcB sc x = true) : sc.names.lookup x = some .local := by
  unfold lcB at h
  split at h
  · assumption
  · cases h
theorem storeN {tb : Tb} {sc : Scope} {i : Nat} {x : Str} (h : storeB tb sc i x = true) : tb.N[i]? = some x := by
  unfold storeB at h
  rw [Bool.and_eq_true] at h
  exact of_decide_eq_true h.1
theorem fs_len {cs : List FSem} : ∀ {es : Es} {ρ : Env} {ds : List (PD × Bool)} {ρ' : Env}, FsOk cs es ρ ds ρ' → ds.length = lenEs es
  | .nil, _, _, _, h => by
    obtain ⟨rfl, _⟩ := h
    rfl
  | .cons e es, _, _, _, h => by
    obtain ⟨d, fr, ρ1, r, _, rfl, h⟩ := h
    rw [List.length_cons, fs_len h]
    rfl
theorem zip_fst {vs : List V} {ds : List (PD × Bool)} (h : vs.length = ds.length) : (vs.zip ds).map (·.1) = vs := by
  rw [List.map_fst_zip]
  omega
theorem zip_cells : ∀ {vs : List V} {ds : List (PD × Bool)}, vs.length = ds.length → (vs.zip ds).map (fun e : Ent => mkC e.2.1 e.2.2) = ds.map fun p => mkC p.1 p.2
  | [], [], _ => rfl
  | [], _ :: _, h => by cases h
  | _ :: _, [], h => by cases h
  | v :: vs, d :: ds, h => by
    rw [List.zip_cons_cons, List.map_cons, List.map_cons, zip_cells (by simpa using h)]
/-- the reading's use, whatever the road -/
theorem par_use {es : Es} {is : List Nat} {t : TA} {mg : Str → Option Value} {K : PySem.W.Frag} {cs : List FSem} {Ex : XK} (g : GoodF K mg cs Ex es t) {D : Ends} {H0 : Hp} {B : Bor} {σ : L2.St} {H Hf : Hp} {ρ : Env} (hB : BOk B) (R : Rel K H0 B σ H Hf ρ) {o : SO} (ho : evalS cs (.par is es) ρ = some o) (hD : EndOk K mg H0 B Hf Ex D o)
    {Q : List V → Hp → Prop} (q : ∀ vs H' Hf' ρ1 l ρ', vs.length = lenEs es → is.length = vs.length → l.map (·.1) = vs → PostS K H0 B Hf ρ1 σ H' Hf' → EntOk K H0 σ ρ1 H' Hf' l → setCs is (l.map fun e => mkC e.2.1 e.2.2) ρ1 = some ρ' → o = .nx ρ' → Q vs H') : t σ H Q := by
  unfold evalS at ho
  rcases fs_cases ho with ⟨x, rfl, hx⟩ | ⟨ds, ρ1, hk, hok⟩
  · exact (g H0 B σ H Hf ρ hB R).1 x hx _ hD
  · obtain ⟨ρ', e2, rfl⟩ := nxO_ok hk
    refine (g H0 B σ H Hf ρ hB R).2 ds ρ1 hok [] ⟨(fun _ h => by cases h), List.Pairwise.nil⟩ _ fun vs H1 Hf1 hl S1 E1 => ?_
    rw [List.nil_append] at E1
    have e3 : setCs is ((vs.zip ds).map fun e : Ent => mkC e.2.1 e.2.2) ρ1 = some ρ' := by
      rw [zip_cells hl]
      exact e2
    have hi := (puts_ok S1.rel E1 e3).2
    rw [List.length_zip] at hi
    exact q vs H1 Hf1 ρ1 (vs.zip ds) ρ' (by rw [hl, fs_len hok]) (by omega) (zip_fst hl) (PostS.ofStep R S1) E1 e3 rfl
theorem snd_par {is : List Nat} {es : Es} (ha : AllE S es) : SndS S (.par is es) := by
  intro sc Ex F hF st h
  cases st with
  | Assign tl ex pos =>
    obtain ⟨ts, k, p, vs, k2, p2, rfl, rfl⟩ : ∃ ts k p vs k2 p2, tl = [.Tuple ts k p] ∧ ex = .Tuple vs k2 p2 := by
      cases tl with
      | nil => exact no h
      | cons t tl =>
        cases tl with
        | cons _ _ => cases t <;> exact no h
        | nil =>
          cases t with
          | Tuple ts k p =>
            cases ex with
            | Tuple vs k2 p2 => exact ⟨_, _, _, _, _, _, rfl, rfl⟩
            | _ => exact no h
          | _ => exact no h
    have h' : (storesB S.tb sc is ts && decide is.Nodup && decide (vs.length = is.length) && decide (is.length ≤ 8) && isEs S.tb sc es vs && (decide (swP sc ts vs = some none) || (decide (swP sc ts vs = some (some (is.filterMap fun i => S.tb.N[i]?))) && (decide (is.length = 2) || decide (is.length = 3)) && ts.all (nmLc sc)))) = true := h
    simp only [Bool.and_eq_true, Bool.or_eq_true, decide_eq_true_eq] at h'
    obtain ⟨⟨⟨⟨⟨h1, h2⟩, h3⟩, h8⟩, h4⟩, h5⟩ := h'
    obtain ⟨t, pa, g⟩ := snd_fs ha sc Ex F (fun X hX => (hF X hX).c) vs h4
    rcases h5 with h5 | ⟨⟨h5, h6⟩, h7⟩
    · refine ⟨tAsg (tTup t) (gTg S.K (.tp is)), fun X hX => ?_, ?_⟩
      · have C := hF X hX
        exact ps_asg (pe_tup (pa X hX)) (pgtD C (tg := .tp is) h1) rfl (swP_is C.c.hsc h5) rfl
      · intro H0 B σ H Hf ρ hB R o ho D hD
        refine par_use g hB R ho hD fun ws H1 Hf1 ρ1 l ρ' hl hi hw P1 E1 e3 eo => ?_
        subst eo
        have hsz : ws.length ≤ sizeLine := lim_line (Nat.le_trans (by omega : ws.length ≤ 8) (by decide))
        refine ⟨hsz, fun q n => ⟨q, ws, rfl, SqT.of upd_same, hi.symm, gNs_sets hi ?_⟩⟩
        have R1 := (P1.rel.grow (o := .tup ws) n).2
        have := (puts_ok R1 (E1.grow P1.rel n) e3).1
        rw [hw] at this
        exact hD _ _ Hf1 (P1.trans ⟨fun _ _ z => z, this, fun _ _ _ => rfl⟩)
    · have lts := storesN h1
      rcases h6 with h6 | h6
      · match is, ts, vs, h6, lts, h3 with
        | [i, j], [tx, ty], [a, b], _, _, _ =>
          have g2 : (nmLc sc tx && (nmLc sc ty && true)) = true := h7
          simp only [Bool.and_eq_true, Bool.and_true] at g2
          obtain ⟨x, px, rfl⟩ : ∃ x px, tx = .Name x px := by
            cases tx with
            | Name x px => exact ⟨x, px, rfl⟩
            | _ => exact no g2.1
          obtain ⟨y, py, rfl⟩ : ∃ x px, ty = .Name x px := by
            cases ty with
            | Name x px => exact ⟨x, px, rfl⟩
            | _ => exact no g2.2
          have g1 : (storeB S.tb sc i x && (storeB S.tb sc j y && true)) = true := h1
          simp only [Bool.and_eq_true, Bool.and_true] at g1
          have n1 := storeN g1.1
          have n2 := storeN g1.2
          refine ⟨tPar i j t, fun X hX => ?_, fun H0 B σ H Hf ρ hB R o ho D hD => ?_⟩
          · have C := hF X hX
            have sw : swP sc [.Name x px, .Name y py] [a, b] = some (some [x, y]) := by
              rw [h5]
              simp [List.filterMap_cons, n1, n2]
            exact ps_par C.c.calm C.c.nd (by rw [C.c.hN]; exact n1) (by rw [C.c.hN]; exact n2) (fun e => by simp [e] at h2) (by rw [C.c.hsc]; exact lc_of g2.1) (by rw [C.c.hsc]; exact lc_of g2.2) (pa X hX) (swP_is C.c.hsc sw) rfl
          · refine par_use g hB R ho hD fun ws H1 Hf1 ρ1 l ρ' hl hi hw P1 E1 e3 eo => ?_
            subst eo
            have := (puts_ok P1.rel E1 e3).1
            rw [hw] at this
            match ws, hi, this with
            | [u, v], _, this => exact ⟨u, v, rfl, hD _ _ Hf1 (P1.trans ⟨fun _ _ z => z, this, fun _ _ _ => rfl⟩)⟩
      · match is, ts, vs, h6, lts, h3 with
        | [i, j, l3], [tx, ty, tz], [a, b, c], _, _, _ =>
          have g2 : (nmLc sc tx && (nmLc sc ty && (nmLc sc tz && true))) = true := h7
          simp only [Bool.and_eq_true, Bool.and_true] at g2
          obtain ⟨x, px, rfl⟩ : ∃ x px, tx = .Name x px := by
            cases tx with
            | Name x px => exact ⟨x, px, rfl⟩
            | _ => exact no g2.1
          obtain ⟨y, py, rfl⟩ : ∃ x px, ty = .Name x px := by
            cases ty with
            | Name x px => exact ⟨x, px, rfl⟩
            | _ => exact no g2.2.1
          obtain ⟨z, pz, rfl⟩ : ∃ x px, tz = .Name x px := by
            cases tz with
            | Name x px => exact ⟨x, px, rfl⟩
            | _ => exact no g2.2.2
          have g1 : (storeB S.tb sc i x && (storeB S.tb sc j y && (storeB S.tb sc l3 z && true))) = true := h1
          simp only [Bool.and_eq_true, Bool.and_true] at g1
          have n1 := storeN g1.1
          have n2 := storeN g1.2.1
          have n3 := storeN g1.2.2
          refine ⟨tPar3 i j l3 t, fun X hX => ?_, fun H0 B σ H Hf ρ hB R o ho D hD => ?_⟩
          · have C := hF X hX
            have sw : swP sc [.Name x px, .Name y py, .Name z pz] [a, b, c] = some (some [x, y, z]) := by
              rw [h5]
              simp [List.filterMap_cons, n1, n2, n3]
            exact ps_par3 C.c.calm C.c.nd (by rw [C.c.hN]; exact n1) (by rw [C.c.hN]; exact n2) (by rw [C.c.hN]; exact n3) (fun e => by simp [e] at h2) (fun e => by simp [e] at h2) (fun e => by simp [e] at h2)
              (by rw [C.c.hsc]; exact lc_of g2.1) (by rw [C.c.hsc]; exact lc_of g2.2.1) (by rw [C.c.hsc]; exact lc_of g2.2.2) (pa X hX) (swP_is C.c.hsc sw) rfl
          · refine par_use g hB R ho hD fun ws H1 Hf1 ρ1 l ρ' hl hi hw P1 E1 e3 eo => ?_
            subst eo
            have := (puts_ok P1.rel E1 e3).1
            rw [hw] at this
            match ws, hi, this with
            | [u, v, w], _, this => exact ⟨u, v, w, rfl, hD _ _ Hf1 (P1.trans ⟨fun _ _ z => z, this, fun _ _ _ => rfl⟩)⟩
  | _ => exact no h
end DD

-- part DAll
set_option Elab.async false
set_option linter.all false
set_option maxRecDepth 100000
set_option maxHeartbeats 2000000
/-! All constructs together; a def. -/
namespace DD
open PySem PySem.Spec PyProof.Rows L2
theorem snd_none {S : Setg} {e : E} (h : ∀ tb sc ex, isE tb sc e ex = false) : SndE S e := fun sc Ex F hF ex hx => by
  rw [h] at hx
  cases hx
mutual
theorem allE (S : Setg) : (e : E) → SndE S e ∧ SndW S e
  | .nop => ⟨snd_nop, wPl rfl⟩
  | .int i => ⟨snd_int i, wPl rfl⟩
  | .bl b => ⟨snd_bl b, wPl rfl⟩
  | .non => ⟨snd_non, wPl rfl⟩
  | .str s => ⟨snd_str s, wPl rfl⟩
  | .gint x i => ⟨snd_gint x i, wPl rfl⟩
  | .gtup x is => ⟨snd_gtup x is, wPl rfl⟩
  | .var i => ⟨snd_var i, wPl rfl⟩
  | .mv i => ⟨snd_mv i, wPl rfl⟩
  | .sc e => ⟨snd_sc (allE S e).1, wSc (allE S e).2⟩
  | .bin op a b => ⟨snd_bin op (allE S a).1 (allE S b).1, wPl rfl⟩
  | .neg a => ⟨snd_neg (allE S a).1, wPl rfl⟩
  | .cmp op a b => ⟨(snd_cmp op (allE S a).1 (allE S b).1).e, wCmp op (snd_cmp op (allE S a).1 (allE S b).1)⟩
  | .chain op op2 a b c => ⟨(snd_chain op op2 (allE S a).1 (allE S b).1 (allE S c).1).e, wChain op op2 (snd_chain op op2 (allE S a).1 (allE S b).1 (allE S c).1)⟩
  | .and a b => ⟨snd_and (allE S a).1 (allE S b).1, wAnd (allE S a).2 (allE S a).1 (allE S b).2 (allE S b).1⟩
  | .or a b => ⟨snd_or (allE S a).1 (allE S b).1, wOr (allE S a).2 (allE S a).1 (allE S b).2 (allE S b).1⟩
  | .not a => ⟨snd_not (allE S a).1, wNot (allE S a).2 (allE S a).1⟩
  | .ite c a b => ⟨snd_ite ((allE S c).2.t (allE S c).1) (allE S a).1 (allE S b).1, wIte ((allE S c).2.t (allE S c).1) ((allE S a).2.t (allE S a).1) ((allE S b).2.t (allE S b).1)⟩
  | .call k as => ⟨snd_call k (allEs S as).1, wPl rfl⟩
  | .callm k v as => ⟨snd_callm k v (allEs S as).1, wPl rfl⟩
  | .blt f as => ⟨snd_blt f (allEs S as).1, wPl rfl⟩
  | .trng f as => ⟨snd_trng (allEs S as).1, wPl rfl⟩
  | .isi a ts => ⟨snd_isi ts (allE S a).1, wPl rfl⟩
  | .ix a i => ⟨snd_ix (allE S a).1 (allE S i).1, wPl rfl⟩
  | .ixv v i => ⟨snd_ixv v (allE S i).1, wPl rfl⟩
  | .slc a lo hi => ⟨snd_slc (allE S a).1 (allE S lo).1 (allE S hi).1, wPl rfl⟩
  | .slv v lo hi => ⟨snd_slv v (allE S lo).1 (allE S hi).1, wPl rfl⟩
  | .rev a => ⟨snd_rev (allE S a).1, wPl rfl⟩
  | .tup as => ⟨snd_tup (allEs S as).1, wPl rfl⟩
  | .lst as => ⟨snd_lst (allEs S as).1, wPl rfl⟩
  | .dic0 => ⟨snd_dic0, wPl rfl⟩
  | .dic1 k v => ⟨snd_none fun tb sc ex => by cases ex <;> rfl, wPl rfl⟩
  | .lc elt tg it cond => ⟨fun sc Ex F hF ex hx => by
      obtain ⟨t, p, g⟩ := snd_lc (tg := tg) (allE S elt).1 (allI S it) ((allE S cond).2.t (allE S cond).1) sc Ex F hF ex hx
      exact ⟨t, fun X hX => (p X hX).1, g⟩, wPl rfl⟩
  | .idx a x => ⟨snd_idx (allE S a).1 (allE S x).1, wPl rfl⟩
theorem allEs (S : Setg) : (es : Es) → SndA S es ∧ AllE S es
  | .nil => ⟨snd_nil, trivial⟩
  | .cons e es => ⟨snd_cons (allE S e).1 (allEs S es).1, (allE S e).1, (allEs S es).2⟩
theorem allI (S : Setg) : (it : It) → SndI S it
  | .seq e => snd_seq (allE S e).1
  | .hid v => snd_hid v
  | .rng as => snd_rng (allEs S as).1
  | .enu e => snd_enu (allE S e).1
  | .zip a b => snd_zip (allE S a).1 (allE S b).1
end
theorem allT (S : Setg) (e : E) : SndT S e := (allE S e).2.t (allE S e).1
theorem allL (S : Setg) (elt : E) (tg : Tg) (it : It) (cond : E) : SndL S elt tg it cond := snd_lc (allE S elt).1 (allI S it) (allT S cond)
mutual
theorem allS (S : Setg) : (s : DD.S) → SndS S s
  | .set i e => snd_set (allE S e).1 fun elt tg it cond _ => allL S elt tg it cond
  | .par is es => snd_par (allEs S es).2
  | .unp is e => snd_unp (allE S e).1
  | .stx v i e => snd_stx (allE S i).1 (allE S e).1
  | .aug i op e => snd_aug (allE S e).1
  | .app v e => snd_app (allE S e).1
  | .exp e => snd_exp (allE S e).1
  | .ret e => snd_ret (allE S e).1
  | .ret0 => snd_ret0
  | .ite c a b => snd_ite' (allT S c) (allSs S a) (allSs S b)
  | .fr tg it b => snd_fr (allI S it) (allSs S b)
  | .whl c b => snd_whl (allT S c) (allSs S b)
  | .rai x => snd_rai
  | .pas => snd_pas
  | .brk => snd_brk
  | .cnt => snd_cnt
theorem allSs (S : Setg) : (ss : Ss) → SndSs S ss
  | .nil => snd_snil
  | .cons s ss => snd_scons (allS S s) (allSs S ss)
end
end DD

-- part DDef
set_option Elab.async false
set_option linter.all false
set_option maxRecDepth 100000
set_option maxHeartbeats 2000000
/-! A def keeps its promise. -/
namespace DD
open PySem PySem.Spec PyProof.Rows L2
theorem getC_app1 {a b : Env} {i : Nat} (h : i < a.length) : getC (a ++ b) i = getC a i := by
  unfold getC
  rw [List.getElem?_append_left h]
theorem getC_rep {n i : Nat} : getC (List.replicate n none) i = none := by
  unfold getC
  rw [List.getElem?_replicate]
  by_cases h : i < n
  · rw [if_pos h]
  · rw [if_neg h]
theorem getC_app2 {a : Env} {n i : Nat} (h : a.length ≤ i) : getC (a ++ List.replicate n none) i = none := by
  unfold getC
  rw [List.getElem?_append_right h, List.getElem?_replicate]
  by_cases h : i - a.length < n
  · rw [if_pos h]
  · rw [if_neg h]
theorem getC_map {ds : List PD} {i : Nat} {c : Cell} (h : getC (ds.map fun d => some (.sh d)) i = some c) : ∃ d, ds[i]? = some d ∧ c = .sh d := by
  unfold getC at h
  rw [List.getElem?_map] at h
  cases e : ds[i]? with
  | none => simp [e] at h
  | some d =>
    simp only [e, Option.map_some, Option.some.injEq] at h
    exact ⟨d, rfl, h.symm⟩
theorem start_get {N : List Str} {vs : List V} {i : Nat} {v : V} (h : vs[i]? = some v) : (start N vs)[i]? = some (some v) := by
  unfold L2.start
  have hl : i < (vs.map some).length := by
    rw [List.length_map]
    exact (List.getElem?_eq_some_iff.mp h).1
  rw [List.getElem?_append_left hl, List.getElem?_map, h]
  rfl
/-- all parameters shared -/
theorem rel_sh {K : PySem.W.Frag} {H Hf : Hp} {N : List Str} {vs : List V} {ds : List PD} (e : Same Hf H) (r : RpA K Hf vs ds) : Rel K H [] (start N vs) H Hf ((ds.map fun d => some (.sh d)) ++ List.replicate (N.length - ds.length) none) := by
  have key : ∀ {i : Nat} {c : Cell}, getC ((ds.map fun d => some (.sh d)) ++ List.replicate (N.length - ds.length) none) i = some c → ∃ d, ds[i]? = some d ∧ c = .sh d := fun {i c} h => by
    by_cases hi : i < (ds.map fun d => some (Cell.sh d)).length
    · rw [getC_app1 hi] at h
      exact getC_map h
    · rw [getC_app2 (by omega)] at h
      cases h
  refine ⟨e, ?_, fun i c hc => ?_, fun i j c c' a hi hj m => ?_, fun a o h _ => h, fun i a h => by cases h⟩
  · unfold L2.start
    rw [List.length_append, List.length_append, List.length_map, List.length_map, List.length_replicate, List.length_replicate, r.length]
  · obtain ⟨d, hd, rfl⟩ := key hc
    obtain ⟨v, hv, rv⟩ := r.get hd
    exact ⟨v, start_get hv, rv⟩
  · obtain ⟨d, _, rfl⟩ := key hi
    cases m
/-- the first one borrowed -/
theorem rel_bo {K : PySem.W.Frag} {H Hf : Hp} {N : List Str} {a : Addr} {d : PD} {vs : List V} {ds : List PD} {k : Nat} (e : Same Hf H) (o : Own K H Hf (.ref a) d) (r : RpA K Hf vs ds) (hk : k = N.length - (ds.length + 1)) : Rel K H [(0, a)] (start N (.ref a :: vs)) H Hf (some (.bo d) :: (ds.map fun d => some (.sh d)) ++ List.replicate k none) := by
  have key : ∀ {i : Nat} {c : Cell}, getC (some (.bo d) :: (ds.map fun d => some (.sh d)) ++ List.replicate k none) i = some c → (i = 0 ∧ c = .bo d) ∨ ∃ j x, i = j + 1 ∧ ds[j]? = some x ∧ c = .sh x := fun {i c} h => by
    cases i with
    | zero =>
      cases h
      exact .inl ⟨rfl, rfl⟩
    | succ j =>
      right
      have h' : getC ((ds.map fun d => some (.sh d)) ++ List.replicate k none) j = some c := h
      by_cases hi : j < (ds.map fun d => some (Cell.sh d)).length
      · rw [getC_app1 hi] at h'
        obtain ⟨x, h1, h2⟩ := getC_map h'
        exact ⟨j, x, rfl, h1, h2⟩
      · rw [getC_app2 (by omega)] at h'
        cases h'
  have g0 : (start N (.ref a :: vs))[0]? = some (some (.ref a)) := start_get rfl
  refine ⟨e, ?_, fun i c hc => ?_, fun i j c c' b hi hj m m' ei ej => ?_, fun a o h _ => h, fun i b h => ?_⟩
  · unfold L2.start
    rw [hk, List.length_append, List.length_append, List.length_map, List.length_cons, List.length_cons, List.length_map, List.length_replicate, List.length_replicate, r.length]
  · rcases key hc with ⟨rfl, rfl⟩ | ⟨j, x, rfl, hx, rfl⟩
    · exact ⟨_, g0, o, fun b eb => by
        cases eb
        exact List.mem_singleton.mpr rfl⟩
    · obtain ⟨v, hv, rv⟩ := r.get hx
      exact ⟨v, start_get (by simpa using hv), rv⟩
  · rcases key hi with ⟨rfl, rfl⟩ | ⟨_, x, _, _, rfl⟩
    · rcases key hj with ⟨rfl, rfl⟩ | ⟨_, x, _, _, rfl⟩
      · rfl
      · cases m'
    · cases m
  · cases List.mem_singleton.mp h
    exact ⟨g0, d, rfl⟩
section
variable {P : Program} {w : World} {K : PySem.W.Frag} {mg : Str → Option Value} {base : Heap}
/-- facts of the exceptions -/
structure ExnOk (K : PySem.W.Frag) (mg : Str → Option Value) (x : Str) : Prop where
  ok : ∃ C : Addr, mg x = some (.ref C) ∧ PySem.W.excIn K C [.type "ValueError", .type "Exception", .type "BaseException", .type "object"] "ValueError.__new__" = true ∧ PySem.W.keepIn K (.ref C) = true ∧
    PySem.W.subIn K (.ref C) (.type "BaseException") = some true ∧ PySem.W.typeIn K (.ref C) = some (.type "type")
structure TabOk (P : Program) (w : World) (K : PySem.W.Frag) (mg : Str → Option Value) (base : Heap) (k : Nat) (tb : Tb) (cs : List FSem) (fa : List FInfo) : Prop where
  fns : ∀ (i : Nat) (nm : Str) (mu : Bool) (ar : Nat), tb.cn[i]? = some (nm, mu, ar) → ∃ (s : FSem) (g : FInfo), cs[i]? = some s ∧ fa[i]? = some g ∧ s.mu = mu ∧ mg nm = some (.ref g.f) ∧ PySem.W.keepIn K (.ref g.f) = true ∧ Binds K g.fd g.ps [] ∧ g.ps.length = ar ∧
    FnOk P w K mg base (L2.CX P w) k g.f g.fd g.ps (spF K mg s ar)
  blt : ∀ x ∈ bltNames, mg x = none
  gi : ∀ x i, (x, i) ∈ tb.gi → ∃ t, mg x = some (.int i t)
  gt : ∀ x is, (x, is) ∈ tb.gt → ∃ a, mg x = some (.ref a) ∧ ∀ H, SqT K H a (is.map V.int)
  exn : ∀ x ∈ tb.exn, ExnOk K mg x
theorem nmOk_dbg {x : Str} (h : nmOk x = true) : (x == ("__debug__" : Str)) = false := nmOk1 h
theorem def_ok {x qual : Str} {st : Stmt} {f : Addr} {fd : FuncData} {ps : List Str} {k : Nat} {tb : Tb} {cs : List FSem} {fa : List FInfo} {mu : Bool} {b : Ss} (F : Fun K x qual st f fd) (Sc : FnScope tb.N ps (defScope st)) (T : TabOk P w K mg base k tb cs fa)
    (hb : isSs tb (defScope st) b (defBody st) = true) : FnOk P w K mg base (L2.CX P w) (k + 1) f fd ps (spF K mg (defSem mu ps.length tb.N.length cs b) ps.length) := by
  refine F.okX Sc (fun vs H Q E h => h.1) fun cdv A outer s H vs Q E hr h => ?_
  let S : Setg := ⟨tb, cs, fa, K, mg, k⟩
  let X0 := cxOf (L2.CX P w) P w K mg base tb.N qual (defScope st) f cdv A outer s H E
  have tk : Takes X0 (fun cls d _ H => E cls d H) := takes_of rfl rfl rfl rfl
  have C : SCx S (defScope st) E X0 :=
    { c := ⟨rfl, rfl, rfl, Sc.nd, rfl, rfl, hr, passes_call tk fun _ _ _ _ h => h, T.fns, T.blt, T.gi, T.gt⟩
      fnc := fun _ _ => rfl
      kd := Sc.kind
      own := passes_of rfl
      rai := fun x hx => by
        obtain ⟨Ca, e1, e2, e3, e4, e5⟩ := (T.exn x hx).ok
        exact ⟨Ca, e1, fun m j p p2 pos hg hn => pmk_own PySem.F.excBase_ValueError e2 e1 e3 (raises_own e4 e5) hg (nmOk_dbg hn)⟩
      tk := tk }
  obtain ⟨t, p, g⟩ := allSs S b (defScope st) E (fun X => X = X0) (fun X hX => by rw [hX]; exact C) (defBody st) hb
  refine ⟨t, p X0 rfl, ?_⟩
  obtain ⟨hl, ds, Hf, e, ha, hm⟩ := h
  have hld : ds.length = ps.length := by
    unfold ArgsOk at ha
    split at ha
    · obtain ⟨v, r, d, s2, rfl, rfl, _, rr⟩ := ha
      rw [← hl, List.length_cons, List.length_cons, rr.length]
    · rw [← hl, ha.length]
  have hm' : match outF mu (evalSs cs b (envOf mu ds tb.N.length)) with
    | none => False
    | some (.ret d fr m) => ∀ v H' Hf', Same Hf Hf' → Same Hf' H' → (∀ a o, H a = some o → ¬ MuAt mu vs a → H' a = some o) → (∀ b u, H b = some u → Hf' b = Hf b) →
      (mu = true → ∀ w, vs.head? = some w → Own K H' Hf' w m) → (if fr = true then Own K H' Hf' v d ∧ ∀ a, v = .ref a → H a = none else Rp K Hf' v d) → Q v H'
    | some (.ex x) => ∀ C H', mg x = some (.ref C) → (∀ a o, H a = some o → ¬ MuAt mu vs a → H' a = some o) → E (.ref C) none H' := by
    have e2 : (defSem mu ps.length tb.N.length cs b).run ds = outF mu (evalSs cs b (envOf mu ds tb.N.length)) := if_pos hld
    rw [e2] at hm
    exact hm
  cases ev : evalSs cs b (envOf mu ds tb.N.length) with
  | none =>
    rw [ev] at hm'
    exact hm'.elim
  | some o =>
    rw [ev] at hm'
    cases mu with
    | false =>
      have ha' : RpA K Hf vs ds := ha
      have R := rel_sh (N := tb.N) e ha'
      have ev' : evalSs cs b ((ds.map fun d => some (.sh d)) ++ List.replicate (tb.N.length - ds.length) none) = some o := by
        have : envOf false ds tb.N.length = (ds.map fun d => some (.sh d)) ++ List.replicate (tb.N.length - ds.length) none := by
          cases ds <;> rfl
        rw [← this]
        exact ev
      have fr0 : ∀ {σ' H' Hf' ρ'}, PostS K H [] Hf ρ' σ' H' Hf' → ∀ a o, H a = some o → ¬ MuAt false vs a → H' a = some o := fun P a o h _ => P.rel.ent a o h fun i hi => by cases hi
      refine g H [] _ H Hf _ (fun i a h => by cases h) R o ev' _ ?_
      cases o with
      | nx ρ' => exact fun σ' H' Hf' P => hm' .non H' Hf' P.ext P.rel.ext (fr0 P) P.gr (fun z => nomatch z) Rp.non
      | rt d fr ρ' => exact fun v σ' H' Hf' P r => hm' v H' Hf' P.ext P.rel.ext (fr0 P) P.gr (fun z => nomatch z) r
      | bk ρ' => exact hm'.elim
      | ct ρ' => exact hm'.elim
      | ex x => exact fun C H' hC hE => hm' C H' hC fun a o h _ => hE a o h fun i hi => by cases hi
    | true =>
      obtain ⟨v0, vr, d0, dr, rfl, rfl, ow, rr⟩ := (show ∃ v r d s, vs = v :: r ∧ ds = d :: s ∧ Own K H Hf v d ∧ RpA K Hf r s from ha)
      obtain ⟨a0, rfl, _, _⟩ := ow.ref
      have R := rel_bo (N := tb.N) e ow rr rfl
      have fr0 : ∀ {H'}, EFr H [(0, a0)] H' → ∀ a o, H a = some o → ¬ MuAt true (.ref a0 :: vr) a → H' a = some o := fun hE a o h hn => hE a o h fun i hi => by
        cases List.mem_singleton.mp hi
        exact hn ⟨rfl, rfl⟩
      have mown : ∀ {σ' H' Hf' ρ' m}, PostS K H [(0, a0)] Hf ρ' σ' H' Hf' → getC ρ' 0 = some (.bo m) → ∀ w, (V.ref a0 :: vr).head? = some w → Own K H' Hf' w m := fun {σ' H' Hf' ρ' m} P hc w hw => by
        cases hw
        obtain ⟨v, hv, ok⟩ := P.rel.get 0 _ hc
        obtain ⟨e1, _⟩ := P.rel.bor 0 a0 (List.mem_singleton.mpr rfl)
        rw [hv] at e1
        cases e1
        exact ok.1
      have ev' : evalSs cs b (some (.bo d0) :: (dr.map fun d => some (.sh d)) ++ List.replicate (tb.N.length - (dr.length + 1)) none) = some o := ev
      refine g H [(0, a0)] _ H Hf _ (fun i a h => by
        cases List.mem_singleton.mp h
        rfl) R o ev' _ ?_
      cases o with
      | nx ρ' =>
        intro σ' H' Hf' P
        obtain ⟨_, m, hc⟩ := P.rel.bor 0 a0 (List.mem_singleton.mpr rfl)
        simp only [outF, if_true, hc] at hm'
        exact hm' .non H' Hf' P.ext P.rel.ext (fr0 P.rel.ent) P.gr (fun _ => mown P hc) Rp.non
      | rt d fr ρ' =>
        intro v σ' H' Hf' P r
        obtain ⟨_, m, hc⟩ := P.rel.bor 0 a0 (List.mem_singleton.mpr rfl)
        simp only [outF, if_true, hc] at hm'
        exact hm' v H' Hf' P.ext P.rel.ext (fr0 P.rel.ent) P.gr (fun _ => mown P hc) r
      | bk ρ' => exact hm'.elim
      | ct ρ' => exact hm'.elim
      | ex x => exact fun C H' hC hE => hm' C H' hC (fr0 hE)
/-- never used: a def of no promise -/
def noSem (mu : Bool) : FSem := ⟨mu, fun _ => none⟩
theorem no_ok {f : Addr} {fd : FuncData} {ps : List Str} {k n : Nat} {mu : Bool} : FnOk P w K mg base (L2.CX P w) k f fd ps (spF K mg (noSem mu) n) :=
  ⟨fun vs H Q E h => by
    obtain ⟨_, _, _, _, _, z⟩ := h
    exact z.elim, fun A outer s H args us vs Q E _ _ _ _ h => by
    obtain ⟨_, _, _, _, _, z⟩ := h
    exact z.elim⟩
structure Callee (P : Program) (w : World) (K : PySem.W.Frag) (mg : Str → Option Value) (base : Heap) (k : Nat) (c : Str × Bool × Nat) (s : FSem) (g : FInfo) : Prop where
  mu : s.mu = c.2.1
  here : mg c.1 = some (.ref g.f)
  kp : PySem.W.keepIn K (.ref g.f) = true
  bd : Binds K g.fd g.ps []
  ln : g.ps.length = c.2.2
  ok : FnOk P w K mg base (L2.CX P w) k g.f g.fd g.ps (spF K mg s c.2.2)
inductive Tabs (P : Program) (w : World) (K : PySem.W.Frag) (mg : Str → Option Value) (base : Heap) (k : Nat) : List (Str × Bool × Nat) → List FSem → List FInfo → Prop where
  | nil : Tabs P w K mg base k [] [] []
  | cons {c : Str × Bool × Nat} {cn : List (Str × Bool × Nat)} {s : FSem} {cs : List FSem} {g : FInfo} {fa : List FInfo} : Callee P w K mg base k c s g → Tabs P w K mg base k cn cs fa → Tabs P w K mg base k (c :: cn) (s :: cs) (g :: fa)
theorem Tabs.fns {k : Nat} : ∀ {cn : List (Str × Bool × Nat)} {cs : List FSem} {fa : List FInfo}, Tabs P w K mg base k cn cs fa → ∀ (i : Nat) (nm : Str) (mu : Bool) (ar : Nat), cn[i]? = some (nm, mu, ar) →
    ∃ (s : FSem) (g : FInfo), cs[i]? = some s ∧ fa[i]? = some g ∧ s.mu = mu ∧ mg nm = some (.ref g.f) ∧ PySem.W.keepIn K (.ref g.f) = true ∧ Binds K g.fd g.ps [] ∧ g.ps.length = ar ∧ FnOk P w K mg base (L2.CX P w) k g.f g.fd g.ps (spF K mg s ar)
  | _, _, _, .nil, i, _, _, _, h => by simp at h
  | _, _, _, .cons (s := s) (g := g) c t, 0, nm, mu, ar, h => by
    simp at h
    subst h
    exact ⟨s, g, rfl, rfl, c.mu, c.here, c.kp, c.bd, c.ln, c.ok⟩
  | _, _, _, .cons c t, i + 1, nm, mu, ar, h => by
    obtain ⟨s, g, h1, h2, h3⟩ := Tabs.fns t i nm mu ar (by simpa using h)
    exact ⟨s, g, by simpa using h1, by simpa using h2, h3⟩
theorem Callee.up {j k : Nat} {c : Str × Bool × Nat} {s : FSem} {g : FInfo} (h : Callee P w K mg base j c s g) (le : j ≤ k) : Callee P w K mg base k c s g := ⟨h.mu, h.here, h.kp, h.bd, h.ln, h.ok.mono le⟩
def GiOk (mg : Str → Option Value) : List (Str × Int) → Prop
  | [] => True
  | (x, i) :: r => (∃ t, mg x = some (.int i t)) ∧ GiOk mg r
theorem giOk : ∀ {l : List (Str × Int)}, GiOk mg l → ∀ x i, (x, i) ∈ l → ∃ t, mg x = some (.int i t)
  | [], _, _, _, h => by cases h
  | (y, j) :: r, g, x, i, h => by
    rcases List.mem_cons.mp h with e | h
    · cases e
      exact g.1
    · exact giOk g.2 x i h
def GtOk (K : PySem.W.Frag) (mg : Str → Option Value) : List (Str × List Int) → Prop
  | [] => True
  | (x, is) :: r => (∃ a, mg x = some (.ref a) ∧ ∀ H, SqT K H a (is.map V.int)) ∧ GtOk K mg r
theorem gtOk : ∀ {l : List (Str × List Int)}, GtOk K mg l → ∀ x is, (x, is) ∈ l → ∃ a, mg x = some (.ref a) ∧ ∀ H, SqT K H a (is.map V.int)
  | [], _, _, _, h => by cases h
  | (y, j) :: r, g, x, i, h => by
    rcases List.mem_cons.mp h with e | h
    · cases e
      exact g.1
    · exact gtOk g.2 x i h
def ExOk (K : PySem.W.Frag) (mg : Str → Option Value) : List Str → Prop
  | [] => True
  | x :: r => ExnOk K mg x ∧ ExOk K mg r
theorem exOk : ∀ {l : List Str}, ExOk K mg l → ∀ x ∈ l, ExnOk K mg x
  | [], _, _, h => by cases h
  | y :: r, g, x, h => by
    rcases List.mem_cons.mp h with e | h
    · rw [e]
      exact g.1
    · exact exOk g.2 x h
/-- a def at its place -/
structure Def (K : PySem.W.Frag) (mg : Str → Option Value) (x : Str) (st : Stmt) (f : Addr) (fd : FuncData) (ps : List Str) : Prop where
  fn : Fun K x x st f fd
  here : mg x = some (.ref f)
  bd : Binds K fd ps []
theorem Def.call {x : Str} {st : Stmt} {f : Addr} {fd : FuncData} {ps : List Str} {k ar : Nat} {mu : Bool} {s : FSem} (D : Def K mg x st f fd ps) (o : FnOk P w K mg base (L2.CX P w) k f fd ps (spF K mg s ar)) (hm : s.mu = mu) (hl : ps.length = ar) : Callee P w K mg base k (x, mu, ar) s ⟨f, fd, ps⟩ :=
  ⟨hm, D.here, D.fn.kp, D.bd, hl, o⟩
theorem mk_ok {x : Str} {st : Stmt} {f : Addr} {fd : FuncData} {ps : List Str} {k ar : Nat} {tb : Tb} {cs : List FSem} {fa : List FInfo} {mu : Bool} {b : Ss} (D : Def K mg x st f fd ps) (har : ps.length = ar) (Sc : FnScope tb.N ps (defScope st)) (hb : isSs tb (defScope st) b (defBody st) = true)
    (hz : ∀ x ∈ bltNames, mg x = none) (T : Tabs P w K mg base k tb.cn cs fa) (gi : GiOk mg tb.gi) (gt : GtOk K mg tb.gt) (ex : ExOk K mg tb.exn) : FnOk P w K mg base (L2.CX P w) (k + 1) f fd ps (spF K mg (defSem mu ar tb.N.length cs b) ar) := by
  rw [← har]
  exact def_ok D.fn Sc ⟨T.fns, hz, giOk gi, gtOk gt, exOk ex⟩ hb
end
theorem cx_false {P : Program} {w : World} {l : List PySem.Env} {H : Hp} {s s' : Shared} {e : Value} (h : L2.CX P w l H s (fun _ _ _ => False) e s') : False := by
  obtain ⟨_, _, _, _, _, h⟩ := h
  exact h.2.2.2.2.2.2.2
/-- the law's promise -/
def spL (K : PySem.W.Frag) : Sp := fun vs H Q _ => ∃ (a : Addr) (ns : List Int), vs = [.ref a] ∧ ns.length ≤ 63 ∧ SqL K H a (ns.map V.int) ∧ ∀ H', Q (.bl true) H'
/-- what is wanted of a law in plain Lean -/
def Plain (s : FSem) : Prop := ∀ ns : List Int, ns.length ≤ 63 → ∃ fr m, s.run [.list (ofInts ns)] = some (.ret (.bool true) fr m)
theorem spL_imp {K : PySem.W.Frag} {mg : Str → Option Value} {s : FSem} (hm : s.mu = false) (h : Plain s) (vs : List V) (H : Hp) (Q : VK) (E : XK) (hs : spL K vs H Q E) : spF K mg s 1 vs H Q E := by
  obtain ⟨a, ns, rfl, hl, hS, q⟩ := hs
  obtain ⟨fr, m, e⟩ := h ns hl
  refine ⟨rfl, [.list (ofInts ns)], H, fun _ _ z => z, ?_, ?_⟩
  · unfold ArgsOk
    rw [hm]
    exact .cons (.lst hS (RpA.ofInts ns)) .nil
  · rw [e]
    intro v H' Hf' _ _ _ _ _ r
    cases fr with
    | false =>
      rw [r.bl_inv]
      exact q H'
    | true => cases r.1
end DD

-- part DLib
set_option Elab.async false
set_option linter.all false
set_option maxRecDepth 100000
/-! The defs of the laws as texts of the small language (printed by wip/gen/gen.py). -/
namespace DD.P
open DD
def t_is_between : Tb := ⟨["value", "low", "high"], [], [], [], []⟩
def b_is_between : Ss := (.cons (.ret (.sc (.and (.isi (.var 0) [.int]) (.and (.not (.isi (.var 0) [.bool])) (.chain .LtE .LtE (.var 1) (.var 0) (.var 2))))))
  .nil)
/-- is_between: value, low, high -/
def s_is_between (cs : List FSem) : FSem := defSem false 3 3 cs b_is_between
def t_is_basket : Tb := ⟨["value", "price"], [("is_between", false, 3)], [("MAX_ITEMS", 12), ("MAX_PRICE", 10000)], [], []⟩
def c1_is_basket : E := .lc (.call 0 (.cons (.var 1) (.cons (.int 1) (.cons (.gint "MAX_PRICE" 10000) .nil)))) (.nm 1) (.seq (.var 0)) (.bl true)
def b_is_basket : Ss := (.cons (.ite (.sc (.or (.not (.isi (.var 0) [.tuple])) (.not (.chain .LtE .LtE (.int 1) (.blt .len (.cons (.var 0) .nil)) (.gint "MAX_ITEMS" 12)))))
  (.cons (.ret (.bl false))
  .nil)
  .nil)
  (.cons (.ret (.sc (.blt .all (.cons c1_is_basket .nil))))
  .nil))
/-- is_basket: value -/
def s_is_basket (cs : List FSem) : FSem := defSem false 1 2 cs b_is_basket
def t_check_basket : Tb := ⟨["basket"], [("is_basket", false, 1)], [], [], ["InvalidBasket"]⟩
def b_check_basket : Ss := (.cons (.ite (.sc (.not (.call 0 (.cons (.var 0) .nil))))
  (.cons (.rai "InvalidBasket")
  .nil)
  .nil)
  .nil)
/-- check_basket: basket -/
def s_check_basket (cs : List FSem) : FSem := defSem false 1 1 cs b_check_basket
def t_row_of : Tb := ⟨["basket", "cost", "item", "price"], [], [], [], []⟩
def c1_row_of : E := .lc (.tup (.cons (.neg (.var 3)) (.cons (.var 2) .nil))) (.tp [2, 3]) (.enu (.var 0)) (.bl true)
def c2_row_of : E := .lc (.var 2) (.tp [1, 2]) (.seq (.blt .sorted (.cons c1_row_of .nil))) (.bl true)
def b_row_of : Ss := (.cons (.ret (.blt .tuple (.cons c2_row_of .nil)))
  .nil)
/-- row_of: basket -/
def s_row_of (cs : List FSem) : FSem := defSem false 1 4 cs b_row_of
def t_row : Tb := ⟨["basket"], [("check_basket", false, 1), ("row_of", false, 1)], [], [], []⟩
def b_row : Ss := (.cons (.exp (.call 0 (.cons (.var 0) .nil)))
  (.cons (.ret (.call 1 (.cons (.var 0) .nil)))
  .nil))
/-- row: basket -/
def s_row (cs : List FSem) : FSem := defSem false 1 1 cs b_row
def t_law_source : Tb := ⟨["_law_cell", "_law_turn"], [], [], [], []⟩
def b_law_source : Ss := (.cons (.ite (.sc (.cmp .GtE (.var 0) (.bin .Pow (.int 10) (.int 18))))
  (.cons (.ret (.lst (.cons (.bin .Sub (.var 0) (.bin .Pow (.int 10) (.int 18))) (.cons (.bin .Mod (.var 0) (.int 2147483579)) (.cons (.var 1) .nil)))))
  .nil)
  .nil)
  (.cons (.ret (.lst (.cons (.int 0) (.cons (.bin .Mod (.var 0) (.int 2147483579)) (.cons (.var 1) .nil)))))
  .nil))
/-- _law_source: _law_cell, _law_turn -/
def s_law_source (cs : List FSem) : FSem := defSem false 2 2 cs b_law_source
def t_law_draw : Tb := ⟨["_law_source_here", "_law_size", "_law_number", "_law_drawn"], [], [], [], []⟩
def b_law_draw : Ss := (.cons (.ite (.sc (.cmp .Gt (.ixv 0 (.int 0)) (.int 1)))
  (.cons (.set 3 (.bin .Mod (.ixv 0 (.int 0)) (.var 1)))
  (.cons (.stx 0 (.int 0) (.bin .FloorDiv (.ixv 0 (.int 0)) (.var 1)))
  (.cons (.ret (.mv 3))
  .nil)))
  .nil)
  (.cons (.stx 0 (.int 2) (.bin .Add (.ixv 0 (.int 2)) (.int 1)))
  (.cons (.set 2 (.bin .Mod (.bin .Pow (.bin .Add (.ixv 0 (.int 1)) (.bin .Mult (.int 15485867) (.ixv 0 (.int 2)))) (.int 5)) (.int 2147483647)))
  (.cons (.set 3 (.bin .FloorDiv (.bin .Mod (.bin .Pow (.bin .Add (.var 2) (.bin .Mult (.int 7919) (.ixv 0 (.int 2)))) (.int 3)) (.int 2147483629)) (.int 32)))
  (.cons (.ret (.bin .Mod (.var 3) (.var 1)))
  .nil)))))
/-- _law_draw: _law_source_here, _law_size -/
def s_law_draw (cs : List FSem) : FSem := defSem true 2 4 cs b_law_draw
def t_law_is_int : Tb := ⟨["_law_value"], [], [], [], []⟩
def b_law_is_int : Ss := (.cons (.ret (.sc (.and (.isi (.var 0) [.int]) (.not (.isi (.var 0) [.bool])))))
  .nil)
/-- _law_is_int: _law_value -/
def s_law_is_int (cs : List FSem) : FSem := defSem false 1 1 cs b_law_is_int
def t_law_choice : Tb := ⟨["_law_source_here", "_law_items"], [("_law_draw", true, 2)], [], [], []⟩
def b_law_choice : Ss := (.cons (.ret (.ixv 1 (.callm 0 0 (.cons (.sc (.blt .len (.cons (.var 1) .nil))) .nil))))
  .nil)
/-- _law_choice: _law_source_here, _law_items -/
def s_law_choice (cs : List FSem) : FSem := defSem true 2 2 cs b_law_choice
def t_law_kind : Tb := ⟨["_law_value"], [], [], [], []⟩
def b_law_kind : Ss := (.cons (.ite (.sc (.isi (.var 0) [.bool]))
  (.cons (.ret (.int 1))
  .nil)
  .nil)
  (.cons (.ite (.sc (.isi (.var 0) [.int]))
  (.cons (.ret (.int 2))
  .nil)
  .nil)
  (.cons (.ite (.sc (.isi (.var 0) [.str]))
  (.cons (.ret (.int 3))
  .nil)
  .nil)
  (.cons (.ite (.sc (.isi (.var 0) [.list]))
  (.cons (.ret (.int 4))
  .nil)
  .nil)
  (.cons (.ret (.ite (.sc (.isi (.var 0) [.tuple])) (.int 5) (.int 6)))
  .nil)))))
/-- _law_kind: _law_value -/
def s_law_kind (cs : List FSem) : FSem := defSem false 1 1 cs b_law_kind
def t_law_equal : Tb := ⟨["_law_value", "_law_expected", "_law_k", "_law_part"], [("_law_kind", false, 1), ("_law_equal", false, 2)], [], [], []⟩
def c1_law_equal : E := .lc (.var 2) (.tp [2, 3]) (.enu (.var 0)) (.sc (.not (.call 1 (.cons (.var 3) (.cons (.ixv 1 (.var 2)) .nil)))))
def b_law_equal : Ss := (.cons (.ite (.sc (.cmp .NotEq (.call 0 (.cons (.var 0) .nil)) (.call 0 (.cons (.var 1) .nil))))
  (.cons (.ret (.bl false))
  .nil)
  .nil)
  (.cons (.ite (.sc (.and (.cmp .Gt (.call 0 (.cons (.var 0) .nil)) (.int 3)) (.cmp .Lt (.call 0 (.cons (.var 0) .nil)) (.int 6))))
  (.cons (.ite (.sc (.cmp .NotEq (.blt .len (.cons (.var 0) .nil)) (.blt .len (.cons (.var 1) .nil))))
  (.cons (.ret (.bl false))
  .nil)
  .nil)
  (.cons (.ret (.sc (.cmp .Eq c1_law_equal (.lst .nil))))
  .nil))
  .nil)
  (.cons (.ret (.sc (.cmp .Eq (.var 0) (.var 1))))
  .nil)))
/-- _law_equal: _law_value, _law_expected -/
def s_law_equal (cs : List FSem) : FSem := defSem false 2 4 cs b_law_equal
def t_law_any_value : Tb := ⟨["_law_source_here", "_law_values"], [("_law_choice", true, 2)], [], [], []⟩
def b_law_any_value : Ss := (.cons (.set 1 (.lst (.cons .non (.cons (.bl true) (.cons (.str "") (.cons (.str "x") (.cons (.tup .nil) (.cons (.lst .nil) (.cons (.tup (.cons (.tup .nil) .nil)) (.cons (.int 7) (.cons (.neg (.int 1)) (.cons (.bin .Pow (.int 10) (.int 30)) (.cons (.tup (.cons (.int 1) (.cons (.int 2) .nil))) (.cons (.tup (.cons (.tup (.cons (.int 0) .nil)) (.cons (.tup (.cons (.int 1) .nil)) .nil))) (.cons (.tup (.cons (.tup (.cons (.int 0) (.cons (.int 1) .nil))) .nil)) (.cons (.tup (.cons (.int 0) (.cons (.int 0) .nil))) .nil))))))))))))))))
  (.cons (.ret (.callm 0 0 (.cons (.var 1) .nil)))
  .nil))
/-- _law_any_value: _law_source_here -/
def s_law_any_value (cs : List FSem) : FSem := defSem true 1 2 cs b_law_any_value
def t_law_corrupt : Tb := ⟨["_law_source_here", "_law_value", "_law_items", "_law_at", "_law_other"], [("_law_draw", true, 2), ("_law_corrupt", true, 2)], [], [], []⟩
def b_law_corrupt : Ss := (.cons (.ite (.and (.sc (.isi (.var 1) [.tuple, .list])) (.and (.sc (.cmp .Gt (.blt .len (.cons (.var 1) .nil)) (.int 0))) (.cmp .Gt (.callm 0 0 (.cons (.int 5) .nil)) (.int 0))))
  (.cons (.set 2 (.blt .list (.cons (.var 1) .nil)))
  (.cons (.set 3 (.callm 0 0 (.cons (.sc (.blt .len (.cons (.var 2) .nil))) .nil)))
  (.cons (.stx 2 (.var 3) (.callm 1 0 (.cons (.ixv 2 (.var 3)) .nil)))
  (.cons (.ret (.ite (.sc (.isi (.var 1) [.tuple])) (.blt .tuple (.cons (.var 2) .nil)) (.var 2)))
  .nil))))
  .nil)
  (.cons (.ite (.sc (.isi (.var 1) [.tuple, .list]))
  (.cons (.set 4 (.ite (.sc (.isi (.var 1) [.tuple])) (.blt .list (.cons (.var 1) .nil)) (.blt .tuple (.cons (.var 1) .nil))))
  (.cons (.ret (.ix (.lst (.cons (.var 4) (.cons (.bin .Add (.var 1) (.slv 1 .nop (.int 1))) (.cons (.slv 1 (.int 1) .nop) (.cons (.rev (.var 1)) (.cons .non .nil)))))) (.callm 0 0 (.cons (.int 5) .nil))))
  .nil))
  .nil)
  (.cons (.ite (.sc (.isi (.var 1) [.int]))
  (.cons (.ret (.ix (.lst (.cons (.bin .Add (.var 1) (.int 1)) (.cons (.bin .Sub (.var 1) (.int 1)) (.cons (.bl true) (.cons .non (.cons (.int 0) (.cons (.int 10001) (.cons (.blt .str (.cons (.var 1) .nil)) .nil)))))))) (.callm 0 0 (.cons (.int 7) .nil))))
  .nil)
  .nil)
  (.cons (.ret (.ix (.lst (.cons .non (.cons (.int 7) (.cons (.str "a") (.cons (.str "b") (.cons (.str "x") (.cons (.str "y") (.cons (.str "z") (.cons (.str "") .nil))))))))) (.callm 0 0 (.cons (.int 8) .nil))))
  .nil))))
/-- _law_corrupt: _law_source_here, _law_value -/
def s_law_corrupt (cs : List FSem) : FSem := defSem true 2 5 cs b_law_corrupt
def t_law_basket : Tb := ⟨["_law_source_here", "_law_most", "_law_wide", "_law_turn"], [("_law_choice", true, 2), ("_law_draw", true, 2)], [], [], []⟩
def c1_law_basket : E := .lc (.bin .Add (.int 1) (.callm 1 0 (.cons (.var 2) .nil))) (.nm 3) (.rng (.cons (.bin .Add (.int 1) (.callm 1 0 (.cons (.var 1) .nil))) .nil)) (.bl true)
def b_law_basket : Ss := (.cons (.set 2 (.callm 0 0 (.cons (.lst (.cons (.int 3) (.cons (.int 9) (.cons (.int 60) (.cons (.int 10000) .nil))))) .nil)))
  (.cons (.ret (.blt .tuple (.cons c1_law_basket .nil)))
  .nil))
/-- _law_basket: _law_source_here, _law_most -/
def s_law_basket (cs : List FSem) : FSem := defSem true 2 4 cs b_law_basket
def t_law_is_basket : Tb := ⟨["_law_value", "_law_price"], [("_law_is_int", false, 1)], [], [], []⟩
def c1_law_is_basket : E := .lc (.var 1) (.nm 1) (.seq (.var 0)) (.sc (.or (.not (.call 0 (.cons (.var 1) .nil))) (.not (.chain .LtE .LtE (.int 1) (.var 1) (.int 10000)))))
def b_law_is_basket : Ss := (.cons (.ite (.sc (.or (.not (.isi (.var 0) [.tuple])) (.not (.chain .LtE .LtE (.int 1) (.blt .len (.cons (.var 0) .nil)) (.int 12)))))
  (.cons (.ret (.bl false))
  .nil)
  .nil)
  (.cons (.ret (.sc (.cmp .Eq c1_law_is_basket (.lst .nil))))
  .nil))
/-- _law_is_basket: _law_value -/
def s_law_is_basket (cs : List FSem) : FSem := defSem false 1 2 cs b_law_is_basket
def t_law_k01 : Tb := ⟨["_law_script", "_law_cell", "_law_source_here", "_law_basket_here", "_law_wrong", "_law_some", "_law_value", "_law_result", "_law_one", "_law_other", "_law_k"], [("_law_source", false, 2), ("_law_basket", true, 2), ("_law_corrupt", true, 2), ("_law_any_value", true, 1), ("_law_equal", false, 2), ("is_basket", false, 1), ("_law_is_basket", false, 1), ("row", false, 1)], [], [], []⟩
def c1_law_k01 : E := .lc (.callm 2 2 (.cons (.var 3) .nil)) (.nm 10) (.rng (.cons (.int 10) .nil)) (.bl true)
def l1_law_k01 : Ss := (.cons (.ite (.sc (.not (.call 4 (.cons (.call 5 (.cons (.var 6) .nil)) (.cons (.call 6 (.cons (.var 6) .nil)) .nil)))))
  (.cons (.ret (.bl false))
  .nil)
  .nil)
  .nil)
def l2_law_k01 : Ss := (.cons (.ite (.sc (.or (.cmp .Lt (.ixv 3 (.var 8)) (.ixv 3 (.var 9))) (.and (.cmp .Eq (.ixv 3 (.var 8)) (.ixv 3 (.var 9))) (.cmp .Gt (.var 8) (.var 9)))))
  (.cons (.ret (.bl false))
  .nil)
  .nil)
  .nil)
def l3_law_k01 : Ss := (.cons (.set 2 (.call 0 (.cons (.var 1) (.cons (.int 1) .nil))))
  (.cons (.set 3 (.callm 1 2 (.cons (.int 12) .nil)))
  (.cons (.set 4 (.callm 2 2 (.cons (.var 3) .nil)))
  (.cons (.set 5 (.lst (.cons (.var 3) (.cons (.var 4) (.cons (.callm 2 2 (.cons (.var 4) .nil)) (.cons (.blt .list (.cons (.var 3) .nil)) (.cons (.tup .nil) (.cons .non (.cons (.bin .Mult (.tup (.cons (.int 1) .nil)) (.int 12)) (.cons (.bin .Mult (.tup (.cons (.int 1) .nil)) (.int 13)) (.cons (.tup (.cons (.int 10000) .nil)) .nil)))))))))))
  (.cons (.set 5 (.bin .Add (.var 5) (.lst (.cons (.tup (.cons (.int 10001) .nil)) (.cons (.tup (.cons (.int 0) .nil)) (.cons (.tup (.cons (.bl true) .nil)) (.cons (.tup (.cons (.neg (.int 1)) .nil)) (.cons (.int 5) (.cons (.callm 3 2 .nil) .nil)))))))))
  (.cons (.fr (.nm 6) (.seq (.bin .Add (.var 5) c1_law_k01)) l1_law_k01)
  (.cons (.set 7 (.call 7 (.cons (.var 3) .nil)))
  (.cons (.ite (.sc (.or (.not (.isi (.var 7) [.tuple])) (.cmp .NotEq (.blt .sorted (.cons (.var 7) .nil)) (.trng .list (.cons (.sc (.blt .len (.cons (.var 3) .nil))) .nil)))))
  (.cons (.ret (.bl false))
  .nil)
  .nil)
  (.cons (.fr (.tp [8, 9]) (.zip (.var 7) (.slv 7 (.int 1) .nop)) l2_law_k01)
  .nil)))))))))
def b_law_k01 : Ss := (.cons (.fr (.nm 1) (.seq (.slc (.bin .Add (.lst (.cons (.int 0) .nil)) (.var 0)) .nop (.int 10))) l3_law_k01)
  (.cons (.ret (.sc (.cmp .Eq (.call 7 (.cons (.tup (.cons (.int 5) (.cons (.int 7) (.cons (.int 5) .nil)))) .nil)) (.tup (.cons (.int 1) (.cons (.int 0) (.cons (.int 2) .nil)))))))
  .nil))
/-- law: _law_script -/
def s_law_k01 (cs : List FSem) : FSem := defSem false 1 11 cs b_law_k01
def t_is_ascending : Tb := ⟨["basket", "value", "first", "second", "item"], [("is_between", false, 3)], [], [], []⟩
def c1_is_ascending : E := .lc (.call 0 (.cons (.var 4) (.cons (.int 0) (.cons (.bin .Sub (.sc (.blt .len (.cons (.var 0) .nil))) (.int 1)) .nil)))) (.nm 4) (.seq (.var 1)) (.bl true)
def c2_is_ascending : E := .lc (.sc (.cmp .Lt (.var 2) (.var 3))) (.tp [2, 3]) (.zip (.var 1) (.slv 1 (.int 1) .nop)) (.bl true)
def b_is_ascending : Ss := (.cons (.ite (.sc (.or (.not (.isi (.var 1) [.tuple])) (.not (.blt .all (.cons c1_is_ascending .nil)))))
  (.cons (.ret (.bl false))
  .nil)
  .nil)
  (.cons (.ret (.sc (.blt .all (.cons c2_is_ascending .nil))))
  .nil))
/-- is_ascending: basket, value -/
def s_is_ascending (cs : List FSem) : FSem := defSem false 2 5 cs b_is_ascending
def t_splits : Tb := ⟨["basket", "value", "items", "receipt"], [("is_ascending", false, 2)], [], [], []⟩
def c1_splits : E := .lc (.call 0 (.cons (.var 0) (.cons (.var 3) .nil))) (.nm 3) (.seq (.var 1)) (.bl true)
def l1_splits : Ss := (.cons (.aug 2 .Add (.var 3))
  .nil)
def b_splits : Ss := (.cons (.ite (.sc (.or (.not (.isi (.var 1) [.tuple])) (.not (.blt .all (.cons c1_splits .nil)))))
  (.cons (.ret (.bl false))
  .nil)
  .nil)
  (.cons (.ite (.sc (.cmp .In (.tup .nil) (.var 1)))
  (.cons (.ret (.bl false))
  .nil)
  .nil)
  (.cons (.set 2 (.lst .nil))
  (.cons (.fr (.nm 3) (.seq (.var 1)) l1_splits)
  (.cons (.ret (.sc (.cmp .Eq (.blt .sorted (.cons (.var 2) .nil)) (.trng .list (.cons (.sc (.blt .len (.cons (.var 0) .nil))) .nil)))))
  .nil)))))
/-- splits: basket, value -/
def s_splits (cs : List FSem) : FSem := defSem false 2 4 cs b_splits
def t_is_splitting : Tb := ⟨["basket", "value"], [("check_basket", false, 1), ("splits", false, 2)], [], [], []⟩
def b_is_splitting : Ss := (.cons (.exp (.call 0 (.cons (.var 0) .nil)))
  (.cons (.ret (.call 1 (.cons (.var 0) (.cons (.var 1) .nil))))
  .nil))
/-- is_splitting: basket, value -/
def s_is_splitting (cs : List FSem) : FSem := defSem false 2 2 cs b_is_splitting
def t_law_random_splitting : Tb := ⟨["_law_source_here", "_law_basket_here", "_law_many", "_law_parts", "_law_item", "_law_part", "_law_turn"], [("_law_draw", true, 2)], [], [], []⟩
def c1_law_random_splitting : E := .lc (.lst .nil) (.nm 6) (.rng (.cons (.var 2) .nil)) (.bl true)
def l1_law_random_splitting : Ss := (.cons (.set 5 (.ixv 3 (.callm 0 0 (.cons (.var 2) .nil))))
  (.cons (.app 5 (.var 4))
  .nil))
def c2_law_random_splitting : E := .lc (.blt .tuple (.cons (.var 5) .nil)) (.nm 5) (.seq (.var 3)) (.sc (.cmp .NotEq (.var 5) (.lst .nil)))
def b_law_random_splitting : Ss := (.cons (.set 2 (.bin .Add (.int 1) (.callm 0 0 (.cons (.sc (.blt .len (.cons (.var 1) .nil))) .nil))))
  (.cons (.set 3 c1_law_random_splitting)
  (.cons (.fr (.nm 4) (.rng (.cons (.sc (.blt .len (.cons (.var 1) .nil))) .nil)) l1_law_random_splitting)
  (.cons (.ret (.blt .tuple (.cons c2_law_random_splitting .nil)))
  .nil))))
/-- _law_random_splitting: _law_source_here, _law_basket_here -/
def s_law_random_splitting (cs : List FSem) : FSem := defSem true 2 7 cs b_law_random_splitting
def t_law_is_splitting : Tb := ⟨["_law_basket_here", "_law_value", "_law_items", "_law_receipt", "_law_item"], [("_law_is_int", false, 1)], [], [], []⟩
def c1_law_is_splitting : E := .lc (.var 4) (.nm 4) (.seq (.var 3)) (.sc (.or (.not (.call 0 (.cons (.var 4) .nil))) (.not (.chain .LtE .Lt (.int 0) (.var 4) (.blt .len (.cons (.var 0) .nil))))))
def l1_law_is_splitting : Ss := (.cons (.ite (.sc (.or (.not (.isi (.var 3) [.tuple])) (.cmp .Eq (.var 3) (.tup .nil))))
  (.cons (.ret (.bl false))
  .nil)
  .nil)
  (.cons (.ite (.sc (.cmp .NotEq c1_law_is_splitting (.lst .nil)))
  (.cons (.ret (.bl false))
  .nil)
  .nil)
  (.cons (.ite (.sc (.cmp .NotEq (.blt .list (.cons (.var 3) .nil)) (.blt .sset (.cons (.var 3) .nil))))
  (.cons (.ret (.bl false))
  .nil)
  .nil)
  (.cons (.set 2 (.bin .Add (.var 2) (.blt .list (.cons (.var 3) .nil))))
  .nil))))
def b_law_is_splitting : Ss := (.cons (.ite (.sc (.not (.isi (.var 1) [.tuple])))
  (.cons (.ret (.bl false))
  .nil)
  .nil)
  (.cons (.set 2 (.lst .nil))
  (.cons (.fr (.nm 3) (.seq (.var 1)) l1_law_is_splitting)
  (.cons (.ret (.sc (.cmp .Eq (.blt .sorted (.cons (.var 2) .nil)) (.trng .list (.cons (.sc (.blt .len (.cons (.var 0) .nil))) .nil)))))
  .nil))))
/-- _law_is_splitting: _law_basket_here, _law_value -/
def s_law_is_splitting (cs : List FSem) : FSem := defSem false 2 5 cs b_law_is_splitting
def t_law_k02 : Tb := ⟨["_law_script", "_law_cell", "_law_source_here", "_law_basket_here", "_law_good", "_law_wrong", "_law_every", "_law_some", "_law_value", "_law_k", "_law_item", "_law_part"], [("_law_source", false, 2), ("_law_basket", true, 2), ("_law_random_splitting", true, 2), ("_law_corrupt", true, 2), ("_law_any_value", true, 1), ("_law_equal", false, 2), ("is_splitting", false, 2), ("_law_is_splitting", false, 2)], [], [], []⟩
def c1_law_k02 : E := .lc (.tup (.cons (.var 10) .nil)) (.nm 10) (.seq (.var 6)) (.bl true)
def c2_law_k02 : E := .lc (.blt .list (.cons (.var 11) .nil)) (.nm 11) (.seq (.var 4)) (.bl true)
def c3_law_k02 : E := .lc (.callm 3 2 (.cons (.var 4) .nil)) (.nm 9) (.rng (.cons (.int 12) .nil)) (.bl true)
def l1_law_k02 : Ss := (.cons (.ite (.sc (.not (.call 5 (.cons (.call 6 (.cons (.var 3) (.cons (.var 8) .nil))) (.cons (.call 7 (.cons (.var 3) (.cons (.var 8) .nil))) .nil)))))
  (.cons (.ret (.bl false))
  .nil)
  .nil)
  .nil)
def l2_law_k02 : Ss := (.cons (.set 2 (.call 0 (.cons (.var 1) (.cons (.int 2) .nil))))
  (.cons (.set 3 (.callm 1 2 (.cons (.int 12) .nil)))
  (.cons (.set 4 (.callm 2 2 (.cons (.var 3) .nil)))
  (.cons (.set 5 (.callm 3 2 (.cons (.var 4) .nil)))
  (.cons (.set 6 (.trng .tuple (.cons (.sc (.blt .len (.cons (.var 3) .nil))) .nil)))
  (.cons (.set 7 (.lst (.cons (.var 4) (.cons (.rev (.var 4)) (.cons (.var 5) (.cons (.callm 3 2 (.cons (.var 5) .nil)) (.cons (.blt .list (.cons (.var 4) .nil)) (.cons (.slv 4 (.int 1) .nop) (.cons (.bin .Add (.var 4) (.slv 4 .nop (.int 1))) (.cons .non (.cons (.tup .nil) .nil)))))))))))
  (.cons (.set 7 (.bin .Add (.var 7) (.lst (.cons (.tup (.cons (.var 6) .nil)) (.cons (.tup (.cons (.rev (.var 6)) .nil)) (.cons (.var 6) (.cons (.blt .tuple (.cons c1_law_k02 .nil)) (.cons (.bin .Add (.var 4) (.tup (.cons (.tup .nil) .nil))) .nil))))))))
  (.cons (.set 7 (.bin .Add (.var 7) (.lst (.cons (.blt .tuple (.cons c2_law_k02 .nil)) (.cons (.tup (.cons (.bin .Add (.var 6) (.tup (.cons (.sc (.blt .len (.cons (.var 3) .nil))) .nil))) .nil)) (.cons (.callm 4 2 .nil) .nil))))))
  (.cons (.fr (.nm 8) (.seq (.bin .Add (.var 7) c3_law_k02)) l1_law_k02)
  .nil)))))))))
def b_law_k02 : Ss := (.cons (.fr (.nm 1) (.seq (.slc (.bin .Add (.lst (.cons (.int 0) .nil)) (.var 0)) .nop (.int 10))) l2_law_k02)
  (.cons (.ret (.sc (.cmp .Is (.call 6 (.cons (.tup (.cons (.int 5) (.cons (.int 5) .nil))) (.cons (.tup (.cons (.tup (.cons (.int 0) .nil)) (.cons (.tup (.cons (.bl true) .nil)) .nil))) .nil))) (.bl false))))
  .nil))
/-- law: _law_script -/
def s_law_k02 (cs : List FSem) : FSem := defSem false 1 12 cs b_law_k02
def t_is_size : Tb := ⟨["value"], [("is_between", false, 3)], [], [], []⟩
def b_is_size : Ss := (.cons (.ret (.call 0 (.cons (.var 0) (.cons (.int 2) (.cons (.int 6) .nil)))))
  .nil)
/-- is_size: value -/
def s_is_size (cs : List FSem) : FSem := defSem false 1 1 cs b_is_size
def t_check_offer : Tb := ⟨["basket", "size"], [("check_basket", false, 1), ("is_size", false, 1)], [], [], ["InvalidSize"]⟩
def b_check_offer : Ss := (.cons (.exp (.call 0 (.cons (.var 0) .nil)))
  (.cons (.ite (.sc (.not (.call 1 (.cons (.var 1) .nil))))
  (.cons (.rai "InvalidSize")
  .nil)
  .nil)
  .nil))
/-- check_offer: basket, size -/
def s_check_offer (cs : List FSem) : FSem := defSem false 2 2 cs b_check_offer
def t_free_of : Tb := ⟨["basket", "size", "splitting", "order", "found", "receipt", "items", "item"], [("row_of", false, 1)], [], [], []⟩
def c1_free_of : E := .lc (.var 7) (.nm 7) (.seq (.var 3)) (.sc (.cmp .In (.var 7) (.var 5)))
def l1_free_of : Ss := (.cons (.set 6 c1_free_of)
  (.cons (.aug 4 .Add (.slv 6 (.bin .Sub (.sc (.blt .len (.cons (.var 6) .nil))) (.bin .FloorDiv (.sc (.blt .len (.cons (.var 6) .nil))) (.var 1))) .nop))
  .nil))
def b_free_of : Ss := (.cons (.set 3 (.call 0 (.cons (.var 0) .nil)))
  (.cons (.set 4 (.lst .nil))
  (.cons (.fr (.nm 5) (.seq (.var 2)) l1_free_of)
  (.cons (.ret (.blt .tuple (.cons (.blt .sorted (.cons (.var 4) .nil)) .nil)))
  .nil))))
/-- free_of: basket, size, splitting -/
def s_free_of (cs : List FSem) : FSem := defSem false 3 8 cs b_free_of
def t_check_splitting : Tb := ⟨["basket", "size", "splitting"], [("check_offer", false, 2), ("splits", false, 2)], [], [], ["InvalidSplitting"]⟩
def b_check_splitting : Ss := (.cons (.exp (.call 0 (.cons (.var 0) (.cons (.var 1) .nil))))
  (.cons (.ite (.sc (.not (.call 1 (.cons (.var 0) (.cons (.var 2) .nil)))))
  (.cons (.rai "InvalidSplitting")
  .nil)
  .nil)
  .nil))
/-- check_splitting: basket, size, splitting -/
def s_check_splitting (cs : List FSem) : FSem := defSem false 3 3 cs b_check_splitting
def t_free_items : Tb := ⟨["basket", "size", "splitting"], [("check_splitting", false, 3), ("free_of", false, 3)], [], [], []⟩
def b_free_items : Ss := (.cons (.exp (.call 0 (.cons (.var 0) (.cons (.var 1) (.cons (.var 2) .nil)))))
  (.cons (.ret (.call 1 (.cons (.var 0) (.cons (.var 1) (.cons (.var 2) .nil)))))
  .nil))
/-- free_items: basket, size, splitting -/
def s_free_items (cs : List FSem) : FSem := defSem false 3 3 cs b_free_items
def t_value_of : Tb := ⟨["basket", "items", "item"], [], [], [], []⟩
def c1_value_of : E := .lc (.ixv 0 (.var 2)) (.nm 2) (.seq (.var 1)) (.bl true)
def b_value_of : Ss := (.cons (.ret (.sc (.blt .sum (.cons c1_value_of .nil))))
  .nil)
/-- value_of: basket, items -/
def s_value_of (cs : List FSem) : FSem := defSem false 2 3 cs b_value_of
def t_saving : Tb := ⟨["basket", "size", "splitting"], [("check_splitting", false, 3), ("value_of", false, 2), ("free_of", false, 3)], [], [], []⟩
def b_saving : Ss := (.cons (.exp (.call 0 (.cons (.var 0) (.cons (.var 1) (.cons (.var 2) .nil)))))
  (.cons (.ret (.call 1 (.cons (.var 0) (.cons (.call 2 (.cons (.var 0) (.cons (.var 1) (.cons (.var 2) .nil)))) .nil))))
  .nil))
/-- saving: basket, size, splitting -/
def s_saving (cs : List FSem) : FSem := defSem false 3 3 cs b_saving
def t_law_sum : Tb := ⟨["_law_basket_here", "_law_items", "_law_item"], [], [], [], []⟩
def c1_law_sum : E := .lc (.ixv 0 (.var 2)) (.nm 2) (.seq (.var 1)) (.bl true)
def b_law_sum : Ss := (.cons (.ret (.sc (.blt .sum (.cons c1_law_sum .nil))))
  .nil)
/-- _law_sum: _law_basket_here, _law_items -/
def s_law_sum (cs : List FSem) : FSem := defSem false 2 3 cs b_law_sum
def t_law_k03 : Tb := ⟨["_law_script", "_law_cell", "_law_source_here", "_law_turn", "_law_basket_here", "_law_size", "_law_parts", "_law_result", "_law_part", "_law_free", "_law_item", "_law_other", "_law_one"], [("_law_source", false, 2), ("_law_basket", true, 2), ("_law_draw", true, 2), ("_law_random_splitting", true, 2), ("free_items", false, 3), ("_law_equal", false, 2), ("saving", false, 3), ("_law_sum", false, 2)], [], [], []⟩
def c1_law_k03 : E := .lc (.var 10) (.nm 10) (.seq (.var 8)) (.sc (.cmp .In (.var 10) (.var 7)))
def c2_law_k03 : E := .lc (.var 12) (.nm 12) (.seq (.var 8)) (.sc (.cmp .NotIn (.var 12) (.var 9)))
def l1_law_k03 : Ss := (.cons (.ite (.sc (.or (.cmp .Lt (.ixv 4 (.var 11)) (.ixv 4 (.var 10))) (.and (.cmp .Eq (.ixv 4 (.var 11)) (.ixv 4 (.var 10))) (.cmp .Gt (.var 11) (.var 10)))))
  (.cons (.ret (.bl false))
  .nil)
  .nil)
  .nil)
def l2_law_k03 : Ss := (.cons (.fr (.nm 11) (.seq c2_law_k03) l1_law_k03)
  .nil)
def l3_law_k03 : Ss := (.cons (.set 9 c1_law_k03)
  (.cons (.ite (.sc (.cmp .NotEq (.blt .len (.cons (.var 9) .nil)) (.bin .FloorDiv (.sc (.blt .len (.cons (.var 8) .nil))) (.var 5))))
  (.cons (.ret (.bl false))
  .nil)
  .nil)
  (.cons (.fr (.nm 10) (.seq (.var 9)) l2_law_k03)
  .nil)))
def l4_law_k03 : Ss := (.cons (.set 6 (.callm 3 2 (.cons (.var 4) .nil)))
  (.cons (.set 7 (.call 4 (.cons (.var 4) (.cons (.var 5) (.cons (.var 6) .nil)))))
  (.cons (.ite (.sc (.or (.not (.isi (.var 7) [.tuple])) (.cmp .NotEq (.blt .list (.cons (.var 7) .nil)) (.blt .sset (.cons (.var 7) .nil)))))
  (.cons (.ret (.bl false))
  .nil)
  .nil)
  (.cons (.fr (.nm 8) (.seq (.var 6)) l3_law_k03)
  (.cons (.ite (.sc (.not (.call 5 (.cons (.call 6 (.cons (.var 4) (.cons (.var 5) (.cons (.var 6) .nil)))) (.cons (.call 7 (.cons (.var 4) (.cons (.var 7) .nil))) .nil)))))
  (.cons (.ret (.bl false))
  .nil)
  .nil)
  (.cons (.ite (.sc (.cmp .NotEq (.call 4 (.cons (.var 4) (.cons (.var 5) (.cons (.rev (.var 6)) .nil)))) (.var 7)))
  (.cons (.ret (.bl false))
  .nil)
  .nil)
  .nil))))))
def l5_law_k03 : Ss := (.cons (.set 2 (.call 0 (.cons (.var 1) (.cons (.int 3) .nil))))
  (.cons (.par [4, 5] (.cons (.callm 1 2 (.cons (.int 12) .nil)) (.cons (.bin .Add (.int 2) (.callm 2 2 (.cons (.int 5) .nil))) .nil)))
  (.cons (.fr (.nm 3) (.rng (.cons (.int 4) .nil)) l4_law_k03)
  .nil)))
def b_law_k03 : Ss := (.cons (.fr (.nm 1) (.seq (.slc (.bin .Add (.lst (.cons (.int 0) .nil)) (.var 0)) .nop (.int 10))) l5_law_k03)
  (.cons (.ret (.sc (.and (.cmp .Eq (.call 6 (.cons (.tup (.cons (.int 5) (.cons (.int 5) (.cons (.int 5) .nil)))) (.cons (.int 2) (.cons (.tup (.cons (.tup (.cons (.int 0) (.cons (.int 1) (.cons (.int 2) .nil)))) .nil)) .nil)))) (.int 5)) (.cmp .Eq (.call 4 (.cons (.tup (.cons (.int 5) (.cons (.int 5) (.cons (.int 5) .nil)))) (.cons (.int 2) (.cons (.tup (.cons (.tup (.cons (.int 0) (.cons (.int 1) (.cons (.int 2) .nil)))) .nil)) .nil)))) (.tup (.cons (.int 2) .nil))))))
  .nil))
/-- law: _law_script -/
def s_law_k03 (cs : List FSem) : FSem := defSem false 1 13 cs b_law_k03
def t_check_receipts : Tb := ⟨["receipts"], [("is_between", false, 3)], [("MAX_RECEIPTS", 12)], [], ["InvalidReceipts"]⟩
def b_check_receipts : Ss := (.cons (.ite (.sc (.not (.call 0 (.cons (.var 0) (.cons (.int 1) (.cons (.gint "MAX_RECEIPTS" 12) .nil))))))
  (.cons (.rai "InvalidReceipts")
  .nil)
  .nil)
  .nil)
/-- check_receipts: receipts -/
def s_check_receipts (cs : List FSem) : FSem := defSem false 1 1 cs b_check_receipts
def t_block_saving : Tb := ⟨["prices", "size", "first", "last"], [], [], [], []⟩
def b_block_saving : Ss := (.cons (.ret (.sc (.blt .sum (.cons (.slv 0 (.bin .Sub (.var 3) (.bin .FloorDiv (.bin .Sub (.var 3) (.var 2)) (.var 1))) (.var 3)) .nil))))
  .nil)
/-- block_saving: prices, size, first, last -/
def s_block_saving (cs : List FSem) : FSem := defSem false 4 4 cs b_block_saving
def t_table_for : Tb := ⟨["basket", "size", "receipts", "prices", "tables", "turn", "last", "item", "before", "now", "options", "first"], [("row_of", false, 1), ("block_saving", false, 4)], [], [], []⟩
def c1_table_for : E := .lc (.ixv 0 (.var 7)) (.nm 7) (.seq (.call 0 (.cons (.var 0) .nil))) (.bl true)
def l1_table_for : Ss := (.cons (.ite (.sc (.cmp .In (.var 11) (.var 8)))
  (.cons (.app 10 (.tup (.cons (.bin .Add (.ix (.ixv 8 (.var 11)) (.int 0)) (.call 1 (.cons (.var 3) (.cons (.var 1) (.cons (.var 11) (.cons (.var 6) .nil)))))) (.cons (.var 11) .nil))))
  .nil)
  .nil)
  .nil)
def l2_table_for : Ss := (.cons (.set 10 (.lst .nil))
  (.cons (.fr (.nm 11) (.rng (.cons (.var 6) .nil)) l1_table_for)
  (.cons (.stx 9 (.var 6) (.blt .max (.cons (.var 10) .nil)))
  .nil)))
def l3_table_for : Ss := (.cons (.par [8, 9] (.cons (.ixv 4 (.neg (.int 1))) (.cons (.dic1 (.int 0) (.tup (.cons (.int 0) (.cons (.int 0) .nil)))) .nil)))
  (.cons (.fr (.nm 6) (.rng (.cons (.int 1) (.cons (.bin .Add (.sc (.blt .len (.cons (.var 3) .nil))) (.int 1)) .nil))) l2_table_for)
  (.cons (.app 4 (.var 9))
  .nil)))
def b_table_for : Ss := (.cons (.set 3 c1_table_for)
  (.cons (.set 4 (.lst (.cons (.dic1 (.int 0) (.tup (.cons (.int 0) (.cons (.int 0) .nil)))) .nil)))
  (.cons (.fr (.nm 5) (.rng (.cons (.var 2) .nil)) l3_table_for)
  (.cons (.ret (.mv 4))
  .nil))))
/-- table_for: basket, size, receipts -/
def s_table_for (cs : List FSem) : FSem := defSem false 3 12 cs b_table_for
def t_best_value : Tb := ⟨["basket", "size", "receipts"], [("table_for", false, 3)], [], [], []⟩
def b_best_value : Ss := (.cons (.ret (.ix (.ix (.ix (.call 0 (.cons (.var 0) (.cons (.var 1) (.cons (.blt .min (.cons (.var 2) (.cons (.sc (.blt .len (.cons (.var 0) .nil))) .nil))) .nil)))) (.neg (.int 1))) (.sc (.blt .len (.cons (.var 0) .nil)))) (.int 0)))
  .nil)
/-- best_value: basket, size, receipts -/
def s_best_value (cs : List FSem) : FSem := defSem false 3 3 cs b_best_value
def t_greatest_saving : Tb := ⟨["basket", "size", "receipts"], [("check_offer", false, 2), ("check_receipts", false, 1), ("best_value", false, 3)], [], [], []⟩
def b_greatest_saving : Ss := (.cons (.exp (.call 0 (.cons (.var 0) (.cons (.var 1) .nil))))
  (.cons (.exp (.call 1 (.cons (.var 2) .nil)))
  (.cons (.ret (.call 2 (.cons (.var 0) (.cons (.var 1) (.cons (.var 2) .nil)))))
  .nil)))
/-- greatest_saving: basket, size, receipts -/
def s_greatest_saving (cs : List FSem) : FSem := defSem false 3 3 cs b_greatest_saving
def t_law_row : Tb := ⟨["_law_basket_here", "_law_pairs", "_law_pair", "_law_item", "_law_price"], [], [], [], []⟩
def c1_law_row : E := .lc (.tup (.cons (.bin .Sub (.bin .Pow (.int 10) (.int 6)) (.var 4)) (.cons (.var 3) .nil))) (.tp [3, 4]) (.enu (.var 0)) (.bl true)
def c2_law_row : E := .lc (.ixv 2 (.int 1)) (.nm 2) (.seq (.var 1)) (.bl true)
def b_law_row : Ss := (.cons (.set 1 (.blt .sorted (.cons c1_law_row .nil)))
  (.cons (.ret c2_law_row)
  .nil))
/-- _law_row: _law_basket_here -/
def s_law_row (cs : List FSem) : FSem := defSem false 1 5 cs b_law_row
def t_law_free : Tb := ⟨["_law_basket_here", "_law_size", "_law_splitting", "_law_receipt", "_law_places", "_law_found", "_law_there", "_law_item"], [("_law_row", false, 1)], [], [], []⟩
def c1_law_free : E := .lc (.var 7) (.nm 7) (.seq (.var 4)) (.sc (.cmp .In (.var 7) (.var 3)))
def l1_law_free : Ss := (.cons (.set 6 c1_law_free)
  (.cons (.set 5 (.bin .Add (.var 5) (.slv 6 (.bin .Sub (.sc (.blt .len (.cons (.var 6) .nil))) (.bin .FloorDiv (.sc (.blt .len (.cons (.var 6) .nil))) (.var 1))) .nop)))
  .nil))
def b_law_free : Ss := (.cons (.par [4, 5] (.cons (.call 0 (.cons (.var 0) .nil)) (.cons (.lst .nil) .nil)))
  (.cons (.fr (.nm 3) (.seq (.var 2)) l1_law_free)
  (.cons (.ret (.blt .tuple (.cons (.blt .sorted (.cons (.var 5) .nil)) .nil)))
  .nil)))
/-- _law_free: _law_basket_here, _law_size, _law_splitting -/
def s_law_free (cs : List FSem) : FSem := defSem false 3 8 cs b_law_free
def t_law_all_splittings : Tb := ⟨["_law_count", "_law_rows", "_law_item", "_law_longer", "_law_parts", "_law_at"], [], [], [], []⟩
def l1_law_all_splittings : Ss := (.cons (.app 3 (.bin .Add (.bin .Add (.slv 4 .nop (.var 5)) (.tup (.cons (.bin .Add (.ixv 4 (.var 5)) (.tup (.cons (.var 2) .nil))) .nil))) (.slv 4 (.bin .Add (.var 5) (.int 1)) .nop)))
  .nil)
def l2_law_all_splittings : Ss := (.cons (.app 3 (.bin .Add (.var 4) (.tup (.cons (.tup (.cons (.var 2) .nil)) .nil))))
  (.cons (.fr (.nm 5) (.rng (.cons (.sc (.blt .len (.cons (.var 4) .nil))) .nil)) l1_law_all_splittings)
  .nil))
def l3_law_all_splittings : Ss := (.cons (.set 3 (.lst .nil))
  (.cons (.fr (.nm 4) (.seq (.var 1)) l2_law_all_splittings)
  (.cons (.set 1 (.var 3))
  .nil)))
def b_law_all_splittings : Ss := (.cons (.set 1 (.lst (.cons (.tup .nil) .nil)))
  (.cons (.fr (.nm 2) (.rng (.cons (.var 0) .nil)) l3_law_all_splittings)
  (.cons (.ret (.mv 1))
  .nil)))
/-- _law_all_splittings: _law_count -/
def s_law_all_splittings (cs : List FSem) : FSem := defSem false 1 6 cs b_law_all_splittings
def t_law_k04 : Tb := ⟨["_law_script", "_law_cell", "_law_source_here", "_law_turn", "_law_best", "_law_parts", "_law_receipts", "_law_basket_here", "_law_size", "_law_value"], [("_law_source", false, 2), ("_law_basket", true, 2), ("_law_draw", true, 2), ("_law_all_splittings", false, 1), ("_law_sum", false, 2), ("_law_free", false, 3), ("_law_equal", false, 2), ("greatest_saving", false, 3)], [], [], []⟩
def l1_law_k04 : Ss := (.cons (.set 9 (.call 4 (.cons (.var 7) (.cons (.call 5 (.cons (.var 7) (.cons (.var 8) (.cons (.var 5) .nil)))) .nil))))
  (.cons (.stx 4 (.sc (.blt .len (.cons (.var 5) .nil))) (.blt .max (.cons (.ixv 4 (.sc (.blt .len (.cons (.var 5) .nil)))) (.cons (.var 9) .nil))))
  .nil))
def l2_law_k04 : Ss := (.cons (.ite (.sc (.not (.call 6 (.cons (.call 7 (.cons (.var 7) (.cons (.var 8) (.cons (.var 6) .nil)))) (.cons (.blt .max (.cons (.slv 4 .nop (.bin .Add (.var 6) (.int 1))) .nil)) .nil)))))
  (.cons (.ret (.bl false))
  .nil)
  .nil)
  .nil)
def l3_law_k04 : Ss := (.cons (.par [7, 8] (.cons (.callm 1 2 (.cons (.int 6) .nil)) (.cons (.bin .Add (.int 2) (.callm 2 2 (.cons (.int 3) .nil))) .nil)))
  (.cons (.set 4 (.bin .Mult (.lst (.cons (.int 0) .nil)) (.int 13)))
  (.cons (.fr (.nm 5) (.seq (.call 3 (.cons (.sc (.blt .len (.cons (.var 7) .nil))) .nil))) l1_law_k04)
  (.cons (.fr (.nm 6) (.rng (.cons (.int 1) (.cons (.int 13) .nil))) l2_law_k04)
  .nil))))
def l4_law_k04 : Ss := (.cons (.set 2 (.call 0 (.cons (.var 1) (.cons (.int 4) .nil))))
  (.cons (.fr (.nm 3) (.rng (.cons (.int 2) .nil)) l3_law_k04)
  .nil))
def b_law_k04 : Ss := (.cons (.fr (.nm 1) (.seq (.slc (.bin .Add (.lst (.cons (.int 0) .nil)) (.var 0)) .nop (.int 6))) l4_law_k04)
  (.cons (.ret (.sc (.cmp .Eq (.call 7 (.cons (.tup (.cons (.int 9) (.cons (.int 4) (.cons (.int 7) (.cons (.int 2) (.cons (.int 7) (.cons (.int 5) .nil))))))) (.cons (.int 3) (.cons (.int 1) .nil)))) (.int 6))))
  .nil))
/-- law: _law_script -/
def s_law_k04 (cs : List FSem) : FSem := defSem false 1 10 cs b_law_k04
def t_best_splitting : Tb := ⟨["basket", "size", "receipts"], [("check_offer", false, 2), ("check_receipts", false, 1), ("best_parts", false, 3)], [], [], []⟩
def b_best_splitting : Ss := (.cons (.exp (.call 0 (.cons (.var 0) (.cons (.var 1) .nil))))
  (.cons (.exp (.call 1 (.cons (.var 2) .nil)))
  (.cons (.ret (.call 2 (.cons (.var 0) (.cons (.var 1) (.cons (.var 2) .nil)))))
  .nil)))
/-- best_splitting: basket, size, receipts -/
def s_best_splitting (cs : List FSem) : FSem := defSem false 3 3 cs b_best_splitting
def t_law_block : Tb := ⟨["_law_prices", "_law_size", "_law_first", "_law_last", "_law_many"], [], [], [], []⟩
def b_law_block : Ss := (.cons (.set 4 (.bin .FloorDiv (.bin .Sub (.var 3) (.var 2)) (.var 1)))
  (.cons (.ret (.sc (.blt .sum (.cons (.slv 0 (.bin .Sub (.var 3) (.var 4)) (.var 3)) .nil))))
  .nil))
/-- _law_block: _law_prices, _law_size, _law_first, _law_last -/
def s_law_block (cs : List FSem) : FSem := defSem false 4 5 cs b_law_block
def t_law_best : Tb := ⟨["_law_basket_here", "_law_size", "_law_prices", "_law_count", "_law_best_here", "_law_found", "_law_turn", "_law_later", "_law_last", "_law_item", "_law_some", "_law_first"], [("_law_row", false, 1), ("_law_block", false, 4)], [], [], []⟩
def c1_law_best : E := .lc (.ixv 0 (.var 9)) (.nm 9) (.seq (.call 0 (.cons (.var 0) .nil))) (.bl true)
def c2_law_best : E := .lc (.call 1 (.cons (.var 2) (.cons (.var 1) (.cons (.int 0) (.cons (.var 8) .nil))))) (.nm 8) (.rng (.cons (.bin .Add (.var 3) (.int 1)) .nil)) (.bl true)
def c3_law_best : E := .lc (.bin .Add (.ixv 4 (.var 11)) (.call 1 (.cons (.var 2) (.cons (.var 1) (.cons (.var 11) (.cons (.var 8) .nil)))))) (.nm 11) (.rng (.cons (.bin .Add (.var 8) (.int 1)) .nil)) (.bl true)
def l1_law_best : Ss := (.cons (.set 10 c3_law_best)
  (.cons (.app 7 (.blt .max (.cons (.var 10) .nil)))
  .nil))
def l2_law_best : Ss := (.cons (.set 7 (.lst .nil))
  (.cons (.fr (.nm 8) (.rng (.cons (.bin .Add (.var 3) (.int 1)) .nil)) l1_law_best)
  (.cons (.set 4 (.var 7))
  (.cons (.app 5 (.ixv 4 (.var 3)))
  .nil))))
def b_law_best : Ss := (.cons (.set 2 c1_law_best)
  (.cons (.set 3 (.sc (.blt .len (.cons (.var 2) .nil))))
  (.cons (.set 4 c2_law_best)
  (.cons (.set 5 (.lst (.cons (.ixv 4 (.var 3)) .nil)))
  (.cons (.fr (.nm 6) (.rng (.cons (.bin .Sub (.var 3) (.int 1)) .nil)) l2_law_best)
  (.cons (.ret (.mv 5))
  .nil))))))
/-- _law_best: _law_basket_here, _law_size -/
def s_law_best (cs : List FSem) : FSem := defSem false 2 12 cs b_law_best
def t_law_k05 : Tb := ⟨["_law_script", "_law_cell", "_law_source_here", "_law_best_here", "_law_receipts", "_law_turn", "_law_basket_here", "_law_size", "_law_expected", "_law_parts"], [("_law_source", false, 2), ("_law_basket", true, 2), ("_law_draw", true, 2), ("_law_best", false, 2), ("_law_equal", false, 2), ("greatest_saving", false, 3), ("best_splitting", false, 3), ("is_splitting", false, 2), ("_law_sum", false, 2), ("_law_free", false, 3), ("_law_random_splitting", true, 2)], [], [], []⟩
def l1_law_k05 : Ss := (.cons (.set 8 (.ixv 3 (.bin .Sub (.blt .min (.cons (.var 4) (.cons (.sc (.blt .len (.cons (.var 6) .nil))) .nil))) (.int 1))))
  (.cons (.ite (.sc (.not (.call 4 (.cons (.call 5 (.cons (.var 6) (.cons (.var 7) (.cons (.var 4) .nil)))) (.cons (.var 8) .nil)))))
  (.cons (.ret (.bl false))
  .nil)
  .nil)
  (.cons (.set 9 (.call 6 (.cons (.var 6) (.cons (.var 7) (.cons (.var 4) .nil)))))
  (.cons (.ite (.sc (.or (.cmp .IsNot (.call 7 (.cons (.var 6) (.cons (.var 9) .nil))) (.bl true)) (.cmp .Gt (.blt .len (.cons (.var 9) .nil)) (.var 4))))
  (.cons (.ret (.bl false))
  .nil)
  .nil)
  (.cons (.ite (.sc (.cmp .NotEq (.call 8 (.cons (.var 6) (.cons (.call 9 (.cons (.var 6) (.cons (.var 7) (.cons (.var 9) .nil)))) .nil))) (.var 8)))
  (.cons (.ret (.bl false))
  .nil)
  .nil)
  .nil)))))
def l2_law_k05 : Ss := (.cons (.set 9 (.callm 10 2 (.cons (.var 6) .nil)))
  (.cons (.ite (.sc (.cmp .Gt (.call 8 (.cons (.var 6) (.cons (.call 9 (.cons (.var 6) (.cons (.var 7) (.cons (.var 9) .nil)))) .nil))) (.ixv 3 (.bin .Sub (.sc (.blt .len (.cons (.var 9) .nil))) (.int 1)))))
  (.cons (.ret (.bl false))
  .nil)
  .nil)
  .nil))
def l3_law_k05 : Ss := (.cons (.set 2 (.call 0 (.cons (.var 1) (.cons (.int 5) .nil))))
  (.cons (.par [6, 7] (.cons (.callm 1 2 (.cons (.int 12) .nil)) (.cons (.bin .Add (.int 2) (.callm 2 2 (.cons (.int 5) .nil))) .nil)))
  (.cons (.set 3 (.call 3 (.cons (.var 6) (.cons (.var 7) .nil))))
  (.cons (.fr (.nm 4) (.rng (.cons (.int 1) (.cons (.int 13) .nil))) l1_law_k05)
  (.cons (.fr (.nm 5) (.rng (.cons (.int 30) .nil)) l2_law_k05)
  .nil)))))
def b_law_k05 : Ss := (.cons (.fr (.nm 1) (.seq (.slc (.bin .Add (.lst (.cons (.int 0) .nil)) (.var 0)) .nop (.int 10))) l3_law_k05)
  (.cons (.ret (.sc (.cmp .Eq (.call 5 (.cons (.tup (.cons (.int 10) (.cons (.int 9) (.cons (.int 8) (.cons (.int 1) .nil))))) (.cons (.int 3) (.cons (.int 2) .nil)))) (.int 8))))
  .nil))
/-- law: _law_script -/
def s_law_k05 (cs : List FSem) : FSem := defSem false 1 10 cs b_law_k05
def t_all_values : Tb := ⟨["basket", "size", "tables", "table"], [("table_for", false, 3)], [], [], []⟩
def c1_all_values : E := .lc (.ix (.ixv 3 (.sc (.blt .len (.cons (.var 0) .nil)))) (.int 0)) (.nm 3) (.seq (.slv 2 (.int 1) .nop)) (.bl true)
def b_all_values : Ss := (.cons (.set 2 (.call 0 (.cons (.var 0) (.cons (.var 1) (.cons (.sc (.blt .len (.cons (.var 0) .nil))) .nil)))))
  (.cons (.ret c1_all_values)
  .nil))
/-- all_values: basket, size -/
def s_all_values (cs : List FSem) : FSem := defSem false 2 4 cs b_all_values
def t_trade_off : Tb := ⟨["basket", "size", "values"], [("check_offer", false, 2), ("all_values", false, 2)], [], [], []⟩
def b_trade_off : Ss := (.cons (.exp (.call 0 (.cons (.var 0) (.cons (.var 1) .nil))))
  (.cons (.set 2 (.call 1 (.cons (.var 0) (.cons (.var 1) .nil))))
  (.cons (.ret (.slv 2 .nop (.bin .Add (.idx (.var 2) (.ixv 2 (.neg (.int 1)))) (.int 1))))
  .nil)))
/-- trade_off: basket, size -/
def s_trade_off (cs : List FSem) : FSem := defSem false 2 3 cs b_trade_off
def t_check_saving : Tb := ⟨["wished"], [("is_between", false, 3)], [("MAX_SAVING", 1000000)], [], ["InvalidSaving"]⟩
def b_check_saving : Ss := (.cons (.ite (.sc (.not (.call 0 (.cons (.var 0) (.cons (.int 0) (.cons (.gint "MAX_SAVING" 1000000) .nil))))))
  (.cons (.rai "InvalidSaving")
  .nil)
  .nil)
  .nil)
/-- check_saving: wished -/
def s_check_saving (cs : List FSem) : FSem := defSem false 1 1 cs b_check_saving
def t_fewest_receipts : Tb := ⟨["basket", "size", "wished", "good", "at", "value"], [("check_offer", false, 2), ("check_saving", false, 1), ("all_values", false, 2)], [], [], []⟩
def c1_fewest_receipts : E := .lc (.bin .Add (.var 4) (.int 1)) (.tp [4, 5]) (.enu (.call 2 (.cons (.var 0) (.cons (.var 1) .nil)))) (.sc (.cmp .GtE (.var 5) (.var 2)))
def b_fewest_receipts : Ss := (.cons (.exp (.call 0 (.cons (.var 0) (.cons (.var 1) .nil))))
  (.cons (.exp (.call 1 (.cons (.var 2) .nil)))
  (.cons (.set 3 c1_fewest_receipts)
  (.cons (.ret (.ite (.sc (.cmp .NotEq (.var 3) (.lst .nil))) (.ixv 3 (.int 0)) .non))
  .nil))))
/-- fewest_receipts: basket, size, wished -/
def s_fewest_receipts (cs : List FSem) : FSem := defSem false 3 6 cs b_fewest_receipts
def t_law_k07 : Tb := ⟨["_law_script", "_law_cell", "_law_source_here", "_law_best_here", "_law_expected", "_law_result", "_law_wished", "_law_basket_here", "_law_size", "_law_good", "_law_at", "_law_value"], [("_law_source", false, 2), ("_law_basket", true, 2), ("_law_draw", true, 2), ("_law_best", false, 2), ("trade_off", false, 2), ("_law_equal", false, 2), ("fewest_receipts", false, 3)], [], [], []⟩
def c1_law_k07 : E := .lc (.var 11) (.tp [10, 11]) (.enu (.var 3)) (.sc (.or (.cmp .Eq (.var 10) (.int 0)) (.cmp .Lt (.ixv 3 (.bin .Sub (.var 10) (.int 1))) (.ixv 3 (.neg (.int 1))))))
def c2_law_k07 : E := .lc (.bin .Add (.var 11) (.int 1)) (.nm 11) (.seq (.var 3)) (.bl true)
def c3_law_k07 : E := .lc (.bin .Add (.var 10) (.int 1)) (.tp [10, 11]) (.enu (.var 3)) (.sc (.cmp .GtE (.var 11) (.var 6)))
def l1_law_k07 : Ss := (.cons (.set 9 c3_law_k07)
  (.cons (.ite (.sc (.not (.call 5 (.cons (.call 6 (.cons (.var 7) (.cons (.var 8) (.cons (.var 6) .nil)))) (.cons (.ite (.sc (.cmp .NotEq (.var 9) (.lst .nil))) (.ixv 9 (.int 0)) .non) .nil)))))
  (.cons (.ret (.bl false))
  .nil)
  .nil)
  .nil))
def l2_law_k07 : Ss := (.cons (.set 2 (.call 0 (.cons (.var 1) (.cons (.int 7) .nil))))
  (.cons (.par [7, 8] (.cons (.callm 1 2 (.cons (.int 12) .nil)) (.cons (.bin .Add (.int 2) (.callm 2 2 (.cons (.int 5) .nil))) .nil)))
  (.cons (.set 3 (.call 3 (.cons (.var 7) (.cons (.var 8) .nil))))
  (.cons (.set 4 c1_law_k07)
  (.cons (.set 5 (.call 4 (.cons (.var 7) (.cons (.var 8) .nil))))
  (.cons (.ite (.sc (.or (.not (.call 5 (.cons (.var 5) (.cons (.var 4) .nil)))) (.cmp .NotEq (.var 5) (.blt .sorted (.cons (.var 5) .nil)))))
  (.cons (.ret (.bl false))
  .nil)
  .nil)
  (.cons (.app 5 (.int 0))
  (.cons (.ite (.sc (.cmp .NotEq (.call 4 (.cons (.var 7) (.cons (.var 8) .nil))) (.var 4)))
  (.cons (.ret (.bl false))
  .nil)
  .nil)
  (.cons (.fr (.nm 6) (.seq (.bin .Add (.bin .Add (.var 3) c2_law_k07) (.lst (.cons (.int 0) (.cons (.bin .Pow (.int 10) (.int 6)) (.cons (.callm 2 2 (.cons (.bin .Add (.ixv 3 (.neg (.int 1))) (.int 1)) .nil)) .nil)))))) l1_law_k07)
  .nil)))))))))
def b_law_k07 : Ss := (.cons (.fr (.nm 1) (.seq (.slc (.bin .Add (.lst (.cons (.int 0) .nil)) (.var 0)) .nop (.int 10))) l2_law_k07)
  (.cons (.ret (.sc (.and (.cmp .Eq (.call 6 (.cons (.tup (.cons (.int 7) .nil)) (.cons (.int 2) (.cons (.int 0) .nil)))) (.int 1)) (.cmp .Eq (.call 4 (.cons (.tup (.cons (.int 7) .nil)) (.cons (.int 2) .nil))) (.lst (.cons (.int 0) .nil))))))
  .nil))
/-- law: _law_script -/
def s_law_k07 (cs : List FSem) : FSem := defSem false 1 12 cs b_law_k07
def t_least_total : Tb := ⟨["basket", "size", "fee", "at", "value"], [("check_offer", false, 2), ("is_between", false, 3), ("all_values", false, 2)], [("MAX_FEE", 10000)], [], ["InvalidFee"]⟩
def c1_least_total : E := .lc (.bin .Add (.bin .Sub (.sc (.blt .sum (.cons (.var 0) .nil))) (.var 4)) (.bin .Mult (.var 2) (.bin .Add (.var 3) (.int 1)))) (.tp [3, 4]) (.enu (.call 2 (.cons (.var 0) (.cons (.var 1) .nil)))) (.bl true)
def b_least_total : Ss := (.cons (.exp (.call 0 (.cons (.var 0) (.cons (.var 1) .nil))))
  (.cons (.ite (.sc (.not (.call 1 (.cons (.var 2) (.cons (.int 0) (.cons (.gint "MAX_FEE" 10000) .nil))))))
  (.cons (.rai "InvalidFee")
  .nil)
  .nil)
  (.cons (.ret (.blt .min (.cons c1_least_total .nil)))
  .nil)))
/-- least_total: basket, size, fee -/
def s_least_total (cs : List FSem) : FSem := defSem false 3 5 cs b_least_total
def t_law_k08 : Tb := ⟨["_law_script", "_law_cell", "_law_source_here", "_law_rows", "_law_parts", "_law_fee", "_law_basket_here", "_law_best_here", "_law_size", "_law_expected", "_law_paid", "_law_many", "_law_at", "_law_value"], [("_law_source", false, 2), ("_law_basket", true, 2), ("_law_draw", true, 2), ("_law_all_splittings", false, 1), ("_law_sum", false, 2), ("_law_free", false, 3), ("_law_equal", false, 2), ("least_total", false, 3), ("_law_best", false, 2), ("_law_random_splitting", true, 2)], [], [], []⟩
def l1_law_k08 : Ss := (.cons (.app 3 (.tup (.cons (.sc (.blt .len (.cons (.var 4) .nil))) (.cons (.bin .Sub (.sc (.blt .sum (.cons (.var 6) .nil))) (.call 4 (.cons (.var 6) (.cons (.call 5 (.cons (.var 6) (.cons (.var 8) (.cons (.var 4) .nil)))) .nil)))) .nil))))
  .nil)
def c1_law_k08 : E := .lc (.bin .Add (.var 10) (.bin .Mult (.var 5) (.var 11))) (.tp [11, 10]) (.seq (.var 3)) (.bl true)
def l2_law_k08 : Ss := (.cons (.set 9 (.blt .min (.cons c1_law_k08 .nil)))
  (.cons (.ite (.sc (.not (.call 6 (.cons (.call 7 (.cons (.var 6) (.cons (.var 8) (.cons (.var 5) .nil)))) (.cons (.var 9) .nil)))))
  (.cons (.ret (.bl false))
  .nil)
  .nil)
  .nil))
def c2_law_k08 : E := .lc (.bin .Add (.bin .Sub (.sc (.blt .sum (.cons (.var 6) .nil))) (.var 13)) (.bin .Mult (.var 5) (.bin .Add (.var 12) (.int 1)))) (.tp [12, 13]) (.enu (.var 7)) (.bl true)
def l3_law_k08 : Ss := (.cons (.set 9 (.blt .min (.cons c2_law_k08 .nil)))
  (.cons (.ite (.sc (.not (.call 6 (.cons (.call 7 (.cons (.var 6) (.cons (.var 8) (.cons (.var 5) .nil)))) (.cons (.var 9) .nil)))))
  (.cons (.ret (.bl false))
  .nil)
  .nil)
  (.cons (.set 4 (.callm 9 2 (.cons (.var 6) .nil)))
  (.cons (.set 10 (.bin .Sub (.sc (.blt .sum (.cons (.var 6) .nil))) (.call 4 (.cons (.var 6) (.cons (.call 5 (.cons (.var 6) (.cons (.var 8) (.cons (.var 4) .nil)))) .nil)))))
  (.cons (.ite (.sc (.cmp .Lt (.bin .Add (.var 10) (.bin .Mult (.var 5) (.sc (.blt .len (.cons (.var 4) .nil))))) (.var 9)))
  (.cons (.ret (.bl false))
  .nil)
  .nil)
  .nil)))))
def l4_law_k08 : Ss := (.cons (.set 2 (.call 0 (.cons (.var 1) (.cons (.int 8) .nil))))
  (.cons (.par [6, 8] (.cons (.callm 1 2 (.cons (.int 6) .nil)) (.cons (.bin .Add (.int 2) (.callm 2 2 (.cons (.int 3) .nil))) .nil)))
  (.cons (.set 3 (.lst .nil))
  (.cons (.fr (.nm 4) (.seq (.call 3 (.cons (.sc (.blt .len (.cons (.var 6) .nil))) .nil))) l1_law_k08)
  (.cons (.fr (.nm 5) (.seq (.lst (.cons (.int 0) (.cons (.int 1) (.cons (.int 10000) (.cons (.callm 2 2 (.cons (.int 20) .nil)) (.cons (.callm 2 2 (.cons (.int 10001) .nil)) .nil))))))) l2_law_k08)
  (.cons (.set 6 (.callm 1 2 (.cons (.int 12) .nil)))
  (.cons (.set 7 (.call 8 (.cons (.var 6) (.cons (.var 8) .nil))))
  (.cons (.fr (.nm 5) (.seq (.lst (.cons (.int 0) (.cons (.int 1) (.cons (.int 10000) (.cons (.callm 2 2 (.cons (.int 20) .nil)) (.cons (.callm 2 2 (.cons (.int 10001) .nil)) .nil))))))) l3_law_k08)
  .nil))))))))
def b_law_k08 : Ss := (.cons (.fr (.nm 1) (.seq (.slc (.bin .Add (.lst (.cons (.int 0) .nil)) (.var 0)) .nop (.int 8))) l4_law_k08)
  (.cons (.ret (.sc (.cmp .Eq (.call 7 (.cons (.tup (.cons (.int 9) (.cons (.int 4) (.cons (.int 7) (.cons (.int 2) (.cons (.int 7) (.cons (.int 5) .nil))))))) (.cons (.int 3) (.cons (.int 4) .nil)))) (.int 32))))
  .nil))
/-- law: _law_script -/
def s_law_k08 (cs : List FSem) : FSem := defSem false 1 14 cs b_law_k08
def t_can_be_free : Tb := ⟨["basket", "size", "items", "count", "at", "item"], [("row_of", false, 1)], [], [], []⟩
def l1_can_be_free : Ss := (.cons (.aug 3 .Add (.ite (.sc (.cmp .In (.var 5) (.var 2))) (.int 1) (.int 0)))
  (.cons (.ite (.sc (.cmp .Gt (.var 3) (.bin .FloorDiv (.bin .Add (.var 4) (.int 1)) (.var 1))))
  (.cons (.ret (.bl false))
  .nil)
  .nil)
  .nil))
def b_can_be_free : Ss := (.cons (.set 3 (.int 0))
  (.cons (.fr (.tp [4, 5]) (.enu (.call 0 (.cons (.var 0) .nil))) l1_can_be_free)
  (.cons (.ret (.bl true))
  .nil)))
/-- can_be_free: basket, size, items -/
def s_can_be_free (cs : List FSem) : FSem := defSem false 3 6 cs b_can_be_free
def t_is_free : Tb := ⟨["basket", "size", "value"], [("is_ascending", false, 2), ("can_be_free", false, 3)], [], [], []⟩
def b_is_free : Ss := (.cons (.ret (.sc (.and (.call 0 (.cons (.var 0) (.cons (.var 2) .nil))) (.call 1 (.cons (.var 0) (.cons (.var 1) (.cons (.var 2) .nil)))))))
  .nil)
/-- is_free: basket, size, value -/
def s_is_free (cs : List FSem) : FSem := defSem false 3 3 cs b_is_free
def t_is_free_set : Tb := ⟨["basket", "size", "value"], [("check_offer", false, 2), ("is_free", false, 3)], [], [], []⟩
def b_is_free_set : Ss := (.cons (.exp (.call 0 (.cons (.var 0) (.cons (.var 1) .nil))))
  (.cons (.ret (.call 1 (.cons (.var 0) (.cons (.var 1) (.cons (.var 2) .nil)))))
  .nil))
/-- is_free_set: basket, size, value -/
def s_is_free_set (cs : List FSem) : FSem := defSem false 3 3 cs b_is_free_set
def t_law_is_free : Tb := ⟨["_law_basket_here", "_law_size", "_law_value", "_law_places", "_law_many", "_law_item"], [("_law_is_int", false, 1), ("_law_row", false, 1)], [], [], []⟩
def c1_law_is_free : E := .lc (.var 5) (.nm 5) (.seq (.var 2)) (.sc (.or (.not (.call 0 (.cons (.var 5) .nil))) (.not (.chain .LtE .Lt (.int 0) (.var 5) (.blt .len (.cons (.var 0) .nil))))))
def c2_law_is_free : E := .lc (.var 5) (.nm 5) (.seq (.slv 3 .nop (.var 4))) (.sc (.cmp .In (.var 5) (.var 2)))
def l1_law_is_free : Ss := (.cons (.ite (.sc (.cmp .Gt (.blt .len (.cons c2_law_is_free .nil)) (.bin .FloorDiv (.var 4) (.var 1))))
  (.cons (.ret (.bl false))
  .nil)
  .nil)
  .nil)
def b_law_is_free : Ss := (.cons (.ite (.sc (.not (.isi (.var 2) [.tuple])))
  (.cons (.ret (.bl false))
  .nil)
  .nil)
  (.cons (.ite (.sc (.cmp .NotEq c1_law_is_free (.lst .nil)))
  (.cons (.ret (.bl false))
  .nil)
  .nil)
  (.cons (.ite (.sc (.cmp .NotEq (.blt .list (.cons (.var 2) .nil)) (.blt .sset (.cons (.var 2) .nil))))
  (.cons (.ret (.bl false))
  .nil)
  .nil)
  (.cons (.set 3 (.call 1 (.cons (.var 0) .nil)))
  (.cons (.fr (.nm 4) (.rng (.cons (.int 1) (.cons (.bin .Add (.sc (.blt .len (.cons (.var 0) .nil))) (.int 1)) .nil))) l1_law_is_free)
  (.cons (.ret (.bl true))
  .nil))))))
/-- _law_is_free: _law_basket_here, _law_size, _law_value -/
def s_law_is_free (cs : List FSem) : FSem := defSem false 3 6 cs b_law_is_free
def t_law_k09 : Tb := ⟨["_law_script", "_law_cell", "_law_source_here", "_law_known", "_law_sets", "_law_item", "_law_chosen", "_law_turn", "_law_basket_here", "_law_size", "_law_good", "_law_drawn", "_law_some", "_law_value", "_law_parts", "_law_k"], [("_law_source", false, 2), ("_law_basket", true, 2), ("_law_draw", true, 2), ("_law_all_splittings", false, 1), ("_law_free", false, 3), ("_law_equal", false, 2), ("is_free_set", false, 3), ("_law_is_free", false, 3), ("_law_random_splitting", true, 2), ("_law_any_value", true, 1), ("_law_corrupt", true, 2)], [], [], []⟩
def c1_law_k09 : E := .lc (.call 4 (.cons (.var 8) (.cons (.var 9) (.cons (.var 14) .nil)))) (.nm 14) (.seq (.call 3 (.cons (.sc (.blt .len (.cons (.var 8) .nil))) .nil))) (.bl true)
def c2_law_k09 : E := .lc (.bin .Add (.var 6) (.tup (.cons (.var 5) .nil))) (.nm 6) (.seq (.var 4)) (.bl true)
def l1_law_k09 : Ss := (.cons (.set 4 (.bin .Add (.var 4) c2_law_k09))
  .nil)
def l2_law_k09 : Ss := (.cons (.ite (.sc (.not (.call 5 (.cons (.call 6 (.cons (.var 8) (.cons (.var 9) (.cons (.var 6) .nil)))) (.cons (.sc (.cmp .In (.var 6) (.var 3))) .nil)))))
  (.cons (.ret (.bl false))
  .nil)
  .nil)
  (.cons (.ite (.sc (.cmp .NotEq (.call 7 (.cons (.var 8) (.cons (.var 9) (.cons (.var 6) .nil)))) (.cmp .In (.var 6) (.var 3))))
  (.cons (.ret (.bl false))
  .nil)
  .nil)
  .nil))
def c3_law_k09 : E := .lc (.var 5) (.nm 5) (.rng (.cons (.sc (.blt .len (.cons (.var 8) .nil))) .nil)) (.cmp .Eq (.callm 2 2 (.cons (.int 4) .nil)) (.int 0))
def c4_law_k09 : E := .lc (.callm 10 2 (.cons (.var 10) .nil)) (.nm 15) (.rng (.cons (.int 5) .nil)) (.bl true)
def l3_law_k09 : Ss := (.cons (.ite (.sc (.not (.call 5 (.cons (.call 6 (.cons (.var 8) (.cons (.var 9) (.cons (.var 13) .nil)))) (.cons (.call 7 (.cons (.var 8) (.cons (.var 9) (.cons (.var 13) .nil)))) .nil)))))
  (.cons (.ret (.bl false))
  .nil)
  .nil)
  .nil)
def l4_law_k09 : Ss := (.cons (.set 10 (.call 4 (.cons (.var 8) (.cons (.var 9) (.cons (.callm 8 2 (.cons (.var 8) .nil)) .nil)))))
  (.cons (.set 11 (.blt .tuple (.cons c3_law_k09 .nil)))
  (.cons (.set 12 (.lst (.cons (.var 10) (.cons (.var 11) (.cons (.rev (.var 10)) (.cons (.blt .list (.cons (.var 10) .nil)) (.cons (.bin .Add (.var 10) (.slv 10 .nop (.int 1))) (.cons .non (.cons (.tup (.cons (.sc (.blt .len (.cons (.var 8) .nil))) .nil)) (.cons (.callm 9 2 .nil) .nil))))))))))
  (.cons (.fr (.nm 13) (.seq (.bin .Add (.var 12) c4_law_k09)) l3_law_k09)
  .nil))))
def l5_law_k09 : Ss := (.cons (.set 2 (.call 0 (.cons (.var 1) (.cons (.int 9) .nil))))
  (.cons (.par [8, 9] (.cons (.callm 1 2 (.cons (.int 6) .nil)) (.cons (.bin .Add (.int 2) (.callm 2 2 (.cons (.int 3) .nil))) .nil)))
  (.cons (.set 3 (.blt .sset (.cons c1_law_k09 .nil)))
  (.cons (.set 4 (.lst (.cons (.tup .nil) .nil)))
  (.cons (.fr (.nm 5) (.rng (.cons (.sc (.blt .len (.cons (.var 8) .nil))) .nil)) l1_law_k09)
  (.cons (.fr (.nm 6) (.seq (.var 4)) l2_law_k09)
  (.cons (.par [8, 9] (.cons (.callm 1 2 (.cons (.int 12) .nil)) (.cons (.bin .Add (.int 2) (.callm 2 2 (.cons (.int 5) .nil))) .nil)))
  (.cons (.fr (.nm 7) (.rng (.cons (.int 6) .nil)) l4_law_k09)
  .nil))))))))
def b_law_k09 : Ss := (.cons (.fr (.nm 1) (.seq (.slc (.bin .Add (.lst (.cons (.int 0) .nil)) (.var 0)) .nop (.int 8))) l5_law_k09)
  (.cons (.ret (.sc (.cmp .Is (.call 6 (.cons (.tup (.cons (.int 9) (.cons (.int 4) (.cons (.int 7) (.cons (.int 2) (.cons (.int 7) (.cons (.int 5) .nil))))))) (.cons (.int 3) (.cons (.tup (.cons (.int 2) .nil)) .nil)))) (.bl false))))
  .nil))
/-- law: _law_script -/
def s_law_k09 (cs : List FSem) : FSem := defSem false 1 16 cs b_law_k09
def t_all_sets : Tb := ⟨["basket", "size", "rows", "at", "item", "chosen"], [("row_of", false, 1)], [], [], []⟩
def c1_all_sets : E := .lc (.bin .Add (.var 5) (.tup (.cons (.var 4) .nil))) (.nm 5) (.hid 2) (.sc (.cmp .Lt (.blt .len (.cons (.var 5) .nil)) (.bin .FloorDiv (.bin .Add (.var 3) (.int 1)) (.var 1))))
def l1_all_sets : Ss := (.cons (.aug 2 .Add c1_all_sets)
  .nil)
def c2_all_sets : E := .lc (.blt .tuple (.cons (.blt .sorted (.cons (.var 5) .nil)) .nil)) (.nm 5) (.seq (.var 2)) (.bl true)
def b_all_sets : Ss := (.cons (.set 2 (.lst (.cons (.tup .nil) .nil)))
  (.cons (.fr (.tp [3, 4]) (.enu (.call 0 (.cons (.var 0) .nil))) l1_all_sets)
  (.cons (.ret (.blt .sorted (.cons c2_all_sets .nil)))
  .nil)))
/-- all_sets: basket, size -/
def s_all_sets (cs : List FSem) : FSem := defSem false 2 6 cs b_all_sets
def t_count_sets : Tb := ⟨["basket", "size"], [("check_offer", false, 2), ("all_sets", false, 2)], [], [], []⟩
def b_count_sets : Ss := (.cons (.exp (.call 0 (.cons (.var 0) (.cons (.var 1) .nil))))
  (.cons (.ret (.sc (.blt .len (.cons (.call 1 (.cons (.var 0) (.cons (.var 1) .nil))) .nil))))
  .nil))
/-- count_sets: basket, size -/
def s_count_sets (cs : List FSem) : FSem := defSem false 2 2 cs b_count_sets
def t_set_at : Tb := ⟨["basket", "size", "place", "rows"], [("check_offer", false, 2), ("all_sets", false, 2), ("is_between", false, 3)], [], [], ["InvalidPlace"]⟩
def b_set_at : Ss := (.cons (.exp (.call 0 (.cons (.var 0) (.cons (.var 1) .nil))))
  (.cons (.set 3 (.call 1 (.cons (.var 0) (.cons (.var 1) .nil))))
  (.cons (.ite (.sc (.not (.call 2 (.cons (.var 2) (.cons (.int 0) (.cons (.bin .Sub (.sc (.blt .len (.cons (.var 3) .nil))) (.int 1)) .nil))))))
  (.cons (.rai "InvalidPlace")
  .nil)
  .nil)
  (.cons (.ret (.ixv 3 (.var 2)))
  .nil))))
/-- set_at: basket, size, place -/
def s_set_at (cs : List FSem) : FSem := defSem false 3 4 cs b_set_at
def t_check_set : Tb := ⟨["basket", "size", "free"], [("check_offer", false, 2), ("is_free", false, 3)], [], [], ["InvalidSet"]⟩
def b_check_set : Ss := (.cons (.exp (.call 0 (.cons (.var 0) (.cons (.var 1) .nil))))
  (.cons (.ite (.sc (.not (.call 1 (.cons (.var 0) (.cons (.var 1) (.cons (.var 2) .nil))))))
  (.cons (.rai "InvalidSet")
  .nil)
  .nil)
  .nil))
/-- check_set: basket, size, free -/
def s_check_set (cs : List FSem) : FSem := defSem false 3 3 cs b_check_set
def t_set_number : Tb := ⟨["basket", "size", "free"], [("check_set", false, 3), ("all_sets", false, 2)], [], [], []⟩
def b_set_number : Ss := (.cons (.exp (.call 0 (.cons (.var 0) (.cons (.var 1) (.cons (.var 2) .nil)))))
  (.cons (.ret (.idx (.call 1 (.cons (.var 0) (.cons (.var 1) .nil))) (.var 2)))
  .nil))
/-- set_number: basket, size, free -/
def s_set_number (cs : List FSem) : FSem := defSem false 3 3 cs b_set_number
def t_law_random_splitting_k10 : Tb := ⟨["_law_source_here", "_law_basket_here", "_law_many_here", "_law_parts", "_law_item", "_law_part", "_law_turn"], [("_law_draw", true, 2)], [], [], []⟩
def c1_law_random_splitting_k10 : E := .lc (.lst .nil) (.nm 6) (.rng (.cons (.var 2) .nil)) (.bl true)
def l1_law_random_splitting_k10 : Ss := (.cons (.set 5 (.ixv 3 (.callm 0 0 (.cons (.var 2) .nil))))
  (.cons (.app 5 (.var 4))
  .nil))
def c2_law_random_splitting_k10 : E := .lc (.blt .tuple (.cons (.var 5) .nil)) (.nm 5) (.seq (.var 3)) (.sc (.cmp .NotEq (.var 5) (.lst .nil)))
def b_law_random_splitting_k10 : Ss := (.cons (.set 2 (.bin .Add (.int 1) (.callm 0 0 (.cons (.sc (.blt .len (.cons (.var 1) .nil))) .nil))))
  (.cons (.set 3 c1_law_random_splitting_k10)
  (.cons (.fr (.nm 4) (.rng (.cons (.sc (.blt .len (.cons (.var 1) .nil))) .nil)) l1_law_random_splitting_k10)
  (.cons (.ret (.blt .tuple (.cons c2_law_random_splitting_k10 .nil)))
  .nil))))
/-- _law_random_splitting: _law_source_here, _law_basket_here -/
def s_law_random_splitting_k10 (cs : List FSem) : FSem := defSem true 2 7 cs b_law_random_splitting_k10
def t_all_splittings : Tb := ⟨["count", "rows", "item", "longer", "parts", "at", "part"], [], [], [], []⟩
def l1_all_splittings : Ss := (.cons (.app 3 (.bin .Add (.bin .Add (.slv 4 .nop (.var 5)) (.tup (.cons (.bin .Add (.var 6) (.tup (.cons (.var 2) .nil))) .nil))) (.slv 4 (.bin .Add (.var 5) (.int 1)) .nop)))
  .nil)
def l2_all_splittings : Ss := (.cons (.app 3 (.bin .Add (.var 4) (.tup (.cons (.tup (.cons (.var 2) .nil)) .nil))))
  (.cons (.fr (.tp [5, 6]) (.enu (.var 4)) l1_all_splittings)
  .nil))
def l3_all_splittings : Ss := (.cons (.set 3 (.lst .nil))
  (.cons (.fr (.nm 4) (.seq (.var 1)) l2_all_splittings)
  (.cons (.set 1 (.var 3))
  .nil)))
def b_all_splittings : Ss := (.cons (.set 1 (.lst (.cons (.tup .nil) .nil)))
  (.cons (.fr (.nm 2) (.rng (.cons (.var 0) .nil)) l3_all_splittings)
  (.cons (.ret (.mv 1))
  .nil)))
/-- all_splittings: count -/
def s_all_splittings (cs : List FSem) : FSem := defSem false 1 7 cs b_all_splittings
def t_check_small : Tb := ⟨["basket"], [], [("MAX_SMALL", 7)], [], ["TooMany"]⟩
def b_check_small : Ss := (.cons (.ite (.sc (.cmp .Gt (.blt .len (.cons (.var 0) .nil)) (.gint "MAX_SMALL" 7)))
  (.cons (.rai "TooMany")
  .nil)
  .nil)
  .nil)
/-- check_small: basket -/
def s_check_small (cs : List FSem) : FSem := defSem false 1 1 cs b_check_small
def t_fewest_for_set : Tb := ⟨["basket", "size", "free", "parts"], [("check_set", false, 3), ("check_small", false, 1), ("free_of", false, 3), ("all_splittings", false, 1)], [], [], []⟩
def c1_fewest_for_set : E := .lc (.sc (.blt .len (.cons (.var 3) .nil))) (.nm 3) (.seq (.call 3 (.cons (.sc (.blt .len (.cons (.var 0) .nil))) .nil))) (.sc (.cmp .Eq (.call 2 (.cons (.var 0) (.cons (.var 1) (.cons (.var 3) .nil)))) (.var 2)))
def b_fewest_for_set : Ss := (.cons (.exp (.call 0 (.cons (.var 0) (.cons (.var 1) (.cons (.var 2) .nil)))))
  (.cons (.exp (.call 1 (.cons (.var 0) .nil)))
  (.cons (.ret (.blt .min (.cons c1_fewest_for_set .nil)))
  .nil)))
/-- fewest_for_set: basket, size, free -/
def s_fewest_for_set (cs : List FSem) : FSem := defSem false 3 4 cs b_fewest_for_set
def t_roles : Tb := ⟨["basket", "size", "receipts", "best", "rows", "parts", "always", "some", "free", "item"], [("check_offer", false, 2), ("check_receipts", false, 1), ("check_small", false, 1), ("best_value", false, 3), ("all_splittings", false, 1), ("free_of", false, 3), ("value_of", false, 2)], [], [], []⟩
def l1_roles : Ss := (.cons (.set 8 (.call 5 (.cons (.var 0) (.cons (.var 1) (.cons (.var 5) .nil)))))
  (.cons (.ite (.sc (.and (.cmp .LtE (.blt .len (.cons (.var 5) .nil)) (.var 2)) (.cmp .Eq (.call 6 (.cons (.var 0) (.cons (.var 8) .nil))) (.var 3))))
  (.cons (.app 4 (.var 8))
  .nil)
  .nil)
  .nil))
def c1_roles : E := .lc (.sc (.cmp .In (.var 9) (.var 8))) (.nm 8) (.seq (.var 4)) (.bl true)
def c2_roles : E := .lc (.var 9) (.nm 9) (.rng (.cons (.sc (.blt .len (.cons (.var 0) .nil))) .nil)) (.sc (.blt .all (.cons c1_roles .nil)))
def c3_roles : E := .lc (.sc (.cmp .In (.var 9) (.var 8))) (.nm 8) (.seq (.var 4)) (.bl true)
def c4_roles : E := .lc (.var 9) (.nm 9) (.rng (.cons (.sc (.blt .len (.cons (.var 0) .nil))) .nil)) (.sc (.blt .any (.cons c3_roles .nil)))
def b_roles : Ss := (.cons (.exp (.call 0 (.cons (.var 0) (.cons (.var 1) .nil))))
  (.cons (.exp (.call 1 (.cons (.var 2) .nil)))
  (.cons (.exp (.call 2 (.cons (.var 0) .nil)))
  (.cons (.set 3 (.call 3 (.cons (.var 0) (.cons (.var 1) (.cons (.var 2) .nil)))))
  (.cons (.set 4 (.lst .nil))
  (.cons (.fr (.nm 5) (.seq (.call 4 (.cons (.sc (.blt .len (.cons (.var 0) .nil))) .nil))) l1_roles)
  (.cons (.set 6 c2_roles)
  (.cons (.set 7 c4_roles)
  (.cons (.ret (.tup (.cons (.blt .tuple (.cons (.var 6) .nil)) (.cons (.blt .tuple (.cons (.var 7) .nil)) .nil))))
  .nil)))))))))
/-- roles: basket, size, receipts -/
def s_roles (cs : List FSem) : FSem := defSem false 3 10 cs b_roles
def t_scanned_saving : Tb := ⟨["basket", "size", "order", "good", "places", "total", "start", "item"], [("check_offer", false, 2), ("is_between", false, 3), ("row_of", false, 1)], [], [], ["InvalidOrder"]⟩
def c1_scanned_saving : E := .lc (.call 1 (.cons (.var 7) (.cons (.int 0) (.cons (.bin .Sub (.sc (.blt .len (.cons (.var 0) .nil))) (.int 1)) .nil)))) (.nm 7) (.seq (.var 2)) (.bl true)
def c2_scanned_saving : E := .lc (.idx (.var 4) (.var 7)) (.nm 7) (.seq (.slv 2 (.var 6) (.bin .Add (.var 6) (.var 1)))) (.bl true)
def l1_scanned_saving : Ss := (.cons (.aug 5 .Add (.ixv 0 (.ixv 4 (.blt .max (.cons c2_scanned_saving .nil)))))
  .nil)
def b_scanned_saving : Ss := (.cons (.exp (.call 0 (.cons (.var 0) (.cons (.var 1) .nil))))
  (.cons (.set 3 (.sc (.and (.isi (.var 2) [.tuple]) (.blt .all (.cons c1_scanned_saving .nil)))))
  (.cons (.ite (.sc (.or (.not (.var 3)) (.cmp .NotEq (.blt .sorted (.cons (.var 2) .nil)) (.trng .list (.cons (.sc (.blt .len (.cons (.var 0) .nil))) .nil)))))
  (.cons (.rai "InvalidOrder")
  .nil)
  .nil)
  (.cons (.set 4 (.call 2 (.cons (.var 0) .nil)))
  (.cons (.set 5 (.int 0))
  (.cons (.fr (.nm 6) (.rng (.cons (.int 0) (.cons (.bin .Add (.bin .Sub (.sc (.blt .len (.cons (.var 2) .nil))) (.var 1)) (.int 1)) (.cons (.var 1) .nil)))) l1_scanned_saving)
  (.cons (.ret (.mv 5))
  .nil)))))))
/-- scanned_saving: basket, size, order -/
def s_scanned_saving (cs : List FSem) : FSem := defSem false 3 8 cs b_scanned_saving
def t_full_sets : Tb := ⟨["basket", "size", "free"], [("all_sets", false, 2)], [], [], []⟩
def c1_full_sets : E := .lc (.var 2) (.nm 2) (.seq (.call 0 (.cons (.var 0) (.cons (.var 1) .nil)))) (.sc (.cmp .Eq (.blt .len (.cons (.var 2) .nil)) (.bin .FloorDiv (.sc (.blt .len (.cons (.var 0) .nil))) (.var 1))))
def b_full_sets : Ss := (.cons (.ret c1_full_sets)
  .nil)
/-- full_sets: basket, size -/
def s_full_sets (cs : List FSem) : FSem := defSem false 2 3 cs b_full_sets
def t_possible_scans : Tb := ⟨["basket", "size", "free"], [("check_offer", false, 2), ("full_sets", false, 2), ("value_of", false, 2)], [], [], []⟩
def c1_possible_scans : E := .lc (.call 2 (.cons (.var 0) (.cons (.var 2) .nil))) (.nm 2) (.seq (.call 1 (.cons (.var 0) (.cons (.var 1) .nil)))) (.bl true)
def b_possible_scans : Ss := (.cons (.exp (.call 0 (.cons (.var 0) (.cons (.var 1) .nil))))
  (.cons (.ret (.blt .sset (.cons c1_possible_scans .nil)))
  .nil))
/-- possible_scans: basket, size -/
def s_possible_scans (cs : List FSem) : FSem := defSem false 2 3 cs b_possible_scans
def t_order_with : Tb := ⟨["basket", "size", "free", "places", "paid", "found", "item"], [("row_of", false, 1)], [], [], []⟩
def c1_order_with : E := .lc (.var 6) (.nm 6) (.seq (.var 3)) (.sc (.cmp .NotIn (.var 6) (.var 2)))
def c2_order_with : E := .lc (.var 6) (.nm 6) (.seq (.var 3)) (.sc (.cmp .In (.var 6) (.var 2)))
def l1_order_with : Ss := (.cons (.aug 5 .Add (.bin .Add (.slv 4 .nop (.bin .Sub (.var 1) (.int 1))) (.lst (.cons (.var 6) .nil))))
  (.cons (.set 4 (.slv 4 (.bin .Sub (.var 1) (.int 1)) .nop))
  .nil))
def b_order_with : Ss := (.cons (.set 3 (.call 0 (.cons (.var 0) .nil)))
  (.cons (.set 4 c1_order_with)
  (.cons (.set 5 (.lst .nil))
  (.cons (.fr (.nm 6) (.seq c2_order_with) l1_order_with)
  (.cons (.ret (.blt .tuple (.cons (.bin .Add (.var 5) (.var 4)) .nil)))
  .nil)))))
/-- order_with: basket, size, free -/
def s_order_with (cs : List FSem) : FSem := defSem false 3 7 cs b_order_with
def t_order_for : Tb := ⟨["basket", "size", "wished", "free"], [("check_offer", false, 2), ("check_saving", false, 1), ("full_sets", false, 2), ("value_of", false, 2), ("order_with", false, 3)], [], [], []⟩
def l1_order_for : Ss := (.cons (.ite (.sc (.cmp .Eq (.call 3 (.cons (.var 0) (.cons (.var 3) .nil))) (.var 2)))
  (.cons (.ret (.call 4 (.cons (.var 0) (.cons (.var 1) (.cons (.var 3) .nil)))))
  .nil)
  .nil)
  .nil)
def b_order_for : Ss := (.cons (.exp (.call 0 (.cons (.var 0) (.cons (.var 1) .nil))))
  (.cons (.exp (.call 1 (.cons (.var 2) .nil)))
  (.cons (.fr (.nm 3) (.seq (.call 2 (.cons (.var 0) (.cons (.var 1) .nil)))) l1_order_for)
  (.cons (.ret .non)
  .nil))))
/-- order_for: basket, size, wished -/
def s_order_for (cs : List FSem) : FSem := defSem false 3 4 cs b_order_for
def t_law_orders : Tb := ⟨["_law_count", "_law_found", "_law_item", "_law_longer", "_law_order", "_law_at"], [], [], [], []⟩
def c1_law_orders : E := .lc (.bin .Add (.bin .Add (.slv 4 .nop (.var 5)) (.tup (.cons (.var 2) .nil))) (.slv 4 (.var 5) .nop)) (.nm 5) (.rng (.cons (.bin .Add (.sc (.blt .len (.cons (.var 4) .nil))) (.int 1)) .nil)) (.bl true)
def l1_law_orders : Ss := (.cons (.set 3 (.bin .Add (.var 3) c1_law_orders))
  .nil)
def l2_law_orders : Ss := (.cons (.set 3 (.lst .nil))
  (.cons (.fr (.nm 4) (.seq (.var 1)) l1_law_orders)
  (.cons (.set 1 (.var 3))
  .nil)))
def b_law_orders : Ss := (.cons (.set 1 (.lst (.cons (.tup .nil) .nil)))
  (.cons (.fr (.nm 2) (.rng (.cons (.var 0) .nil)) l2_law_orders)
  (.cons (.ret (.mv 1))
  .nil)))
/-- _law_orders: _law_count -/
def s_law_orders (cs : List FSem) : FSem := defSem false 1 6 cs b_law_orders
def t_law_scanned : Tb := ⟨["_law_basket_here", "_law_size", "_law_order", "_law_found", "_law_start", "_law_group", "_law_item"], [], [], [], []⟩
def c1_law_scanned : E := .lc (.ixv 0 (.var 6)) (.nm 6) (.seq (.var 5)) (.bl true)
def l1_law_scanned : Ss := (.cons (.set 5 (.slv 2 (.var 4) (.bin .Add (.var 4) (.var 1))))
  (.cons (.ite (.sc (.cmp .Eq (.blt .len (.cons (.var 5) .nil)) (.var 1)))
  (.cons (.set 3 (.bin .Add (.var 3) (.blt .min (.cons c1_law_scanned .nil))))
  .nil)
  .nil)
  .nil))
def b_law_scanned : Ss := (.cons (.set 3 (.int 0))
  (.cons (.fr (.nm 4) (.rng (.cons (.int 0) (.cons (.sc (.blt .len (.cons (.var 2) .nil))) (.cons (.var 1) .nil)))) l1_law_scanned)
  (.cons (.ret (.mv 3))
  .nil)))
/-- _law_scanned: _law_basket_here, _law_size, _law_order -/
def s_law_scanned (cs : List FSem) : FSem := defSem false 3 7 cs b_law_scanned
def t_law_k12 : Tb := ⟨["_law_script", "_law_cell", "_law_source_here", "_law_savings", "_law_order", "_law_expected", "_law_result", "_law_wished", "_law_basket_here", "_law_size", "_law_value"], [("_law_source", false, 2), ("_law_basket", true, 2), ("_law_draw", true, 2), ("_law_orders", false, 1), ("_law_scanned", false, 3), ("_law_equal", false, 2), ("scanned_saving", false, 3), ("possible_scans", false, 2), ("order_for", false, 3)], [], [], []⟩
def l1_law_k12 : Ss := (.cons (.set 10 (.call 4 (.cons (.var 8) (.cons (.var 9) (.cons (.var 4) .nil)))))
  (.cons (.ite (.sc (.not (.call 5 (.cons (.call 6 (.cons (.var 8) (.cons (.var 9) (.cons (.var 4) .nil)))) (.cons (.var 10) .nil)))))
  (.cons (.ret (.bl false))
  .nil)
  .nil)
  (.cons (.app 3 (.var 10))
  .nil)))
def c1_law_k12 : E := .lc (.bin .Add (.var 10) (.int 1)) (.nm 10) (.seq (.var 5)) (.bl true)
def l2_law_k12 : Ss := (.cons (.set 4 (.call 8 (.cons (.var 8) (.cons (.var 9) (.cons (.var 7) .nil)))))
  (.cons (.ite (.sc (.cmp .NotEq (.cmp .Is (.var 4) .non) (.cmp .NotIn (.var 7) (.var 5))))
  (.cons (.ret (.bl false))
  .nil)
  .nil)
  (.cons (.ite (.sc (.and (.cmp .IsNot (.var 4) .non) (.cmp .NotEq (.call 4 (.cons (.var 8) (.cons (.var 9) (.cons (.var 4) .nil)))) (.var 7))))
  (.cons (.ret (.bl false))
  .nil)
  .nil)
  .nil)))
def l3_law_k12 : Ss := (.cons (.set 2 (.call 0 (.cons (.var 1) (.cons (.int 12) .nil))))
  (.cons (.par [8, 9] (.cons (.callm 1 2 (.cons (.int 6) .nil)) (.cons (.bin .Add (.int 2) (.callm 2 2 (.cons (.int 3) .nil))) .nil)))
  (.cons (.set 3 (.lst .nil))
  (.cons (.fr (.nm 4) (.seq (.call 3 (.cons (.sc (.blt .len (.cons (.var 8) .nil))) .nil))) l1_law_k12)
  (.cons (.set 5 (.blt .sset (.cons (.var 3) .nil)))
  (.cons (.set 6 (.call 7 (.cons (.var 8) (.cons (.var 9) .nil))))
  (.cons (.ite (.sc (.not (.call 5 (.cons (.var 6) (.cons (.var 5) .nil)))))
  (.cons (.ret (.bl false))
  .nil)
  .nil)
  (.cons (.fr (.nm 7) (.seq (.bin .Add (.bin .Add (.var 5) c1_law_k12) (.lst (.cons (.int 0) .nil)))) l2_law_k12)
  (.cons (.app 6 (.int 0))
  (.cons (.ite (.sc (.cmp .NotEq (.call 7 (.cons (.var 8) (.cons (.var 9) .nil))) (.var 5)))
  (.cons (.ret (.bl false))
  .nil)
  .nil)
  .nil))))))))))
def b_law_k12 : Ss := (.cons (.fr (.nm 1) (.seq (.slc (.bin .Add (.lst (.cons (.int 0) .nil)) (.var 0)) .nop (.int 5))) l3_law_k12)
  (.cons (.ret (.sc (.and (.cmp .Eq (.call 6 (.cons (.tup (.cons (.int 3) (.cons (.int 1) (.cons (.int 2) .nil)))) (.cons (.int 2) (.cons (.tup (.cons (.int 0) (.cons (.int 1) (.cons (.int 2) .nil)))) .nil)))) (.int 1)) (.cmp .Eq (.call 7 (.cons (.tup (.cons (.int 7) .nil)) (.cons (.int 2) .nil))) (.lst (.cons (.int 0) .nil))))))
  .nil))
/-- law: _law_script -/
def s_law_k12 (cs : List FSem) : FSem := defSem false 1 11 cs b_law_k12
def t_are_sightings : Tb := ⟨["value", "seen"], [("is_between", false, 3)], [("MAX_RECEIPTS", 12), ("MAX_SAVING", 1000000)], [], []⟩
def l1_are_sightings : Ss := (.cons (.ite (.sc (.or (.not (.isi (.var 1) [.tuple])) (.cmp .NotEq (.blt .len (.cons (.var 1) .nil)) (.int 2))))
  (.cons (.ret (.bl false))
  .nil)
  .nil)
  (.cons (.ite (.sc (.or (.not (.call 0 (.cons (.ixv 1 (.int 0)) (.cons (.int 1) (.cons (.gint "MAX_RECEIPTS" 12) .nil))))) (.not (.call 0 (.cons (.ixv 1 (.int 1)) (.cons (.int 0) (.cons (.gint "MAX_SAVING" 1000000) .nil)))))))
  (.cons (.ret (.bl false))
  .nil)
  .nil)
  .nil))
def b_are_sightings : Ss := (.cons (.ite (.sc (.or (.not (.isi (.var 0) [.tuple])) (.not (.chain .LtE .LtE (.int 1) (.blt .len (.cons (.var 0) .nil)) (.int 6)))))
  (.cons (.ret (.bl false))
  .nil)
  .nil)
  (.cons (.fr (.nm 1) (.seq (.var 0)) l1_are_sightings)
  (.cons (.ret (.bl true))
  .nil)))
/-- are_sightings: value -/
def s_are_sightings (cs : List FSem) : FSem := defSem false 1 2 cs b_are_sightings
def t_first_price : Tb := ⟨["basket", "size", "index", "receipts", "least", "low", "high", "middle"], [("best_value", false, 3)], [("MAX_PRICE", 10000)], [], []⟩
def l1_first_price : Ss := (.cons (.set 7 (.bin .FloorDiv (.bin .Add (.var 5) (.var 6)) (.int 2)))
  (.cons (.ite (.sc (.cmp .GtE (.call 0 (.cons (.bin .Add (.bin .Add (.slv 0 .nop (.var 2)) (.tup (.cons (.var 7) .nil))) (.slv 0 (.bin .Add (.var 2) (.int 1)) .nop)) (.cons (.var 1) (.cons (.var 3) .nil)))) (.var 4)))
  (.cons (.set 6 (.var 7))
  .nil)
  (.cons (.set 5 (.bin .Add (.var 7) (.int 1)))
  .nil))
  .nil))
def b_first_price : Ss := (.cons (.par [5, 6] (.cons (.int 1) (.cons (.bin .Add (.gint "MAX_PRICE" 10000) (.int 1)) .nil)))
  (.cons (.whl (.sc (.cmp .Lt (.var 5) (.var 6))) l1_first_price)
  (.cons (.ret (.mv 5))
  .nil)))
/-- first_price: basket, size, index, receipts, least -/
def s_first_price (cs : List FSem) : FSem := defSem false 5 8 cs b_first_price
def t_possible_prices : Tb := ⟨["basket", "size", "index", "sightings", "low", "high", "receipts", "value"], [("check_offer", false, 2), ("is_between", false, 3), ("are_sightings", false, 1), ("first_price", false, 5)], [("MAX_PRICE", 10000)], [], ["InvalidIndex", "InvalidSightings"]⟩
def l1_possible_prices : Ss := (.cons (.set 4 (.blt .max (.cons (.var 4) (.cons (.call 3 (.cons (.var 0) (.cons (.var 1) (.cons (.var 2) (.cons (.var 6) (.cons (.var 7) .nil)))))) .nil))))
  (.cons (.set 5 (.blt .min (.cons (.var 5) (.cons (.bin .Sub (.call 3 (.cons (.var 0) (.cons (.var 1) (.cons (.var 2) (.cons (.var 6) (.cons (.bin .Add (.var 7) (.int 1)) .nil)))))) (.int 1)) .nil))))
  .nil))
def b_possible_prices : Ss := (.cons (.exp (.call 0 (.cons (.var 0) (.cons (.var 1) .nil))))
  (.cons (.ite (.sc (.not (.call 1 (.cons (.var 2) (.cons (.int 0) (.cons (.bin .Sub (.sc (.blt .len (.cons (.var 0) .nil))) (.int 1)) .nil))))))
  (.cons (.rai "InvalidIndex")
  .nil)
  .nil)
  (.cons (.ite (.sc (.not (.call 2 (.cons (.var 3) .nil))))
  (.cons (.rai "InvalidSightings")
  .nil)
  .nil)
  (.cons (.par [4, 5] (.cons (.int 1) (.cons (.gint "MAX_PRICE" 10000) .nil)))
  (.cons (.fr (.tp [6, 7]) (.seq (.var 3)) l1_possible_prices)
  (.cons (.ret (.ite (.sc (.cmp .LtE (.var 4) (.var 5))) (.tup (.cons (.var 4) (.cons (.var 5) .nil))) .non))
  .nil))))))
/-- possible_prices: basket, size, index, sightings -/
def s_possible_prices (cs : List FSem) : FSem := defSem false 4 8 cs b_possible_prices
def t_law_with : Tb := ⟨["_law_basket_here", "_law_index", "_law_price"], [], [], [], []⟩
def b_law_with : Ss := (.cons (.ret (.bin .Add (.bin .Add (.slv 0 .nop (.var 1)) (.tup (.cons (.var 2) .nil))) (.slv 0 (.bin .Add (.var 1) (.int 1)) .nop)))
  .nil)
/-- _law_with: _law_basket_here, _law_index, _law_price -/
def s_law_with (cs : List FSem) : FSem := defSem false 3 3 cs b_law_with
def t_law_true : Tb := ⟨["_law_basket_here", "_law_size", "_law_index", "_law_price", "_law_seen_here", "_law_best_here", "_law_receipts", "_law_value"], [("_law_best", false, 2), ("_law_with", false, 3)], [], [], []⟩
def c1_law_true : E := .lc (.int 1) (.tp [6, 7]) (.seq (.var 4)) (.sc (.cmp .NotEq (.ixv 5 (.bin .Sub (.blt .min (.cons (.var 6) (.cons (.sc (.blt .len (.cons (.var 5) .nil))) .nil))) (.int 1))) (.var 7)))
def b_law_true : Ss := (.cons (.ite (.sc (.not (.chain .LtE .LtE (.int 1) (.var 3) (.int 10000))))
  (.cons (.ret (.bl false))
  .nil)
  .nil)
  (.cons (.set 5 (.call 0 (.cons (.call 1 (.cons (.var 0) (.cons (.var 2) (.cons (.var 3) .nil)))) (.cons (.var 1) .nil))))
  (.cons (.ret (.sc (.cmp .Eq c1_law_true (.lst .nil))))
  .nil)))
/-- _law_true: _law_basket_here, _law_size, _law_index, _law_price, _law_seen_here -/
def s_law_true (cs : List FSem) : FSem := defSem false 5 8 cs b_law_true
def t_law_seen : Tb := ⟨["_law_source_here", "_law_basket_here", "_law_size", "_law_turn", "_law_best_here", "_law_seen_here", "_law_receipts", "_law_value"], [("_law_best", false, 2), ("_law_draw", true, 2)], [], [], []⟩
def l1_law_seen : Ss := (.cons (.set 6 (.bin .Add (.int 1) (.callm 1 0 (.cons (.int 12) .nil))))
  (.cons (.set 7 (.ixv 4 (.bin .Sub (.blt .min (.cons (.var 6) (.cons (.sc (.blt .len (.cons (.var 4) .nil))) .nil))) (.int 1))))
  (.cons (.ite (.cmp .Eq (.callm 1 0 (.cons (.int 5) .nil)) (.int 0))
  (.cons (.set 7 (.blt .max (.cons (.int 0) (.cons (.bin .Sub (.bin .Add (.var 7) (.callm 1 0 (.cons (.int 5) .nil))) (.int 2)) .nil))))
  .nil)
  .nil)
  (.cons (.set 5 (.bin .Add (.var 5) (.tup (.cons (.tup (.cons (.var 6) (.cons (.var 7) .nil))) .nil))))
  .nil))))
def b_law_seen : Ss := (.cons (.par [4, 5] (.cons (.call 0 (.cons (.var 1) (.cons (.var 2) .nil))) (.cons (.tup .nil) .nil)))
  (.cons (.fr (.nm 3) (.rng (.cons (.bin .Add (.int 1) (.callm 1 0 (.cons (.int 3) .nil))) .nil)) l1_law_seen)
  (.cons (.ret (.mv 5))
  .nil)))
/-- _law_seen: _law_source_here, _law_basket_here, _law_size -/
def s_law_seen (cs : List FSem) : FSem := defSem true 3 8 cs b_law_seen
def t_law_k14 : Tb := ⟨["_law_script", "_law_cell", "_law_source_here", "_law_turn", "_law_result", "_law_samples", "_law_outside", "_law_other", "_law_price", "_law_basket_here", "_law_size", "_law_index", "_law_seen_here", "_law_inside", "_law_one", "_law_two", "_law_before", "_law_after"], [("_law_source", false, 2), ("_law_basket", true, 2), ("_law_draw", true, 2), ("_law_seen", true, 3), ("possible_prices", false, 4), ("_law_is_int", false, 1), ("_law_true", false, 5), ("_law_with", false, 3), ("_law_equal", false, 2), ("_law_best", false, 2)], [], [], []⟩
def c1_law_k14 : E := .lc (.var 8) (.nm 8) (.seq (.var 5)) (.sc (.chain .LtE .LtE (.ixv 4 (.int 0)) (.var 8) (.ixv 4 (.int 1))))
def c2_law_k14 : E := .lc (.var 8) (.nm 8) (.seq (.var 13)) (.sc (.not (.call 6 (.cons (.var 9) (.cons (.var 10) (.cons (.var 11) (.cons (.var 8) (.cons (.var 12) .nil))))))))
def c3_law_k14 : E := .lc (.var 8) (.nm 8) (.seq (.var 5)) (.sc (.cmp .NotIn (.var 8) (.var 13)))
def c4_law_k14 : E := .lc (.var 8) (.nm 8) (.seq (.var 6)) (.call 6 (.cons (.var 9) (.cons (.var 10) (.cons (.var 11) (.cons (.var 8) (.cons (.var 12) .nil))))))
def c5_law_k14 : E := .lc (.int 1) (.tp [16, 17]) (.zip (.var 14) (.var 15)) (.sc (.cmp .NotIn (.bin .Sub (.var 17) (.var 16)) (.tup (.cons (.int 0) (.cons (.int 1) .nil)))))
def l1_law_k14 : Ss := (.cons (.set 14 (.call 9 (.cons (.call 7 (.cons (.var 9) (.cons (.var 11) (.cons (.blt .min (.cons (.int 9999) (.cons (.var 8) .nil))) .nil)))) (.cons (.var 10) .nil))))
  (.cons (.set 15 (.call 9 (.cons (.call 7 (.cons (.var 9) (.cons (.var 11) (.cons (.bin .Add (.blt .min (.cons (.int 9999) (.cons (.var 8) .nil))) (.int 1)) .nil)))) (.cons (.var 10) .nil))))
  (.cons (.ite (.sc (.cmp .NotEq c5_law_k14 (.lst .nil)))
  (.cons (.ret (.bl false))
  .nil)
  .nil)
  .nil)))
def l2_law_k14 : Ss := (.cons (.par [9, 10] (.cons (.callm 1 2 (.cons (.int 12) .nil)) (.cons (.bin .Add (.int 2) (.callm 2 2 (.cons (.int 5) .nil))) .nil)))
  (.cons (.par [11, 12] (.cons (.callm 2 2 (.cons (.sc (.blt .len (.cons (.var 9) .nil))) .nil)) (.cons (.callm 3 2 (.cons (.var 9) (.cons (.var 10) .nil))) .nil)))
  (.cons (.set 4 (.call 4 (.cons (.var 9) (.cons (.var 10) (.cons (.var 11) (.cons (.var 12) .nil))))))
  (.cons (.set 5 (.bin .Add (.lst (.cons (.int 1) (.cons (.int 10000) (.cons (.ixv 9 (.var 11)) (.cons (.bin .Add (.int 1) (.callm 2 2 (.cons (.int 10000) .nil))) .nil))))) (.blt .list (.cons (.slv 9 .nop (.int 4)) .nil))))
  (.cons (.ite (.sc (.cmp .Is (.var 4) .non))
  (.cons (.set 13 (.lst .nil))
  .nil)
  (.cons (.ite (.sc (.or (.not (.isi (.var 4) [.tuple])) (.or (.cmp .NotEq (.blt .len (.cons (.var 4) .nil)) (.int 2)) (.not (.call 5 (.cons (.ixv 4 (.int 0)) .nil))))))
  (.cons (.ret (.bl false))
  .nil)
  .nil)
  (.cons (.set 13 (.lst (.cons (.ixv 4 (.int 0)) (.cons (.ixv 4 (.int 1)) (.cons (.bin .FloorDiv (.bin .Add (.ixv 4 (.int 0)) (.ixv 4 (.int 1))) (.int 2)) .nil)))))
  (.cons (.set 13 (.bin .Add (.var 13) c1_law_k14))
  (.cons (.set 5 (.bin .Add (.var 5) (.lst (.cons (.bin .Sub (.ixv 4 (.int 0)) (.int 1)) (.cons (.bin .Add (.ixv 4 (.int 1)) (.int 1)) .nil)))))
  .nil)))))
  (.cons (.ite (.sc (.cmp .NotEq c2_law_k14 (.lst .nil)))
  (.cons (.ret (.bl false))
  .nil)
  .nil)
  (.cons (.set 6 c3_law_k14)
  (.cons (.ite (.sc (.cmp .NotEq c4_law_k14 (.lst .nil)))
  (.cons (.ret (.bl false))
  .nil)
  .nil)
  (.cons (.set 7 (.call 7 (.cons (.var 9) (.cons (.var 11) (.cons (.bin .Add (.int 1) (.callm 2 2 (.cons (.int 10000) .nil))) .nil)))))
  (.cons (.ite (.sc (.not (.call 8 (.cons (.call 4 (.cons (.var 7) (.cons (.var 10) (.cons (.var 11) (.cons (.var 12) .nil))))) (.cons (.var 4) .nil)))))
  (.cons (.ret (.bl false))
  .nil)
  .nil)
  (.cons (.fr (.nm 8) (.seq (.lst (.cons (.ixv 9 (.var 11)) (.cons (.bin .Add (.int 1) (.callm 2 2 (.cons (.int 9999) .nil))) .nil)))) l1_law_k14)
  .nil)))))))))))
def l3_law_k14 : Ss := (.cons (.set 2 (.call 0 (.cons (.var 1) (.cons (.int 14) .nil))))
  (.cons (.fr (.nm 3) (.rng (.cons (.int 3) .nil)) l2_law_k14)
  .nil))
def b_law_k14 : Ss := (.cons (.fr (.nm 1) (.seq (.slc (.bin .Add (.lst (.cons (.int 0) .nil)) (.var 0)) .nop (.int 6))) l3_law_k14)
  (.cons (.ret (.sc (.cmp .Eq (.call 4 (.cons (.tup (.cons (.int 9) (.cons (.int 4) (.cons (.int 7) (.cons (.int 2) (.cons (.int 7) (.cons (.int 5) .nil))))))) (.cons (.int 3) (.cons (.int 4) (.cons (.tup (.cons (.tup (.cons (.int 2) (.cons (.int 8) .nil))) .nil)) .nil))))) (.tup (.cons (.int 6) (.cons (.int 6) .nil))))))
  .nil))
/-- law: _law_script -/
def s_law_k14 (cs : List FSem) : FSem := defSem false 1 18 cs b_law_k14
def t_gain : Tb := ⟨["first", "second", "size", "own", "other", "apart"], [("check_basket", false, 1), ("is_size", false, 1), ("check_receipts", false, 1), ("best_value", false, 3)], [("MAX_ITEMS", 12)], [], ["TooMany", "InvalidSize"]⟩
def b_gain : Ss := (.cons (.exp (.call 0 (.cons (.var 0) .nil)))
  (.cons (.exp (.call 0 (.cons (.var 1) .nil)))
  (.cons (.ite (.sc (.cmp .Gt (.bin .Add (.sc (.blt .len (.cons (.var 0) .nil))) (.sc (.blt .len (.cons (.var 1) .nil)))) (.gint "MAX_ITEMS" 12)))
  (.cons (.rai "TooMany")
  .nil)
  .nil)
  (.cons (.ite (.sc (.not (.call 1 (.cons (.var 2) .nil))))
  (.cons (.rai "InvalidSize")
  .nil)
  .nil)
  (.cons (.exp (.call 2 (.cons (.var 3) .nil)))
  (.cons (.exp (.call 2 (.cons (.var 4) .nil)))
  (.cons (.set 5 (.bin .Add (.call 3 (.cons (.var 0) (.cons (.var 2) (.cons (.var 3) .nil)))) (.call 3 (.cons (.var 1) (.cons (.var 2) (.cons (.var 4) .nil))))))
  (.cons (.ret (.bin .Sub (.call 3 (.cons (.bin .Add (.var 0) (.var 1)) (.cons (.var 2) (.cons (.bin .Add (.var 3) (.var 4)) .nil)))) (.var 5)))
  .nil))))))))
/-- gain: first, second, size, own, other -/
def s_gain (cs : List FSem) : FSem := defSem false 5 6 cs b_gain
def t_check_families : Tb := ⟨["basket", "families", "sizes", "receipts", "good", "family", "size"], [("check_basket", false, 1), ("is_between", false, 3), ("is_size", false, 1), ("check_receipts", false, 1)], [("FAMILIES", 4)], [], ["InvalidFamilies", "InvalidSizes"]⟩
def c1_check_families : E := .lc (.call 1 (.cons (.var 5) (.cons (.int 0) (.cons (.bin .Sub (.gint "FAMILIES" 4) (.int 1)) .nil)))) (.nm 5) (.seq (.var 1)) (.bl true)
def c2_check_families : E := .lc (.call 2 (.cons (.var 6) .nil)) (.nm 6) (.seq (.var 2)) (.bl true)
def b_check_families : Ss := (.cons (.exp (.call 0 (.cons (.var 0) .nil)))
  (.cons (.set 4 (.sc (.and (.isi (.var 1) [.tuple]) (.cmp .Eq (.blt .len (.cons (.var 1) .nil)) (.blt .len (.cons (.var 0) .nil))))))
  (.cons (.ite (.sc (.or (.not (.var 4)) (.not (.blt .all (.cons c1_check_families .nil)))))
  (.cons (.rai "InvalidFamilies")
  .nil)
  .nil)
  (.cons (.ite (.sc (.or (.not (.isi (.var 2) [.tuple])) (.or (.cmp .NotEq (.blt .len (.cons (.var 2) .nil)) (.gint "FAMILIES" 4)) (.not (.blt .all (.cons c2_check_families .nil))))))
  (.cons (.rai "InvalidSizes")
  .nil)
  .nil)
  (.cons (.exp (.call 3 (.cons (.var 3) .nil)))
  .nil)))))
/-- check_families: basket, families, sizes, receipts -/
def s_check_families (cs : List FSem) : FSem := defSem false 4 7 cs b_check_families
def t_members : Tb := ⟨["families", "family", "item", "other"], [], [], [], []⟩
def c1_members : E := .lc (.var 2) (.tp [2, 3]) (.enu (.var 0)) (.sc (.cmp .Eq (.var 3) (.var 1)))
def b_members : Ss := (.cons (.ret c1_members)
  .nil)
/-- members: families, family -/
def s_members (cs : List FSem) : FSem := defSem false 2 4 cs b_members
def t_family_saving : Tb := ⟨["basket", "families", "sizes", "receipts", "total", "family", "items", "item"], [("check_families", false, 4), ("members", false, 2), ("best_value", false, 3)], [("FAMILIES", 4)], [], []⟩
def c1_family_saving : E := .lc (.ixv 0 (.var 7)) (.nm 7) (.seq (.var 6)) (.bl true)
def l1_family_saving : Ss := (.cons (.set 6 (.call 1 (.cons (.var 1) (.cons (.var 5) .nil))))
  (.cons (.ite (.sc (.cmp .NotEq (.var 6) (.lst .nil)))
  (.cons (.aug 4 .Add (.call 2 (.cons (.blt .tuple (.cons c1_family_saving .nil)) (.cons (.ixv 2 (.var 5)) (.cons (.var 3) .nil)))))
  .nil)
  .nil)
  .nil))
def b_family_saving : Ss := (.cons (.exp (.call 0 (.cons (.var 0) (.cons (.var 1) (.cons (.var 2) (.cons (.var 3) .nil))))))
  (.cons (.set 4 (.int 0))
  (.cons (.fr (.nm 5) (.rng (.cons (.gint "FAMILIES" 4) .nil)) l1_family_saving)
  (.cons (.ret (.mv 4))
  .nil))))
/-- family_saving: basket, families, sizes, receipts -/
def s_family_saving (cs : List FSem) : FSem := defSem false 4 8 cs b_family_saving
def t_law_family_free : Tb := ⟨["_law_basket_here", "_law_families", "_law_sizes", "_law_splitting", "_law_receipt", "_law_places", "_law_found", "_law_family", "_law_there", "_law_item"], [("_law_row", false, 1)], [], [], []⟩
def c1_law_family_free : E := .lc (.var 9) (.nm 9) (.seq (.var 5)) (.sc (.and (.cmp .In (.var 9) (.var 4)) (.cmp .Eq (.ixv 1 (.var 9)) (.var 7))))
def l1_law_family_free : Ss := (.cons (.set 8 c1_law_family_free)
  (.cons (.set 6 (.bin .Add (.var 6) (.slv 8 (.bin .Sub (.sc (.blt .len (.cons (.var 8) .nil))) (.bin .FloorDiv (.sc (.blt .len (.cons (.var 8) .nil))) (.ixv 2 (.var 7)))) .nop)))
  .nil))
def l2_law_family_free : Ss := (.cons (.fr (.nm 7) (.rng (.cons (.int 4) .nil)) l1_law_family_free)
  .nil)
def b_law_family_free : Ss := (.cons (.par [5, 6] (.cons (.call 0 (.cons (.var 0) .nil)) (.cons (.lst .nil) .nil)))
  (.cons (.fr (.nm 4) (.seq (.var 3)) l2_law_family_free)
  (.cons (.ret (.blt .tuple (.cons (.blt .sorted (.cons (.var 6) .nil)) .nil)))
  .nil)))
/-- _law_family_free: _law_basket_here, _law_families, _law_sizes, _law_splitting -/
def s_law_family_free (cs : List FSem) : FSem := defSem false 4 10 cs b_law_family_free
def t_law_k16 : Tb := ⟨["_law_script", "_law_cell", "_law_source_here", "_law_basket_here", "_law_many", "_law_families", "_law_sizes", "_law_best", "_law_parts", "_law_receipts", "_law_value", "_law_item", "_law_family"], [("_law_source", false, 2), ("_law_basket", true, 2), ("_law_draw", true, 2), ("_law_choice", true, 2), ("_law_all_splittings", false, 1), ("_law_sum", false, 2), ("_law_family_free", false, 4), ("_law_equal", false, 2), ("family_saving", false, 4), ("family_splitting", false, 4), ("is_splitting", false, 2)], [], [], []⟩
def c1_law_k16 : E := .lc (.callm 2 2 (.cons (.var 4) .nil)) (.nm 11) (.seq (.var 3)) (.bl true)
def c2_law_k16 : E := .lc (.bin .Add (.int 2) (.callm 2 2 (.cons (.callm 3 2 (.cons (.lst (.cons (.int 1) (.cons (.int 2) (.cons (.int 5) .nil)))) .nil)) .nil))) (.nm 12) (.rng (.cons (.int 4) .nil)) (.bl true)
def l1_law_k16 : Ss := (.cons (.set 10 (.call 5 (.cons (.var 3) (.cons (.call 6 (.cons (.var 3) (.cons (.var 5) (.cons (.var 6) (.cons (.var 8) .nil))))) .nil))))
  (.cons (.stx 7 (.sc (.blt .len (.cons (.var 8) .nil))) (.blt .max (.cons (.ixv 7 (.sc (.blt .len (.cons (.var 8) .nil)))) (.cons (.var 10) .nil))))
  .nil))
def l2_law_k16 : Ss := (.cons (.ite (.sc (.not (.call 7 (.cons (.call 8 (.cons (.var 3) (.cons (.var 5) (.cons (.var 6) (.cons (.var 9) .nil))))) (.cons (.blt .max (.cons (.slv 7 .nop (.bin .Add (.var 9) (.int 1))) .nil)) .nil)))))
  (.cons (.ret (.bl false))
  .nil)
  .nil)
  (.cons (.set 8 (.call 9 (.cons (.var 3) (.cons (.var 5) (.cons (.var 6) (.cons (.var 9) .nil))))))
  (.cons (.ite (.sc (.or (.cmp .IsNot (.call 10 (.cons (.var 3) (.cons (.var 8) .nil))) (.bl true)) (.cmp .Gt (.blt .len (.cons (.var 8) .nil)) (.var 9))))
  (.cons (.ret (.bl false))
  .nil)
  .nil)
  (.cons (.ite (.sc (.cmp .NotEq (.call 5 (.cons (.var 3) (.cons (.call 6 (.cons (.var 3) (.cons (.var 5) (.cons (.var 6) (.cons (.var 8) .nil))))) .nil))) (.blt .max (.cons (.slv 7 .nop (.bin .Add (.var 9) (.int 1))) .nil))))
  (.cons (.ret (.bl false))
  .nil)
  .nil)
  .nil))))
def l3_law_k16 : Ss := (.cons (.set 2 (.call 0 (.cons (.var 1) (.cons (.int 16) .nil))))
  (.cons (.set 3 (.callm 1 2 (.cons (.int 6) .nil)))
  (.cons (.set 4 (.bin .Add (.int 1) (.callm 2 2 (.cons (.int 4) .nil))))
  (.cons (.set 5 (.blt .tuple (.cons c1_law_k16 .nil)))
  (.cons (.set 6 (.blt .tuple (.cons c2_law_k16 .nil)))
  (.cons (.set 7 (.bin .Mult (.lst (.cons (.int 0) .nil)) (.int 13)))
  (.cons (.fr (.nm 8) (.seq (.call 4 (.cons (.sc (.blt .len (.cons (.var 3) .nil))) .nil))) l1_law_k16)
  (.cons (.fr (.nm 9) (.seq (.lst (.cons (.int 1) (.cons (.int 2) (.cons (.int 3) (.cons (.int 4) (.cons (.int 5) (.cons (.int 6) (.cons (.int 12) .nil))))))))) l2_law_k16)
  .nil))))))))
def b_law_k16 : Ss := (.cons (.fr (.nm 1) (.seq (.slc (.bin .Add (.lst (.cons (.int 0) .nil)) (.var 0)) .nop (.int 5))) l3_law_k16)
  (.cons (.ret (.sc (.cmp .Eq (.call 8 (.cons (.tup (.cons (.int 9) (.cons (.int 4) (.cons (.int 7) (.cons (.int 2) (.cons (.int 7) (.cons (.int 5) .nil))))))) (.cons (.tup (.cons (.int 0) (.cons (.int 0) (.cons (.int 1) (.cons (.int 0) (.cons (.int 1) (.cons (.int 1) .nil))))))) (.cons (.tup (.cons (.int 2) (.cons (.int 3) (.cons (.int 2) (.cons (.int 2) .nil))))) (.cons (.int 2) .nil))))) (.int 9))))
  .nil))
/-- law: _law_script -/
def s_law_k16 (cs : List FSem) : FSem := defSem false 1 13 cs b_law_k16
def t_law_k17 : Tb := ⟨["_law_script", "_law_cell", "_law_source_here", "_law_basket_here", "_law_many", "_law_families", "_law_sizes", "_law_receipts", "_law_expected", "_law_family", "_law_parts", "_law_alone", "_law_some", "_law_item", "_law_best_here", "_law_price", "_law_other"], [("_law_source", false, 2), ("_law_basket", true, 2), ("_law_draw", true, 2), ("_law_best", false, 2), ("_law_equal", false, 2), ("family_saving", false, 4), ("family_splitting", false, 4), ("is_splitting", false, 2), ("_law_sum", false, 2), ("_law_family_free", false, 4), ("greatest_saving", false, 3)], [], [], []⟩
def c1_law_k17 : E := .lc (.callm 2 2 (.cons (.var 4) .nil)) (.nm 13) (.seq (.var 3)) (.bl true)
def c2_law_k17 : E := .lc (.bin .Add (.int 2) (.callm 2 2 (.cons (.int 5) .nil))) (.nm 9) (.rng (.cons (.int 4) .nil)) (.bl true)
def c3_law_k17 : E := .lc (.var 15) (.tp [15, 16]) (.zip (.var 3) (.var 5)) (.sc (.cmp .Eq (.var 16) (.var 9)))
def l1_law_k17 : Ss := (.cons (.set 12 (.blt .tuple (.cons c3_law_k17 .nil)))
  (.cons (.ite (.sc (.cmp .NotEq (.var 12) (.tup .nil)))
  (.cons (.set 14 (.call 3 (.cons (.var 12) (.cons (.ixv 6 (.var 9)) .nil))))
  (.cons (.set 8 (.bin .Add (.var 8) (.ixv 14 (.bin .Sub (.blt .min (.cons (.var 7) (.cons (.sc (.blt .len (.cons (.var 12) .nil))) .nil))) (.int 1)))))
  .nil))
  .nil)
  .nil))
def l2_law_k17 : Ss := (.cons (.set 8 (.int 0))
  (.cons (.fr (.nm 9) (.rng (.cons (.int 4) .nil)) l1_law_k17)
  (.cons (.ite (.sc (.not (.call 4 (.cons (.call 5 (.cons (.var 3) (.cons (.var 5) (.cons (.var 6) (.cons (.var 7) .nil))))) (.cons (.var 8) .nil)))))
  (.cons (.ret (.bl false))
  .nil)
  .nil)
  (.cons (.set 10 (.call 6 (.cons (.var 3) (.cons (.var 5) (.cons (.var 6) (.cons (.var 7) .nil))))))
  (.cons (.ite (.sc (.or (.cmp .IsNot (.call 7 (.cons (.var 3) (.cons (.var 10) .nil))) (.bl true)) (.cmp .Gt (.blt .len (.cons (.var 10) .nil)) (.var 7))))
  (.cons (.ret (.bl false))
  .nil)
  .nil)
  (.cons (.ite (.sc (.cmp .NotEq (.call 8 (.cons (.var 3) (.cons (.call 9 (.cons (.var 3) (.cons (.var 5) (.cons (.var 6) (.cons (.var 10) .nil))))) .nil))) (.var 8)))
  (.cons (.ret (.bl false))
  .nil)
  .nil)
  (.cons (.set 11 (.bin .Mult (.tup (.cons (.int 3) .nil)) (.sc (.blt .len (.cons (.var 3) .nil)))))
  (.cons (.ite (.sc (.cmp .NotEq (.call 5 (.cons (.var 3) (.cons (.var 11) (.cons (.var 6) (.cons (.var 7) .nil))))) (.call 10 (.cons (.var 3) (.cons (.ixv 6 (.int 3)) (.cons (.var 7) .nil))))))
  (.cons (.ret (.bl false))
  .nil)
  .nil)
  .nil))))))))
def l3_law_k17 : Ss := (.cons (.set 2 (.call 0 (.cons (.var 1) (.cons (.int 17) .nil))))
  (.cons (.set 3 (.callm 1 2 (.cons (.int 12) .nil)))
  (.cons (.set 4 (.bin .Add (.int 1) (.callm 2 2 (.cons (.int 4) .nil))))
  (.cons (.set 5 (.blt .tuple (.cons c1_law_k17 .nil)))
  (.cons (.set 6 (.blt .tuple (.cons c2_law_k17 .nil)))
  (.cons (.fr (.nm 7) (.seq (.lst (.cons (.int 1) (.cons (.int 2) (.cons (.int 3) (.cons (.bin .Add (.int 1) (.callm 2 2 (.cons (.int 12) .nil))) (.cons (.int 12) .nil))))))) l2_law_k17)
  .nil))))))
def b_law_k17 : Ss := (.cons (.fr (.nm 1) (.seq (.slc (.bin .Add (.lst (.cons (.int 0) .nil)) (.var 0)) .nop (.int 10))) l3_law_k17)
  (.cons (.ret (.bl true))
  .nil))
/-- law: _law_script -/
def s_law_k17 (cs : List FSem) : FSem := defSem false 1 17 cs b_law_k17
def t_law_k18 : Tb := ⟨["_law_script", "_law_cell", "_law_source_here", "_law_factor", "_law_mixed_here", "_law_larger", "_law_rows", "_law_fee", "_law_some", "_law_receipts", "_law_basket_here", "_law_size", "_law_value", "_law_more", "_law_price"], [("_law_source", false, 2), ("_law_basket", true, 2), ("_law_draw", true, 2), ("_law_mixed", true, 2), ("trade_off", false, 2), ("least_total", false, 3), ("count_sets", false, 2), ("possible_scans", false, 2), ("greatest_saving", false, 3)], [], [], []⟩
def c1_law_k18 : E := .lc (.bin .Mult (.var 14) (.var 3)) (.nm 14) (.seq (.var 10)) (.bl true)
def c2_law_k18 : E := .lc (.bin .Mult (.var 12) (.var 3)) (.nm 12) (.seq (.var 6)) (.bl true)
def c3_law_k18 : E := .lc (.bin .Mult (.var 12) (.var 3)) (.nm 12) (.seq (.var 8)) (.bl true)
def l1_law_k18 : Ss := (.cons (.set 12 (.call 8 (.cons (.var 10) (.cons (.var 11) (.cons (.var 9) .nil)))))
  (.cons (.ite (.sc (.cmp .NotEq (.call 8 (.cons (.var 4) (.cons (.var 11) (.cons (.var 9) .nil)))) (.var 12)))
  (.cons (.ret (.bl false))
  .nil)
  .nil)
  (.cons (.ite (.sc (.cmp .NotEq (.call 8 (.cons (.var 5) (.cons (.var 11) (.cons (.var 9) .nil)))) (.bin .Mult (.var 12) (.var 3))))
  (.cons (.ret (.bl false))
  .nil)
  .nil)
  (.cons (.ite (.sc (.cmp .Lt (.blt .len (.cons (.var 10) .nil)) (.int 12)))
  (.cons (.set 13 (.call 8 (.cons (.bin .Add (.var 10) (.tup (.cons (.bin .Add (.int 1) (.callm 2 2 (.cons (.int 10000) .nil))) .nil))) (.cons (.var 11) (.cons (.int 12) .nil)))))
  (.cons (.ite (.sc (.cmp .Lt (.var 13) (.call 8 (.cons (.var 10) (.cons (.var 11) (.cons (.int 12) .nil))))))
  (.cons (.ret (.bl false))
  .nil)
  .nil)
  .nil))
  .nil)
  .nil))))
def l2_law_k18 : Ss := (.cons (.set 2 (.call 0 (.cons (.var 1) (.cons (.int 18) .nil))))
  (.cons (.par [10, 11] (.cons (.callm 1 2 (.cons (.int 12) .nil)) (.cons (.bin .Add (.int 2) (.callm 2 2 (.cons (.int 5) .nil))) .nil)))
  (.cons (.set 3 (.bin .Add (.int 1) (.callm 2 2 (.cons (.bin .FloorDiv (.int 10000) (.blt .max (.cons (.var 10) .nil))) .nil))))
  (.cons (.set 4 (.callm 3 2 (.cons (.var 10) .nil)))
  (.cons (.set 5 (.blt .tuple (.cons c1_law_k18 .nil)))
  (.cons (.set 6 (.call 4 (.cons (.var 10) (.cons (.var 11) .nil))))
  (.cons (.ite (.sc (.or (.cmp .NotEq (.call 4 (.cons (.var 4) (.cons (.var 11) .nil))) (.var 6)) (.cmp .NotEq (.call 4 (.cons (.var 5) (.cons (.var 11) .nil))) c2_law_k18)))
  (.cons (.ret (.bl false))
  .nil)
  .nil)
  (.cons (.set 7 (.callm 2 2 (.cons (.bin .Add (.bin .FloorDiv (.int 10000) (.var 3)) (.int 1)) .nil)))
  (.cons (.ite (.sc (.cmp .NotEq (.call 5 (.cons (.var 4) (.cons (.var 11) (.cons (.var 7) .nil)))) (.call 5 (.cons (.var 10) (.cons (.var 11) (.cons (.var 7) .nil))))))
  (.cons (.ret (.bl false))
  .nil)
  .nil)
  (.cons (.ite (.sc (.cmp .NotEq (.call 5 (.cons (.var 5) (.cons (.var 11) (.cons (.bin .Mult (.var 7) (.var 3)) .nil)))) (.bin .Mult (.call 5 (.cons (.var 10) (.cons (.var 11) (.cons (.var 7) .nil)))) (.var 3))))
  (.cons (.ret (.bl false))
  .nil)
  .nil)
  (.cons (.ite (.sc (.cmp .NotEq (.call 6 (.cons (.var 4) (.cons (.var 11) .nil))) (.call 6 (.cons (.var 10) (.cons (.var 11) .nil)))))
  (.cons (.ret (.bl false))
  .nil)
  .nil)
  (.cons (.set 8 (.call 7 (.cons (.var 10) (.cons (.var 11) .nil))))
  (.cons (.ite (.sc (.cmp .NotEq (.call 7 (.cons (.var 4) (.cons (.var 11) .nil))) (.var 8)))
  (.cons (.ret (.bl false))
  .nil)
  .nil)
  (.cons (.ite (.sc (.cmp .NotEq (.call 7 (.cons (.var 5) (.cons (.var 11) .nil))) c3_law_k18))
  (.cons (.ret (.bl false))
  .nil)
  .nil)
  (.cons (.fr (.nm 9) (.seq (.tup (.cons (.int 1) (.cons (.int 2) (.cons (.int 12) .nil))))) l1_law_k18)
  .nil)))))))))))))))
def b_law_k18 : Ss := (.cons (.fr (.nm 1) (.seq (.slc (.bin .Add (.lst (.cons (.int 0) .nil)) (.var 0)) .nop (.int 10))) l2_law_k18)
  (.cons (.ret (.bl true))
  .nil))
/-- law: _law_script -/
def s_law_k18 (cs : List FSem) : FSem := defSem false 1 15 cs b_law_k18
def t_law_row_k19 : Tb := ⟨["_law_basket", "_law_pairs", "_law_pair", "_law_item", "_law_price"], [], [], [], []⟩
def c1_law_row_k19 : E := .lc (.tup (.cons (.bin .Sub (.bin .Pow (.int 10) (.int 6)) (.var 4)) (.cons (.var 3) .nil))) (.tp [3, 4]) (.enu (.var 0)) (.bl true)
def c2_law_row_k19 : E := .lc (.ixv 2 (.int 1)) (.nm 2) (.seq (.var 1)) (.bl true)
def b_law_row_k19 : Ss := (.cons (.set 1 (.blt .sorted (.cons c1_law_row_k19 .nil)))
  (.cons (.ret c2_law_row_k19)
  .nil))
/-- _law_row: _law_basket -/
def s_law_row_k19 (cs : List FSem) : FSem := defSem false 1 5 cs b_law_row_k19
def t_law_best_k19 : Tb := ⟨["_law_basket", "_law_size", "_law_prices", "_law_count", "_law_best_here", "_law_found", "_law_turn", "_law_later", "_law_last", "_law_item", "_law_some", "_law_first"], [("_law_row", false, 1), ("_law_block", false, 4)], [], [], []⟩
def c1_law_best_k19 : E := .lc (.ixv 0 (.var 9)) (.nm 9) (.seq (.call 0 (.cons (.var 0) .nil))) (.bl true)
def c2_law_best_k19 : E := .lc (.call 1 (.cons (.var 2) (.cons (.var 1) (.cons (.int 0) (.cons (.var 8) .nil))))) (.nm 8) (.rng (.cons (.bin .Add (.var 3) (.int 1)) .nil)) (.bl true)
def c3_law_best_k19 : E := .lc (.bin .Add (.ixv 4 (.var 11)) (.call 1 (.cons (.var 2) (.cons (.var 1) (.cons (.var 11) (.cons (.var 8) .nil)))))) (.nm 11) (.rng (.cons (.bin .Add (.var 8) (.int 1)) .nil)) (.bl true)
def l1_law_best_k19 : Ss := (.cons (.set 10 c3_law_best_k19)
  (.cons (.app 7 (.blt .max (.cons (.var 10) .nil)))
  .nil))
def l2_law_best_k19 : Ss := (.cons (.set 7 (.lst .nil))
  (.cons (.fr (.nm 8) (.rng (.cons (.bin .Add (.var 3) (.int 1)) .nil)) l1_law_best_k19)
  (.cons (.set 4 (.var 7))
  (.cons (.app 5 (.ixv 4 (.var 3)))
  .nil))))
def b_law_best_k19 : Ss := (.cons (.set 2 c1_law_best_k19)
  (.cons (.set 3 (.sc (.blt .len (.cons (.var 2) .nil))))
  (.cons (.set 4 c2_law_best_k19)
  (.cons (.set 5 (.lst (.cons (.ixv 4 (.var 3)) .nil)))
  (.cons (.fr (.nm 6) (.rng (.cons (.bin .Sub (.var 3) (.int 1)) .nil)) l2_law_best_k19)
  (.cons (.ret (.mv 5))
  .nil))))))
/-- _law_best: _law_basket, _law_size -/
def s_law_best_k19 (cs : List FSem) : FSem := defSem false 2 12 cs b_law_best_k19
def t_law_call : Tb := ⟨["_law_source_here", "_law_prices", "_law_word", "_law_odd"], [("_law_choice", true, 2), ("_law_draw", true, 2)], [], [], []⟩
def b_law_call : Ss := (.cons (.set 2 (.callm 0 0 (.cons (.lst (.cons (.str "add") (.cons (.str "add") (.cons (.str "add") (.cons (.str "remove") (.cons (.str "undo") .nil)))))) .nil)))
  (.cons (.set 3 (.callm 0 0 (.cons (.lst (.cons .non (.cons (.bl true) (.cons (.int 0) (.cons (.neg (.int 1)) (.cons (.int 10001) (.cons (.str "1") (.cons (.bin .Add (.sc (.blt .len (.cons (.var 1) .nil))) (.int 1)) .nil)))))))) .nil)))
  (.cons (.ite (.sc (.cmp .Eq (.var 2) (.str "add")))
  (.cons (.ret (.tup (.cons (.var 2) (.cons (.ite (.cmp .Eq (.callm 1 0 (.cons (.int 7) .nil)) (.int 0)) (.var 3) (.bin .Add (.int 1) (.callm 1 0 (.cons (.callm 0 0 (.cons (.lst (.cons (.int 5) (.cons (.int 10000) .nil))) .nil)) .nil)))) .nil))))
  .nil)
  .nil)
  (.cons (.ret (.tup (.cons (.var 2) (.cons (.ite (.cmp .Eq (.callm 1 0 (.cons (.int 5) .nil)) (.int 0)) (.var 3) (.callm 1 0 (.cons (.bin .Add (.sc (.blt .len (.cons (.var 1) .nil))) (.int 1)) .nil))) .nil))))
  .nil))))
/-- _law_call: _law_source_here, _law_prices -/
def s_law_call (cs : List FSem) : FSem := defSem true 2 4 cs b_law_call
def t_law_error : Tb := ⟨["_law_states", "_law_call_here", "_law_word", "_law_value"], [("_law_is_int", false, 1)], [], [], []⟩
def b_law_error : Ss := (.cons (.unp [2, 3] (.var 1))
  (.cons (.ite (.sc (.cmp .Eq (.var 2) (.str "undo")))
  (.cons (.ret (.ite (.sc (.cmp .Eq (.blt .len (.cons (.var 0) .nil)) (.int 1))) (.str "NothingToUndo+") (.str "")))
  .nil)
  .nil)
  (.cons (.ite (.sc (.cmp .Eq (.var 2) (.str "remove")))
  (.cons (.ret (.ite (.sc (.and (.call 0 (.cons (.var 3) .nil)) (.chain .LtE .Lt (.int 0) (.var 3) (.blt .len (.cons (.ixv 0 (.neg (.int 1))) .nil))))) (.str "") (.str "InvalidIndex+")))
  .nil)
  .nil)
  (.cons (.ite (.sc (.or (.not (.call 0 (.cons (.var 3) .nil))) (.not (.chain .LtE .LtE (.int 1) (.var 3) (.int 10000)))))
  (.cons (.ret (.str "InvalidPrice+"))
  .nil)
  .nil)
  (.cons (.ret (.ite (.sc (.cmp .Eq (.blt .len (.cons (.ixv 0 (.neg (.int 1))) .nil)) (.int 12))) (.str "TooMany+") (.str "")))
  .nil)))))
/-- _law_error: _law_states, _law_call_here -/
def s_law_error (cs : List FSem) : FSem := defSem false 2 4 cs b_law_error
def t_law_next : Tb := ⟨["_law_states", "_law_call_here", "_law_prices", "_law_word", "_law_value"], [], [], [], []⟩
def b_law_next : Ss := (.cons (.unp [3, 4] (.var 1))
  (.cons (.set 2 (.ixv 0 (.neg (.int 1))))
  (.cons (.ite (.sc (.cmp .Eq (.var 3) (.str "undo")))
  (.cons (.ret (.tup (.cons (.slv 0 .nop (.neg (.int 1))) (.cons .non .nil))))
  .nil)
  .nil)
  (.cons (.ite (.sc (.cmp .Eq (.var 3) (.str "remove")))
  (.cons (.ret (.tup (.cons (.bin .Add (.var 0) (.lst (.cons (.bin .Add (.slv 2 .nop (.var 4)) (.slv 2 (.bin .Add (.var 4) (.int 1)) .nop)) .nil))) (.cons (.ixv 2 (.var 4)) .nil))))
  .nil)
  .nil)
  (.cons (.ret (.tup (.cons (.bin .Add (.var 0) (.lst (.cons (.bin .Add (.var 2) (.tup (.cons (.var 4) .nil))) .nil))) (.cons (.sc (.blt .len (.cons (.var 2) .nil))) .nil))))
  .nil)))))
/-- _law_next: _law_states, _law_call_here -/
def s_law_next (cs : List FSem) : FSem := defSem false 2 5 cs b_law_next
def t_wall : Tb := ⟨["k"], [], [], [], []⟩
def l1_wall : Ss := (.cons .pas
  .nil)
def b_wall : Ss := (.cons (.whl (.bl true) l1_wall)
  .nil)
/-- _wall: k -/
def s_wall (cs : List FSem) : FSem := defSem false 1 1 cs b_wall
def t_law_all_raise : Tb := ⟨["_law_calls", "_law_name", "_law_call"], [("_law_outcome", false, 1)], [], [], []⟩
def c1_law_all_raise : E := .lc (.var 2) (.nm 2) (.seq (.var 0)) (.sc (.cmp .NotEq (.call 0 (.cons (.var 2) .nil)) (.var 1)))
def b_law_all_raise : Ss := (.cons (.ret (.sc (.cmp .Eq c1_law_all_raise (.lst .nil))))
  .nil)
/-- _law_all_raise: _law_calls, _law_name -/
def s_law_all_raise (cs : List FSem) : FSem := defSem false 2 3 cs b_law_all_raise
def t_law_equal_right : Tb := ⟨["_law_many", "_law_size", "_law_price", "_law_basket", "_law_full"], [("trade_off", false, 2), ("possible_scans", false, 2), ("least_total", false, 3), ("row", false, 1), ("fewest_receipts", false, 3)], [], [], []⟩
def b_law_equal_right : Ss := (.cons (.par [3, 4] (.cons (.bin .Mult (.tup (.cons (.var 2) .nil)) (.var 0)) (.cons (.bin .FloorDiv (.var 0) (.var 1)) .nil)))
  (.cons (.ite (.sc (.or (.cmp .NotEq (.call 0 (.cons (.var 3) (.cons (.var 1) .nil))) (.lst (.cons (.bin .Mult (.var 4) (.var 2)) .nil))) (.cmp .NotEq (.call 1 (.cons (.var 3) (.cons (.var 1) .nil))) (.lst (.cons (.bin .Mult (.var 4) (.var 2)) .nil)))))
  (.cons (.ret (.bl false))
  .nil)
  .nil)
  (.cons (.ite (.sc (.or (.cmp .NotEq (.call 2 (.cons (.var 3) (.cons (.var 1) (.cons (.int 5) .nil)))) (.bin .Add (.bin .Mult (.bin .Sub (.var 0) (.var 4)) (.var 2)) (.int 5))) (.cmp .NotEq (.call 3 (.cons (.var 3) .nil)) (.trng .tuple (.cons (.var 0) .nil)))))
  (.cons (.ret (.bl false))
  .nil)
  .nil)
  (.cons (.ret (.sc (.cmp .Is (.call 4 (.cons (.var 3) (.cons (.var 1) (.cons (.bin .Add (.bin .Mult (.var 4) (.var 2)) (.int 1)) .nil)))) .non)))
  .nil))))
/-- _law_equal_right: _law_many, _law_size, _law_price -/
def s_law_equal_right (cs : List FSem) : FSem := defSem false 3 5 cs b_law_equal_right
def t_law_k22 : Tb := ⟨["_law_script", "_law_cell", "_law_source_here", "_law_size"], [("_law_source", false, 2), ("_law_draw", true, 2), ("_law_equal_right", false, 3), ("_law_stairs_right", false, 2), ("_law_document_right", false, 0)], [], [], []⟩
def l1_law_k22 : Ss := (.cons (.set 2 (.call 0 (.cons (.var 1) (.cons (.int 22) .nil))))
  (.cons (.set 3 (.bin .Add (.int 2) (.callm 1 2 (.cons (.int 5) .nil))))
  (.cons (.ite (.not (.call 2 (.cons (.bin .Add (.int 1) (.callm 1 2 (.cons (.int 12) .nil))) (.cons (.var 3) (.cons (.bin .Add (.int 1) (.callm 1 2 (.cons (.int 10000) .nil))) .nil)))))
  (.cons (.ret (.bl false))
  .nil)
  .nil)
  (.cons (.ite (.not (.call 3 (.cons (.bin .Add (.int 1) (.callm 1 2 (.cons (.bin .FloorDiv (.int 12) (.var 3)) .nil))) (.cons (.var 3) .nil))))
  (.cons (.ret (.bl false))
  .nil)
  .nil)
  .nil))))
def b_law_k22 : Ss := (.cons (.fr (.nm 1) (.seq (.slc (.bin .Add (.lst (.cons (.int 0) .nil)) (.var 0)) .nop (.int 4))) l1_law_k22)
  (.cons (.ret (.call 4 .nil))
  .nil))
/-- law: _law_script -/
def s_law_k22 (cs : List FSem) : FSem := defSem false 1 4 cs b_law_k22
def t_choose : Tb := ⟨["total", "chosen", "found", "at"], [], [], [], []⟩
def l1_choose : Ss := (.cons (.set 2 (.bin .FloorDiv (.bin .Mult (.var 2) (.bin .Sub (.var 0) (.var 3))) (.bin .Add (.var 3) (.int 1))))
  .nil)
def b_choose : Ss := (.cons (.set 2 (.ite (.sc (.cmp .LtE (.var 1) (.var 0))) (.int 1) (.int 0)))
  (.cons (.fr (.nm 3) (.rng (.cons (.var 1) .nil)) l1_choose)
  (.cons (.ret (.mv 2))
  .nil)))
/-- choose: total, chosen -/
def s_choose (cs : List FSem) : FSem := defSem false 2 4 cs b_choose
def t_reduced : Tb := ⟨["top", "bottom", "first", "second"], [], [], [], []⟩
def l1_reduced : Ss := (.cons (.par [2, 3] (.cons (.var 3) (.cons (.bin .Mod (.var 2) (.var 3)) .nil)))
  .nil)
def b_reduced : Ss := (.cons (.par [2, 3] (.cons (.var 0) (.cons (.var 1) .nil)))
  (.cons (.whl (.sc (.cmp .Gt (.var 3) (.int 0))) l1_reduced)
  (.cons (.ret (.tup (.cons (.bin .FloorDiv (.var 0) (.var 2)) (.cons (.bin .FloorDiv (.var 1) (.var 2)) .nil))))
  .nil)))
/-- reduced: top, bottom -/
def s_reduced (cs : List FSem) : FSem := defSem false 2 4 cs b_reduced
def t_weight_of : Tb := ⟨["count", "size", "place"], [("choose", false, 2)], [], [], []⟩
def b_weight_of : Ss := (.cons (.ret (.bin .Mult (.bin .FloorDiv (.var 0) (.var 1)) (.call 0 (.cons (.var 2) (.cons (.bin .Sub (.var 1) (.int 1)) .nil)))))
  .nil)
/-- weight_of: count, size, place -/
def s_weight_of (cs : List FSem) : FSem := defSem false 3 3 cs b_weight_of
def t_chance_free : Tb := ⟨["basket", "size", "index", "place"], [("check_offer", false, 2), ("is_between", false, 3), ("row_of", false, 1), ("reduced", false, 2), ("weight_of", false, 3), ("choose", false, 2)], [], [], ["InvalidIndex"]⟩
def b_chance_free : Ss := (.cons (.exp (.call 0 (.cons (.var 0) (.cons (.var 1) .nil))))
  (.cons (.ite (.sc (.not (.call 1 (.cons (.var 2) (.cons (.int 0) (.cons (.bin .Sub (.sc (.blt .len (.cons (.var 0) .nil))) (.int 1)) .nil))))))
  (.cons (.rai "InvalidIndex")
  .nil)
  .nil)
  (.cons (.set 3 (.idx (.call 2 (.cons (.var 0) .nil)) (.var 2)))
  (.cons (.ite (.sc (.cmp .Lt (.blt .len (.cons (.var 0) .nil)) (.var 1)))
  (.cons (.ret (.tup (.cons (.int 0) (.cons (.int 1) .nil))))
  .nil)
  .nil)
  (.cons (.ret (.call 3 (.cons (.call 4 (.cons (.sc (.blt .len (.cons (.var 0) .nil))) (.cons (.var 1) (.cons (.var 3) .nil)))) (.cons (.call 5 (.cons (.sc (.blt .len (.cons (.var 0) .nil))) (.cons (.var 1) .nil))) .nil))))
  .nil)))))
/-- chance_free: basket, size, index -/
def s_chance_free (cs : List FSem) : FSem := defSem false 3 4 cs b_chance_free
def t_law_source_k23 : Tb := ⟨["_law_cell", "_law_turn"], [], [], [], []⟩
def b_law_source_k23 : Ss := (.cons (.ite (.sc (.cmp .GtE (.var 0) (.bin .Pow (.int 10) (.int 18))))
  (.cons (.ret (.lst (.cons (.bin .Sub (.var 0) (.bin .Pow (.int 10) (.int 18))) (.cons (.bin .Mod (.blt .int (.cons (.var 0) .nil)) (.int 2147483579)) (.cons (.var 1) .nil)))))
  .nil)
  .nil)
  (.cons (.ret (.lst (.cons (.int 0) (.cons (.bin .Mod (.blt .int (.cons (.var 0) .nil)) (.int 2147483579)) (.cons (.var 1) .nil)))))
  .nil))
/-- _law_source: _law_cell, _law_turn -/
def s_law_source_k23 (cs : List FSem) : FSem := defSem false 2 2 cs b_law_source_k23
def t_law_draw_k23 : Tb := ⟨["_law_source_here", "_law_size", "_law_number", "_law_drawn"], [], [], [], []⟩
def b_law_draw_k23 : Ss := (.cons (.ite (.sc (.cmp .Gt (.ixv 0 (.int 0)) (.int 1)))
  (.cons (.set 3 (.bin .Mod (.blt .int (.cons (.ixv 0 (.int 0)) .nil)) (.var 1)))
  (.cons (.stx 0 (.int 0) (.bin .FloorDiv (.ixv 0 (.int 0)) (.var 1)))
  (.cons (.ret (.mv 3))
  .nil)))
  .nil)
  (.cons (.stx 0 (.int 2) (.bin .Add (.ixv 0 (.int 2)) (.int 1)))
  (.cons (.set 2 (.bin .Mod (.blt .int (.cons (.bin .Pow (.bin .Add (.ixv 0 (.int 1)) (.bin .Mult (.int 15485867) (.ixv 0 (.int 2)))) (.int 5)) .nil)) (.int 2147483647)))
  (.cons (.set 3 (.bin .FloorDiv (.bin .Mod (.blt .int (.cons (.bin .Pow (.bin .Add (.var 2) (.bin .Mult (.int 7919) (.ixv 0 (.int 2)))) (.int 3)) .nil)) (.int 2147483629)) (.int 32)))
  (.cons (.ret (.bin .Mod (.blt .int (.cons (.var 3) .nil)) (.var 1)))
  .nil)))))
/-- _law_draw: _law_source_here, _law_size -/
def s_law_draw_k23 (cs : List FSem) : FSem := defSem true 2 4 cs b_law_draw_k23
def t_law_gcd : Tb := ⟨["_law_one", "_law_other", "_law_first", "_law_second"], [], [], [], []⟩
def l1_law_gcd : Ss := (.cons (.par [2, 3] (.cons (.var 3) (.cons (.bin .Mod (.blt .int (.cons (.var 2) .nil)) (.var 3)) .nil)))
  .nil)
def b_law_gcd : Ss := (.cons (.par [2, 3] (.cons (.var 0) (.cons (.var 1) .nil)))
  (.cons (.whl (.sc (.cmp .Gt (.var 3) (.int 0))) l1_law_gcd)
  (.cons (.ret (.mv 2))
  .nil)))
/-- _law_gcd: _law_one, _law_other -/
def s_law_gcd (cs : List FSem) : FSem := defSem false 2 4 cs b_law_gcd
def t_law_low : Tb := ⟨["_law_top", "_law_bottom", "_law_divide"], [("_law_gcd", false, 2)], [], [], []⟩
def b_law_low : Ss := (.cons (.set 2 (.call 0 (.cons (.var 0) (.cons (.var 1) .nil))))
  (.cons (.ret (.tup (.cons (.bin .FloorDiv (.var 0) (.var 2)) (.cons (.bin .FloorDiv (.var 1) (.var 2)) .nil))))
  .nil))
/-- _law_low: _law_top, _law_bottom -/
def s_law_low (cs : List FSem) : FSem := defSem false 2 3 cs b_law_low
def t_law_free_scan : Tb := ⟨["_law_basket_here", "_law_size", "_law_order", "_law_start", "_law_places", "_law_found", "_law_item"], [("_law_row", false, 1)], [], [], []⟩
def c1_law_free_scan : E := .lc (.idx (.var 4) (.var 6)) (.nm 6) (.seq (.slv 2 (.var 3) (.bin .Add (.var 3) (.var 1)))) (.bl true)
def l1_law_free_scan : Ss := (.cons (.app 5 (.ixv 4 (.blt .max (.cons c1_law_free_scan .nil))))
  .nil)
def b_law_free_scan : Ss := (.cons (.par [4, 5] (.cons (.call 0 (.cons (.var 0) .nil)) (.cons (.lst .nil) .nil)))
  (.cons (.fr (.nm 3) (.rng (.cons (.int 0) (.cons (.bin .Add (.bin .Sub (.sc (.blt .len (.cons (.var 2) .nil))) (.var 1)) (.int 1)) (.cons (.var 1) .nil)))) l1_law_free_scan)
  (.cons (.ret (.mv 5))
  .nil)))
/-- _law_free_scan: _law_basket_here, _law_size, _law_order -/
def s_law_free_scan (cs : List FSem) : FSem := defSem false 3 7 cs b_law_free_scan
def t_law_binomial : Tb := ⟨["_law_total", "_law_chosen", "_law_found", "_law_at"], [], [], [], []⟩
def l1_law_binomial : Ss := (.cons (.set 2 (.bin .FloorDiv (.bin .Mult (.var 2) (.bin .Sub (.var 0) (.var 3))) (.bin .Add (.var 3) (.int 1))))
  .nil)
def b_law_binomial : Ss := (.cons (.ite (.sc (.not (.chain .LtE .LtE (.int 0) (.var 1) (.var 0))))
  (.cons (.ret (.int 0))
  .nil)
  .nil)
  (.cons (.set 2 (.int 1))
  (.cons (.fr (.nm 3) (.rng (.cons (.var 1) .nil)) l1_law_binomial)
  (.cons (.ret (.mv 2))
  .nil))))
/-- _law_binomial: _law_total, _law_chosen -/
def s_law_binomial (cs : List FSem) : FSem := defSem false 2 4 cs b_law_binomial
def t_law_k23 : Tb := ⟨["_law_script", "_law_cell", "_law_basket_here", "_law_source_here", "_law_every", "_law_order", "_law_item", "_law_size", "_law_count", "_law_times", "_law_before", "_law_total", "_law_place", "_law_found", "_law_top", "_law_bottom"], [("_law_source", false, 2), ("_law_basket", true, 2), ("_law_draw", true, 2), ("_law_orders", false, 1), ("_law_free_scan", false, 3), ("_law_equal", false, 2), ("chance_free", false, 3), ("_law_low", false, 2), ("row", false, 1), ("_law_binomial", false, 2)], [], [], []⟩
def l1_law_k23 : Ss := (.cons (.stx 9 (.var 6) (.bin .Add (.ixv 9 (.var 6)) (.int 1)))
  .nil)
def l2_law_k23 : Ss := (.cons (.fr (.nm 6) (.seq (.call 4 (.cons (.var 2) (.cons (.var 7) (.cons (.var 5) .nil))))) l1_law_k23)
  .nil)
def l3_law_k23 : Ss := (.cons (.ite (.sc (.not (.call 5 (.cons (.call 6 (.cons (.var 2) (.cons (.var 7) (.cons (.var 6) .nil)))) (.cons (.call 7 (.cons (.ixv 9 (.var 6)) (.cons (.sc (.blt .len (.cons (.var 4) .nil))) .nil))) .nil)))))
  (.cons (.ret (.bl false))
  .nil)
  .nil)
  .nil)
def l4_law_k23 : Ss := (.cons (.set 13 (.call 6 (.cons (.var 2) (.cons (.var 7) (.cons (.var 6) .nil)))))
  (.cons (.set 14 (.bin .Mult (.bin .FloorDiv (.var 8) (.var 7)) (.call 9 (.cons (.var 12) (.cons (.bin .Sub (.var 7) (.int 1)) .nil)))))
  (.cons (.set 15 (.blt .max (.cons (.int 1) (.cons (.call 9 (.cons (.var 8) (.cons (.var 7) .nil))) .nil))))
  (.cons (.ite (.sc (.or (.cmp .NotEq (.var 13) (.call 7 (.cons (.var 14) (.cons (.var 15) .nil)))) (.cmp .Lt (.bin .Mult (.ixv 13 (.int 0)) (.ixv 10 (.int 1))) (.bin .Mult (.ixv 10 (.int 0)) (.ixv 13 (.int 1))))))
  (.cons (.ret (.bl false))
  .nil)
  .nil)
  (.cons (.par [10, 11] (.cons (.var 13) (.cons (.bin .Add (.var 11) (.var 14)) .nil)))
  .nil)))))
def l5_law_k23 : Ss := (.cons (.set 3 (.call 0 (.cons (.var 1) (.cons (.int 23) .nil))))
  (.cons (.par [2, 7] (.cons (.callm 1 3 (.cons (.int 6) .nil)) (.cons (.bin .Add (.int 2) (.callm 2 3 (.cons (.int 5) .nil))) .nil)))
  (.cons (.par [8, 9] (.cons (.sc (.blt .len (.cons (.var 2) .nil))) (.cons (.bin .Mult (.lst (.cons (.int 0) .nil)) (.sc (.blt .len (.cons (.var 2) .nil)))) .nil)))
  (.cons (.set 4 (.call 3 (.cons (.var 8) .nil)))
  (.cons (.fr (.nm 5) (.seq (.var 4)) l2_law_k23)
  (.cons (.fr (.nm 6) (.rng (.cons (.var 8) .nil)) l3_law_k23)
  (.cons (.par [2, 7] (.cons (.callm 1 3 (.cons (.int 12) .nil)) (.cons (.bin .Add (.int 2) (.callm 2 3 (.cons (.int 5) .nil))) .nil)))
  (.cons (.par [8, 10, 11] (.cons (.sc (.blt .len (.cons (.var 2) .nil))) (.cons (.tup (.cons (.int 0) (.cons (.int 1) .nil))) (.cons (.int 0) .nil))))
  (.cons (.fr (.tp [12, 6]) (.enu (.call 8 (.cons (.var 2) .nil))) l4_law_k23)
  (.cons (.ite (.sc (.cmp .NotEq (.var 11) (.bin .Mult (.bin .FloorDiv (.var 8) (.var 7)) (.call 9 (.cons (.var 8) (.cons (.var 7) .nil))))))
  (.cons (.ret (.bl false))
  .nil)
  .nil)
  .nil))))))))))
def c1_law_k23 : E := .lc (.call 6 (.cons (.var 2) (.cons (.int 3) (.cons (.var 6) .nil)))) (.nm 6) (.seq (.tup (.cons (.int 4) (.cons (.int 0) (.cons (.int 3) .nil))))) (.bl true)
def b_law_k23 : Ss := (.cons (.fr (.nm 1) (.seq (.slc (.bin .Add (.lst (.cons (.int 0) .nil)) (.var 0)) .nop (.int 8))) l5_law_k23)
  (.cons (.set 2 (.tup (.cons (.int 9) (.cons (.int 4) (.cons (.int 7) (.cons (.int 2) (.cons (.int 7) (.cons (.int 5) .nil))))))))
  (.cons (.ret (.sc (.cmp .Eq c1_law_k23 (.lst (.cons (.tup (.cons (.int 1) (.cons (.int 10) .nil))) (.cons (.tup (.cons (.int 0) (.cons (.int 1) .nil))) (.cons (.tup (.cons (.int 1) (.cons (.int 1) .nil))) .nil)))))))
  .nil)))
/-- law: _law_script -/
def s_law_k23 (cs : List FSem) : FSem := defSem false 1 16 cs b_law_k23
def t_mean_scan : Tb := ⟨["basket", "size", "count", "total", "place", "item"], [("check_offer", false, 2), ("row_of", false, 1), ("weight_of", false, 3), ("reduced", false, 2), ("choose", false, 2)], [], [], []⟩
def c1_mean_scan : E := .lc (.bin .Mult (.ixv 0 (.var 5)) (.call 2 (.cons (.var 2) (.cons (.var 1) (.cons (.var 4) .nil))))) (.tp [4, 5]) (.enu (.call 1 (.cons (.var 0) .nil))) (.bl true)
def b_mean_scan : Ss := (.cons (.exp (.call 0 (.cons (.var 0) (.cons (.var 1) .nil))))
  (.cons (.set 2 (.sc (.blt .len (.cons (.var 0) .nil))))
  (.cons (.ite (.sc (.cmp .Lt (.var 2) (.var 1)))
  (.cons (.ret (.tup (.cons (.int 0) (.cons (.int 1) .nil))))
  .nil)
  .nil)
  (.cons (.set 3 (.sc (.blt .sum (.cons c1_mean_scan .nil))))
  (.cons (.ret (.call 3 (.cons (.var 3) (.cons (.call 4 (.cons (.var 2) (.cons (.var 1) .nil))) .nil))))
  .nil)))))
/-- mean_scan: basket, size -/
def s_mean_scan (cs : List FSem) : FSem := defSem false 2 6 cs b_mean_scan
def t_law_total : Tb := ⟨["_law_rows", "_law_upper", "_law_lower", "_law_top", "_law_bottom"], [("_law_low", false, 2)], [], [], []⟩
def l1_law_total : Ss := (.cons (.set 1 (.bin .Add (.bin .Mult (.var 1) (.var 4)) (.bin .Mult (.var 3) (.var 2))))
  (.cons (.set 2 (.bin .Mult (.var 2) (.var 4)))
  .nil))
def b_law_total : Ss := (.cons (.par [1, 2] (.cons (.int 0) (.cons (.int 1) .nil)))
  (.cons (.fr (.tp [3, 4]) (.seq (.var 0)) l1_law_total)
  (.cons (.ret (.call 0 (.cons (.var 1) (.cons (.var 2) .nil))))
  .nil)))
/-- _law_total: _law_rows -/
def s_law_total (cs : List FSem) : FSem := defSem false 1 5 cs b_law_total
def t_law_k24 : Tb := ⟨["_law_script", "_law_cell", "_law_source_here", "_law_every", "_law_total_here", "_law_basket_here", "_law_factor", "_law_some", "_law_size", "_law_mean", "_law_rows", "_law_item", "_law_price", "_law_top", "_law_bottom", "_law_order"], [("_law_source", false, 2), ("_law_basket", true, 2), ("_law_draw", true, 2), ("_law_orders", false, 1), ("_law_scanned", false, 3), ("_law_equal", false, 2), ("mean_scan", false, 2), ("_law_low", false, 2), ("chance_free", false, 3), ("_law_total", false, 1), ("possible_scans", false, 2)], [], [], []⟩
def c1_law_k24 : E := .lc (.call 4 (.cons (.var 5) (.cons (.var 8) (.cons (.var 15) .nil)))) (.nm 15) (.seq (.var 3)) (.bl true)
def c2_law_k24 : E := .lc (.bin .Add (.int 1) (.callm 2 2 (.cons (.int 900) .nil))) (.nm 11) (.rng (.cons (.bin .Add (.int 1) (.callm 2 2 (.cons (.int 12) .nil))) .nil)) (.bl true)
def l1_law_k24 : Ss := (.cons (.unp [13, 14] (.call 8 (.cons (.var 5) (.cons (.var 8) (.cons (.var 11) .nil)))))
  (.cons (.app 10 (.tup (.cons (.bin .Mult (.var 13) (.var 12)) (.cons (.var 14) .nil))))
  .nil))
def c3_law_k24 : E := .lc (.bin .Mult (.var 12) (.var 6)) (.nm 12) (.seq (.var 5)) (.bl true)
def l2_law_k24 : Ss := (.cons (.set 2 (.call 0 (.cons (.var 1) (.cons (.int 24) .nil))))
  (.cons (.par [5, 8] (.cons (.callm 1 2 (.cons (.int 6) .nil)) (.cons (.bin .Add (.int 2) (.callm 2 2 (.cons (.int 5) .nil))) .nil)))
  (.cons (.set 3 (.call 3 (.cons (.sc (.blt .len (.cons (.var 5) .nil))) .nil)))
  (.cons (.set 4 (.sc (.blt .sum (.cons c1_law_k24 .nil))))
  (.cons (.ite (.sc (.not (.call 5 (.cons (.call 6 (.cons (.var 5) (.cons (.var 8) .nil))) (.cons (.call 7 (.cons (.var 4) (.cons (.sc (.blt .len (.cons (.var 3) .nil))) .nil))) .nil)))))
  (.cons (.ret (.bl false))
  .nil)
  .nil)
  (.cons (.set 5 (.blt .tuple (.cons c2_law_k24 .nil)))
  (.cons (.par [9, 10] (.cons (.call 6 (.cons (.var 5) (.cons (.var 8) .nil))) (.cons (.lst .nil) .nil)))
  (.cons (.fr (.tp [11, 12]) (.enu (.var 5)) l1_law_k24)
  (.cons (.ite (.sc (.not (.call 5 (.cons (.var 9) (.cons (.call 9 (.cons (.var 10) .nil)) .nil)))))
  (.cons (.ret (.bl false))
  .nil)
  .nil)
  (.cons (.set 6 (.bin .Add (.int 1) (.callm 2 2 (.cons (.int 10) .nil))))
  (.cons (.ite (.sc (.cmp .NotEq (.call 6 (.cons (.blt .tuple (.cons c3_law_k24 .nil)) (.cons (.var 8) .nil))) (.call 7 (.cons (.bin .Mult (.ixv 9 (.int 0)) (.var 6)) (.cons (.ixv 9 (.int 1)) .nil)))))
  (.cons (.ret (.bl false))
  .nil)
  .nil)
  (.cons (.set 7 (.call 10 (.cons (.var 5) (.cons (.var 8) .nil))))
  (.cons (.ite (.sc (.not (.chain .LtE .LtE (.bin .Mult (.ixv 7 (.int 0)) (.ixv 9 (.int 1))) (.ixv 9 (.int 0)) (.bin .Mult (.ixv 7 (.neg (.int 1))) (.ixv 9 (.int 1))))))
  (.cons (.ret (.bl false))
  .nil)
  .nil)
  .nil)))))))))))))
def b_law_k24 : Ss := (.cons (.fr (.nm 1) (.seq (.slc (.bin .Add (.lst (.cons (.int 0) .nil)) (.var 0)) .nop (.int 8))) l2_law_k24)
  (.cons (.ret (.sc (.and (.cmp .Eq (.call 6 (.cons (.tup (.cons (.int 9) (.cons (.int 4) (.cons (.int 7) (.cons (.int 2) (.cons (.int 7) (.cons (.int 5) .nil))))))) (.cons (.int 3) .nil))) (.tup (.cons (.int 33) (.cons (.int 5) .nil)))) (.cmp .Eq (.call 6 (.cons (.tup (.cons (.int 9) (.cons (.int 4) .nil))) (.cons (.int 3) .nil))) (.tup (.cons (.int 0) (.cons (.int 1) .nil)))))))
  .nil))
/-- law: _law_script -/
def s_law_k24 (cs : List FSem) : FSem := defSem false 1 16 cs b_law_k24
def t_groups_of : Tb := ⟨["items", "size", "found", "item", "chosen"], [], [], [], []⟩
def c1_groups_of : E := .lc (.bin .Add (.var 4) (.tup (.cons (.var 3) .nil))) (.nm 4) (.hid 2) (.sc (.cmp .Lt (.blt .len (.cons (.var 4) .nil)) (.var 1)))
def l1_groups_of : Ss := (.cons (.aug 2 .Add c1_groups_of)
  .nil)
def c2_groups_of : E := .lc (.var 4) (.nm 4) (.seq (.var 2)) (.sc (.cmp .Eq (.blt .len (.cons (.var 4) .nil)) (.var 1)))
def b_groups_of : Ss := (.cons (.set 2 (.lst (.cons (.tup .nil) .nil)))
  (.cons (.fr (.nm 3) (.seq (.var 0)) l1_groups_of)
  (.cons (.ret c2_groups_of)
  .nil)))
/-- groups_of: items, size -/
def s_groups_of (cs : List FSem) : FSem := defSem false 2 5 cs b_groups_of
def t_factorial : Tb := ⟨["number", "found", "one"], [], [], [], []⟩
def l1_factorial : Ss := (.cons (.aug 1 .Mult (.bin .Add (.var 2) (.int 1)))
  .nil)
def b_factorial : Ss := (.cons (.set 1 (.int 1))
  (.cons (.fr (.nm 2) (.rng (.cons (.var 0) .nil)) l1_factorial)
  (.cons (.ret (.mv 1))
  .nil)))
/-- factorial: number -/
def s_factorial (cs : List FSem) : FSem := defSem false 1 3 cs b_factorial
def t_law_product : Tb := ⟨["_law_number", "_law_found", "_law_one"], [], [], [], []⟩
def l1_law_product : Ss := (.cons (.set 1 (.bin .Mult (.var 1) (.bin .Add (.var 2) (.int 1))))
  .nil)
def b_law_product : Ss := (.cons (.set 1 (.int 1))
  (.cons (.fr (.nm 2) (.rng (.cons (.var 0) .nil)) l1_law_product)
  (.cons (.ret (.mv 1))
  .nil)))
/-- _law_product: _law_number -/
def s_law_product (cs : List FSem) : FSem := defSem false 1 3 cs b_law_product
def t_paid_with : Tb := ⟨["basket", "size", "receipts"], [("best_value", false, 3)], [], [], []⟩
def b_paid_with : Ss := (.cons (.ret (.bin .Sub (.sc (.blt .sum (.cons (.var 0) .nil))) (.call 0 (.cons (.var 0) (.cons (.var 1) (.cons (.var 2) .nil))))))
  .nil)
/-- paid_with: basket, size, receipts -/
def s_paid_with (cs : List FSem) : FSem := defSem false 3 3 cs b_paid_with
def t_least_paid : Tb := ⟨["basket", "size", "receipts"], [("check_offer", false, 2), ("check_receipts", false, 1), ("paid_with", false, 3)], [], [], []⟩
def b_least_paid : Ss := (.cons (.exp (.call 0 (.cons (.var 0) (.cons (.var 1) .nil))))
  (.cons (.exp (.call 1 (.cons (.var 2) .nil)))
  (.cons (.ret (.call 2 (.cons (.var 0) (.cons (.var 1) (.cons (.var 2) .nil)))))
  .nil)))
/-- least_paid: basket, size, receipts -/
def s_least_paid (cs : List FSem) : FSem := defSem false 3 3 cs b_least_paid
def t_growth : Tb := ⟨["basket", "size", "receipts", "price"], [("paid_with", false, 3)], [], [], []⟩
def b_growth : Ss := (.cons (.ret (.bin .Sub (.call 0 (.cons (.bin .Add (.var 0) (.tup (.cons (.var 3) .nil))) (.cons (.var 1) (.cons (.var 2) .nil)))) (.call 0 (.cons (.var 0) (.cons (.var 1) (.cons (.var 2) .nil))))))
  .nil)
/-- growth: basket, size, receipts, price -/
def s_growth (cs : List FSem) : FSem := defSem false 4 4 cs b_growth
def t_check_room : Tb := ⟨["basket"], [], [("MAX_ITEMS", 12)], [], ["TooMany"]⟩
def b_check_room : Ss := (.cons (.ite (.sc (.cmp .GtE (.blt .len (.cons (.var 0) .nil)) (.gint "MAX_ITEMS" 12)))
  (.cons (.rai "TooMany")
  .nil)
  .nil)
  .nil)
/-- check_room: basket -/
def s_check_room (cs : List FSem) : FSem := defSem false 1 1 cs b_check_room
def t_extra_paid : Tb := ⟨["basket", "size", "receipts", "price"], [("check_offer", false, 2), ("check_receipts", false, 1), ("is_between", false, 3), ("check_room", false, 1), ("growth", false, 4)], [("MAX_PRICE", 10000)], [], ["InvalidPrice"]⟩
def b_extra_paid : Ss := (.cons (.exp (.call 0 (.cons (.var 0) (.cons (.var 1) .nil))))
  (.cons (.exp (.call 1 (.cons (.var 2) .nil)))
  (.cons (.ite (.sc (.not (.call 2 (.cons (.var 3) (.cons (.int 1) (.cons (.gint "MAX_PRICE" 10000) .nil))))))
  (.cons (.rai "InvalidPrice")
  .nil)
  .nil)
  (.cons (.exp (.call 3 (.cons (.var 0) .nil)))
  (.cons (.ret (.call 4 (.cons (.var 0) (.cons (.var 1) (.cons (.var 2) (.cons (.var 3) .nil))))))
  .nil)))))
/-- extra_paid: basket, size, receipts, price -/
def s_extra_paid (cs : List FSem) : FSem := defSem false 4 4 cs b_extra_paid
def t_law_paid : Tb := ⟨["_law_basket_here", "_law_size", "_law_receipts"], [("_law_best", false, 2)], [], [], []⟩
def b_law_paid : Ss := (.cons (.ret (.bin .Sub (.sc (.blt .sum (.cons (.var 0) .nil))) (.ix (.call 0 (.cons (.var 0) (.cons (.var 1) .nil))) (.bin .Sub (.blt .min (.cons (.var 2) (.cons (.sc (.blt .len (.cons (.var 0) .nil))) .nil))) (.int 1)))))
  .nil)
/-- _law_paid: _law_basket_here, _law_size, _law_receipts -/
def s_law_paid (cs : List FSem) : FSem := defSem false 3 3 cs b_law_paid
def t_law_rows_of : Tb := ⟨["_law_basket_here", "_law_size", "_law_found", "_law_parts", "_law_item"], [("_law_all_splittings", false, 1), ("_law_free", false, 3)], [], [], []⟩
def c1_law_rows_of : E := .lc (.ixv 0 (.var 4)) (.nm 4) (.seq (.call 1 (.cons (.var 0) (.cons (.var 1) (.cons (.var 3) .nil))))) (.bl true)
def l1_law_rows_of : Ss := (.cons (.app 2 (.tup (.cons (.sc (.blt .len (.cons (.var 3) .nil))) (.cons (.sc (.blt .sum (.cons c1_law_rows_of .nil))) .nil))))
  .nil)
def b_law_rows_of : Ss := (.cons (.set 2 (.lst .nil))
  (.cons (.fr (.nm 3) (.seq (.call 0 (.cons (.sc (.blt .len (.cons (.var 0) .nil))) .nil))) l1_law_rows_of)
  (.cons (.ret (.mv 2))
  .nil)))
/-- _law_rows_of: _law_basket_here, _law_size -/
def s_law_rows_of (cs : List FSem) : FSem := defSem false 2 5 cs b_law_rows_of
def t_law_least : Tb := ⟨["_law_basket_here", "_law_size", "_law_receipts", "_law_count", "_law_value"], [("_law_rows_of", false, 2)], [], [], []⟩
def c1_law_least : E := .lc (.var 4) (.tp [3, 4]) (.seq (.call 0 (.cons (.var 0) (.cons (.var 1) .nil)))) (.sc (.cmp .LtE (.var 3) (.var 2)))
def b_law_least : Ss := (.cons (.ret (.bin .Sub (.sc (.blt .sum (.cons (.var 0) .nil))) (.blt .max (.cons c1_law_least .nil))))
  .nil)
/-- _law_least: _law_basket_here, _law_size, _law_receipts -/
def s_law_least (cs : List FSem) : FSem := defSem false 3 5 cs b_law_least
def t_law_k26 : Tb := ⟨["_law_script", "_law_cell", "_law_basket_here", "_law_source_here", "_law_receipts", "_law_price", "_law_turn", "_law_size", "_law_one", "_law_two", "_law_found", "_law_due", "_law_more"], [("_law_source", false, 2), ("_law_basket", true, 2), ("_law_draw", true, 2), ("_law_choice", true, 2), ("_law_least", false, 3), ("_law_equal", false, 2), ("least_paid", false, 3), ("extra_paid", false, 4), ("_law_paid", false, 3), ("greatest_saving", false, 3)], [], [], []⟩
def l1_law_k26 : Ss := (.cons (.par [2, 4] (.cons (.callm 1 3 (.cons (.int 11) .nil)) (.cons (.bin .Add (.int 1) (.callm 2 3 (.cons (.int 12) .nil))) .nil)))
  (.cons (.par [5, 7] (.cons (.bin .Add (.int 1) (.callm 2 3 (.cons (.int 9999) .nil))) (.cons (.bin .Add (.int 2) (.callm 2 3 (.cons (.int 5) .nil))) .nil)))
  (.cons (.set 10 (.call 7 (.cons (.var 2) (.cons (.var 7) (.cons (.var 4) (.cons (.var 5) .nil))))))
  (.cons (.set 11 (.bin .Sub (.call 8 (.cons (.bin .Add (.var 2) (.tup (.cons (.var 5) .nil))) (.cons (.var 7) (.cons (.var 4) .nil)))) (.call 8 (.cons (.var 2) (.cons (.var 7) (.cons (.var 4) .nil))))))
  (.cons (.set 12 (.call 7 (.cons (.var 2) (.cons (.var 7) (.cons (.var 4) (.cons (.bin .Add (.var 5) (.int 1)) .nil))))))
  (.cons (.ite (.sc (.or (.cmp .NotEq (.var 10) (.var 11)) (.or (.cmp .Lt (.var 10) (.int 0)) (.not (.chain .LtE .LtE (.int 0) (.bin .Sub (.var 12) (.var 10)) (.int 1))))))
  (.cons (.ret (.bl false))
  .nil)
  .nil)
  (.cons (.ite (.sc (.cmp .NotEq (.call 6 (.cons (.var 2) (.cons (.var 7) (.cons (.var 4) .nil)))) (.bin .Sub (.sc (.blt .sum (.cons (.var 2) .nil))) (.call 9 (.cons (.var 2) (.cons (.var 7) (.cons (.var 4) .nil)))))))
  (.cons (.ret (.bl false))
  .nil)
  .nil)
  (.cons (.ite (.sc (.and (.cmp .Gt (.var 4) (.blt .len (.cons (.var 2) .nil))) (.cmp .Gt (.var 10) (.var 5))))
  (.cons (.ret (.bl false))
  .nil)
  .nil)
  .nil))))))))
def l2_law_k26 : Ss := (.cons (.set 3 (.call 0 (.cons (.var 1) (.cons (.int 26) .nil))))
  (.cons (.par [2, 7] (.cons (.callm 1 3 (.cons (.int 5) .nil)) (.cons (.bin .Add (.int 2) (.callm 2 3 (.cons (.int 5) .nil))) .nil)))
  (.cons (.set 4 (.bin .Add (.int 1) (.callm 2 3 (.cons (.int 6) .nil))))
  (.cons (.set 5 (.bin .Add (.int 1) (.callm 2 3 (.cons (.callm 3 3 (.cons (.lst (.cons (.int 5) (.cons (.int 60) (.cons (.int 10000) .nil)))) .nil)) .nil))))
  (.cons (.par [8, 9] (.cons (.call 4 (.cons (.var 2) (.cons (.var 7) (.cons (.var 4) .nil)))) (.cons (.call 4 (.cons (.bin .Add (.var 2) (.tup (.cons (.var 5) .nil))) (.cons (.var 7) (.cons (.var 4) .nil)))) .nil)))
  (.cons (.ite (.sc (.not (.call 5 (.cons (.call 6 (.cons (.var 2) (.cons (.var 7) (.cons (.var 4) .nil)))) (.cons (.var 8) .nil)))))
  (.cons (.ret (.bl false))
  .nil)
  .nil)
  (.cons (.ite (.sc (.or (.not (.call 5 (.cons (.call 7 (.cons (.var 2) (.cons (.var 7) (.cons (.var 4) (.cons (.var 5) .nil))))) (.cons (.bin .Sub (.var 9) (.var 8)) .nil)))) (.cmp .Lt (.var 9) (.var 8))))
  (.cons (.ret (.bl false))
  .nil)
  .nil)
  (.cons (.fr (.nm 6) (.rng (.cons (.int 4) .nil)) l1_law_k26)
  .nil))))))))
def b_law_k26 : Ss := (.cons (.fr (.nm 1) (.seq (.slc (.bin .Add (.lst (.cons (.int 0) .nil)) (.var 0)) .nop (.int 8))) l2_law_k26)
  (.cons (.set 2 (.tup (.cons (.int 9) (.cons (.int 4) (.cons (.int 7) (.cons (.int 2) (.cons (.int 7) (.cons (.int 5) .nil))))))))
  (.cons (.ite (.sc (.cmp .NotEq (.lst (.cons (.call 6 (.cons (.var 2) (.cons (.int 3) (.cons (.int 2) .nil)))) (.cons (.call 7 (.cons (.var 2) (.cons (.int 3) (.cons (.int 2) (.cons (.int 1) .nil))))) (.cons (.call 7 (.cons (.var 2) (.cons (.int 3) (.cons (.int 3) (.cons (.int 1) .nil))))) .nil)))) (.lst (.cons (.int 25) (.cons (.int 2) (.cons (.int 1) .nil))))))
  (.cons (.ret (.bl false))
  .nil)
  .nil)
  (.cons (.ret (.sc (.cmp .Eq (.call 7 (.cons (.tup (.cons (.int 9) (.cons (.int 8) (.cons (.int 7) .nil)))) (.cons (.int 3) (.cons (.int 1) (.cons (.int 1) .nil))))) (.int 7))))
  .nil))))
/-- law: _law_script -/
def s_law_k26 (cs : List FSem) : FSem := defSem false 1 13 cs b_law_k26
def t_free_extra : Tb := ⟨["basket", "size", "receipts", "low", "high", "middle"], [("check_offer", false, 2), ("check_receipts", false, 1), ("check_room", false, 1), ("growth", false, 4)], [("MAX_PRICE", 10000)], [], []⟩
def l1_free_extra : Ss := (.cons (.set 5 (.bin .FloorDiv (.bin .Add (.bin .Add (.var 3) (.var 4)) (.int 1)) (.int 2)))
  (.cons (.ite (.sc (.cmp .Eq (.call 3 (.cons (.var 0) (.cons (.var 1) (.cons (.var 2) (.cons (.var 5) .nil))))) (.int 0)))
  (.cons (.set 3 (.var 5))
  .nil)
  (.cons (.set 4 (.bin .Sub (.var 5) (.int 1)))
  .nil))
  .nil))
def b_free_extra : Ss := (.cons (.exp (.call 0 (.cons (.var 0) (.cons (.var 1) .nil))))
  (.cons (.exp (.call 1 (.cons (.var 2) .nil)))
  (.cons (.exp (.call 2 (.cons (.var 0) .nil)))
  (.cons (.par [3, 4] (.cons (.int 0) (.cons (.gint "MAX_PRICE" 10000) .nil)))
  (.cons (.whl (.sc (.cmp .Lt (.var 3) (.var 4))) l1_free_extra)
  (.cons (.ret (.ite (.sc (.cmp .Gt (.var 3) (.int 0))) (.var 3) .non))
  .nil))))))
/-- free_extra: basket, size, receipts -/
def s_free_extra (cs : List FSem) : FSem := defSem false 3 6 cs b_free_extra
def t_law_k27 : Tb := ⟨["_law_script", "_law_cell", "_law_source_here", "_law_turn", "_law_receipts", "_law_found", "_law_paid_here", "_law_basket_here", "_law_size", "_law_dearer", "_law_less", "_law_more"], [("_law_source", false, 2), ("_law_basket", true, 2), ("_law_draw", true, 2), ("free_extra", false, 3), ("_law_paid", false, 3), ("_law_is_int", false, 1), ("extra_paid", false, 4)], [], [], []⟩
def l1_law_k27 : Ss := (.cons (.par [7, 8] (.cons (.callm 1 2 (.cons (.int 11) .nil)) (.cons (.bin .Add (.int 2) (.callm 2 2 (.cons (.int 5) .nil))) .nil)))
  (.cons (.set 4 (.bin .Add (.int 1) (.callm 2 2 (.cons (.int 6) .nil))))
  (.cons (.set 5 (.call 3 (.cons (.var 7) (.cons (.var 8) (.cons (.var 4) .nil)))))
  (.cons (.set 6 (.call 4 (.cons (.var 7) (.cons (.var 8) (.cons (.var 4) .nil)))))
  (.cons (.ite (.sc (.cmp .Is (.var 5) .non))
  (.cons (.ite (.sc (.cmp .Eq (.call 4 (.cons (.bin .Add (.var 7) (.tup (.cons (.int 1) .nil))) (.cons (.var 8) (.cons (.var 4) .nil)))) (.var 6)))
  (.cons (.ret (.bl false))
  .nil)
  .nil)
  .nil)
  (.cons (.ite (.sc (.or (.not (.call 5 (.cons (.var 5) .nil))) (.not (.chain .LtE .LtE (.int 1) (.var 5) (.int 10000)))))
  (.cons (.ret (.bl false))
  .nil)
  .nil)
  (.cons (.ite (.sc (.cmp .NotEq (.call 4 (.cons (.bin .Add (.var 7) (.tup (.cons (.var 5) .nil))) (.cons (.var 8) (.cons (.var 4) .nil)))) (.var 6)))
  (.cons (.ret (.bl false))
  .nil)
  .nil)
  (.cons (.set 9 (.bin .Add (.var 7) (.tup (.cons (.bin .Add (.var 5) (.int 1)) .nil))))
  (.cons (.ite (.sc (.and (.cmp .Lt (.var 5) (.int 10000)) (.cmp .Eq (.call 4 (.cons (.var 9) (.cons (.var 8) (.cons (.var 4) .nil)))) (.var 6))))
  (.cons (.ret (.bl false))
  .nil)
  .nil)
  (.cons (.set 10 (.bin .Add (.int 1) (.callm 2 2 (.cons (.var 5) .nil))))
  (.cons (.set 11 (.bin .Add (.bin .Add (.var 5) (.int 1)) (.callm 2 2 (.cons (.bin .Sub (.int 10001) (.var 5)) .nil))))
  (.cons (.ite (.sc (.cmp .NotEq (.call 6 (.cons (.var 7) (.cons (.var 8) (.cons (.var 4) (.cons (.var 10) .nil))))) (.int 0)))
  (.cons (.ret (.bl false))
  .nil)
  .nil)
  (.cons (.ite (.sc (.and (.cmp .LtE (.var 11) (.int 10000)) (.cmp .LtE (.call 6 (.cons (.var 7) (.cons (.var 8) (.cons (.var 4) (.cons (.var 11) .nil))))) (.int 0))))
  (.cons (.ret (.bl false))
  .nil)
  .nil)
  .nil)))))))))
  .nil)))))
def l2_law_k27 : Ss := (.cons (.set 2 (.call 0 (.cons (.var 1) (.cons (.int 27) .nil))))
  (.cons (.fr (.nm 3) (.rng (.cons (.int 2) .nil)) l1_law_k27)
  .nil))
def b_law_k27 : Ss := (.cons (.fr (.nm 1) (.seq (.slc (.bin .Add (.lst (.cons (.int 0) .nil)) (.var 0)) .nop (.int 10))) l2_law_k27)
  (.cons (.ite (.sc (.cmp .IsNot (.call 3 (.cons (.tup (.cons (.int 9) (.cons (.int 4) (.cons (.int 7) (.cons (.int 2) (.cons (.int 7) (.cons (.int 5) .nil))))))) (.cons (.int 3) (.cons (.int 2) .nil)))) .non))
  (.cons (.ret (.bl false))
  .nil)
  .nil)
  (.cons (.ret (.sc (.cmp .Eq (.lst (.cons (.call 3 (.cons (.tup (.cons (.int 9) (.cons (.int 8) .nil))) (.cons (.int 3) (.cons (.int 1) .nil)))) (.cons (.call 3 (.cons (.tup (.cons (.int 5) .nil)) (.cons (.int 2) (.cons (.int 3) .nil)))) .nil))) (.lst (.cons (.int 8) (.cons (.int 5) .nil))))))
  .nil)))
/-- law: _law_script -/
def s_law_k27 (cs : List FSem) : FSem := defSem false 1 12 cs b_law_k27
def t_largest_size : Tb := ⟨["basket", "receipts", "wished", "good", "size"], [("check_basket", false, 1), ("check_receipts", false, 1), ("check_saving", false, 1), ("best_value", false, 3)], [], [("SIZES", [2, 3, 4, 5, 6])], []⟩
def c1_largest_size : E := .lc (.var 4) (.nm 4) (.seq (.gtup "SIZES" [2, 3, 4, 5, 6])) (.sc (.cmp .GtE (.call 3 (.cons (.var 0) (.cons (.var 4) (.cons (.var 1) .nil)))) (.var 2)))
def b_largest_size : Ss := (.cons (.exp (.call 0 (.cons (.var 0) .nil)))
  (.cons (.exp (.call 1 (.cons (.var 1) .nil)))
  (.cons (.exp (.call 2 (.cons (.var 2) .nil)))
  (.cons (.set 3 c1_largest_size)
  (.cons (.ret (.ite (.sc (.cmp .NotEq (.var 3) (.lst .nil))) (.ixv 3 (.neg (.int 1))) .non))
  .nil)))))
/-- largest_size: basket, receipts, wished -/
def s_largest_size (cs : List FSem) : FSem := defSem false 3 5 cs b_largest_size
def t_law_k28 : Tb := ⟨["_law_script", "_law_cell", "_law_basket_here", "_law_source_here", "_law_turn", "_law_rows", "_law_wished", "_law_receipts", "_law_good", "_law_size", "_law_one", "_law_other"], [("_law_source", false, 2), ("_law_basket", true, 2), ("_law_draw", true, 2), ("_law_best", false, 2), ("greatest_saving", false, 3), ("_law_equal", false, 2), ("largest_size", false, 3)], [], [], []⟩
def c1_law_k28 : E := .lc (.ix (.call 3 (.cons (.var 2) (.cons (.var 9) .nil))) (.bin .Sub (.blt .min (.cons (.var 7) (.cons (.sc (.blt .len (.cons (.var 2) .nil))) .nil))) (.int 1))) (.nm 9) (.rng (.cons (.int 2) (.cons (.int 7) .nil))) (.bl true)
def c2_law_k28 : E := .lc (.int 1) (.tp [10, 11]) (.zip (.var 5) (.slv 5 (.int 1) .nop)) (.sc (.cmp .Lt (.var 10) (.var 11)))
def c3_law_k28 : E := .lc (.call 4 (.cons (.var 2) (.cons (.var 9) (.cons (.var 7) .nil)))) (.nm 9) (.rng (.cons (.int 2) (.cons (.int 7) .nil))) (.bl true)
def c4_law_k28 : E := .lc (.var 9) (.nm 9) (.rng (.cons (.int 2) (.cons (.int 7) .nil))) (.sc (.cmp .GtE (.ixv 5 (.bin .Sub (.var 9) (.int 2))) (.var 6)))
def l1_law_k28 : Ss := (.cons (.set 8 c4_law_k28)
  (.cons (.ite (.sc (.not (.call 5 (.cons (.call 6 (.cons (.var 2) (.cons (.var 7) (.cons (.var 6) .nil)))) (.cons (.ite (.sc (.cmp .NotEq (.var 8) (.lst .nil))) (.ixv 8 (.neg (.int 1))) .non) .nil)))))
  (.cons (.ret (.bl false))
  .nil)
  .nil)
  .nil))
def l2_law_k28 : Ss := (.cons (.par [2, 7] (.cons (.callm 1 3 (.cons (.int 12) .nil)) (.cons (.bin .Add (.int 1) (.callm 2 3 (.cons (.int 12) .nil))) .nil)))
  (.cons (.set 5 c1_law_k28)
  (.cons (.ite (.sc (.cmp .NotEq c2_law_k28 (.lst .nil)))
  (.cons (.ret (.bl false))
  .nil)
  .nil)
  (.cons (.ite (.sc (.cmp .NotEq c3_law_k28 (.var 5)))
  (.cons (.ret (.bl false))
  .nil)
  .nil)
  (.cons (.fr (.nm 6) (.seq (.bin .Add (.var 5) (.lst (.cons (.int 0) (.cons (.bin .Add (.ixv 5 (.int 0)) (.int 1)) (.cons (.blt .max (.cons (.int 0) (.cons (.bin .Sub (.ixv 5 (.int 2)) (.int 1)) .nil))) (.cons (.callm 2 3 (.cons (.bin .Add (.bin .Pow (.int 10) (.int 6)) (.int 1)) .nil)) .nil))))))) l1_law_k28)
  .nil)))))
def l3_law_k28 : Ss := (.cons (.set 3 (.call 0 (.cons (.var 1) (.cons (.int 28) .nil))))
  (.cons (.fr (.nm 4) (.rng (.cons (.int 2) .nil)) l2_law_k28)
  .nil))
def b_law_k28 : Ss := (.cons (.fr (.nm 1) (.seq (.slc (.bin .Add (.lst (.cons (.int 0) .nil)) (.var 0)) .nop (.int 10))) l3_law_k28)
  (.cons (.set 2 (.tup (.cons (.int 9) (.cons (.int 4) (.cons (.int 7) (.cons (.int 2) (.cons (.int 7) (.cons (.int 5) .nil))))))))
  (.cons (.ret (.sc (.cmp .Eq (.lst (.cons (.call 6 (.cons (.var 2) (.cons (.int 2) (.cons (.int 9) .nil)))) (.cons (.call 6 (.cons (.var 2) (.cons (.int 2) (.cons (.int 100) .nil)))) (.cons (.call 6 (.cons (.var 2) (.cons (.int 1) (.cons (.int 2) .nil)))) .nil)))) (.lst (.cons (.int 3) (.cons .non (.cons (.int 6) .nil)))))))
  .nil)))
/-- law: _law_script -/
def s_law_k28 (cs : List FSem) : FSem := defSem false 1 12 cs b_law_k28
def t_possible_sizes : Tb := ⟨["basket", "sightings", "found", "size", "receipts", "value"], [("check_basket", false, 1), ("are_sightings", false, 1), ("best_value", false, 3)], [], [("SIZES", [2, 3, 4, 5, 6])], ["InvalidSightings"]⟩
def c1_possible_sizes : E := .lc (.sc (.cmp .Eq (.call 2 (.cons (.var 0) (.cons (.var 3) (.cons (.var 4) .nil)))) (.var 5))) (.tp [4, 5]) (.seq (.var 1)) (.bl true)
def l1_possible_sizes : Ss := (.cons (.ite (.sc (.blt .all (.cons c1_possible_sizes .nil)))
  (.cons (.app 2 (.var 3))
  .nil)
  .nil)
  .nil)
def b_possible_sizes : Ss := (.cons (.exp (.call 0 (.cons (.var 0) .nil)))
  (.cons (.ite (.sc (.not (.call 1 (.cons (.var 1) .nil))))
  (.cons (.rai "InvalidSightings")
  .nil)
  .nil)
  (.cons (.set 2 (.lst .nil))
  (.cons (.fr (.nm 3) (.seq (.gtup "SIZES" [2, 3, 4, 5, 6])) l1_possible_sizes)
  (.cons (.ret (.mv 2))
  .nil)))))
/-- possible_sizes: basket, sightings -/
def s_possible_sizes (cs : List FSem) : FSem := defSem false 2 6 cs b_possible_sizes
def t_law_k29 : Tb := ⟨["_law_script", "_law_cell", "_law_basket_here", "_law_source_here", "_law_turn", "_law_look", "_law_good", "_law_other", "_law_found", "_law_size", "_law_seen", "_law_receipts", "_law_value", "_law_best_here"], [("_law_source", false, 2), ("_law_basket", true, 2), ("_law_draw", true, 2), ("_law_best", false, 2), ("possible_sizes", false, 2), ("_law_equal", false, 2)], [], [], []⟩
def l1_law_k29 : Ss := (.cons (.set 11 (.bin .Add (.int 1) (.callm 2 3 (.cons (.int 12) .nil))))
  (.cons (.set 12 (.ix (.call 3 (.cons (.var 2) (.cons (.var 9) .nil))) (.bin .Sub (.blt .min (.cons (.var 11) (.cons (.sc (.blt .len (.cons (.var 2) .nil))) .nil))) (.int 1))))
  (.cons (.ite (.cmp .Eq (.callm 2 3 (.cons (.int 9) .nil)) (.int 0))
  (.cons (.set 12 (.bin .Add (.var 12) (.int 1)))
  .nil)
  .nil)
  (.cons (.set 10 (.bin .Add (.var 10) (.tup (.cons (.tup (.cons (.var 11) (.cons (.var 12) .nil))) .nil))))
  .nil))))
def c1_law_k29 : E := .lc (.int 1) (.tp [11, 12]) (.seq (.var 10)) (.sc (.cmp .NotEq (.ixv 13 (.bin .Sub (.blt .min (.cons (.var 11) (.cons (.sc (.blt .len (.cons (.var 2) .nil))) .nil))) (.int 1))) (.var 12)))
def l2_law_k29 : Ss := (.cons (.set 13 (.call 3 (.cons (.var 2) (.cons (.var 7) .nil))))
  (.cons (.ite (.sc (.cmp .Eq c1_law_k29 (.lst .nil)))
  (.cons (.app 6 (.var 7))
  .nil)
  .nil)
  .nil))
def c2_law_k29 : E := .lc (.var 9) (.nm 9) (.seq (.var 8)) (.sc (.cmp .NotIn (.var 9) (.call 4 (.cons (.var 2) (.cons (.slv 10 .nop (.int 1)) .nil)))))
def l3_law_k29 : Ss := (.cons (.par [2, 9, 10] (.cons (.callm 1 3 (.cons (.int 12) .nil)) (.cons (.bin .Add (.int 2) (.callm 2 3 (.cons (.int 5) .nil))) (.cons (.tup .nil) .nil))))
  (.cons (.fr (.nm 5) (.rng (.cons (.bin .Add (.int 1) (.callm 2 3 (.cons (.int 6) .nil))) .nil)) l1_law_k29)
  (.cons (.set 6 (.lst .nil))
  (.cons (.fr (.nm 7) (.rng (.cons (.int 2) (.cons (.int 7) .nil))) l2_law_k29)
  (.cons (.set 8 (.call 4 (.cons (.var 2) (.cons (.var 10) .nil))))
  (.cons (.ite (.sc (.not (.call 5 (.cons (.var 8) (.cons (.var 6) .nil)))))
  (.cons (.ret (.bl false))
  .nil)
  .nil)
  (.cons (.ite (.sc (.cmp .NotEq c2_law_k29 (.lst .nil)))
  (.cons (.ret (.bl false))
  .nil)
  .nil)
  .nil)))))))
def l4_law_k29 : Ss := (.cons (.set 3 (.call 0 (.cons (.var 1) (.cons (.int 29) .nil))))
  (.cons (.fr (.nm 4) (.rng (.cons (.int 2) .nil)) l3_law_k29)
  .nil))
def b_law_k29 : Ss := (.cons (.fr (.nm 1) (.seq (.slc (.bin .Add (.lst (.cons (.int 0) .nil)) (.var 0)) .nop (.int 10))) l4_law_k29)
  (.cons (.set 2 (.tup (.cons (.int 9) (.cons (.int 4) (.cons (.int 7) (.cons (.int 2) (.cons (.int 7) (.cons (.int 5) .nil))))))))
  (.cons (.ret (.sc (.and (.cmp .Eq (.call 4 (.cons (.var 2) (.cons (.tup (.cons (.tup (.cons (.int 1) (.cons (.int 2) .nil))) .nil)) .nil))) (.lst (.cons (.int 4) (.cons (.int 5) (.cons (.int 6) .nil))))) (.cmp .Eq (.call 4 (.cons (.var 2) (.cons (.tup (.cons (.tup (.cons (.int 1) (.cons (.int 2) .nil))) (.cons (.tup (.cons (.int 2) (.cons (.int 5) .nil))) .nil))) .nil))) (.lst (.cons (.int 4) .nil))))))
  .nil)))
/-- law: _law_script -/
def s_law_k29 (cs : List FSem) : FSem := defSem false 1 14 cs b_law_k29
def t_savings_of : Tb := ⟨["basket", "size", "found", "parts"], [("all_splittings", false, 1), ("value_of", false, 2), ("free_of", false, 3)], [], [], []⟩
def l1_savings_of : Ss := (.cons (.app 2 (.tup (.cons (.sc (.blt .len (.cons (.var 3) .nil))) (.cons (.call 1 (.cons (.var 0) (.cons (.call 2 (.cons (.var 0) (.cons (.var 1) (.cons (.var 3) .nil)))) .nil))) .nil))))
  .nil)
def b_savings_of : Ss := (.cons (.set 2 (.lst .nil))
  (.cons (.fr (.nm 3) (.seq (.call 0 (.cons (.sc (.blt .len (.cons (.var 0) .nil))) .nil))) l1_savings_of)
  (.cons (.ret (.mv 2))
  .nil)))
/-- savings_of: basket, size -/
def s_savings_of (cs : List FSem) : FSem := defSem false 2 4 cs b_savings_of
def t_possible_savings : Tb := ⟨["basket", "size", "receipts", "count", "value"], [("check_offer", false, 2), ("check_receipts", false, 1), ("check_small", false, 1), ("savings_of", false, 2)], [], [], []⟩
def c1_possible_savings : E := .lc (.var 4) (.tp [3, 4]) (.seq (.call 3 (.cons (.var 0) (.cons (.var 1) .nil)))) (.sc (.cmp .LtE (.var 3) (.var 2)))
def b_possible_savings : Ss := (.cons (.exp (.call 0 (.cons (.var 0) (.cons (.var 1) .nil))))
  (.cons (.exp (.call 1 (.cons (.var 2) .nil)))
  (.cons (.exp (.call 2 (.cons (.var 0) .nil)))
  (.cons (.ret (.blt .sset (.cons c1_possible_savings .nil)))
  .nil))))
/-- possible_savings: basket, size, receipts -/
def s_possible_savings (cs : List FSem) : FSem := defSem false 3 5 cs b_possible_savings
def t_law_k30 : Tb := ⟨["_law_script", "_law_cell", "_law_basket_here", "_law_source_here", "_law_receipts", "_law_size", "_law_rows", "_law_before", "_law_found", "_law_due", "_law_value", "_law_count"], [("_law_source", false, 2), ("_law_basket", true, 2), ("_law_draw", true, 2), ("_law_rows_of", false, 2), ("possible_savings", false, 3), ("_law_equal", false, 2), ("greatest_saving", false, 3)], [], [], []⟩
def c1_law_k30 : E := .lc (.var 10) (.tp [11, 10]) (.seq (.var 6)) (.sc (.cmp .LtE (.var 11) (.var 4)))
def c2_law_k30 : E := .lc (.var 10) (.nm 10) (.seq (.var 7)) (.sc (.cmp .NotIn (.var 10) (.var 8)))
def l1_law_k30 : Ss := (.cons (.set 8 (.call 4 (.cons (.var 2) (.cons (.var 5) (.cons (.var 4) .nil)))))
  (.cons (.set 9 (.blt .sset (.cons c1_law_k30 .nil)))
  (.cons (.ite (.sc (.or (.not (.call 5 (.cons (.var 8) (.cons (.var 9) .nil)))) (.cmp .NotEq (.ixv 8 (.neg (.int 1))) (.call 6 (.cons (.var 2) (.cons (.var 5) (.cons (.var 4) .nil)))))))
  (.cons (.ret (.bl false))
  .nil)
  .nil)
  (.cons (.ite (.sc (.cmp .NotEq c2_law_k30 (.lst .nil)))
  (.cons (.ret (.bl false))
  .nil)
  .nil)
  (.cons (.set 7 (.var 8))
  .nil)))))
def l2_law_k30 : Ss := (.cons (.set 3 (.call 0 (.cons (.var 1) (.cons (.int 30) .nil))))
  (.cons (.par [2, 5] (.cons (.callm 1 3 (.cons (.int 7) .nil)) (.cons (.bin .Add (.int 2) (.callm 2 3 (.cons (.int 5) .nil))) .nil)))
  (.cons (.par [6, 7] (.cons (.call 3 (.cons (.var 2) (.cons (.var 5) .nil))) (.cons (.lst .nil) .nil)))
  (.cons (.fr (.nm 4) (.seq (.blt .sorted (.cons (.lst (.cons (.int 1) (.cons (.int 2) (.cons (.int 3) (.cons (.bin .Add (.int 1) (.callm 2 3 (.cons (.int 12) .nil))) (.cons (.int 12) .nil)))))) .nil))) l1_law_k30)
  (.cons (.app 8 (.neg (.int 1)))
  (.cons (.ite (.sc (.cmp .In (.neg (.int 1)) (.call 4 (.cons (.var 2) (.cons (.var 5) (.cons (.int 12) .nil))))))
  (.cons (.ret (.bl false))
  .nil)
  .nil)
  .nil))))))
def b_law_k30 : Ss := (.cons (.fr (.nm 1) (.seq (.slc (.bin .Add (.lst (.cons (.int 0) .nil)) (.var 0)) .nop (.int 8))) l2_law_k30)
  (.cons (.set 2 (.tup (.cons (.int 9) (.cons (.int 4) (.cons (.int 7) (.cons (.int 2) (.cons (.int 7) (.cons (.int 5) .nil))))))))
  (.cons (.ret (.sc (.and (.cmp .Eq (.call 4 (.cons (.var 2) (.cons (.int 3) (.cons (.int 1) .nil)))) (.lst (.cons (.int 6) .nil))) (.cmp .Eq (.call 4 (.cons (.var 2) (.cons (.int 3) (.cons (.int 2) .nil)))) (.lst (.cons (.int 2) (.cons (.int 4) (.cons (.int 5) (.cons (.int 6) (.cons (.int 7) (.cons (.int 9) .nil)))))))))))
  .nil)))
/-- law: _law_script -/
def s_law_k30 (cs : List FSem) : FSem := defSem false 1 12 cs b_law_k30
def t_count_splittings : Tb := ⟨["basket", "size", "receipts", "wished", "count", "value"], [("check_offer", false, 2), ("check_receipts", false, 1), ("check_saving", false, 1), ("check_small", false, 1), ("savings_of", false, 2)], [], [], []⟩
def c1_count_splittings : E := .lc (.var 5) (.tp [4, 5]) (.seq (.call 4 (.cons (.var 0) (.cons (.var 1) .nil)))) (.sc (.and (.cmp .LtE (.var 4) (.var 2)) (.cmp .Eq (.var 5) (.var 3))))
def b_count_splittings : Ss := (.cons (.exp (.call 0 (.cons (.var 0) (.cons (.var 1) .nil))))
  (.cons (.exp (.call 1 (.cons (.var 2) .nil)))
  (.cons (.exp (.call 2 (.cons (.var 3) .nil)))
  (.cons (.exp (.call 3 (.cons (.var 0) .nil)))
  (.cons (.ret (.sc (.blt .len (.cons c1_count_splittings .nil))))
  .nil)))))
/-- count_splittings: basket, size, receipts, wished -/
def s_count_splittings (cs : List FSem) : FSem := defSem false 4 6 cs b_count_splittings
def t_law_k31 : Tb := ⟨["_law_script", "_law_cell", "_law_basket_here", "_law_source_here", "_law_some", "_law_wished", "_law_size", "_law_receipts", "_law_rows", "_law_due", "_law_total", "_law_count", "_law_value"], [("_law_source", false, 2), ("_law_basket", true, 2), ("_law_draw", true, 2), ("_law_rows_of", false, 2), ("possible_savings", false, 3), ("_law_equal", false, 2), ("count_splittings", false, 4), ("_law_best", false, 2)], [], [], []⟩
def c1_law_k31 : E := .lc (.var 12) (.tp [11, 12]) (.seq (.var 8)) (.sc (.and (.cmp .LtE (.var 11) (.var 7)) (.cmp .Eq (.var 12) (.var 5))))
def l1_law_k31 : Ss := (.cons (.set 9 (.sc (.blt .len (.cons c1_law_k31 .nil))))
  (.cons (.ite (.sc (.not (.call 5 (.cons (.call 6 (.cons (.var 2) (.cons (.var 6) (.cons (.var 7) (.cons (.var 5) .nil))))) (.cons (.var 9) .nil)))))
  (.cons (.ret (.bl false))
  .nil)
  .nil)
  .nil))
def c2_law_k31 : E := .lc (.call 6 (.cons (.var 2) (.cons (.var 6) (.cons (.var 7) (.cons (.var 5) .nil))))) (.nm 5) (.seq (.var 4)) (.bl true)
def c3_law_k31 : E := .lc (.var 12) (.tp [11, 12]) (.seq (.var 8)) (.sc (.cmp .LtE (.var 11) (.var 7)))
def l2_law_k31 : Ss := (.cons (.set 3 (.call 0 (.cons (.var 1) (.cons (.int 31) .nil))))
  (.cons (.par [2, 6] (.cons (.callm 1 3 (.cons (.int 6) .nil)) (.cons (.bin .Add (.int 2) (.callm 2 3 (.cons (.int 5) .nil))) .nil)))
  (.cons (.par [7, 8] (.cons (.bin .Add (.int 1) (.callm 2 3 (.cons (.int 7) .nil))) (.cons (.call 3 (.cons (.var 2) (.cons (.var 6) .nil))) .nil)))
  (.cons (.set 4 (.call 4 (.cons (.var 2) (.cons (.var 6) (.cons (.var 7) .nil)))))
  (.cons (.fr (.nm 5) (.seq (.bin .Add (.slv 4 .nop (.int 8)) (.lst (.cons (.int 0) (.cons (.bin .Add (.ixv 4 (.neg (.int 1))) (.int 1)) (.cons (.bin .Pow (.int 10) (.int 6)) (.cons (.callm 2 3 (.cons (.int 30) .nil)) .nil))))))) l1_law_k31)
  (.cons (.ite (.sc (.cmp .Lt (.blt .len (.cons (.var 4) .nil)) (.int 9)))
  (.cons (.set 10 (.sc (.blt .sum (.cons c2_law_k31 .nil))))
  (.cons (.ite (.sc (.cmp .NotEq (.var 10) (.blt .len (.cons c3_law_k31 .nil))))
  (.cons (.ret (.bl false))
  .nil)
  .nil)
  .nil))
  .nil)
  (.cons (.ite (.sc (.cmp .NotEq (.call 6 (.cons (.var 2) (.cons (.var 6) (.cons (.int 1) (.cons (.ix (.call 7 (.cons (.var 2) (.cons (.var 6) .nil))) (.int 0)) .nil))))) (.int 1)))
  (.cons (.ret (.bl false))
  .nil)
  .nil)
  .nil)))))))
def c4_law_k31 : E := .lc (.call 6 (.cons (.var 2) (.cons (.int 3) (.cons (.int 2) (.cons (.var 5) .nil))))) (.nm 5) (.seq (.tup (.cons (.int 9) (.cons (.int 6) (.cons (.int 8) .nil))))) (.bl true)
def b_law_k31 : Ss := (.cons (.fr (.nm 1) (.seq (.slc (.bin .Add (.lst (.cons (.int 0) .nil)) (.var 0)) .nop (.int 8))) l2_law_k31)
  (.cons (.set 2 (.tup (.cons (.int 9) (.cons (.int 4) (.cons (.int 7) (.cons (.int 2) (.cons (.int 7) (.cons (.int 5) .nil))))))))
  (.cons (.ret (.sc (.cmp .Eq c4_law_k31 (.lst (.cons (.int 1) (.cons (.int 7) (.cons (.int 0) .nil)))))))
  .nil)))
/-- law: _law_script -/
def s_law_k31 (cs : List FSem) : FSem := defSem false 1 13 cs b_law_k31
def t_least_saving : Tb := ⟨["basket", "size", "receipts", "found", "count", "value"], [("check_offer", false, 2), ("check_receipts", false, 1), ("check_small", false, 1), ("savings_of", false, 2)], [], [], []⟩
def c1_least_saving : E := .lc (.var 5) (.tp [4, 5]) (.seq (.call 3 (.cons (.var 0) (.cons (.var 1) .nil)))) (.sc (.cmp .Eq (.var 4) (.var 2)))
def b_least_saving : Ss := (.cons (.exp (.call 0 (.cons (.var 0) (.cons (.var 1) .nil))))
  (.cons (.exp (.call 1 (.cons (.var 2) .nil)))
  (.cons (.exp (.call 2 (.cons (.var 0) .nil)))
  (.cons (.set 3 c1_least_saving)
  (.cons (.ret (.ite (.sc (.cmp .NotEq (.var 3) (.lst .nil))) (.blt .min (.cons (.var 3) .nil)) .non))
  .nil)))))
/-- least_saving: basket, size, receipts -/
def s_least_saving (cs : List FSem) : FSem := defSem false 3 6 cs b_least_saving
def t_law_k32 : Tb := ⟨["_law_script", "_law_cell", "_law_basket_here", "_law_source_here", "_law_rows", "_law_receipts", "_law_size", "_law_some", "_law_found", "_law_count", "_law_value"], [("_law_source", false, 2), ("_law_basket", true, 2), ("_law_draw", true, 2), ("_law_rows_of", false, 2), ("least_saving", false, 3), ("_law_equal", false, 2), ("possible_savings", false, 3)], [], [], []⟩
def c1_law_k32 : E := .lc (.var 10) (.tp [9, 10]) (.seq (.var 4)) (.sc (.cmp .Eq (.var 9) (.var 5)))
def l1_law_k32 : Ss := (.cons (.set 7 c1_law_k32)
  (.cons (.set 8 (.call 4 (.cons (.var 2) (.cons (.var 6) (.cons (.var 5) .nil)))))
  (.cons (.ite (.sc (.not (.call 5 (.cons (.var 8) (.cons (.ite (.sc (.cmp .NotEq (.var 7) (.lst .nil))) (.blt .min (.cons (.var 7) .nil)) .non) .nil)))))
  (.cons (.ret (.bl false))
  .nil)
  .nil)
  (.cons (.ite (.sc (.cmp .NotEq (.cmp .Is (.var 8) .non) (.cmp .Gt (.var 5) (.blt .len (.cons (.var 2) .nil)))))
  (.cons (.ret (.bl false))
  .nil)
  .nil)
  (.cons (.ite (.sc (.and (.cmp .IsNot (.var 8) .non) (.cmp .NotIn (.var 8) (.call 6 (.cons (.var 2) (.cons (.var 6) (.cons (.var 5) .nil)))))))
  (.cons (.ret (.bl false))
  .nil)
  .nil)
  (.cons (.ite (.sc (.and (.cmp .GtE (.bin .Mult (.bin .Sub (.var 6) (.int 1)) (.var 5)) (.blt .len (.cons (.var 2) .nil))) (.cmp .NotIn (.var 8) (.lst (.cons (.int 0) (.cons .non .nil))))))
  (.cons (.ret (.bl false))
  .nil)
  .nil)
  .nil))))))
def l2_law_k32 : Ss := (.cons (.set 3 (.call 0 (.cons (.var 1) (.cons (.int 32) .nil))))
  (.cons (.par [2, 6] (.cons (.callm 1 3 (.cons (.int 7) .nil)) (.cons (.bin .Add (.int 2) (.callm 2 3 (.cons (.int 5) .nil))) .nil)))
  (.cons (.set 4 (.call 3 (.cons (.var 2) (.cons (.var 6) .nil))))
  (.cons (.fr (.nm 5) (.rng (.cons (.int 1) (.cons (.int 13) .nil))) l1_law_k32)
  .nil))))
def c2_law_k32 : E := .lc (.call 4 (.cons (.var 2) (.cons (.int 3) (.cons (.var 5) .nil)))) (.nm 5) (.seq (.tup (.cons (.int 1) (.cons (.int 2) (.cons (.int 3) (.cons (.int 4) (.cons (.int 6) (.cons (.int 7) .nil)))))))) (.bl true)
def b_law_k32 : Ss := (.cons (.fr (.nm 1) (.seq (.slc (.bin .Add (.lst (.cons (.int 0) .nil)) (.var 0)) .nop (.int 8))) l2_law_k32)
  (.cons (.set 2 (.tup (.cons (.int 9) (.cons (.int 4) (.cons (.int 7) (.cons (.int 2) (.cons (.int 7) (.cons (.int 5) .nil))))))))
  (.cons (.ret (.sc (.cmp .Eq c2_law_k32 (.lst (.cons (.int 6) (.cons (.int 2) (.cons (.int 0) (.cons (.int 0) (.cons (.int 0) (.cons .non .nil))))))))))
  .nil)))
/-- law: _law_script -/
def s_law_k32 (cs : List FSem) : FSem := defSem false 1 11 cs b_law_k32
def t_law_scanned_k33 : Tb := ⟨["_law_basket", "_law_size", "_law_order", "_law_found", "_law_start", "_law_group", "_law_item"], [], [], [], []⟩
def c1_law_scanned_k33 : E := .lc (.ixv 0 (.var 6)) (.nm 6) (.seq (.var 5)) (.bl true)
def l1_law_scanned_k33 : Ss := (.cons (.set 5 (.slv 2 (.var 4) (.bin .Add (.var 4) (.var 1))))
  (.cons (.ite (.sc (.cmp .Eq (.blt .len (.cons (.var 5) .nil)) (.var 1)))
  (.cons (.set 3 (.bin .Add (.var 3) (.blt .min (.cons c1_law_scanned_k33 .nil))))
  .nil)
  .nil)
  .nil))
def b_law_scanned_k33 : Ss := (.cons (.set 3 (.int 0))
  (.cons (.fr (.nm 4) (.rng (.cons (.int 0) (.cons (.sc (.blt .len (.cons (.var 2) .nil))) (.cons (.var 1) .nil)))) l1_law_scanned_k33)
  (.cons (.ret (.mv 3))
  .nil)))
/-- _law_scanned: _law_basket, _law_size, _law_order -/
def s_law_scanned_k33 (cs : List FSem) : FSem := defSem false 3 7 cs b_law_scanned_k33
def t_law_same_scans : Tb := ⟨["_law_source_here", "_law_basket", "_law_other", "_law_size", "_law_wished", "_law_rows", "_law_item"], [("_law_scanned", false, 3), ("_law_mixed", true, 2), ("mean_scan", false, 2), ("count_scans", false, 3), ("chance_free", false, 3)], [], [], []⟩
def c1_law_same_scans : E := .lc (.call 4 (.cons (.var 1) (.cons (.var 3) (.cons (.var 6) .nil)))) (.nm 6) (.rng (.cons (.sc (.blt .len (.cons (.var 1) .nil))) .nil)) (.bl true)
def c2_law_same_scans : E := .lc (.call 4 (.cons (.var 2) (.cons (.var 3) (.cons (.var 6) .nil)))) (.nm 6) (.rng (.cons (.sc (.blt .len (.cons (.var 2) .nil))) .nil)) (.bl true)
def b_law_same_scans : Ss := (.cons (.set 4 (.call 0 (.cons (.var 1) (.cons (.var 3) (.cons (.callm 1 0 (.cons (.trng .list (.cons (.sc (.blt .len (.cons (.var 1) .nil))) .nil)) .nil)) .nil)))))
  (.cons (.ite (.sc (.cmp .NotEq (.call 2 (.cons (.var 2) (.cons (.var 3) .nil))) (.call 2 (.cons (.var 1) (.cons (.var 3) .nil)))))
  (.cons (.ret (.bl false))
  .nil)
  .nil)
  (.cons (.ite (.sc (.cmp .NotEq (.call 3 (.cons (.var 2) (.cons (.var 3) (.cons (.var 4) .nil)))) (.call 3 (.cons (.var 1) (.cons (.var 3) (.cons (.var 4) .nil))))))
  (.cons (.ret (.bl false))
  .nil)
  .nil)
  (.cons (.set 5 (.blt .sorted (.cons c1_law_same_scans .nil)))
  (.cons (.ret (.sc (.cmp .Eq (.var 5) (.blt .sorted (.cons c2_law_same_scans .nil)))))
  .nil)))))
/-- _law_same_scans: _law_source_here, _law_basket, _law_other, _law_size -/
def s_law_same_scans (cs : List FSem) : FSem := defSem true 4 7 cs b_law_same_scans
def t_law_k33 : Tb := ⟨["_law_script", "_law_cell", "_law_source_here", "_law_basket", "_law_great", "_law_some", "_law_wished", "_law_many", "_law_found", "_law_other", "_law_factor", "_law_size", "_law_receipts", "_law_price", "_law_item", "_law_value"], [("_law_source", false, 2), ("_law_draw", true, 2), ("_law_mixed", true, 2), ("_law_same_scans", true, 4), ("possible_savings", false, 3), ("_law_choice", true, 2), ("count_splittings", false, 4), ("least_saving", false, 3), ("least_paid", false, 3), ("extra_paid", false, 4), ("free_extra", false, 3), ("largest_size", false, 3)], [], [], []⟩
def c1_law_k33 : E := .lc (.bin .Add (.int 1) (.callm 1 2 (.cons (.int 60) .nil))) (.nm 14) (.rng (.cons (.bin .Add (.int 1) (.callm 1 2 (.cons (.int 6) .nil))) .nil)) (.bl true)
def c2_law_k33 : E := .lc (.bin .Mult (.var 13) (.var 10)) (.nm 13) (.seq (.var 3)) (.bl true)
def c3_law_k33 : E := .lc (.bin .Mult (.var 15) (.var 10)) (.nm 15) (.seq (.var 5)) (.bl true)
def l1_law_k33 : Ss := (.cons (.set 2 (.call 0 (.cons (.var 1) (.cons (.int 33) .nil))))
  (.cons (.set 3 (.blt .tuple (.cons c1_law_k33 .nil)))
  (.cons (.par [9, 10] (.cons (.callm 2 2 (.cons (.var 3) .nil)) (.cons (.bin .Add (.int 1) (.callm 1 2 (.cons (.int 150) .nil))) .nil)))
  (.cons (.set 4 (.blt .tuple (.cons c2_law_k33 .nil)))
  (.cons (.par [11, 12, 13] (.cons (.bin .Add (.int 2) (.callm 1 2 (.cons (.int 5) .nil))) (.cons (.bin .Add (.int 1) (.callm 1 2 (.cons (.int 7) .nil))) (.cons (.bin .Add (.int 1) (.callm 1 2 (.cons (.int 60) .nil))) .nil))))
  (.cons (.ite (.not (.callm 3 2 (.cons (.var 3) (.cons (.var 9) (.cons (.var 11) .nil)))))
  (.cons (.ret (.bl false))
  .nil)
  .nil)
  (.cons (.set 5 (.call 4 (.cons (.var 3) (.cons (.var 11) (.cons (.var 12) .nil)))))
  (.cons (.ite (.sc (.cmp .NotEq (.call 4 (.cons (.var 9) (.cons (.var 11) (.cons (.var 12) .nil)))) (.var 5)))
  (.cons (.ret (.bl false))
  .nil)
  .nil)
  (.cons (.ite (.sc (.cmp .NotEq (.call 4 (.cons (.var 4) (.cons (.var 11) (.cons (.var 12) .nil)))) c3_law_k33))
  (.cons (.ret (.bl false))
  .nil)
  .nil)
  (.cons (.set 6 (.callm 5 2 (.cons (.var 5) .nil)))
  (.cons (.set 7 (.call 6 (.cons (.var 3) (.cons (.var 11) (.cons (.var 12) (.cons (.var 6) .nil))))))
  (.cons (.ite (.sc (.cmp .NotEq (.call 6 (.cons (.var 9) (.cons (.var 11) (.cons (.var 12) (.cons (.var 6) .nil))))) (.var 7)))
  (.cons (.ret (.bl false))
  .nil)
  .nil)
  (.cons (.ite (.sc (.cmp .NotEq (.call 6 (.cons (.var 4) (.cons (.var 11) (.cons (.var 12) (.cons (.bin .Mult (.var 6) (.var 10)) .nil))))) (.var 7)))
  (.cons (.ret (.bl false))
  .nil)
  .nil)
  (.cons (.ite (.sc (.cmp .NotEq (.call 7 (.cons (.var 9) (.cons (.var 11) (.cons (.var 12) .nil)))) (.call 7 (.cons (.var 3) (.cons (.var 11) (.cons (.var 12) .nil))))))
  (.cons (.ret (.bl false))
  .nil)
  .nil)
  (.cons (.ite (.sc (.cmp .NotEq (.call 8 (.cons (.var 4) (.cons (.var 11) (.cons (.var 12) .nil)))) (.bin .Mult (.var 10) (.call 8 (.cons (.var 9) (.cons (.var 11) (.cons (.var 12) .nil)))))))
  (.cons (.ret (.bl false))
  .nil)
  .nil)
  (.cons (.set 8 (.call 9 (.cons (.var 3) (.cons (.var 11) (.cons (.var 12) (.cons (.var 13) .nil))))))
  (.cons (.ite (.sc (.cmp .NotEq (.call 9 (.cons (.var 4) (.cons (.var 11) (.cons (.var 12) (.cons (.bin .Mult (.var 13) (.var 10)) .nil))))) (.bin .Mult (.var 8) (.var 10))))
  (.cons (.ret (.bl false))
  .nil)
  .nil)
  (.cons (.ite (.sc (.cmp .NotEq (.call 10 (.cons (.var 9) (.cons (.var 11) (.cons (.var 12) .nil)))) (.call 10 (.cons (.var 3) (.cons (.var 11) (.cons (.var 12) .nil))))))
  (.cons (.ret (.bl false))
  .nil)
  .nil)
  (.cons (.ite (.sc (.cmp .NotEq (.call 11 (.cons (.var 4) (.cons (.var 12) (.cons (.bin .Mult (.var 6) (.var 10)) .nil)))) (.call 11 (.cons (.var 9) (.cons (.var 12) (.cons (.var 6) .nil))))))
  (.cons (.ret (.bl false))
  .nil)
  .nil)
  .nil)))))))))))))))))))
def b_law_k33 : Ss := (.cons (.fr (.nm 1) (.seq (.slc (.bin .Add (.lst (.cons (.int 0) .nil)) (.var 0)) .nop (.int 8))) l1_law_k33)
  (.cons (.ret (.sc (.cmp .Eq (.call 10 (.cons (.tup (.cons (.int 10) (.cons (.int 10) .nil))) (.cons (.int 3) (.cons (.int 1) .nil)))) (.int 10))))
  .nil))
/-- law: _law_script -/
def s_law_k33 (cs : List FSem) : FSem := defSem false 1 16 cs b_law_k33
def t_law_every : Tb := ⟨["_law_calls", "_law_name", "_law_call"], [("_law_told", false, 1)], [], [], []⟩
def c1_law_every : E := .lc (.int 1) (.nm 2) (.seq (.var 0)) (.sc (.cmp .NotEq (.call 0 (.cons (.var 2) .nil)) (.var 1)))
def b_law_every : Ss := (.cons (.ret (.sc (.cmp .Eq c1_law_every (.lst .nil))))
  .nil)
/-- _law_every: _law_calls, _law_name -/
def s_law_every (cs : List FSem) : FSem := defSem false 2 3 cs b_law_every
end DD.P

-- part head
set_option Elab.async false
set_option linter.all false
set_option maxRecDepth 100000
set_option maxHeartbeats 2000000
namespace DD.K01
open PySem PySem.Spec PyProof.Rows L2 DD.P
def top (i : Nat) : Stmt := PySem.Challenge.pw_cheapestfree_k01_baskets_and_rows.main.body.getD i (.Pass ⟨0, 0, 0, 0⟩)
def q_is_between : FSem := s_is_between []
def q_is_basket : FSem := s_is_basket [q_is_between]
def q_check_basket : FSem := s_check_basket [q_is_basket]
def q_row_of : FSem := s_row_of []
def q_row : FSem := s_row [q_check_basket, q_row_of]
def q_law_source : FSem := s_law_source []
def q_law_draw : FSem := s_law_draw []
def q_law_is_int : FSem := s_law_is_int []
def q_law_choice : FSem := s_law_choice [q_law_draw]
def q_law_kind : FSem := s_law_kind []
def q_law_equal : Nat → FSem
  | 0 => noSem false
  | n + 1 => s_law_equal [q_law_kind, (q_law_equal n)]
def q_law_any_value : FSem := s_law_any_value [q_law_choice]
def q_law_corrupt : Nat → FSem
  | 0 => noSem true
  | n + 1 => s_law_corrupt [q_law_draw, (q_law_corrupt n)]
def q_law_basket : FSem := s_law_basket [q_law_choice, q_law_draw]
def q_law_is_basket : FSem := s_law_is_basket [q_law_is_int]
def q_law_k01 : FSem := s_law_k01 [q_law_source, q_law_basket, (q_law_corrupt 6), q_law_any_value, (q_law_equal 6), q_is_basket, q_law_is_basket, q_row]

end DD.K01

-- part DSpec
set_option Elab.async false
set_option linter.all false
set_option maxRecDepth 100000
set_option maxHeartbeats 2000000
/-! What the defs of the laws compute: the first ones. -/
namespace DD
open DD.P
/-! ### loops and comprehensions of the evaluator -/
theorem lc_map {tg : Tg} {cond elt : Env → Option EO} {vs : List Nat} {ρ : Env} (f : PD → PD) (p : PD → Bool) : ∀ {ds : List PD} {acc : List PD}, (∀ d ∈ ds, ∃ ρ1 fr ρ2, setT tg d ρ = some ρ1 ∧ cond ρ1 = some (.ok (.bool (p d)) fr ρ2) ∧ (p d = false → wipeC ρ2 vs = ρ) ∧
    (p d = true → ∃ fr' ρ3, elt ρ2 = some (.ok (f d) fr' ρ3) ∧ wipeC ρ3 vs = ρ)) → lcLoop tg cond elt vs ds ρ acc = some (.ok (acc ++ (ds.filter p).map f) ρ)
  | [], acc, _ => by simp [lcLoop]
  | d :: ds, acc, h => by
    obtain ⟨ρ1, fr, ρ2, h1, h2, h3, h4⟩ := h d List.mem_cons_self
    unfold lcLoop
    rw [h1]
    simp only
    rw [h2]
    cases hp : p d with
    | false =>
      simp only
      rw [h3 hp, lc_map f p fun x hx => h x (List.mem_cons_of_mem _ hx), List.filter_cons_of_neg (by simp [hp])]
    | true =>
      obtain ⟨fr', ρ3, h5, h6⟩ := h4 hp
      simp only
      rw [h5]
      simp only
      rw [h6, lc_map f p fun x hx => h x (List.mem_cons_of_mem _ hx), List.filter_cons_of_pos hp]
      simp
/-- items made with a state -/
theorem lc_st {tg : Tg} {cond elt : Env → Option EO} {vs : List Nat} (I : Nat → Env → Prop) (P : PD → Prop) (N : Nat) : ∀ {ds : List PD} {acc : List PD} {n : Nat} {ρ : Env}, n + ds.length ≤ N → (∀ d ∈ ds, ∀ n ρ, n < N → I n ρ → ∃ ρ1 fr ρ2 x fr' ρ3, setT tg d ρ = some ρ1 ∧ cond ρ1 = some (.ok (.bool true) fr ρ2) ∧ elt ρ2 = some (.ok x fr' ρ3) ∧ P x ∧ I (n + 1) (wipeC ρ3 vs)) → I n ρ →
    ∃ xs ρ', lcLoop tg cond elt vs ds ρ acc = some (.ok (acc ++ xs) ρ') ∧ xs.length = ds.length ∧ (∀ x ∈ xs, P x) ∧ I (n + ds.length) ρ'
  | [], acc, n, ρ, _, _, i => ⟨[], ρ, by simp [lcLoop], rfl, (fun x h => by cases h), i⟩
  | d :: ds, acc, n, ρ, hN, h, i => by
    rw [List.length_cons] at hN
    obtain ⟨ρ1, fr, ρ2, x, fr', ρ3, h1, h2, h3, px, i2⟩ := h d List.mem_cons_self n ρ (by omega) i
    obtain ⟨xs, ρ', e, l, p, i3⟩ := lc_st (acc := acc ++ [x]) I P N (by omega) (fun y hy => h y (List.mem_cons_of_mem _ hy)) i2
    refine ⟨x :: xs, ρ', ?_, by rw [List.length_cons, List.length_cons, l], fun y hy => ?_, ?_⟩
    · unfold lcLoop
      rw [h1]
      simp only
      rw [h2]
      simp only
      rw [h3]
      simp only
      rw [e, List.append_assoc]
      rfl
    · rcases List.mem_cons.mp hy with e | hy
      · rw [e]
        exact px
      · exact p y hy
    · have : n + (d :: ds).length = n + 1 + ds.length := by rw [List.length_cons]; omega
      rw [this]
      exact i3
theorem for_inv {tg : Tg} {b : Env → Option SO} (I : Nat → Env → Prop) (N : Nat) : ∀ {ds : List PD} {n : Nat} {ρ : Env}, n + ds.length ≤ N → (∀ d ∈ ds, ∀ n ρ, n < N → I n ρ → ∃ ρ1 ρ2, setT tg d ρ = some ρ1 ∧ (b ρ1 = some (.nx ρ2) ∨ b ρ1 = some (.ct ρ2)) ∧ I (n + 1) ρ2) → I n ρ →
    ∃ ρ', forL tg b ds ρ = some (.nx ρ') ∧ I (n + ds.length) ρ'
  | [], n, ρ, _, _, i => ⟨ρ, rfl, i⟩
  | d :: ds, n, ρ, hN, h, i => by
    rw [List.length_cons] at hN
    obtain ⟨ρ1, ρ2, h1, h2, i2⟩ := h d List.mem_cons_self n ρ (by omega) i
    obtain ⟨ρ', e, i3⟩ := for_inv I N (by omega) (fun y hy => h y (List.mem_cons_of_mem _ hy)) i2
    refine ⟨ρ', ?_, ?_⟩
    · unfold forL
      rw [h1]
      simp only
      rcases h2 with h2 | h2
      · rw [h2]
        exact e
      · rw [h2]
        exact e
    · have : n + (d :: ds).length = n + 1 + ds.length := by rw [List.length_cons]; omega
      rw [this]
      exact i3
theorem ev_lc {cs : List FSem} {elt cond : E} {tg : Tg} {it : It} {ρ ρ1 ρ2 : Env} {ds xs : List PD} (hi : evalI cs it ρ = some (.ok ds ρ1)) (hz : ds.length ≤ LIM) (hl : lcLoop tg (evalE cs cond) (evalE cs elt) tg.slots ds (wipeC ρ1 (tg.slots ++ hidI it)) [] = some (.ok xs ρ2)) :
    evalE cs (.lc elt tg it cond) ρ = some (.ok (.list xs) true (backC ρ2 ρ1 (tg.slots ++ hidI it))) := by
  show AO.bind (evalI cs it ρ) _ = _
  rw [hi]
  show lcE _ _ _ _ _ _ = _
  unfold lcE
  rw [if_pos hz, hl]
theorem ev_fr {cs : List FSem} {tg : Tg} {it : It} {b : Ss} {ρ ρ1 : Env} {ds : List PD} (hi : evalI cs it ρ = some (.ok ds ρ1)) : evalS cs (.fr tg it b) ρ = forL tg (evalSs cs b) ds ρ1 := by
  show AO.binS (evalI cs it ρ) _ = _
  rw [hi]
  rfl
/-! ### small data -/
def isInt : PD → Bool
  | .int _ => true
  | _ => false
def btw (lo hi : Int) : PD → Bool
  | .int i => decide (lo ≤ i) && decide (i ≤ hi)
  | _ => false
theorem run_is_between (d : PD) (lo hi : Int) : (s_is_between []).run [d, .int lo, .int hi] = some (.ret (.bool (btw lo hi d)) false .none) := by
  cases d with
  | int i => by_cases h : lo ≤ i <;> simp [s_is_between, b_is_between, defSem, outF, envOf, evalSs, evalS, evalEs, evalI, evalFs, EO.binS, AO.binS, evalE, getC, EO.bind, AO.bind, EO.binA, AO.binA, retE, outE, outB, boolE, intE, isTy, cmpV, isScal, ixV, atD, ixOf, slV, Cell.dat, Cell.isMut, Cell.put, binV, nxO, setC, setCs, setT, setTs, mkC, stxV, callE, callmE, bltV, rngL, seqL, optI, isNop, augI, isL, Tg.slots, hidI, wipeC, backC, btw, h]
  | _ => simp [s_is_between, b_is_between, defSem, outF, envOf, evalSs, evalS, evalEs, evalI, evalFs, EO.binS, AO.binS, evalE, getC, EO.bind, AO.bind, EO.binA, AO.binA, retE, outE, outB, boolE, intE, isTy, cmpV, isScal, ixV, atD, ixOf, slV, Cell.dat, Cell.isMut, Cell.put, binV, nxO, setC, setCs, setT, setTs, mkC, stxV, callE, callmE, bltV, rngL, seqL, optI, isNop, augI, isL, Tg.slots, hidI, wipeC, backC, btw]
theorem run_is_int (d : PD) : (s_law_is_int []).run [d] = some (.ret (.bool (isInt d)) false .none) := by
  cases d <;> simp [s_law_is_int, b_law_is_int, defSem, outF, envOf, evalSs, evalS, evalEs, evalI, evalFs, EO.binS, AO.binS, evalE, getC, EO.bind, AO.bind, EO.binA, AO.binA, retE, outE, outB, boolE, intE, isTy, cmpV, isScal, ixV, atD, ixOf, slV, Cell.dat, Cell.isMut, Cell.put, binV, nxO, setC, setCs, setT, setTs, mkC, stxV, callE, callmE, bltV, rngL, seqL, optI, isNop, augI, isL, Tg.slots, hidI, wipeC, backC, isInt]
/-- a basket -/
def isB : PD → Bool
  | .tuple ds => decide (1 ≤ ds.length) && decide (ds.length ≤ 12) && ds.all (btw 1 10000)
  | _ => false
theorem bools_map (f : PD → Bool) : ∀ ds : List PD, bools? (ds.map fun d => .bool (f d)) = some (ds.map f)
  | [] => rfl
  | d :: ds => by
    show (bools? (ds.map fun d => .bool (f d))).map (f d :: ·) = _
    rw [bools_map f ds]
    rfl
theorem run_is_basket (q : FSem) (hq : q.mu = false) (h : ∀ d lo hi, q.run [d, .int lo, .int hi] = some (.ret (.bool (btw lo hi d)) false .none)) (d : PD) : (s_is_basket [q]).run [d] = some (.ret (.bool (isB d)) false .none) := by
  cases d with
  | tuple ds =>
    by_cases h1 : 1 ≤ ds.length
    · by_cases h2 : ds.length ≤ 12
      · have hz : ds.length ≤ LIM := Nat.le_trans h2 (by decide)
        have i1 : (1 : Int) ≤ (ds.length : Int) := by omega
        have i2 : (ds.length : Int) ≤ 12 := by omega
        have e : evalE [q] c1_is_basket [some (.sh (.tuple ds)), none] = some (.ok (.list (ds.map fun d => .bool (btw 1 10000 d))) true [some (.sh (.tuple ds)), none]) := by
          have e := lc_map (tg := .nm 1) (cond := evalE [q] (.bl true)) (elt := evalE [q] (.call 0 (.cons (.var 1) (.cons (.int 1) (.cons (.gint "MAX_PRICE" 10000) .nil))))) (vs := [1]) (ρ := [some (.sh (.tuple ds)), none]) (fun d => .bool (btw 1 10000 d)) (fun _ => true) (ds := ds) (acc := []) (fun d _ =>
            ⟨[some (.sh (.tuple ds)), some (.sh d)], false, [some (.sh (.tuple ds)), some (.sh d)], by simp [defSem, outF, envOf, evalSs, evalS, evalEs, evalI, evalFs, EO.binS, AO.binS, evalE, getC, EO.bind, AO.bind, EO.binA, AO.binA, retE, outE, outB, boolE, intE, isTy, cmpV, isScal, ixV, atD, ixOf, slV, Cell.dat, Cell.isMut, Cell.put, binV, nxO, setC, setCs, setT, setTs, mkC, stxV, callE, callmE, bltV, rngL, seqL, optI, isNop, augI, isL, Tg.slots, hidI, wipeC, backC], by simp [defSem, outF, envOf, evalSs, evalS, evalEs, evalI, evalFs, EO.binS, AO.binS, evalE, getC, EO.bind, AO.bind, EO.binA, AO.binA, retE, outE, outB, boolE, intE, isTy, cmpV, isScal, ixV, atD, ixOf, slV, Cell.dat, Cell.isMut, Cell.put, binV, nxO, setC, setCs, setT, setTs, mkC, stxV, callE, callmE, bltV, rngL, seqL, optI, isNop, augI, isL, Tg.slots, hidI, wipeC, backC], (fun z => by cases z), fun _ => ⟨false, [some (.sh (.tuple ds)), some (.sh d)], by simp [defSem, outF, envOf, evalSs, evalS, evalEs, evalI, evalFs, EO.binS, AO.binS, evalE, getC, EO.bind, AO.bind, EO.binA, AO.binA, retE, outE, outB, boolE, intE, isTy, cmpV, isScal, ixV, atD, ixOf, slV, Cell.dat, Cell.isMut, Cell.put, binV, nxO, setC, setCs, setT, setTs, mkC, stxV, callE, callmE, bltV, rngL, seqL, optI, isNop, augI, isL, Tg.slots, hidI, wipeC, backC, hq, h], by simp [defSem, outF, envOf, evalSs, evalS, evalEs, evalI, evalFs, EO.binS, AO.binS, evalE, getC, EO.bind, AO.bind, EO.binA, AO.binA, retE, outE, outB, boolE, intE, isTy, cmpV, isScal, ixV, atD, ixOf, slV, Cell.dat, Cell.isMut, Cell.put, binV, nxO, setC, setCs, setT, setTs, mkC, stxV, callE, callmE, bltV, rngL, seqL, optI, isNop, augI, isL, Tg.slots, hidI, wipeC, backC]⟩⟩)
          have ef : ds.filter (fun _ => true) = ds := by simp
          rw [ef] at e
          exact ev_lc (ρ1 := [some (.sh (.tuple ds)), none]) (ρ2 := [some (.sh (.tuple ds)), none]) (by simp [defSem, outF, envOf, evalSs, evalS, evalEs, evalI, evalFs, EO.binS, AO.binS, evalE, getC, EO.bind, AO.bind, EO.binA, AO.binA, retE, outE, outB, boolE, intE, isTy, cmpV, isScal, ixV, atD, ixOf, slV, Cell.dat, Cell.isMut, Cell.put, binV, nxO, setC, setCs, setT, setTs, mkC, stxV, callE, callmE, bltV, rngL, seqL, optI, isNop, augI, isL, Tg.slots, hidI, wipeC, backC]) hz e
        simp [s_is_basket, b_is_basket, defSem, outF, envOf, evalSs, evalS, evalEs, evalI, evalFs, EO.binS, AO.binS, evalE, getC, EO.bind, AO.bind, EO.binA, AO.binA, retE, outE, outB, boolE, intE, isTy, cmpV, isScal, ixV, atD, ixOf, slV, Cell.dat, Cell.isMut, Cell.put, binV, nxO, setC, setCs, setT, setTs, mkC, stxV, callE, callmE, bltV, rngL, seqL, optI, isNop, augI, isL, Tg.slots, hidI, wipeC, backC, i1, i2, e, bools_map, isB, h1, h2]
      · have i1 : (1 : Int) ≤ (ds.length : Int) := by omega
        have i2 : ¬ (ds.length : Int) ≤ 12 := by omega
        simp [s_is_basket, b_is_basket, defSem, outF, envOf, evalSs, evalS, evalEs, evalI, evalFs, EO.binS, AO.binS, evalE, getC, EO.bind, AO.bind, EO.binA, AO.binA, retE, outE, outB, boolE, intE, isTy, cmpV, isScal, ixV, atD, ixOf, slV, Cell.dat, Cell.isMut, Cell.put, binV, nxO, setC, setCs, setT, setTs, mkC, stxV, callE, callmE, bltV, rngL, seqL, optI, isNop, augI, isL, Tg.slots, hidI, wipeC, backC, i1, i2, isB, h1, h2]
    · have i1 : ¬ (1 : Int) ≤ (ds.length : Int) := by omega
      simp [s_is_basket, b_is_basket, defSem, outF, envOf, evalSs, evalS, evalEs, evalI, evalFs, EO.binS, AO.binS, evalE, getC, EO.bind, AO.bind, EO.binA, AO.binA, retE, outE, outB, boolE, intE, isTy, cmpV, isScal, ixV, atD, ixOf, slV, Cell.dat, Cell.isMut, Cell.put, binV, nxO, setC, setCs, setT, setTs, mkC, stxV, callE, callmE, bltV, rngL, seqL, optI, isNop, augI, isL, Tg.slots, hidI, wipeC, backC, i1, isB, h1]
  | _ => simp [s_is_basket, b_is_basket, defSem, outF, envOf, evalSs, evalS, evalEs, evalI, evalFs, EO.binS, AO.binS, evalE, getC, EO.bind, AO.bind, EO.binA, AO.binA, retE, outE, outB, boolE, intE, isTy, cmpV, isScal, ixV, atD, ixOf, slV, Cell.dat, Cell.isMut, Cell.put, binV, nxO, setC, setCs, setT, setTs, mkC, stxV, callE, callmE, bltV, rngL, seqL, optI, isNop, augI, isL, Tg.slots, hidI, wipeC, backC, isB]
theorem run_check_basket (q : FSem) (hq : q.mu = false) (h : ∀ d, q.run [d] = some (.ret (.bool (isB d)) false .none)) (d : PD) : (s_check_basket [q]).run [d] = if isB d then some (.ret .none false .none) else some (.ex "InvalidBasket") := by
  cases hb : isB d <;> simp [s_check_basket, b_check_basket, defSem, outF, envOf, evalSs, evalS, evalEs, evalI, evalFs, EO.binS, AO.binS, evalE, getC, EO.bind, AO.bind, EO.binA, AO.binA, retE, outE, outB, boolE, intE, isTy, cmpV, isScal, ixV, atD, ixOf, slV, Cell.dat, Cell.isMut, Cell.put, binV, nxO, setC, setCs, setT, setTs, mkC, stxV, callE, callmE, bltV, rngL, seqL, optI, isNop, augI, isL, Tg.slots, hidI, wipeC, backC, hq, h, hb]
/-! ### draws -/
def Src (T : Int) (d : PD) : Prop := ∃ D S t : Int, d = .list [.int D, .int S, .int t] ∧ 0 ≤ S ∧ S < 2147483648 ∧ 0 ≤ t ∧ t ≤ T
theorem Src.up {T U : Int} {d : PD} (h : Src T d) (le : T ≤ U) : Src U d := by
  obtain ⟨D, S, t, e, h1, h2, h3, h4⟩ := h
  exact ⟨D, S, t, e, h1, h2, h3, by omega⟩
theorem run_source (c t : Int) (ht : 0 ≤ t) : ∃ d, (s_law_source []).run [.int c, .int t] = some (.ret d true .none) ∧ Src t d := by
  have e1 : 0 ≤ c % 2147483579 := Int.emod_nonneg _ (by decide)
  have e2 : c % 2147483579 < 2147483579 := Int.emod_lt_of_pos _ (by decide)
  by_cases h : (1000000000000000000 : Int) ≤ c
  · refine ⟨.list [.int (c - 1000000000000000000), .int (c % 2147483579), .int t], ?_, _, _, _, rfl, e1, by omega, ht, by omega⟩
    simp [s_law_source, b_law_source, defSem, outF, envOf, evalSs, evalS, evalEs, evalI, evalFs, EO.binS, AO.binS, evalE, getC, EO.bind, AO.bind, EO.binA, AO.binA, retE, outE, outB, boolE, intE, isTy, cmpV, isScal, ixV, atD, ixOf, slV, Cell.dat, Cell.isMut, Cell.put, binV, nxO, setC, setCs, setT, setTs, mkC, stxV, callE, callmE, bltV, rngL, seqL, optI, isNop, augI, isL, Tg.slots, hidI, wipeC, backC, h, LIM]
  · refine ⟨.list [.int 0, .int (c % 2147483579), .int t], ?_, _, _, _, rfl, e1, by omega, ht, by omega⟩
    simp [s_law_source, b_law_source, defSem, outF, envOf, evalSs, evalS, evalEs, evalI, evalFs, EO.binS, AO.binS, evalE, getC, EO.bind, AO.bind, EO.binA, AO.binA, retE, outE, outB, boolE, intE, isTy, cmpV, isScal, ixV, atD, ixOf, slV, Cell.dat, Cell.isMut, Cell.put, binV, nxO, setC, setCs, setT, setTs, mkC, stxV, callE, callmE, bltV, rngL, seqL, optI, isNop, augI, isL, Tg.slots, hidI, wipeC, backC, h, LIM]
theorem run_draw {T : Int} {d : PD} (h : Src T d) (hT : T < 1000000000) (n : Int) (hn : 0 < n) (hn2 : n < 1073741824) : ∃ r m, (s_law_draw []).run [d, .int n] = some (.ret (.int r) false m) ∧ 0 ≤ r ∧ r < n ∧ Src (T + 1) m := by
  obtain ⟨D, S, t, rfl, h1, h2, h3, h4⟩ := h
  by_cases hD : 1 < D
  · refine ⟨D % n, .list [.int (D / n), .int S, .int t], ?_, Int.emod_nonneg _ (by omega), Int.emod_lt_of_pos _ hn, D / n, S, t, rfl, h1, h2, h3, by omega⟩
    simp [s_law_draw, b_law_draw, defSem, outF, envOf, evalSs, evalS, evalEs, evalI, evalFs, EO.binS, AO.binS, evalE, getC, EO.bind, AO.bind, EO.binA, AO.binA, retE, outE, outB, boolE, intE, isTy, cmpV, isScal, ixV, atD, ixOf, slV, Cell.dat, Cell.isMut, Cell.put, binV, nxO, setC, setCs, setT, setTs, mkC, stxV, callE, callmE, bltV, rngL, seqL, optI, isNop, augI, isL, Tg.slots, hidI, wipeC, backC, hD, hn, hn2]
  · have e1 : ((S + 15485867 * (t + 1)) ^ 5 % 2147483647) < 2147483647 := Int.emod_lt_of_pos _ (by decide)
    have e2 : 0 ≤ ((S + 15485867 * (t + 1)) ^ 5 % 2147483647) := Int.emod_nonneg _ (by decide)
    have p1 : (S + 15485867 * (t + 1)).natAbs < 18446744073709551616 := by omega
    have p2 : ((S + 15485867 * (t + 1)) ^ 5 % 2147483647 + 7919 * (t + 1)).natAbs < 18446744073709551616 := by omega
    refine ⟨(((S + 15485867 * (t + 1)) ^ 5 % 2147483647 + 7919 * (t + 1)) ^ 3 % 2147483629 / 32) % n, .list [.int D, .int S, .int (t + 1)], ?_, Int.emod_nonneg _ (by omega), Int.emod_lt_of_pos _ hn, D, S, t + 1, rfl, h1, h2, by omega, by omega⟩
    simp [s_law_draw, b_law_draw, defSem, outF, envOf, evalSs, evalS, evalEs, evalI, evalFs, EO.binS, AO.binS, evalE, getC, EO.bind, AO.bind, EO.binA, AO.binA, retE, outE, outB, boolE, intE, isTy, cmpV, isScal, ixV, atD, ixOf, slV, Cell.dat, Cell.isMut, Cell.put, binV, nxO, setC, setCs, setT, setTs, mkC, stxV, callE, callmE, bltV, rngL, seqL, optI, isNop, augI, isL, Tg.slots, hidI, wipeC, backC, hD, hn, hn2, p1, p2]
/-- what is asked of a draw -/
structure Draws (q : FSem) : Prop where
  mu : q.mu = true
  run : ∀ {T : Int} {d : PD}, Src T d → T < 1000000000 → ∀ n : Int, 0 < n → n < 1073741824 → ∃ r m, q.run [d, .int n] = some (.ret (.int r) false m) ∧ 0 ≤ r ∧ r < n ∧ Src (T + 1) m
theorem draws : Draws (s_law_draw []) := ⟨rfl, fun h hT n h1 h2 => run_draw h hT n h1 h2⟩
/-- one of some items -/
theorem run_choice {q : FSem} (D : Draws q) {T : Int} {d : PD} (h : Src T d) (hT : T < 1000000000) (ds : List PD) (h0 : ds ≠ []) (hl : ds.length ≤ 1000000) : ∃ x m, (s_law_choice [q]).run [d, .list ds] = some (.ret x false m) ∧ x ∈ ds ∧ Src (T + 1) m := by
  have hp : 0 < ds.length := List.length_pos_iff.mpr h0
  obtain ⟨r, m, e, r1, r2, hm⟩ := D.run h hT (ds.length : Int) (by omega) (by omega)
  have hr : r.toNat < ds.length := by omega
  refine ⟨ds[r.toNat], m, ?_, List.getElem_mem hr, hm⟩
  simp [s_law_choice, b_law_choice, defSem, outF, envOf, evalSs, evalS, evalEs, evalI, evalFs, EO.binS, AO.binS, evalE, getC, EO.bind, AO.bind, EO.binA, AO.binA, retE, outE, outB, boolE, intE, isTy, cmpV, isScal, ixV, atD, ixOf, slV, Cell.dat, Cell.isMut, Cell.put, binV, nxO, setC, setCs, setT, setTs, mkC, stxV, callE, callmE, bltV, rngL, seqL, optI, isNop, augI, isL, Tg.slots, hidI, wipeC, backC, D.mu, e, r1, r2, hr]
end DD

-- part DSpec2
set_option Elab.async false
set_option linter.all false
set_option maxRecDepth 100000
set_option maxHeartbeats 4000000
/-! What the defs of the laws compute: checks of values, corrupted values, baskets. -/
namespace DD
open DD.P PySem
/-! ### step by step -/
theorem go_nx {cs : List FSem} {s : S} {ss : Ss} {ρ ρ1 : Env} (h : evalS cs s ρ = some (.nx ρ1)) : evalSs cs (.cons s ss) ρ = evalSs cs ss ρ1 := by
  rw [evalSs, h]
theorem go_rt {cs : List FSem} {s : S} {ss : Ss} {ρ ρ1 : Env} {d : PD} {fr : Bool} (h : evalS cs s ρ = some (.rt d fr ρ1)) : evalSs cs (.cons s ss) ρ = some (.rt d fr ρ1) := by
  rw [evalSs, h]
theorem go_if {cs : List FSem} {c : E} {a b : Ss} {ρ ρ1 : Env} {k fr : Bool} (h : evalE cs c ρ = some (.ok (.bool k) fr ρ1)) : evalS cs (.ite c a b) ρ = if k = true then evalSs cs a ρ1 else evalSs cs b ρ1 := by
  show EO.binS (evalE cs c ρ) _ = _
  rw [h]
  cases k <;> rfl
theorem go_ret {cs : List FSem} {e : E} {ρ ρ1 : Env} {d : PD} {fr : Bool} (h : evalE cs e ρ = some (.ok d fr ρ1)) : evalS cs (.ret e) ρ = some (.rt d fr ρ1) := by
  show EO.binS (evalE cs e ρ) _ = _
  rw [h]
  rfl
theorem go_set {cs : List FSem} {i : Nat} {e : E} {ρ ρ1 ρ2 : Env} {d : PD} {fr : Bool} (h : evalE cs e ρ = some (.ok d fr ρ1)) (h2 : setC ρ1 i (mkC d fr) = some ρ2) : evalS cs (.set i e) ρ = some (.nx ρ2) := by
  show EO.binS (evalE cs e ρ) _ = _
  rw [h]
  show nxO (setC ρ1 i (mkC d fr)) = _
  rw [h2]
  rfl
/-- one of a list's items -/
theorem ev_pick {cs : List FSem} {a i : E} {ρ ρ1 ρ2 : Env} {L : List PD} {r : Int} {f1 f2 : Bool} (h1 : evalE cs a ρ = some (.ok (.list L) f1 ρ1)) (h2 : evalE cs i ρ1 = some (.ok (.int r) f2 ρ2)) (r0 : 0 ≤ r) (r1 : r < L.length) : ∃ x ∈ L, evalE cs (.ix a i) ρ = some (.ok x false ρ2) := by
  have hr : r.toNat < L.length := by omega
  refine ⟨L[r.toNat], List.getElem_mem hr, ?_⟩
  show EO.bind (evalE cs a ρ) _ = _
  rw [h1]
  show EO.bind (evalE cs i ρ1) _ = _
  rw [h2]
  show (ixV (.list L) (.int r)).bind _ = _
  simp [defSem, outF, envOf, evalSs, evalS, evalEs, evalI, evalFs, EO.binS, AO.binS, evalE, getC, EO.bind, AO.bind, EO.binA, AO.binA, retE, outE, outB, boolE, intE, isTy, cmpV, isScal, ixV, atD, ixOf, slV, Cell.dat, Cell.isMut, Cell.put, binV, nxO, setC, setCs, setT, setTs, mkC, stxV, callE, callmE, bltV, rngL, seqL, optI, isNop, augI, isL, Tg.slots, hidI, wipeC, backC, r0, r1, hr]
/-! ### kinds, equality of bools -/
def kind : PD → Int
  | .bool _ => 1
  | .int _ => 2
  | .str _ => 3
  | .list _ => 4
  | .tuple _ => 5
  | _ => 6
theorem run_kind (d : PD) : (s_law_kind []).run [d] = some (.ret (.int (kind d)) false .none) := by
  cases d <;> simp [s_law_kind, b_law_kind, defSem, outF, envOf, evalSs, evalS, evalEs, evalI, evalFs, EO.binS, AO.binS, evalE, getC, EO.bind, AO.bind, EO.binA, AO.binA, retE, outE, outB, boolE, intE, isTy, cmpV, isScal, ixV, atD, ixOf, slV, Cell.dat, Cell.isMut, Cell.put, binV, nxO, setC, setCs, setT, setTs, mkC, stxV, callE, callmE, bltV, rngL, seqL, optI, isNop, augI, isL, Tg.slots, hidI, wipeC, backC, kind]
theorem shp_int (i : Int) : shp (.int i) = true := by simp [shp, SeqAt.shaped, PyData.canLay0, PyData.depth]
theorem shp_bool (i : Bool) : shp (.bool i) = true := by simp [shp, SeqAt.shaped, PyData.canLay0, PyData.depth]
theorem shp_nil : shp (.list []) = true := by simp [shp, SeqAt.shaped, PyData.canLay0, PyData.canLayAll0, PyData.depth, PyData.depthAll]
theorem eqv_int (i j : Int) : PyData.eqv (.int i) (.int j) = decide (i = j) := by
  simp only [PyData.eqv]
  rfl
theorem run_equal_bool (qk qe : FSem) (hk : qk.mu = false) (h : ∀ d, qk.run [d] = some (.ret (.int (kind d)) false .none)) (a b : Bool) : (s_law_equal [qk, qe]).run [.bool a, .bool b] = some (.ret (.bool (a == b)) false .none) := by
  simp [s_law_equal, b_law_equal, defSem, outF, envOf, evalSs, evalS, evalEs, evalI, evalFs, EO.binS, AO.binS, evalE, getC, EO.bind, AO.bind, EO.binA, AO.binA, retE, outE, outB, boolE, intE, isTy, cmpV, isScal, ixV, atD, ixOf, slV, Cell.dat, Cell.isMut, Cell.put, binV, nxO, setC, setCs, setT, setTs, mkC, stxV, callE, callmE, bltV, rngL, seqL, optI, isNop, augI, isL, Tg.slots, hidI, wipeC, backC, hk, h, kind, shp_int, shp_bool, eqv_int, PyData.eqv]
/-! ### checks of baskets by the law -/
/-- of no dict, not deep -/
def Dm (d : PD) : Prop := d.canLay0 = true ∧ d.depth ≤ 60
theorem lay_filter (p : PD → Bool) : ∀ {ds : List PD}, PyData.canLayAll0 ds = true → PyData.canLayAll0 (ds.filter p) = true
  | [], h => h
  | d :: ds, h => by
    simp only [PyData.canLayAll0, Bool.and_eq_true] at h
    by_cases c : p d = true
    · rw [List.filter_cons_of_pos c]
      simp only [PyData.canLayAll0, Bool.and_eq_true]
      exact ⟨h.1, lay_filter p h.2⟩
    · rw [List.filter_cons_of_neg c]
      exact lay_filter p h.2
theorem depth_filter (p : PD → Bool) : ∀ ds : List PD, PyData.depthAll (ds.filter p) ≤ PyData.depthAll ds
  | [] => Nat.le_refl _
  | d :: ds => by
    have := depth_filter p ds
    by_cases c : p d = true
    · rw [List.filter_cons_of_pos c]
      simp only [PyData.depthAll]
      omega
    · rw [List.filter_cons_of_neg c]
      simp only [PyData.depthAll]
      omega
theorem eqv_nil : ∀ xs : List PD, PyData.eqv (.list xs) (.list []) = xs.isEmpty
  | [] => by simp [PyData.eqv, PyData.eqvAll]
  | x :: xs => by simp [PyData.eqv, PyData.eqvAll]
theorem run_law_is_basket (q : FSem) (hq : q.mu = false) (h : ∀ d, q.run [d] = some (.ret (.bool (isInt d)) false .none)) (d : PD) (hd : Dm d) : (s_law_is_basket [q]).run [d] = some (.ret (.bool (isB d)) false .none) := by
  cases d with
  | tuple ds =>
    by_cases h1 : 1 ≤ ds.length
    · by_cases h2 : ds.length ≤ 12
      · have hz : ds.length ≤ LIM := Nat.le_trans h2 (by decide)
        have i1 : (1 : Int) ≤ (ds.length : Int) := by omega
        have i2 : (ds.length : Int) ≤ 12 := by omega
        have e : evalE [q] c1_law_is_basket [some (.sh (.tuple ds)), none] = some (.ok (.list (ds.filter fun d => !btw 1 10000 d)) true [some (.sh (.tuple ds)), none]) := by
          have e := lc_map (tg := .nm 1) (cond := evalE [q] (.sc (.or (.not (.call 0 (.cons (.var 1) .nil))) (.not (.chain .LtE .LtE (.int 1) (.var 1) (.int 10000)))))) (elt := evalE [q] (.var 1)) (vs := [1]) (ρ := [some (.sh (.tuple ds)), none]) (fun d => d) (fun d => !btw 1 10000 d) (ds := ds) (acc := []) (fun d _ =>
            ⟨[some (.sh (.tuple ds)), some (.sh d)], false, [some (.sh (.tuple ds)), some (.sh d)], by simp [defSem, outF, envOf, evalSs, evalS, evalEs, evalI, evalFs, EO.binS, AO.binS, evalE, getC, EO.bind, AO.bind, EO.binA, AO.binA, retE, outE, outB, boolE, intE, isTy, cmpV, isScal, ixV, atD, ixOf, slV, Cell.dat, Cell.isMut, Cell.put, binV, nxO, setC, setCs, setT, setTs, mkC, stxV, callE, callmE, bltV, rngL, seqL, optI, isNop, augI, isL, Tg.slots, hidI, wipeC, backC], by
              cases d with
              | int i => by_cases z : 1 ≤ i <;> simp [defSem, outF, envOf, evalSs, evalS, evalEs, evalI, evalFs, EO.binS, AO.binS, evalE, getC, EO.bind, AO.bind, EO.binA, AO.binA, retE, outE, outB, boolE, intE, isTy, cmpV, isScal, ixV, atD, ixOf, slV, Cell.dat, Cell.isMut, Cell.put, binV, nxO, setC, setCs, setT, setTs, mkC, stxV, callE, callmE, bltV, rngL, seqL, optI, isNop, augI, isL, Tg.slots, hidI, wipeC, backC, hq, h, isInt, btw, z]
              | _ => simp [defSem, outF, envOf, evalSs, evalS, evalEs, evalI, evalFs, EO.binS, AO.binS, evalE, getC, EO.bind, AO.bind, EO.binA, AO.binA, retE, outE, outB, boolE, intE, isTy, cmpV, isScal, ixV, atD, ixOf, slV, Cell.dat, Cell.isMut, Cell.put, binV, nxO, setC, setCs, setT, setTs, mkC, stxV, callE, callmE, bltV, rngL, seqL, optI, isNop, augI, isL, Tg.slots, hidI, wipeC, backC, hq, h, isInt, btw], (fun _ => by simp [defSem, outF, envOf, evalSs, evalS, evalEs, evalI, evalFs, EO.binS, AO.binS, evalE, getC, EO.bind, AO.bind, EO.binA, AO.binA, retE, outE, outB, boolE, intE, isTy, cmpV, isScal, ixV, atD, ixOf, slV, Cell.dat, Cell.isMut, Cell.put, binV, nxO, setC, setCs, setT, setTs, mkC, stxV, callE, callmE, bltV, rngL, seqL, optI, isNop, augI, isL, Tg.slots, hidI, wipeC, backC]), fun _ => ⟨false, [some (.sh (.tuple ds)), some (.sh d)], by simp [defSem, outF, envOf, evalSs, evalS, evalEs, evalI, evalFs, EO.binS, AO.binS, evalE, getC, EO.bind, AO.bind, EO.binA, AO.binA, retE, outE, outB, boolE, intE, isTy, cmpV, isScal, ixV, atD, ixOf, slV, Cell.dat, Cell.isMut, Cell.put, binV, nxO, setC, setCs, setT, setTs, mkC, stxV, callE, callmE, bltV, rngL, seqL, optI, isNop, augI, isL, Tg.slots, hidI, wipeC, backC], by simp [defSem, outF, envOf, evalSs, evalS, evalEs, evalI, evalFs, EO.binS, AO.binS, evalE, getC, EO.bind, AO.bind, EO.binA, AO.binA, retE, outE, outB, boolE, intE, isTy, cmpV, isScal, ixV, atD, ixOf, slV, Cell.dat, Cell.isMut, Cell.put, binV, nxO, setC, setCs, setT, setTs, mkC, stxV, callE, callmE, bltV, rngL, seqL, optI, isNop, augI, isL, Tg.slots, hidI, wipeC, backC]⟩⟩)
          have em : (ds.filter fun d => !btw 1 10000 d).map (fun d => d) = ds.filter fun d => !btw 1 10000 d := by simp
          rw [em] at e
          exact ev_lc (ρ1 := [some (.sh (.tuple ds)), none]) (ρ2 := [some (.sh (.tuple ds)), none]) (by simp [defSem, outF, envOf, evalSs, evalS, evalEs, evalI, evalFs, EO.binS, AO.binS, evalE, getC, EO.bind, AO.bind, EO.binA, AO.binA, retE, outE, outB, boolE, intE, isTy, cmpV, isScal, ixV, atD, ixOf, slV, Cell.dat, Cell.isMut, Cell.put, binV, nxO, setC, setCs, setT, setTs, mkC, stxV, callE, callmE, bltV, rngL, seqL, optI, isNop, augI, isL, Tg.slots, hidI, wipeC, backC]) hz e
        have sh : shp (.list (ds.filter fun d => !btw 1 10000 d)) = true := by
          have a1 : PyData.canLayAll0 ds = true := by simpa [PyData.canLay0] using hd.1
          have a2 : PyData.depthAll ds + 1 ≤ 60 := by simpa [PyData.depth] using hd.2
          have a3 := depth_filter (fun d => !btw 1 10000 d) ds
          simp only [shp, SeqAt.shaped, PyData.canLay0, PyData.depth, Bool.and_eq_true, decide_eq_true_eq]
          exact ⟨lay_filter _ a1, decide_eq_true (Nat.le_trans (Nat.succ_le_succ a3) (by omega))⟩
        have eb : (ds.filter fun d => !btw 1 10000 d).isEmpty = ds.all (btw 1 10000) := by
          rw [Bool.eq_iff_iff, List.isEmpty_iff, List.filter_eq_nil_iff, List.all_eq_true]
          constructor
          · intro z x hx
            have := z x hx
            simpa using this
          · intro z x hx
            simpa using z x hx
        simp [s_law_is_basket, b_law_is_basket, defSem, outF, envOf, evalSs, evalS, evalEs, evalI, evalFs, EO.binS, AO.binS, evalE, getC, EO.bind, AO.bind, EO.binA, AO.binA, retE, outE, outB, boolE, intE, isTy, cmpV, isScal, ixV, atD, ixOf, slV, Cell.dat, Cell.isMut, Cell.put, binV, nxO, setC, setCs, setT, setTs, mkC, stxV, callE, callmE, bltV, rngL, seqL, optI, isNop, augI, isL, Tg.slots, hidI, wipeC, backC, i1, i2, e, sh, shp_nil, eqv_nil, eb, isB, h1, h2]
      · have i1 : (1 : Int) ≤ (ds.length : Int) := by omega
        have i2 : ¬ (ds.length : Int) ≤ 12 := by omega
        simp [s_law_is_basket, b_law_is_basket, defSem, outF, envOf, evalSs, evalS, evalEs, evalI, evalFs, EO.binS, AO.binS, evalE, getC, EO.bind, AO.bind, EO.binA, AO.binA, retE, outE, outB, boolE, intE, isTy, cmpV, isScal, ixV, atD, ixOf, slV, Cell.dat, Cell.isMut, Cell.put, binV, nxO, setC, setCs, setT, setTs, mkC, stxV, callE, callmE, bltV, rngL, seqL, optI, isNop, augI, isL, Tg.slots, hidI, wipeC, backC, i1, i2, isB, h1, h2]
    · have i1 : ¬ (1 : Int) ≤ (ds.length : Int) := by omega
      simp [s_law_is_basket, b_law_is_basket, defSem, outF, envOf, evalSs, evalS, evalEs, evalI, evalFs, EO.binS, AO.binS, evalE, getC, EO.bind, AO.bind, EO.binA, AO.binA, retE, outE, outB, boolE, intE, isTy, cmpV, isScal, ixV, atD, ixOf, slV, Cell.dat, Cell.isMut, Cell.put, binV, nxO, setC, setCs, setT, setTs, mkC, stxV, callE, callmE, bltV, rngL, seqL, optI, isNop, augI, isL, Tg.slots, hidI, wipeC, backC, i1, isB, h1]
  | _ => simp [s_law_is_basket, b_law_is_basket, defSem, outF, envOf, evalSs, evalS, evalEs, evalI, evalFs, EO.binS, AO.binS, evalE, getC, EO.bind, AO.bind, EO.binA, AO.binA, retE, outE, outB, boolE, intE, isTy, cmpV, isScal, ixV, atD, ixOf, slV, Cell.dat, Cell.isMut, Cell.put, binV, nxO, setC, setCs, setT, setTs, mkC, stxV, callE, callmE, bltV, rngL, seqL, optI, isNop, augI, isL, Tg.slots, hidI, wipeC, backC, isB]
/-! ### any value -/
def anyVals : List PD := [.none, .bool true, .str "", .str "x", .tuple [], .list [], .tuple [.tuple []], .int 7, .int (-1), .int (10 ^ 30), .tuple [.int 1, .int 2], .tuple [.tuple [.int 0], .tuple [.int 1]], .tuple [.tuple [.int 0, .int 1]], .tuple [.int 0, .int 0]]
theorem run_any {q : FSem} (hm : q.mu = true) {T : Int} {d : PD} (h : Src T d) (hT : T < 1000000000) (hq : ∀ ds : List PD, ds ≠ [] → ds.length ≤ 1000000 → ∃ x m, q.run [d, .list ds] = some (.ret x false m) ∧ x ∈ ds ∧ Src (T + 1) m) :
    ∃ x m, (s_law_any_value [q]).run [d] = some (.ret x false m) ∧ x ∈ anyVals ∧ Src (T + 1) m := by
  obtain ⟨x, m, e, hx, hm2⟩ := hq anyVals (by simp [anyVals]) (by simp [anyVals])
  refine ⟨x, m, ?_, hx, hm2⟩
  unfold anyVals at e
  simp [s_law_any_value, b_law_any_value, defSem, outF, envOf, evalSs, evalS, evalEs, evalI, evalFs, EO.binS, AO.binS, evalE, getC, EO.bind, AO.bind, EO.binA, AO.binA, retE, outE, outB, boolE, intE, isTy, cmpV, isScal, ixV, atD, ixOf, slV, Cell.dat, Cell.isMut, Cell.put, binV, nxO, setC, setCs, setT, setTs, mkC, stxV, callE, callmE, bltV, rngL, seqL, optI, isNop, augI, isL, Tg.slots, hidI, wipeC, backC, LIM, hm] at e ⊢
  simp [e]
/-! ### baskets drawn -/
def isBasket (bs : List Int) (n : Nat) : Prop := 1 ≤ bs.length ∧ bs.length ≤ n ∧ ∀ b ∈ bs, 1 ≤ b ∧ b ≤ 10000
theorem ints_of {xs : List PD} (h : ∀ x ∈ xs, ∃ i : Int, x = .int i ∧ 1 ≤ i ∧ i ≤ 10000) : ∃ bs : List Int, xs = ofInts bs ∧ ∀ b ∈ bs, 1 ≤ b ∧ b ≤ 10000 := by
  induction xs with
  | nil => exact ⟨[], rfl, fun b h => by cases h⟩
  | cons x xs ih =>
    obtain ⟨i, e, h1, h2⟩ := h x List.mem_cons_self
    obtain ⟨bs, e2, h3⟩ := ih fun y hy => h y (List.mem_cons_of_mem _ hy)
    refine ⟨i :: bs, by rw [e, e2]; rfl, fun b hb => ?_⟩
    rcases List.mem_cons.mp hb with rfl | hb
    · exact ⟨h1, h2⟩
    · exact h3 b hb
theorem run_basket {qc q : FSem} (D : Draws q) (hm : qc.mu = true) (hc : ∀ {T : Int} {d : PD}, Src T d → T < 1000000000 → ∀ ds : List PD, ds ≠ [] → ds.length ≤ 1000000 → ∃ x m, qc.run [d, .list ds] = some (.ret x false m) ∧ x ∈ ds ∧ Src (T + 1) m)
    {T : Int} {d : PD} (h : Src T d) (hT : T < 900000000) (n : Nat) (h1 : 1 ≤ n) (h2 : n ≤ 1000) : ∃ bs m, (s_law_basket [qc, q]).run [d, .int n] = some (.ret (.tuple (ofInts bs)) false m) ∧ isBasket bs n ∧ Src (T + 2 + n) m := by
  obtain ⟨x, m1, e1, hx, s1⟩ := hc h (by omega) [.int 3, .int 9, .int 60, .int 10000] (by simp) (by simp)
  obtain ⟨w, rfl, w1, w2⟩ : ∃ w : Int, x = .int w ∧ 0 < w ∧ w ≤ 10000 := by
    simp at hx
    rcases hx with rfl | rfl | rfl | rfl <;> exact ⟨_, rfl, by omega, by omega⟩
  obtain ⟨r, m2, e2, r1, r2, s2⟩ := D.run s1 (by omega) (n : Int) (by omega) (by omega)
  have hI : evalI [qc, q] (.rng (.cons (.bin .Add (.int 1) (.callm 1 0 (.cons (.var 1) .nil))) .nil)) [some (.bo m1), some (.sh (.int n)), some (.sh (.int w)), none] = some (.ok ((List.range (1 + r).toNat).map fun i => .int ((0 : Int) + (i : Nat))) [some (.bo m2), some (.sh (.int n)), some (.sh (.int w)), none]) := by
    have b1 : -(LIM : Int) ≤ 1 + r ∧ 1 + r ≤ LIM := by
      unfold LIM
      omega
    simp [defSem, outF, envOf, evalSs, evalS, evalEs, evalI, evalFs, EO.binS, AO.binS, evalE, getC, EO.bind, AO.bind, EO.binA, AO.binA, retE, outE, outB, boolE, intE, isTy, cmpV, isScal, ixV, atD, ixOf, slV, Cell.dat, Cell.isMut, Cell.put, binV, nxO, setC, setCs, setT, setTs, mkC, stxV, callE, callmE, bltV, rngL, seqL, optI, isNop, augI, isL, Tg.slots, hidI, wipeC, backC, D.mu, e2, b1.1, b1.2]
  have len : ((List.range (1 + r).toNat).map fun i => PyData.int ((0 : Int) + (i : Nat))).length = (1 + r).toNat := by simp
  obtain ⟨xs, ρ', e3, hl, hp, d3, hρ, s3⟩ := lc_st (tg := .nm 3) (cond := evalE [qc, q] (.bl true)) (elt := evalE [qc, q] (.bin .Add (.int 1) (.callm 1 0 (.cons (.var 2) .nil)))) (vs := [3]) (acc := [])
    (fun k ρ => ∃ d, ρ = [some (.bo d), some (.sh (.int n)), some (.sh (.int w)), none] ∧ Src (T + 2 + k) d) (fun x => ∃ i : Int, x = .int i ∧ 1 ≤ i ∧ i ≤ 10000) n (ds := (List.range (1 + r).toNat).map fun i => PyData.int ((0 : Int) + (i : Nat))) (n := 0) (ρ := [some (.bo m2), some (.sh (.int n)), some (.sh (.int w)), none])
    (by rw [len]; omega) (fun y hy k ρ hk ⟨d, hρ, sd⟩ => by
      obtain ⟨r3, m3, e4, r4, r5, s4⟩ := D.run sd (by omega) w w1 (by omega)
      subst hρ
      refine ⟨[some (.bo d), some (.sh (.int n)), some (.sh (.int w)), some (.sh y)], false, [some (.bo d), some (.sh (.int n)), some (.sh (.int w)), some (.sh y)], .int (1 + r3), false, [some (.bo m3), some (.sh (.int n)), some (.sh (.int w)), some (.sh y)], by simp [defSem, outF, envOf, evalSs, evalS, evalEs, evalI, evalFs, EO.binS, AO.binS, evalE, getC, EO.bind, AO.bind, EO.binA, AO.binA, retE, outE, outB, boolE, intE, isTy, cmpV, isScal, ixV, atD, ixOf, slV, Cell.dat, Cell.isMut, Cell.put, binV, nxO, setC, setCs, setT, setTs, mkC, stxV, callE, callmE, bltV, rngL, seqL, optI, isNop, augI, isL, Tg.slots, hidI, wipeC, backC], by simp [defSem, outF, envOf, evalSs, evalS, evalEs, evalI, evalFs, EO.binS, AO.binS, evalE, getC, EO.bind, AO.bind, EO.binA, AO.binA, retE, outE, outB, boolE, intE, isTy, cmpV, isScal, ixV, atD, ixOf, slV, Cell.dat, Cell.isMut, Cell.put, binV, nxO, setC, setCs, setT, setTs, mkC, stxV, callE, callmE, bltV, rngL, seqL, optI, isNop, augI, isL, Tg.slots, hidI, wipeC, backC], by simp [defSem, outF, envOf, evalSs, evalS, evalEs, evalI, evalFs, EO.binS, AO.binS, evalE, getC, EO.bind, AO.bind, EO.binA, AO.binA, retE, outE, outB, boolE, intE, isTy, cmpV, isScal, ixV, atD, ixOf, slV, Cell.dat, Cell.isMut, Cell.put, binV, nxO, setC, setCs, setT, setTs, mkC, stxV, callE, callmE, bltV, rngL, seqL, optI, isNop, augI, isL, Tg.slots, hidI, wipeC, backC, D.mu, e4], ⟨1 + r3, rfl, by omega, by omega⟩, m3, by simp [defSem, outF, envOf, evalSs, evalS, evalEs, evalI, evalFs, EO.binS, AO.binS, evalE, getC, EO.bind, AO.bind, EO.binA, AO.binA, retE, outE, outB, boolE, intE, isTy, cmpV, isScal, ixV, atD, ixOf, slV, Cell.dat, Cell.isMut, Cell.put, binV, nxO, setC, setCs, setT, setTs, mkC, stxV, callE, callmE, bltV, rngL, seqL, optI, isNop, augI, isL, Tg.slots, hidI, wipeC, backC], ?_⟩
      have : T + 2 + (((k + 1 : Nat)) : Int) = T + 2 + (k : Int) + 1 := by omega
      rw [this]
      exact s4) ⟨m2, rfl, by simpa using s2.up (by omega)⟩
  subst hρ
  obtain ⟨bs, eb, hb⟩ := ints_of hp
  rw [List.nil_append] at e3
  have lb : xs.length = bs.length := by
    rw [eb]
    simp [ofInts]
  have lx : bs.length = (1 + r).toNat := by rw [← lb, hl, len]
  have ec : evalE [qc, q] c1_law_basket [some (.bo m1), some (.sh (.int n)), some (.sh (.int w)), none] = some (.ok (.list xs) true [some (.bo d3), some (.sh (.int n)), some (.sh (.int w)), none]) := by
    have := ev_lc (cs := [qc, q]) (it := .rng (.cons (.bin .Add (.int 1) (.callm 1 0 (.cons (.var 1) .nil))) .nil)) hI (by rw [len]; unfold LIM; omega) e3
    exact this
  refine ⟨bs, d3, ?_, ⟨by omega, by omega, hb⟩, s3.up (by rw [len]; omega)⟩
  rw [← eb]
  simp [s_law_basket, b_law_basket, defSem, outF, envOf, evalSs, evalS, evalEs, evalI, evalFs, EO.binS, AO.binS, evalE, getC, EO.bind, AO.bind, EO.binA, AO.binA, retE, outE, outB, boolE, intE, isTy, cmpV, isScal, ixV, atD, ixOf, slV, Cell.dat, Cell.isMut, Cell.put, binV, nxO, setC, setCs, setT, setTs, mkC, stxV, callE, callmE, bltV, rngL, seqL, optI, isNop, augI, isL, Tg.slots, hidI, wipeC, backC, LIM, hm, e1, ec]
end DD

-- part DSpec3
set_option Elab.async false
set_option linter.all false
set_option maxRecDepth 100000
set_option maxHeartbeats 4000000
/-! What the defs of the laws compute: the row. -/
namespace DD
open DD.P PySem
/-! ### the row in plain Lean -/
/-- prices with their places, turned round -/
def np (k : Nat) : List Int → List (Int × Int)
  | [] => []
  | b :: r => (-b, (k : Int)) :: np (k + 1) r
def rowOf (bs : List Int) : List Int := (sortP (np 0 bs)).map (·.2)
theorem np_len : ∀ (bs : List Int) (k : Nat), (np k bs).length = bs.length
  | [], _ => rfl
  | b :: r, k => by
    rw [np, List.length_cons, List.length_cons, np_len r]
theorem np_mem : ∀ {bs : List Int} {k : Nat} {p : Int × Int}, p ∈ np k bs → ∃ (i : Nat) (b : Int), bs[i]? = some b ∧ p = (-b, ((k + i : Nat) : Int))
  | b :: r, k, p, h => by
    rw [np] at h
    rcases List.mem_cons.mp h with rfl | h
    · exact ⟨0, b, rfl, rfl⟩
    · obtain ⟨i, c, h1, h2⟩ := np_mem h
      refine ⟨i + 1, c, by simpa using h1, ?_⟩
      rw [h2]
      have : k + 1 + i = k + (i + 1) := by omega
      rw [this]
  | [], _, _, h => by cases h
theorem np_snd : ∀ (bs : List Int) (k : Nat), (np k bs).map (·.2) = (List.range' k bs.length).map fun i => ((i : Nat) : Int)
  | [], _ => rfl
  | b :: r, k => by
    rw [np, List.map_cons, List.length_cons, List.range'_succ, List.map_cons, np_snd r]
theorem row_len (bs : List Int) : (rowOf bs).length = bs.length := by
  unfold rowOf
  rw [List.length_map, (sortP_perm _).length_eq, np_len]
theorem row_perm (bs : List Int) : (rowOf bs).Perm ((List.range bs.length).map fun i => ((i : Nat) : Int)) := by
  have h := (sortP_perm (np 0 bs)).map (·.2)
  rw [np_snd, ← List.range_eq_range'] at h
  exact h
theorem range_sorted (n : Nat) : ((List.range n).map fun i => ((i : Nat) : Int)).Pairwise (· ≤ ·) :=
  List.pairwise_map.mpr (List.pairwise_lt_range.imp fun h => by omega)
theorem row_sort (bs : List Int) : sortI (rowOf bs) = (List.range bs.length).map fun i => ((i : Nat) : Int) :=
  (sortI_one (row_perm bs).symm (range_sorted _)).symm
/-- what stands ahead in the row -/
theorem row_next {bs : List Int} {i : Nat} (h : i + 1 < (rowOf bs).length) : ∃ (j k : Nat) (x y : Int), (rowOf bs)[i]? = some (j : Int) ∧ (rowOf bs)[i + 1]? = some (k : Int) ∧ bs[j]? = some x ∧ bs[k]? = some y ∧ (y < x ∨ (x = y ∧ j ≤ k)) := by
  have hl : (sortP (np 0 bs)).length = (rowOf bs).length := by
    unfold rowOf
    rw [List.length_map]
  have h1 : i < (sortP (np 0 bs)).length := by omega
  have h2 : i + 1 < (sortP (np 0 bs)).length := by omega
  obtain ⟨j, x, hx, ex⟩ := np_mem ((sortP_perm _).mem_iff.mp (List.getElem_mem h1))
  obtain ⟨k, y, hy, ey⟩ := np_mem ((sortP_perm _).mem_iff.mp (List.getElem_mem h2))
  have le := List.pairwise_iff_getElem.mp (sortP_sorted (np 0 bs)) i (i + 1) h1 h2 (Nat.lt_succ_self i)
  rw [ex, ey] at le
  rw [Nat.zero_add] at ex ey
  refine ⟨j, k, x, y, ?_, ?_, hx, hy, ?_⟩
  · unfold rowOf
    rw [List.getElem?_map, List.getElem?_eq_getElem h1, ex]
    rfl
  · unfold rowOf
    rw [List.getElem?_map, List.getElem?_eq_getElem h2, ey]
    rfl
  · have le' : -x < -y ∨ (-x = -y ∧ ((0 + j : Nat) : Int) ≤ ((0 + k : Nat) : Int)) := le
    omega
/-! ### row_of -/
theorem pairs_map : ∀ ps : List (Int × Int), pairs? (ps.map ofPair) = some ps
  | [] => rfl
  | p :: ps => by
    show (pairs? (ps.map ofPair)).map ((p.1, p.2) :: ·) = _
    rw [pairs_map ps]
    rfl
theorem ints_map : ∀ is : List Int, ints? (ofInts is) = some is
  | [] => rfl
  | i :: is => by
    show (ints? (ofInts is)).map (i :: ·) = _
    rw [ints_map is]
    rfl
theorem ints_no {p : Int × Int} {ps : List (Int × Int)} : ints? ((p :: ps).map ofPair) = none := rfl
/-- as enumerate gives it -/
def enuL (xs : List PD) : List PD := (List.range xs.length).zipWith (fun (i : Nat) y => .tuple [.int ((i : Nat) : Int), y]) xs
def swapP : PD → PD
  | .tuple [.int i, .int b] => .tuple [.int (-b), .int i]
  | d => d
theorem enu_ints (bs : List Int) : ∀ k : Nat, ((List.range' k bs.length).zipWith (fun (i : Nat) y => PyData.tuple [.int ((i : Nat) : Int), y]) (ofInts bs)).map swapP = (np k bs).map ofPair := by
  induction bs with
  | nil => intro k; rfl
  | cons b r ih =>
    intro k
    rw [List.length_cons, List.range'_succ]
    show swapP (.tuple [.int (k : Int), .int b]) :: _ = ofPair (-b, (k : Int)) :: _
    rw [← ih (k + 1)]
    rfl
theorem enu_mem {bs : List Int} {d : PD} (h : d ∈ enuL (ofInts bs)) : ∃ (i : Nat) (b : Int), d = .tuple [.int (i : Int), .int b] ∧ bs[i]? = some b := by
  obtain ⟨j, hj⟩ := List.mem_iff_getElem?.mp h
  obtain ⟨e, he, rfl⟩ := getE0 hj
  unfold ofInts at he
  rw [List.getElem?_map] at he
  cases hb : bs[j]? with
  | none => simp [hb] at he
  | some b =>
    simp [hb] at he
    exact ⟨j, b, by rw [← he], hb⟩
theorem len_ofInts (is : List Int) : (ofInts is).length = is.length := by simp [ofInts]
theorem run_row_of (bs : List Int) (h1 : 1 ≤ bs.length) (h2 : bs.length ≤ 1000) : (s_row_of []).run [.tuple (ofInts bs)] = some (.ret (.tuple (ofInts (rowOf bs))) false .none) := by
  have le : (enuL (ofInts bs)).length = bs.length := by simp [enuL, ofInts]
  have e1 : evalE [] c1_row_of [some (.sh (.tuple (ofInts bs))), none, none, none] = some (.ok (.list ((np 0 bs).map ofPair)) true [some (.sh (.tuple (ofInts bs))), none, none, none]) := by
    have e := lc_map (tg := .tp [2, 3]) (cond := evalE [] (.bl true)) (elt := evalE [] (.tup (.cons (.neg (.var 3)) (.cons (.var 2) .nil)))) (vs := [2, 3]) (ρ := [some (.sh (.tuple (ofInts bs))), none, none, none]) swapP (fun _ => true) (ds := enuL (ofInts bs)) (acc := []) (fun d hd => by
      obtain ⟨i, b, rfl, _⟩ := enu_mem hd
      exact ⟨[some (.sh (.tuple (ofInts bs))), none, some (.sh (.int i)), some (.sh (.int b))], false, [some (.sh (.tuple (ofInts bs))), none, some (.sh (.int i)), some (.sh (.int b))], by simp [defSem, outF, envOf, evalSs, evalS, evalEs, evalI, evalFs, EO.binS, AO.binS, evalE, getC, EO.bind, AO.bind, EO.binA, AO.binA, retE, outE, outB, boolE, intE, isTy, cmpV, isScal, ixV, atD, ixOf, slV, Cell.dat, Cell.isMut, Cell.put, binV, nxO, setC, setCs, setT, setTs, mkC, stxV, callE, callmE, bltV, rngL, seqL, optI, isNop, augI, isL, Tg.slots, hidI, wipeC, backC], by simp [defSem, outF, envOf, evalSs, evalS, evalEs, evalI, evalFs, EO.binS, AO.binS, evalE, getC, EO.bind, AO.bind, EO.binA, AO.binA, retE, outE, outB, boolE, intE, isTy, cmpV, isScal, ixV, atD, ixOf, slV, Cell.dat, Cell.isMut, Cell.put, binV, nxO, setC, setCs, setT, setTs, mkC, stxV, callE, callmE, bltV, rngL, seqL, optI, isNop, augI, isL, Tg.slots, hidI, wipeC, backC], (fun z => by cases z), fun _ => ⟨false, [some (.sh (.tuple (ofInts bs))), none, some (.sh (.int i)), some (.sh (.int b))], by simp [defSem, outF, envOf, evalSs, evalS, evalEs, evalI, evalFs, EO.binS, AO.binS, evalE, getC, EO.bind, AO.bind, EO.binA, AO.binA, retE, outE, outB, boolE, intE, isTy, cmpV, isScal, ixV, atD, ixOf, slV, Cell.dat, Cell.isMut, Cell.put, binV, nxO, setC, setCs, setT, setTs, mkC, stxV, callE, callmE, bltV, rngL, seqL, optI, isNop, augI, isL, Tg.slots, hidI, wipeC, backC, LIM, swapP], by simp [defSem, outF, envOf, evalSs, evalS, evalEs, evalI, evalFs, EO.binS, AO.binS, evalE, getC, EO.bind, AO.bind, EO.binA, AO.binA, retE, outE, outB, boolE, intE, isTy, cmpV, isScal, ixV, atD, ixOf, slV, Cell.dat, Cell.isMut, Cell.put, binV, nxO, setC, setCs, setT, setTs, mkC, stxV, callE, callmE, bltV, rngL, seqL, optI, isNop, augI, isL, Tg.slots, hidI, wipeC, backC]⟩⟩)
    have ef : (enuL (ofInts bs)).filter (fun _ => true) = enuL (ofInts bs) := by simp
    have em : (enuL (ofInts bs)).map swapP = (np 0 bs).map ofPair := by
      unfold enuL
      rw [len_ofInts, List.range_eq_range']
      exact enu_ints bs 0
    rw [ef, em, List.nil_append] at e
    exact ev_lc (it := .enu (.var 0)) (ρ1 := [some (.sh (.tuple (ofInts bs))), none, none, none]) (by simp [defSem, outF, envOf, evalSs, evalS, evalEs, evalI, evalFs, EO.binS, AO.binS, evalE, getC, EO.bind, AO.bind, EO.binA, AO.binA, retE, outE, outB, boolE, intE, isTy, cmpV, isScal, ixV, atD, ixOf, slV, Cell.dat, Cell.isMut, Cell.put, binV, nxO, setC, setCs, setT, setTs, mkC, stxV, callE, callmE, bltV, rngL, seqL, optI, isNop, augI, isL, Tg.slots, hidI, wipeC, backC, enuL]) (by rw [le]; unfold LIM; omega) e
  have ne : np 0 bs ≠ [] := fun z => by
    have := np_len bs 0
    rw [z] at this
    simp at this
    omega
  obtain ⟨p0, ps0, ep⟩ := List.exists_cons_of_ne_nil ne
  have es : bltV .sorted [.list ((np 0 bs).map ofPair)] = some (.list ((sortP (np 0 bs)).map ofPair), true) := by
    have i0 : ints? ((np 0 bs).map ofPair) = none := by
      rw [ep]
      rfl
    have hl : ((np 0 bs).map ofPair).length ≤ LIM := by
      rw [List.length_map, np_len]
      unfold LIM
      omega
    simp only [bltV, i0, pairs_map, hl, if_true]
  have ls : ((sortP (np 0 bs)).map ofPair).length = bs.length := by
    rw [List.length_map, (sortP_perm _).length_eq, np_len]
  have e2 : evalE [] c2_row_of [some (.sh (.tuple (ofInts bs))), none, none, none] = some (.ok (.list (ofInts (rowOf bs))) true [some (.sh (.tuple (ofInts bs))), none, none, none]) := by
    have e := lc_map (tg := .tp [1, 2]) (cond := evalE [] (.bl true)) (elt := evalE [] (.var 2)) (vs := [1, 2]) (ρ := [some (.sh (.tuple (ofInts bs))), none, none, none]) (fun d => match d with | .tuple [_, x] => x | d => d) (fun _ => true) (ds := (sortP (np 0 bs)).map ofPair) (acc := []) (fun d hd => by
      obtain ⟨p, _, rfl⟩ := List.mem_map.mp hd
      exact ⟨[some (.sh (.tuple (ofInts bs))), some (.sh (.int p.1)), some (.sh (.int p.2)), none], false, [some (.sh (.tuple (ofInts bs))), some (.sh (.int p.1)), some (.sh (.int p.2)), none], by simp [defSem, outF, envOf, evalSs, evalS, evalEs, evalI, evalFs, EO.binS, AO.binS, evalE, getC, EO.bind, AO.bind, EO.binA, AO.binA, retE, outE, outB, boolE, intE, isTy, cmpV, isScal, ixV, atD, ixOf, slV, Cell.dat, Cell.isMut, Cell.put, binV, nxO, setC, setCs, setT, setTs, mkC, stxV, callE, callmE, bltV, rngL, seqL, optI, isNop, augI, isL, Tg.slots, hidI, wipeC, backC, ofPair], by simp [defSem, outF, envOf, evalSs, evalS, evalEs, evalI, evalFs, EO.binS, AO.binS, evalE, getC, EO.bind, AO.bind, EO.binA, AO.binA, retE, outE, outB, boolE, intE, isTy, cmpV, isScal, ixV, atD, ixOf, slV, Cell.dat, Cell.isMut, Cell.put, binV, nxO, setC, setCs, setT, setTs, mkC, stxV, callE, callmE, bltV, rngL, seqL, optI, isNop, augI, isL, Tg.slots, hidI, wipeC, backC], (fun z => by cases z), fun _ => ⟨false, [some (.sh (.tuple (ofInts bs))), some (.sh (.int p.1)), some (.sh (.int p.2)), none], by simp [defSem, outF, envOf, evalSs, evalS, evalEs, evalI, evalFs, EO.binS, AO.binS, evalE, getC, EO.bind, AO.bind, EO.binA, AO.binA, retE, outE, outB, boolE, intE, isTy, cmpV, isScal, ixV, atD, ixOf, slV, Cell.dat, Cell.isMut, Cell.put, binV, nxO, setC, setCs, setT, setTs, mkC, stxV, callE, callmE, bltV, rngL, seqL, optI, isNop, augI, isL, Tg.slots, hidI, wipeC, backC, ofPair], by simp [defSem, outF, envOf, evalSs, evalS, evalEs, evalI, evalFs, EO.binS, AO.binS, evalE, getC, EO.bind, AO.bind, EO.binA, AO.binA, retE, outE, outB, boolE, intE, isTy, cmpV, isScal, ixV, atD, ixOf, slV, Cell.dat, Cell.isMut, Cell.put, binV, nxO, setC, setCs, setT, setTs, mkC, stxV, callE, callmE, bltV, rngL, seqL, optI, isNop, augI, isL, Tg.slots, hidI, wipeC, backC]⟩⟩)
    have ef : ((sortP (np 0 bs)).map ofPair).filter (fun _ => true) = (sortP (np 0 bs)).map ofPair := by simp
    have em : (((sortP (np 0 bs)).map ofPair).map fun d => match d with | .tuple [_, x] => x | d => d) = ofInts (rowOf bs) := by
      unfold ofInts rowOf
      rw [List.map_map, List.map_map]
      rfl
    rw [ef, em, List.nil_append] at e
    refine ev_lc (it := .seq (.blt .sorted (.cons c1_row_of .nil))) (ρ1 := [some (.sh (.tuple (ofInts bs))), none, none, none]) ?_ (by rw [ls]; unfold LIM; omega) e
    have ea : evalEs [] (.cons c1_row_of .nil) [some (.sh (.tuple (ofInts bs))), none, none, none] = some (.ok [.list ((np 0 bs).map ofPair)] [some (.sh (.tuple (ofInts bs))), none, none, none]) := by
      show EO.binA (evalE [] c1_row_of _) _ = _
      rw [e1]
      rfl
    show EO.binA (AO.bind (evalEs [] (.cons c1_row_of .nil) _) _) _ = _
    rw [ea]
    show EO.binA (outE _ (bltV .sorted [.list ((np 0 bs).map ofPair)])) _ = _
    rw [es]
    rfl
  simp [s_row_of, b_row_of, defSem, outF, envOf, evalSs, evalS, evalEs, evalI, evalFs, EO.binS, AO.binS, evalE, getC, EO.bind, AO.bind, EO.binA, AO.binA, retE, outE, outB, boolE, intE, isTy, cmpV, isScal, ixV, atD, ixOf, slV, Cell.dat, Cell.isMut, Cell.put, binV, nxO, setC, setCs, setT, setTs, mkC, stxV, callE, callmE, bltV, rngL, seqL, optI, isNop, augI, isL, Tg.slots, hidI, wipeC, backC, e2]
theorem run_row (qc qr : FSem) (mc : qc.mu = false) (mr : qr.mu = false) (bs : List Int) (hc : qc.run [.tuple (ofInts bs)] = some (.ret .none false .none)) (hr : qr.run [.tuple (ofInts bs)] = some (.ret (.tuple (ofInts (rowOf bs))) false .none)) : (s_row [qc, qr]).run [.tuple (ofInts bs)] = some (.ret (.tuple (ofInts (rowOf bs))) false .none) := by
  simp [s_row, b_row, defSem, outF, envOf, evalSs, evalS, evalEs, evalI, evalFs, EO.binS, AO.binS, evalE, getC, EO.bind, AO.bind, EO.binA, AO.binA, retE, outE, outB, boolE, intE, isTy, cmpV, isScal, ixV, atD, ixOf, slV, Cell.dat, Cell.isMut, Cell.put, binV, nxO, setC, setCs, setT, setTs, mkC, stxV, callE, callmE, bltV, rngL, seqL, optI, isNop, augI, isL, Tg.slots, hidI, wipeC, backC, mc, mr, hc, hr]
theorem isB_ints {bs : List Int} (h1 : 1 ≤ bs.length) (h2 : bs.length ≤ 12) (h3 : ∀ b ∈ bs, 1 ≤ b ∧ b ≤ 10000) : isB (.tuple (ofInts bs)) = true := by
  simp only [isB, len_ofInts, Bool.and_eq_true, decide_eq_true_eq, List.all_eq_true]
  refine ⟨⟨h1, h2⟩, fun x hx => ?_⟩
  obtain ⟨b, hb, rfl⟩ := List.mem_map.mp hx
  have := h3 b hb
  simp [btw, this.1, this.2]
end DD

-- part DSpec4
set_option Elab.async false
set_option linter.all false
set_option maxRecDepth 100000
set_option maxHeartbeats 4000000
/-! What the defs of the laws compute: corrupted values. -/
namespace DD
open DD.P PySem
def scB (B : Nat) : PD → Prop
  | .none => True
  | .bool _ => True
  | .str z => PyData.strOk z = true
  | .int i => i.natAbs ≤ B
  | _ => False
def cB (B L : Nat) (d : PD) : Prop := scB B d ∨ ∃ ds, (d = .list ds ∨ d = .tuple ds) ∧ ds.length ≤ L ∧ ∀ x ∈ ds, scB B x
theorem ofString_ok (s : String) : PyData.strOk (Str.ofString s) = true := by
  unfold PyData.strOk
  rw [Str.ofString_eq_toList]
  simp only [List.all_toArray, List.all_map, List.all_eq_true, Function.comp_apply, decide_eq_true_eq]
  intro c _
  have := c.valid
  have e : c.toNat = c.val.toNat := rfl
  rcases this with h | h
  · have : c.val.toNat < 0xd800 := h
    omega
  · have : c.val.toNat < 0x110000 := h.2
    omega
theorem scB.up {B C : Nat} {d : PD} (h : scB B d) (le : B ≤ C) : scB C d := by
  cases d <;> simp only [scB] at h ⊢
  · exact Nat.le_trans h le
  · exact h
theorem log_small {n : Nat} (h : n ≤ 1000000000) : n.log2 < 1920 := by
  by_cases h0 : n = 0
  · subst h0
    decide
  · rw [Nat.log2_lt h0]
    exact Nat.lt_of_le_of_lt h (by decide)
theorem run_mu {n ar : Nat} {cs : List FSem} {b : Ss} {ds : List PD} {x m : PD} {fr : Bool} {ρ' : Env} (hl : ds.length = ar) (h : evalSs cs b (envOf true ds n) = some (.rt x fr ρ')) (hm : getC ρ' 0 = some (.bo m)) : (defSem true ar n cs b).run ds = some (.ret x fr m) := by
  show (if ds.length = ar then outF true (evalSs cs b (envOf true ds n)) else none) = _
  rw [if_pos hl, h]
  simp only [outF, hm, if_true]
abbrev cEnv (s d : PD) : Env := [some (.bo s), some (.sh d), none, none, none]
theorem run_corrupt_sc {qd qr : FSem} (D : Draws qd) {T : Int} {s : PD} (h : Src T s) (hT : T < 1000000000) {B : Nat} (hB : B ≤ 900000000) {d : PD} (hd : scB B d) :
    ∃ x m, (s_law_corrupt [qd, qr]).run [s, d] = some (.ret x false m) ∧ scB (B + 10001) x ∧ Src (T + 1) m := by
  have pick : ∀ (k : Nat) (a : E) (L : List PD), 0 < k → k < 1000 → L.length = k → evalE [qd, qr] a (cEnv s d) = some (.ok (.list L) true (cEnv s d)) → ∃ x ∈ L, ∃ m, Src (T + 1) m ∧ evalS [qd, qr] (.ret (.ix a (.callm 0 0 (.cons (.int k) .nil)))) (cEnv s d) = some (.rt x false (cEnv m d)) := fun k a L k0 k1 hL ha => by
    obtain ⟨r, m, e, r0, r1, sm⟩ := D.run h hT (k : Int) (by omega) (by omega)
    obtain ⟨x, hx, ex⟩ := ev_pick (cs := [qd, qr]) (i := .callm 0 0 (.cons (.int k) .nil)) (ρ2 := cEnv m d) ha (r := r) (f2 := false) (by simp [defSem, outF, envOf, evalSs, evalS, evalEs, evalI, evalFs, EO.binS, AO.binS, evalE, getC, EO.bind, AO.bind, EO.binA, AO.binA, retE, outE, outB, boolE, intE, isTy, cmpV, isScal, ixV, atD, ixOf, slV, Cell.dat, Cell.isMut, Cell.put, binV, nxO, setC, setCs, setT, setTs, mkC, stxV, callE, callmE, bltV, rngL, seqL, optI, isNop, augI, isL, Tg.slots, hidI, wipeC, backC, D.mu, e]) r0 (by rw [hL]; exact r1)
    exact ⟨x, hx, m, sm, go_ret ex⟩
  have fin : ∀ {x m : PD}, evalSs [qd, qr] b_law_corrupt (cEnv s d) = some (.rt x false (cEnv m d)) → (s_law_corrupt [qd, qr]).run [s, d] = some (.ret x false m) := fun {x m} e => run_mu (ρ' := cEnv m d) rfl e rfl
  cases d with
  | int i =>
    have hi : i.natAbs ≤ B := hd
    have lg : i.natAbs.log2 < 1920 := log_small (by omega)
    obtain ⟨x, hx, m, sm, e⟩ := pick 7 (.lst (.cons (.bin .Add (.var 1) (.int 1)) (.cons (.bin .Sub (.var 1) (.int 1)) (.cons (.bl true) (.cons .non (.cons (.int 0) (.cons (.int 10001) (.cons (.blt .str (.cons (.var 1) .nil)) .nil)))))))) [.int (i + 1), .int (i - 1), .bool true, .none, .int 0, .int 10001, .str (toString i : String)] (by omega) (by omega) rfl (by simp [defSem, outF, envOf, evalSs, evalS, evalEs, evalI, evalFs, EO.binS, AO.binS, evalE, getC, EO.bind, AO.bind, EO.binA, AO.binA, retE, outE, outB, boolE, intE, isTy, cmpV, isScal, ixV, atD, ixOf, slV, Cell.dat, Cell.isMut, Cell.put, binV, nxO, setC, setCs, setT, setTs, mkC, stxV, callE, callmE, bltV, rngL, seqL, optI, isNop, augI, isL, Tg.slots, hidI, wipeC, backC, lg, LIM])
    refine ⟨x, m, fin ?_, ?_, sm⟩
    · unfold b_law_corrupt
      rw [go_nx (ρ1 := cEnv s (.int i)) (by simp [defSem, outF, envOf, evalSs, evalS, evalEs, evalI, evalFs, EO.binS, AO.binS, evalE, getC, EO.bind, AO.bind, EO.binA, AO.binA, retE, outE, outB, boolE, intE, isTy, cmpV, isScal, ixV, atD, ixOf, slV, Cell.dat, Cell.isMut, Cell.put, binV, nxO, setC, setCs, setT, setTs, mkC, stxV, callE, callmE, bltV, rngL, seqL, optI, isNop, augI, isL, Tg.slots, hidI, wipeC, backC]), go_nx (ρ1 := cEnv s (.int i)) (by simp [defSem, outF, envOf, evalSs, evalS, evalEs, evalI, evalFs, EO.binS, AO.binS, evalE, getC, EO.bind, AO.bind, EO.binA, AO.binA, retE, outE, outB, boolE, intE, isTy, cmpV, isScal, ixV, atD, ixOf, slV, Cell.dat, Cell.isMut, Cell.put, binV, nxO, setC, setCs, setT, setTs, mkC, stxV, callE, callmE, bltV, rngL, seqL, optI, isNop, augI, isL, Tg.slots, hidI, wipeC, backC])]
      refine go_rt ?_
      rw [go_if (k := true) (fr := false) (ρ1 := cEnv s (.int i)) (by simp [defSem, outF, envOf, evalSs, evalS, evalEs, evalI, evalFs, EO.binS, AO.binS, evalE, getC, EO.bind, AO.bind, EO.binA, AO.binA, retE, outE, outB, boolE, intE, isTy, cmpV, isScal, ixV, atD, ixOf, slV, Cell.dat, Cell.isMut, Cell.put, binV, nxO, setC, setCs, setT, setTs, mkC, stxV, callE, callmE, bltV, rngL, seqL, optI, isNop, augI, isL, Tg.slots, hidI, wipeC, backC]), if_pos rfl]
      exact go_rt e
    · simp at hx
      rcases hx with rfl | rfl | rfl | rfl | rfl | rfl | rfl
      · show (i + 1).natAbs ≤ B + 10001
        omega
      · show (i - 1).natAbs ≤ B + 10001
        omega
      · trivial
      · trivial
      · show (0 : Int).natAbs ≤ B + 10001
        omega
      · show (10001 : Int).natAbs ≤ B + 10001
        omega
      · exact ofString_ok _
  | bool b =>
    obtain ⟨x, hx, m, sm, e⟩ := pick 7 (.lst (.cons (.bin .Add (.var 1) (.int 1)) (.cons (.bin .Sub (.var 1) (.int 1)) (.cons (.bl true) (.cons .non (.cons (.int 0) (.cons (.int 10001) (.cons (.blt .str (.cons (.var 1) .nil)) .nil)))))))) [.int ((if b = true then 1 else 0) + 1), .int ((if b = true then 1 else 0) - 1), .bool true, .none, .int 0, .int 10001, .str (if b then "True" else "False")] (by omega) (by omega) rfl (by simp [defSem, outF, envOf, evalSs, evalS, evalEs, evalI, evalFs, EO.binS, AO.binS, evalE, getC, EO.bind, AO.bind, EO.binA, AO.binA, retE, outE, outB, boolE, intE, isTy, cmpV, isScal, ixV, atD, ixOf, slV, Cell.dat, Cell.isMut, Cell.put, binV, nxO, setC, setCs, setT, setTs, mkC, stxV, callE, callmE, bltV, rngL, seqL, optI, isNop, augI, isL, Tg.slots, hidI, wipeC, backC, LIM])
    refine ⟨x, m, fin ?_, ?_, sm⟩
    · unfold b_law_corrupt
      rw [go_nx (ρ1 := cEnv s (.bool b)) (by simp [defSem, outF, envOf, evalSs, evalS, evalEs, evalI, evalFs, EO.binS, AO.binS, evalE, getC, EO.bind, AO.bind, EO.binA, AO.binA, retE, outE, outB, boolE, intE, isTy, cmpV, isScal, ixV, atD, ixOf, slV, Cell.dat, Cell.isMut, Cell.put, binV, nxO, setC, setCs, setT, setTs, mkC, stxV, callE, callmE, bltV, rngL, seqL, optI, isNop, augI, isL, Tg.slots, hidI, wipeC, backC]), go_nx (ρ1 := cEnv s (.bool b)) (by simp [defSem, outF, envOf, evalSs, evalS, evalEs, evalI, evalFs, EO.binS, AO.binS, evalE, getC, EO.bind, AO.bind, EO.binA, AO.binA, retE, outE, outB, boolE, intE, isTy, cmpV, isScal, ixV, atD, ixOf, slV, Cell.dat, Cell.isMut, Cell.put, binV, nxO, setC, setCs, setT, setTs, mkC, stxV, callE, callmE, bltV, rngL, seqL, optI, isNop, augI, isL, Tg.slots, hidI, wipeC, backC])]
      refine go_rt ?_
      rw [go_if (k := true) (fr := false) (ρ1 := cEnv s (.bool b)) (by simp [defSem, outF, envOf, evalSs, evalS, evalEs, evalI, evalFs, EO.binS, AO.binS, evalE, getC, EO.bind, AO.bind, EO.binA, AO.binA, retE, outE, outB, boolE, intE, isTy, cmpV, isScal, ixV, atD, ixOf, slV, Cell.dat, Cell.isMut, Cell.put, binV, nxO, setC, setCs, setT, setTs, mkC, stxV, callE, callmE, bltV, rngL, seqL, optI, isNop, augI, isL, Tg.slots, hidI, wipeC, backC]), if_pos rfl]
      exact go_rt e
    · simp at hx
      rcases hx with rfl | rfl | rfl | rfl | rfl | rfl | rfl
      · cases b <;> simp [scB]
      · cases b <;> simp [scB]
      · trivial
      · trivial
      · simp [scB]
      · simp [scB]
      · cases b <;> exact ofString_ok _
  | none =>
    obtain ⟨x, hx, m, sm, e⟩ := pick 8 (.lst (.cons .non (.cons (.int 7) (.cons (.str "a") (.cons (.str "b") (.cons (.str "x") (.cons (.str "y") (.cons (.str "z") (.cons (.str "") .nil))))))))) [.none, .int 7, .str "a", .str "b", .str "x", .str "y", .str "z", .str ""] (by omega) (by omega) rfl (by simp [defSem, outF, envOf, evalSs, evalS, evalEs, evalI, evalFs, EO.binS, AO.binS, evalE, getC, EO.bind, AO.bind, EO.binA, AO.binA, retE, outE, outB, boolE, intE, isTy, cmpV, isScal, ixV, atD, ixOf, slV, Cell.dat, Cell.isMut, Cell.put, binV, nxO, setC, setCs, setT, setTs, mkC, stxV, callE, callmE, bltV, rngL, seqL, optI, isNop, augI, isL, Tg.slots, hidI, wipeC, backC, LIM])
    refine ⟨x, m, fin ?_, ?_, sm⟩
    · unfold b_law_corrupt
      rw [go_nx (ρ1 := cEnv s .none) (by simp [defSem, outF, envOf, evalSs, evalS, evalEs, evalI, evalFs, EO.binS, AO.binS, evalE, getC, EO.bind, AO.bind, EO.binA, AO.binA, retE, outE, outB, boolE, intE, isTy, cmpV, isScal, ixV, atD, ixOf, slV, Cell.dat, Cell.isMut, Cell.put, binV, nxO, setC, setCs, setT, setTs, mkC, stxV, callE, callmE, bltV, rngL, seqL, optI, isNop, augI, isL, Tg.slots, hidI, wipeC, backC]), go_nx (ρ1 := cEnv s .none) (by simp [defSem, outF, envOf, evalSs, evalS, evalEs, evalI, evalFs, EO.binS, AO.binS, evalE, getC, EO.bind, AO.bind, EO.binA, AO.binA, retE, outE, outB, boolE, intE, isTy, cmpV, isScal, ixV, atD, ixOf, slV, Cell.dat, Cell.isMut, Cell.put, binV, nxO, setC, setCs, setT, setTs, mkC, stxV, callE, callmE, bltV, rngL, seqL, optI, isNop, augI, isL, Tg.slots, hidI, wipeC, backC]), go_nx (ρ1 := cEnv s .none) (by simp [defSem, outF, envOf, evalSs, evalS, evalEs, evalI, evalFs, EO.binS, AO.binS, evalE, getC, EO.bind, AO.bind, EO.binA, AO.binA, retE, outE, outB, boolE, intE, isTy, cmpV, isScal, ixV, atD, ixOf, slV, Cell.dat, Cell.isMut, Cell.put, binV, nxO, setC, setCs, setT, setTs, mkC, stxV, callE, callmE, bltV, rngL, seqL, optI, isNop, augI, isL, Tg.slots, hidI, wipeC, backC])]
      exact go_rt e
    · simp at hx
      rcases hx with rfl | rfl | rfl | rfl | rfl | rfl | rfl | rfl <;> first | trivial | exact ofString_ok _ | (show (7 : Int).natAbs ≤ B + 10001; omega)
  | str z =>
    obtain ⟨x, hx, m, sm, e⟩ := pick 8 (.lst (.cons .non (.cons (.int 7) (.cons (.str "a") (.cons (.str "b") (.cons (.str "x") (.cons (.str "y") (.cons (.str "z") (.cons (.str "") .nil))))))))) [.none, .int 7, .str "a", .str "b", .str "x", .str "y", .str "z", .str ""] (by omega) (by omega) rfl (by simp [defSem, outF, envOf, evalSs, evalS, evalEs, evalI, evalFs, EO.binS, AO.binS, evalE, getC, EO.bind, AO.bind, EO.binA, AO.binA, retE, outE, outB, boolE, intE, isTy, cmpV, isScal, ixV, atD, ixOf, slV, Cell.dat, Cell.isMut, Cell.put, binV, nxO, setC, setCs, setT, setTs, mkC, stxV, callE, callmE, bltV, rngL, seqL, optI, isNop, augI, isL, Tg.slots, hidI, wipeC, backC, LIM])
    refine ⟨x, m, fin ?_, ?_, sm⟩
    · unfold b_law_corrupt
      rw [go_nx (ρ1 := cEnv s (.str z)) (by simp [defSem, outF, envOf, evalSs, evalS, evalEs, evalI, evalFs, EO.binS, AO.binS, evalE, getC, EO.bind, AO.bind, EO.binA, AO.binA, retE, outE, outB, boolE, intE, isTy, cmpV, isScal, ixV, atD, ixOf, slV, Cell.dat, Cell.isMut, Cell.put, binV, nxO, setC, setCs, setT, setTs, mkC, stxV, callE, callmE, bltV, rngL, seqL, optI, isNop, augI, isL, Tg.slots, hidI, wipeC, backC]), go_nx (ρ1 := cEnv s (.str z)) (by simp [defSem, outF, envOf, evalSs, evalS, evalEs, evalI, evalFs, EO.binS, AO.binS, evalE, getC, EO.bind, AO.bind, EO.binA, AO.binA, retE, outE, outB, boolE, intE, isTy, cmpV, isScal, ixV, atD, ixOf, slV, Cell.dat, Cell.isMut, Cell.put, binV, nxO, setC, setCs, setT, setTs, mkC, stxV, callE, callmE, bltV, rngL, seqL, optI, isNop, augI, isL, Tg.slots, hidI, wipeC, backC]), go_nx (ρ1 := cEnv s (.str z)) (by simp [defSem, outF, envOf, evalSs, evalS, evalEs, evalI, evalFs, EO.binS, AO.binS, evalE, getC, EO.bind, AO.bind, EO.binA, AO.binA, retE, outE, outB, boolE, intE, isTy, cmpV, isScal, ixV, atD, ixOf, slV, Cell.dat, Cell.isMut, Cell.put, binV, nxO, setC, setCs, setT, setTs, mkC, stxV, callE, callmE, bltV, rngL, seqL, optI, isNop, augI, isL, Tg.slots, hidI, wipeC, backC])]
      exact go_rt e
    · simp at hx
      rcases hx with rfl | rfl | rfl | rfl | rfl | rfl | rfl | rfl <;> first | trivial | exact ofString_ok _ | (show (7 : Int).natAbs ≤ B + 10001; omega)
  | _ => exact hd.elim
theorem cut_mem {xs : List PD} {lo hi : Option Int} {x : PD} (h : x ∈ cutD xs lo hi) : x ∈ xs := List.mem_of_mem_drop (List.mem_of_mem_take h)
theorem cut_len {α : Type} (xs : List α) (lo hi : Option Int) : (cutD xs lo hi).length ≤ xs.length := by
  unfold cutD
  rw [List.length_take, List.length_drop]
  omega
theorem set_scB {B C : Nat} {ds : List PD} {i : Nat} {x : PD} (h : ∀ y ∈ ds, scB B y) (hx : scB C x) (le : B ≤ C) : ∀ y ∈ ds.set i x, scB C y := fun y hy => by
  rcases List.mem_or_eq_of_mem_set hy with hy | rfl
  · exact (h y hy).up le
  · exact hx
/-- two kinds of sequence -/
def mkS (tu : Bool) (ds : List PD) : PD := if tu then .tuple ds else .list ds
theorem run_corrupt_seq {qd qr : FSem} (D : Draws qd) (hm : qr.mu = true) {B L : Nat} (hB : B ≤ 900000000) (hL : L ≤ 1000) (hr : ∀ {T : Int} {s d : PD}, Src T s → T < 1000000000 → scB B d → ∃ x m, qr.run [s, d] = some (.ret x false m) ∧ scB (B + 10001) x ∧ Src (T + 1) m)
    {T : Int} {s : PD} (h : Src T s) (hT : T < 900000000) (tu : Bool) (ds : List PD) (hl : ds.length ≤ L) (hd : ∀ x ∈ ds, scB B x) :
    ∃ x m, (s_law_corrupt [qd, qr]).run [s, mkS tu ds] = some (.ret x false m) ∧ cB (B + 10001) (L + 1) x ∧ Src (T + 3) m := by
  have seqT : ∀ m : PD, evalE [qd, qr] (.sc (.isi (.var 1) [.tuple, .list])) (cEnv m (mkS tu ds)) = some (.ok (.bool true) false (cEnv m (mkS tu ds))) := fun m => by
    cases tu <;> simp [defSem, outF, envOf, evalSs, evalS, evalEs, evalI, evalFs, EO.binS, AO.binS, evalE, getC, EO.bind, AO.bind, EO.binA, AO.binA, retE, outE, outB, boolE, intE, isTy, cmpV, isScal, ixV, atD, ixOf, slV, Cell.dat, Cell.isMut, Cell.put, binV, nxO, setC, setCs, setT, setTs, mkC, stxV, callE, callmE, bltV, rngL, seqL, optI, isNop, augI, isL, Tg.slots, hidI, wipeC, backC, mkS]
  have lenE : ∀ m : PD, evalE [qd, qr] (.sc (.cmp .Gt (.blt .len (.cons (.var 1) .nil)) (.int 0))) (cEnv m (mkS tu ds)) = some (.ok (.bool (decide (0 < ds.length))) false (cEnv m (mkS tu ds))) := fun m => by
    have : decide ((0 : Int) < (ds.length : Int)) = decide (0 < ds.length) := by
      rw [Bool.eq_iff_iff, decide_eq_true_eq, decide_eq_true_eq]
      omega
    cases tu <;> simp [defSem, outF, envOf, evalSs, evalS, evalEs, evalI, evalFs, EO.binS, AO.binS, evalE, getC, EO.bind, AO.bind, EO.binA, AO.binA, retE, outE, outB, boolE, intE, isTy, cmpV, isScal, ixV, atD, ixOf, slV, Cell.dat, Cell.isMut, Cell.put, binV, nxO, setC, setCs, setT, setTs, mkC, stxV, callE, callmE, bltV, rngL, seqL, optI, isNop, augI, isL, Tg.slots, hidI, wipeC, backC, mkS]
  -- the second part: a new value by the whole
  have second : ∀ {T' : Int} {m : PD}, Src T' m → T' < 1000000000 → T' ≤ T + 1 → ∃ x m', evalSs [qd, qr] (match b_law_corrupt with | .cons _ r => r | .nil => .nil) (cEnv m (mkS tu ds)) = some (.rt x false m') ∧ cB (B + 10001) (L + 1) x ∧ ∃ n, getC m' 0 = some (.bo n) ∧ Src (T + 3) n := fun {T' m} sm hT' le => by
    obtain ⟨r, n, e, r0, r1, sn⟩ := D.run sm hT' 5 (by omega) (by omega)
    have hz1 : ds.length + (cutD ds none (some 1)).length ≤ LIM := by
      have := cut_len ds none (some 1)
      unfold LIM
      omega
    let o : PD := if tu then .list ds else .tuple ds
    have e1 : evalS [qd, qr] (.set 4 (.ite (.sc (.isi (.var 1) [.tuple])) (.blt .list (.cons (.var 1) .nil)) (.blt .tuple (.cons (.var 1) .nil)))) (cEnv m (mkS tu ds)) = some (.nx [some (.bo m), some (.sh (mkS tu ds)), none, none, some (.sh o)]) := by
      cases tu <;> simp [defSem, outF, envOf, evalSs, evalS, evalEs, evalI, evalFs, EO.binS, AO.binS, evalE, getC, EO.bind, AO.bind, EO.binA, AO.binA, retE, outE, outB, boolE, intE, isTy, cmpV, isScal, ixV, atD, ixOf, slV, Cell.dat, Cell.isMut, Cell.put, binV, nxO, setC, setCs, setT, setTs, mkC, stxV, callE, callmE, bltV, rngL, seqL, optI, isNop, augI, isL, Tg.slots, hidI, wipeC, backC, mkS, o]
    have e2 : evalE [qd, qr] (.lst (.cons (.var 4) (.cons (.bin .Add (.var 1) (.slv 1 .nop (.int 1))) (.cons (.slv 1 (.int 1) .nop) (.cons (.rev (.var 1)) (.cons .non .nil)))))) [some (.bo m), some (.sh (mkS tu ds)), none, none, some (.sh o)] =
        some (.ok (.list [o, mkS tu (ds ++ cutD ds none (some 1)), mkS tu (cutD ds (some 1) none), mkS tu ds.reverse, .none]) true [some (.bo m), some (.sh (mkS tu ds)), none, none, some (.sh o)]) := by
      have l5 : (5 : Nat) ≤ LIM := by decide
      cases tu <;> simp [defSem, outF, envOf, evalSs, evalS, evalEs, evalI, evalFs, EO.binS, AO.binS, evalE, getC, EO.bind, AO.bind, EO.binA, AO.binA, retE, outE, outB, boolE, intE, isTy, cmpV, isScal, ixV, atD, ixOf, slV, Cell.dat, Cell.isMut, Cell.put, binV, nxO, setC, setCs, setT, setTs, mkC, stxV, callE, callmE, bltV, rngL, seqL, optI, isNop, augI, isL, Tg.slots, hidI, wipeC, backC, mkS, o, hz1, l5]
    obtain ⟨x, hx, ex⟩ := ev_pick (cs := [qd, qr]) (i := .callm 0 0 (.cons (.int 5) .nil)) (ρ2 := [some (.bo n), some (.sh (mkS tu ds)), none, none, some (.sh o)]) e2 (r := r) (f2 := false) (by simp [defSem, outF, envOf, evalSs, evalS, evalEs, evalI, evalFs, EO.binS, AO.binS, evalE, getC, EO.bind, AO.bind, EO.binA, AO.binA, retE, outE, outB, boolE, intE, isTy, cmpV, isScal, ixV, atD, ixOf, slV, Cell.dat, Cell.isMut, Cell.put, binV, nxO, setC, setCs, setT, setTs, mkC, stxV, callE, callmE, bltV, rngL, seqL, optI, isNop, augI, isL, Tg.slots, hidI, wipeC, backC, D.mu, e]) r0 (by simpa using r1)
    refine ⟨x, [some (.bo n), some (.sh (mkS tu ds)), none, none, some (.sh o)], ?_, ?_, n, rfl, sn.up (by omega)⟩
    · unfold b_law_corrupt
      refine go_rt ?_
      rw [go_if (seqT m), if_pos rfl, go_nx e1]
      exact go_rt (go_ret ex)
    · have sub : ∀ {es : List PD} (b : Bool), es.length ≤ L + 1 → (∀ y ∈ es, y ∈ ds) → cB (B + 10001) (L + 1) (mkS b es) := fun {es} b h1 h2 => .inr ⟨es, by cases b <;> simp [mkS], h1, fun y hy => (hd y (h2 y hy)).up (by omega)⟩
      have c1 := cut_len ds none (some 1)
      have c2 := cut_len ds (some 1) none
      have c3 : (cutD ds none (some 1)).length ≤ 1 := by
        unfold cutD clip
        rw [List.length_take]
        simp
        omega
      simp only [List.mem_cons, List.not_mem_nil, or_false] at hx
      rcases hx with rfl | rfl | rfl | rfl | rfl
      · exact sub (es := ds) (!tu) (by omega) (fun y hy => hy) |> fun z => by cases tu <;> exact z
      · refine sub tu (by rw [List.length_append]; omega) fun y hy => ?_
        rcases List.mem_append.mp hy with hy | hy
        · exact hy
        · exact cut_mem hy
      · exact sub tu (by omega) fun y hy => cut_mem hy
      · exact sub tu (by rw [List.length_reverse]; omega) fun y hy => by simpa using hy
      · exact .inl trivial
  have fin : ∀ {x n : PD} {ρ' : Env}, evalSs [qd, qr] b_law_corrupt (cEnv s (mkS tu ds)) = some (.rt x false ρ') → getC ρ' 0 = some (.bo n) → (s_law_corrupt [qd, qr]).run [s, mkS tu ds] = some (.ret x false n) := fun {x n ρ'} e e2 => run_mu (ρ' := ρ') rfl e e2
  by_cases h0 : 0 < ds.length
  · obtain ⟨r, m, e, r0, r1, sm⟩ := D.run h (by omega) 5 (by omega) (by omega)
    have ec : evalE [qd, qr] (.and (.sc (.isi (.var 1) [.tuple, .list])) (.and (.sc (.cmp .Gt (.blt .len (.cons (.var 1) .nil)) (.int 0))) (.cmp .Gt (.callm 0 0 (.cons (.int 5) .nil)) (.int 0)))) (cEnv s (mkS tu ds)) = some (.ok (.bool (decide (0 < r))) false (cEnv m (mkS tu ds))) := by
      have q1 := seqT s
      have q2 := lenE s
      rw [decide_eq_true h0] at q2
      have q3 : evalE [qd, qr] (.cmp .Gt (.callm 0 0 (.cons (.int 5) .nil)) (.int 0)) (cEnv s (mkS tu ds)) = some (.ok (.bool (decide (0 < r))) false (cEnv m (mkS tu ds))) := by
        simp [defSem, outF, envOf, evalSs, evalS, evalEs, evalI, evalFs, EO.binS, AO.binS, evalE, getC, EO.bind, AO.bind, EO.binA, AO.binA, retE, outE, outB, boolE, intE, isTy, cmpV, isScal, ixV, atD, ixOf, slV, Cell.dat, Cell.isMut, Cell.put, binV, nxO, setC, setCs, setT, setTs, mkC, stxV, callE, callmE, bltV, rngL, seqL, optI, isNop, augI, isL, Tg.slots, hidI, wipeC, backC, D.mu, e]
      show EO.bind (evalE _ _ _) _ = _
      rw [q1]
      show EO.bind (EO.bind (evalE _ _ _) _) _ = _
      rw [q2]
      show EO.bind (EO.bind (evalE _ _ _) _) _ = _
      rw [q3]
      rfl
    by_cases hr0 : 0 < r
    · rw [decide_eq_true hr0] at ec
      obtain ⟨a, m2, e2, a0, a1, s2⟩ := D.run sm (by omega) (ds.length : Int) (by omega) (by omega)
      have ha : a.toNat < ds.length := by omega
      obtain ⟨x, m3, e3, sx, s3⟩ := hr s2 (by omega) (hd _ (List.getElem_mem ha))
      refine ⟨mkS tu (ds.set a.toNat x), m3, fin (ρ' := [some (.bo m3), some (.sh (mkS tu ds)), some (.sh (.list (ds.set a.toNat x))), some (.sh (.int a)), none]) ?_ rfl, ?_, s3.up (by omega)⟩
      · unfold b_law_corrupt
        refine go_rt ?_
        rw [go_if ec, if_pos rfl]
        rw [go_nx (ρ1 := [some (.bo m), some (.sh (mkS tu ds)), some (.ow (.list ds)), none, none]) (by cases tu <;> simp [defSem, outF, envOf, evalSs, evalS, evalEs, evalI, evalFs, EO.binS, AO.binS, evalE, getC, EO.bind, AO.bind, EO.binA, AO.binA, retE, outE, outB, boolE, intE, isTy, cmpV, isScal, ixV, atD, ixOf, slV, Cell.dat, Cell.isMut, Cell.put, binV, nxO, setC, setCs, setT, setTs, mkC, stxV, callE, callmE, bltV, rngL, seqL, optI, isNop, augI, isL, Tg.slots, hidI, wipeC, backC, mkS])]
        rw [go_nx (ρ1 := [some (.bo m2), some (.sh (mkS tu ds)), some (.ow (.list ds)), some (.sh (.int a)), none]) (by simp [defSem, outF, envOf, evalSs, evalS, evalEs, evalI, evalFs, EO.binS, AO.binS, evalE, getC, EO.bind, AO.bind, EO.binA, AO.binA, retE, outE, outB, boolE, intE, isTy, cmpV, isScal, ixV, atD, ixOf, slV, Cell.dat, Cell.isMut, Cell.put, binV, nxO, setC, setCs, setT, setTs, mkC, stxV, callE, callmE, bltV, rngL, seqL, optI, isNop, augI, isL, Tg.slots, hidI, wipeC, backC, D.mu, e2])]
        rw [go_nx (ρ1 := [some (.bo m3), some (.sh (mkS tu ds)), some (.ow (.list (ds.set a.toNat x))), some (.sh (.int a)), none]) (by simp [defSem, outF, envOf, evalSs, evalS, evalEs, evalI, evalFs, EO.binS, AO.binS, evalE, getC, EO.bind, AO.bind, EO.binA, AO.binA, retE, outE, outB, boolE, intE, isTy, cmpV, isScal, ixV, atD, ixOf, slV, Cell.dat, Cell.isMut, Cell.put, binV, nxO, setC, setCs, setT, setTs, mkC, stxV, callE, callmE, bltV, rngL, seqL, optI, isNop, augI, isL, Tg.slots, hidI, wipeC, backC, hm, a0, a1, ha, e3])]
        cases tu <;> simp [defSem, outF, envOf, evalSs, evalS, evalEs, evalI, evalFs, EO.binS, AO.binS, evalE, getC, EO.bind, AO.bind, EO.binA, AO.binA, retE, outE, outB, boolE, intE, isTy, cmpV, isScal, ixV, atD, ixOf, slV, Cell.dat, Cell.isMut, Cell.put, binV, nxO, setC, setCs, setT, setTs, mkC, stxV, callE, callmE, bltV, rngL, seqL, optI, isNop, augI, isL, Tg.slots, hidI, wipeC, backC, mkS]
      · exact .inr ⟨ds.set a.toNat x, by cases tu <;> simp [mkS], by rw [List.length_set]; omega, set_scB hd sx (by omega)⟩
    · rw [decide_eq_false hr0] at ec
      obtain ⟨x, ρ', e2, hx, n, hn, sn⟩ := second sm (by omega) (by omega)
      refine ⟨x, n, fin (ρ' := ρ') ?_ hn, hx, sn⟩
      unfold b_law_corrupt at e2 ⊢
      rw [go_nx (ρ1 := cEnv m (mkS tu ds)) (by rw [go_if ec]; rfl)]
      exact e2
  · have ec : evalE [qd, qr] (.and (.sc (.isi (.var 1) [.tuple, .list])) (.and (.sc (.cmp .Gt (.blt .len (.cons (.var 1) .nil)) (.int 0))) (.cmp .Gt (.callm 0 0 (.cons (.int 5) .nil)) (.int 0)))) (cEnv s (mkS tu ds)) = some (.ok (.bool false) false (cEnv s (mkS tu ds))) := by
      have q1 := seqT s
      have q2 := lenE s
      rw [decide_eq_false h0] at q2
      show EO.bind (evalE _ _ _) _ = _
      rw [q1]
      show EO.bind (EO.bind (evalE _ _ _) _) _ = _
      rw [q2]
      rfl
    obtain ⟨x, ρ', e2, hx, n, hn, sn⟩ := second h (by omega) (by omega)
    refine ⟨x, n, fin (ρ' := ρ') ?_ hn, hx, sn⟩
    unfold b_law_corrupt at e2 ⊢
    rw [go_nx (ρ1 := cEnv s (mkS tu ds)) (by rw [go_if ec]; rfl)]
    exact e2
/-- any value of the kind -/
theorem run_corrupt {qd qr : FSem} (D : Draws qd) (hm : qr.mu = true) {B L : Nat} (hB : B ≤ 900000000) (hL : L ≤ 1000) (hr : ∀ {T : Int} {s d : PD}, Src T s → T < 1000000000 → scB B d → ∃ x m, qr.run [s, d] = some (.ret x false m) ∧ scB (B + 10001) x ∧ Src (T + 1) m)
    {T : Int} {s d : PD} (h : Src T s) (hT : T < 900000000) (hd : cB B L d) : ∃ x m, (s_law_corrupt [qd, qr]).run [s, d] = some (.ret x false m) ∧ cB (B + 10001) (L + 1) x ∧ Src (T + 3) m := by
  rcases hd with hd | ⟨ds, e, hl, hs⟩
  · obtain ⟨x, m, e, hx, sm⟩ := run_corrupt_sc (qr := qr) D h (by omega) hB hd
    exact ⟨x, m, e, .inl hx, sm.up (by omega)⟩
  · rcases e with rfl | rfl
    · exact run_corrupt_seq D hm hB hL hr h hT false ds hl hs
    · exact run_corrupt_seq D hm hB hL hr h hT true ds hl hs
/-- such values are of no dict, not deep -/
theorem scB.dm {B : Nat} {d : PD} (h : scB B d) : d.canLay0 = true ∧ d.depth = 0 := by
  cases d <;> simp [scB] at h <;> simp [PyData.canLay0, PyData.depth, h]
theorem cB.dm {B L : Nat} {d : PD} (h : cB B L d) : Dm d := by
  rcases h with h | ⟨ds, e, _, h⟩
  · exact ⟨h.dm.1, by rw [h.dm.2]; omega⟩
  · have : PyData.canLayAll0 ds = true ∧ PyData.depthAll ds = 0 := by
      clear e
      rename_i hlen
      clear hlen
      induction ds with
      | nil => simp [PyData.canLayAll0, PyData.depthAll]
      | cons x r ih =>
        have hx := (h x List.mem_cons_self).dm
        have hr := ih fun y hy => h y (List.mem_cons_of_mem _ hy)
        simp [PyData.canLayAll0, PyData.depthAll, hx.1, hx.2, hr.1, hr.2]
    rcases e with rfl | rfl
    · exact ⟨by simpa [PyData.canLay0] using this.1, by simp [PyData.depth, this.2]⟩
    · exact ⟨by simpa [PyData.canLay0] using this.1, by simp [PyData.depth, this.2]⟩
end DD

-- part PK01
set_option Elab.async false
set_option linter.all false
set_option maxRecDepth 100000
set_option maxHeartbeats 4000000
/-! The law k01 in plain Lean. -/
namespace DD.K01
open DD DD.P PySem
theorem setC_free {ρ : Env} {i : Nat} {x : Cell} (hi : i < ρ.length) (hb : ∀ d, getC ρ i ≠ some (.bo d)) : setC ρ i x = some (ρ.set i (some x)) := by
  unfold setC
  unfold getC at hb
  rw [List.getElem?_eq_getElem hi] at hb ⊢
  cases h : ρ[i] with
  | none => rfl
  | some c =>
    cases c with
    | bo d =>
      rw [h] at hb
      exact absurd rfl (hb d)
    | _ => rfl
/-- never borrowed -/
def NB (c : Option Cell) : Prop := ∀ d, c ≠ some (.bo d)
theorem nb_sh (d : PD) : NB (some (.sh d)) := fun _ h => by cases h
theorem nb_no : NB none := fun _ h => by cases h
theorem nb_ow (d : PD) : NB (some (.ow d)) := fun _ h => by cases h
abbrev qs : List FSem := [q_law_source, q_law_basket, (q_law_corrupt 6), q_law_any_value, (q_law_equal 6), q_is_basket, q_law_is_basket, q_row]
theorem qD : Draws q_law_draw := draws
theorem q_choice {T : Int} {d : PD} (h : Src T d) (hT : T < 1000000000) (ds : List PD) (h0 : ds ≠ []) (hl : ds.length ≤ 1000000) : ∃ x m, q_law_choice.run [d, .list ds] = some (.ret x false m) ∧ x ∈ ds ∧ Src (T + 1) m := run_choice qD h hT ds h0 hl
theorem q_basket {T : Int} {d : PD} (h : Src T d) (hT : T < 900000000) (n : Nat) (h1 : 1 ≤ n) (h2 : n ≤ 1000) : ∃ bs m, q_law_basket.run [d, .int n] = some (.ret (.tuple (ofInts bs)) false m) ∧ isBasket bs n ∧ Src (T + 2 + n) m :=
  run_basket (qc := q_law_choice) qD rfl (fun h hT ds h0 hl => q_choice h hT ds h0 hl) h hT n h1 h2
theorem q_corrupt {B L : Nat} (hB : B ≤ 900000000) (hL : L ≤ 1000) {T : Int} {s d : PD} (h : Src T s) (hT : T < 900000000) (hd : cB B L d) : ∃ x m, (q_law_corrupt 6).run [s, d] = some (.ret x false m) ∧ cB (B + 10001) (L + 1) x ∧ Src (T + 3) m :=
  run_corrupt (qd := q_law_draw) (qr := q_law_corrupt 5) qD rfl hB hL (fun h hT hd => run_corrupt_sc (qr := q_law_corrupt 4) qD h hT hB hd) h hT hd
theorem q_any {T : Int} {d : PD} (h : Src T d) (hT : T < 1000000000) : ∃ x m, q_law_any_value.run [d] = some (.ret x false m) ∧ x ∈ anyVals ∧ Src (T + 1) m := run_any (q := q_law_choice) rfl h hT fun ds h0 hl => q_choice h hT ds h0 hl
theorem q_isb (d : PD) : q_is_basket.run [d] = some (.ret (.bool (isB d)) false .none) := run_is_basket q_is_between rfl run_is_between d
theorem q_lisb {d : PD} (h : Dm d) : q_law_is_basket.run [d] = some (.ret (.bool (isB d)) false .none) := run_law_is_basket q_law_is_int rfl run_is_int d h
theorem q_eq (a b : Bool) : (q_law_equal 6).run [.bool a, .bool b] = some (.ret (.bool (a == b)) false .none) := run_equal_bool q_law_kind (q_law_equal 5) rfl run_kind a b
theorem q_rowB {bs : List Int} (h1 : 1 ≤ bs.length) (h2 : bs.length ≤ 12) (h3 : ∀ b ∈ bs, 1 ≤ b ∧ b ≤ 10000) : q_row.run [.tuple (ofInts bs)] = some (.ret (.tuple (ofInts (rowOf bs))) false .none) := by
  refine run_row q_check_basket q_row_of rfl rfl bs ?_ (run_row_of bs h1 (by omega))
  have := run_check_basket q_is_basket rfl q_isb (.tuple (ofInts bs))
  rw [isB_ints h1 h2 h3, if_pos rfl] at this
  exact this
/-- the first loop's body at a value of no dict -/
theorem ev_l1 {v : PD} (hv : Dm v) {a0 a1 a2 a3 a4 a5 a7 a8 a9 a10 : Option Cell} : evalSs qs l1_law_k01 [a0, a1, a2, a3, a4, a5, some (.sh v), a7, a8, a9, a10] = some (.nx [a0, a1, a2, a3, a4, a5, some (.sh v), a7, a8, a9, a10]) := by
  have m4 : (q_law_equal 6).mu = false := rfl
  have m5 : q_is_basket.mu = false := rfl
  have m6 : q_law_is_basket.mu = false := rfl
  simp [l1_law_k01, defSem, outF, envOf, evalSs, evalS, evalEs, evalI, evalFs, EO.binS, AO.binS, evalE, getC, EO.bind, AO.bind, EO.binA, AO.binA, retE, outE, outB, boolE, intE, isTy, cmpV, isScal, ixV, atD, ixOf, slV, Cell.dat, Cell.isMut, Cell.put, binV, nxO, setC, setCs, setT, setTs, mkC, stxV, callE, callmE, bltV, rngL, seqL, optI, isNop, augI, isL, Tg.slots, hidI, wipeC, backC, m4, m5, m6, q_isb, q_lisb hv, q_eq]
theorem ev_sc {cs : List FSem} {e : E} {ρ ρ1 : Env} {d : PD} {fr : Bool} (h : evalE cs e ρ = some (.ok d fr ρ1)) (hs : isScal d = true) : evalE cs (.sc e) ρ = some (.ok d false ρ) := by
  rw [evalE, h]
  simp [hs]
theorem ix_ints {bs : List Int} {j : Nat} {x : Int} (h : bs[j]? = some x) : ixV (.tuple (ofInts bs)) (.int (j : Int)) = some (.int x) := by
  have hj : j < bs.length := (List.getElem?_eq_some_iff.mp h).1
  have e : ixOf (ofInts bs).length (j : Int) = some j := by
    unfold ixOf
    rw [len_ofInts]
    simp
    omega
  simp only [ixV, atD, e]
  unfold ofInts
  rw [List.getElem?_map, h]
  rfl
/-- the second loop's body -/
theorem ev_l2 {bs : List Int} {j k : Nat} {x y : Int} (hx : bs[j]? = some x) (hy : bs[k]? = some y) (h : y < x ∨ (x = y ∧ j ≤ k)) {a0 a1 a2 a4 a5 a6 a7 a10 : Option Cell} :
    evalSs qs l2_law_k01 [a0, a1, a2, some (.sh (.tuple (ofInts bs))), a4, a5, a6, a7, some (.sh (.int (j : Int))), some (.sh (.int (k : Int))), a10] = some (.nx [a0, a1, a2, some (.sh (.tuple (ofInts bs))), a4, a5, a6, a7, some (.sh (.int (j : Int))), some (.sh (.int (k : Int))), a10]) := by
  have h1 : ¬ x < y := by omega
  have h2 : ¬ (x = y ∧ k < j) := by omega
  by_cases e : x = y
  · have h3 : ¬ (k < j) := fun z => h2 ⟨e, z⟩
    subst e
    simp [l2_law_k01, defSem, outF, envOf, evalSs, evalS, evalEs, evalI, evalFs, EO.binS, AO.binS, evalE, getC, EO.bind, AO.bind, EO.binA, AO.binA, retE, outE, outB, boolE, intE, isTy, cmpV, isScal, slV, Cell.dat, Cell.isMut, Cell.put, binV, nxO, setC, setCs, setT, setTs, mkC, stxV, callE, callmE, bltV, rngL, seqL, optI, isNop, augI, isL, Tg.slots, hidI, wipeC, backC, ix_ints hx, ix_ints hy, shp_int, eqv_int, h3]
  · simp [l2_law_k01, defSem, outF, envOf, evalSs, evalS, evalEs, evalI, evalFs, EO.binS, AO.binS, evalE, getC, EO.bind, AO.bind, EO.binA, AO.binA, retE, outE, outB, boolE, intE, isTy, cmpV, isScal, slV, Cell.dat, Cell.isMut, Cell.put, binV, nxO, setC, setCs, setT, setTs, mkC, stxV, callE, callmE, bltV, rngL, seqL, optI, isNop, augI, isL, Tg.slots, hidI, wipeC, backC, ix_ints hx, ix_ints hy, shp_int, eqv_int, h1, e]
theorem zip_mem {R : List Int} {d : PD} (h : d ∈ (ofInts R).zipWith (fun a b => PyData.tuple [a, b]) (cutD (ofInts R) (some 1) none)) : ∃ (i : Nat) (a b : Int), R[i]? = some a ∧ R[i + 1]? = some b ∧ d = .tuple [.int a, .int b] := by
  obtain ⟨i, hi⟩ := List.mem_iff_getElem?.mp h
  obtain ⟨x, y, hx, hy, rfl⟩ := getZ hi
  have ec : cutD (ofInts R) (some 1) none = (ofInts R).drop 1 := by
    cases R with
    | nil => rfl
    | cons r R =>
      unfold cutD clip
      simp [ofInts]
      exact List.take_of_length_le (by simp)
  rw [ec, List.getElem?_drop] at hy
  unfold ofInts at hx hy
  rw [List.getElem?_map] at hx hy
  have e1 : 1 + i = i + 1 := by omega
  rw [e1] at hy
  cases h1 : R[i]? with
  | none => simp [h1] at hx
  | some a =>
    cases h2 : R[i + 1]? with
    | none => simp [h2] at hy
    | some b =>
      simp [h1] at hx
      simp [h2] at hy
      exact ⟨i, a, b, by first | exact h1 | rfl, by first | exact h2 | rfl, by rw [← hx, ← hy]⟩
theorem eqv_ints : ∀ is : List Int, PyData.eqvAll (ofInts is) (ofInts is) = true
  | [] => by simp [ofInts, PyData.eqvAll]
  | i :: r => by
    show (PyData.eqv (.int i) (.int i) && PyData.eqvAll (ofInts r) (ofInts r)) = true
    rw [eqv_ints r, eqv_int]
    simp
theorem lay_ints : ∀ is : List Int, PyData.canLayAll0 (ofInts is) = true ∧ PyData.depthAll (ofInts is) = 0
  | [] => by simp [ofInts, PyData.canLayAll0, PyData.depthAll]
  | i :: r => by
    obtain ⟨h1, h2⟩ := lay_ints r
    refine ⟨?_, ?_⟩
    · show (PyData.canLay0 (.int i) && PyData.canLayAll0 (ofInts r)) = true
      rw [h1]
      simp [PyData.canLay0]
    · show max (PyData.depth (.int i)) (PyData.depthAll (ofInts r)) = 0
      rw [h2]
      simp [PyData.depth]
theorem shp_ints (is : List Int) : shp (.list (ofInts is)) = true := by
  obtain ⟨h1, h2⟩ := lay_ints is
  simp [shp, SeqAt.shaped, PyData.canLay0, PyData.depth, h1, h2]
theorem shp_intsT (is : List Int) : shp (.tuple (ofInts is)) = true := by
  obtain ⟨h1, h2⟩ := lay_ints is
  simp [shp, SeqAt.shaped, PyData.canLay0, PyData.depth, h1, h2]
theorem any_dm {x : PD} (h : x ∈ anyVals) : Dm x := by
  simp only [anyVals, List.mem_cons, List.not_mem_nil, or_false] at h
  rcases h with rfl | rfl | rfl | rfl | rfl | rfl | rfl | rfl | rfl | rfl | rfl | rfl | rfl | rfl <;> refine ⟨?_, ?_⟩ <;> first | decide +kernel | simp [PyData.depth, PyData.depthAll]
theorem basket_cB {bs : List Int} {n : Nat} (h : isBasket bs n) : cB 10000 n (.tuple (ofInts bs)) := by
  refine .inr ⟨ofInts bs, .inr rfl, by rw [len_ofInts]; exact h.2.1, fun x hx => ?_⟩
  obtain ⟨b, hb, rfl⟩ := List.mem_map.mp hx
  have := h.2.2 b hb
  show b.natAbs ≤ 10000
  omega
abbrev en (script cell : PD) (c2 c3 c4 c5 c6 c7 c8 c9 c10 : Option Cell) : Env := [some (.sh script), some (.sh cell), c2, c3, c4, c5, c6, c7, c8, c9, c10]
/-- one turn of the law -/
theorem ev_l3 {script : PD} {c : Int} {c2 c3 c4 c5 c6 c7 c8 c9 c10 : Option Cell} (n2 : NB c2) (n3 : NB c3) (n4 : NB c4) (n5 : NB c5) (n6 : NB c6) (n7 : NB c7) (n8 : NB c8) (n9 : NB c9) :
    ∃ d2 d3 d4 d5 d6 d7 d8 d9, evalSs qs l3_law_k01 (en script (.int c) c2 c3 c4 c5 c6 c7 c8 c9 c10) = some (.nx (en script (.int c) d2 d3 d4 d5 d6 d7 d8 d9 c10)) ∧ NB d2 ∧ NB d3 ∧ NB d4 ∧ NB d5 ∧ NB d6 ∧ NB d7 ∧ NB d8 ∧ NB d9 := by
  have m0 : q_law_source.mu = false := rfl
  have m1 : q_law_basket.mu = true := rfl
  have m2 : (q_law_corrupt 6).mu = true := rfl
  have m3 : q_law_any_value.mu = true := rfl
  have m7 : q_row.mu = false := rfl
  obtain ⟨s0, e0, t0⟩ := run_source c 1 (by omega)
  have e0 : q_law_source.run [.int c, .int 1] = some (.ret s0 true .none) := e0
  obtain ⟨bs, s1, e1, hb, t1⟩ := q_basket t0 (by omega) 12 (by omega) (by omega)
  obtain ⟨x1, s2, e2, k1, t2⟩ := q_corrupt (B := 10000) (L := 12) (by omega) (by omega) t1 (by omega) (basket_cB hb)
  obtain ⟨x2, s3, e3, k2, t3⟩ := q_corrupt (B := 10000 + 10001) (L := 12 + 1) (by omega) (by omega) t2 (by omega) k1
  obtain ⟨x3, s4, e4, k3, t4⟩ := q_any t3 (by omega)
  have st0 : evalS qs (.set 2 (.call 0 (.cons (.var 1) (.cons (.int 1) .nil)))) (en script (.int c) c2 c3 c4 c5 c6 c7 c8 c9 c10) = some (.nx (en script (.int c) (some (.ow s0)) c3 c4 c5 c6 c7 c8 c9 c10)) :=
    go_set (ρ1 := en script (.int c) c2 c3 c4 c5 c6 c7 c8 c9 c10) (d := s0) (fr := true) (by simp [defSem, outF, envOf, evalSs, evalS, evalEs, evalI, evalFs, EO.binS, AO.binS, evalE, getC, EO.bind, AO.bind, EO.binA, AO.binA, retE, outE, outB, boolE, intE, isTy, cmpV, isScal, ixV, atD, ixOf, slV, Cell.dat, Cell.isMut, Cell.put, binV, nxO, setC, setCs, setT, setTs, mkC, stxV, callE, callmE, bltV, rngL, seqL, optI, isNop, augI, isL, Tg.slots, hidI, wipeC, backC, m0, e0]) (setC_free (by simp) fun d => by
      cases c2 with
      | none => simp [getC]
      | some z => simpa [getC] using n2 d)
  have st1 : evalS qs (.set 3 (.callm 1 2 (.cons (.int 12) .nil))) (en script (.int c) (some (.ow s0)) c3 c4 c5 c6 c7 c8 c9 c10) = some (.nx (en script (.int c) (some (.ow s1)) (some (.sh (.tuple (ofInts bs)))) c4 c5 c6 c7 c8 c9 c10)) :=
    go_set (ρ1 := en script (.int c) (some (.ow s1)) c3 c4 c5 c6 c7 c8 c9 c10) (d := .tuple (ofInts bs)) (fr := false) (by
      have e1' : q_law_basket.run [s0, .int 12] = some (.ret (.tuple (ofInts bs)) false s1) := e1
      simp [defSem, outF, envOf, evalSs, evalS, evalEs, evalI, evalFs, EO.binS, AO.binS, evalE, getC, EO.bind, AO.bind, EO.binA, AO.binA, retE, outE, outB, boolE, intE, isTy, cmpV, isScal, ixV, atD, ixOf, slV, Cell.dat, Cell.isMut, Cell.put, binV, nxO, setC, setCs, setT, setTs, mkC, stxV, callE, callmE, bltV, rngL, seqL, optI, isNop, augI, isL, Tg.slots, hidI, wipeC, backC, m1, e1']) (setC_free (by simp) fun d => by
      cases c3 with
      | none => simp [getC]
      | some z => simpa [getC] using n3 d)
  have st2 : evalS qs (.set 4 (.callm 2 2 (.cons (.var 3) .nil))) (en script (.int c) (some (.ow s1)) (some (.sh (.tuple (ofInts bs)))) c4 c5 c6 c7 c8 c9 c10) = some (.nx (en script (.int c) (some (.ow s2)) (some (.sh (.tuple (ofInts bs)))) (some (.sh x1)) c5 c6 c7 c8 c9 c10)) :=
    go_set (ρ1 := en script (.int c) (some (.ow s2)) (some (.sh (.tuple (ofInts bs)))) c4 c5 c6 c7 c8 c9 c10) (d := x1) (fr := false) (by simp [defSem, outF, envOf, evalSs, evalS, evalEs, evalI, evalFs, EO.binS, AO.binS, evalE, getC, EO.bind, AO.bind, EO.binA, AO.binA, retE, outE, outB, boolE, intE, isTy, cmpV, isScal, ixV, atD, ixOf, slV, Cell.dat, Cell.isMut, Cell.put, binV, nxO, setC, setCs, setT, setTs, mkC, stxV, callE, callmE, bltV, rngL, seqL, optI, isNop, augI, isL, Tg.slots, hidI, wipeC, backC, m2, e2]) (setC_free (by simp) fun d => by
      cases c4 with
      | none => simp [getC]
      | some z => simpa [getC] using n4 d)
  let L9 : List PD := [.tuple (ofInts bs), x1, x2, .list (ofInts bs), .tuple [], .none, .tuple (List.replicate 12 [PyData.int 1]).flatten, .tuple (List.replicate 13 [PyData.int 1]).flatten, .tuple [.int 10000]]
  let L6 : List PD := [.tuple [.int 10001], .tuple [.int 0], .tuple [.bool true], .tuple [.int (-1)], .int 5, x3]
  have st3 : evalS qs (.set 5 (.lst (.cons (.var 3) (.cons (.var 4) (.cons (.callm 2 2 (.cons (.var 4) .nil)) (.cons (.blt .list (.cons (.var 3) .nil)) (.cons (.tup .nil) (.cons .non (.cons (.bin .Mult (.tup (.cons (.int 1) .nil)) (.int 12)) (.cons (.bin .Mult (.tup (.cons (.int 1) .nil)) (.int 13)) (.cons (.tup (.cons (.int 10000) .nil)) .nil))))))))))) (en script (.int c) (some (.ow s2)) (some (.sh (.tuple (ofInts bs)))) (some (.sh x1)) c5 c6 c7 c8 c9 c10) =
      some (.nx (en script (.int c) (some (.ow s3)) (some (.sh (.tuple (ofInts bs)))) (some (.sh x1)) (some (.ow (.list L9))) c6 c7 c8 c9 c10)) :=
    go_set (ρ1 := en script (.int c) (some (.ow s3)) (some (.sh (.tuple (ofInts bs)))) (some (.sh x1)) c5 c6 c7 c8 c9 c10) (d := .list L9) (fr := true) (by simp [defSem, outF, envOf, evalSs, evalS, evalEs, evalI, evalFs, EO.binS, AO.binS, evalE, getC, EO.bind, AO.bind, EO.binA, AO.binA, retE, outE, outB, boolE, intE, isTy, cmpV, isScal, ixV, atD, ixOf, slV, Cell.dat, Cell.isMut, Cell.put, binV, nxO, setC, setCs, setT, setTs, mkC, stxV, callE, callmE, bltV, rngL, seqL, optI, isNop, augI, isL, Tg.slots, hidI, wipeC, backC, m2, e3, LIM, L9]) (setC_free (by simp) fun d => by
      cases c5 with
      | none => simp [getC]
      | some z => simpa [getC] using n5 d)
  have st4 : evalS qs (.set 5 (.bin .Add (.var 5) (.lst (.cons (.tup (.cons (.int 10001) .nil)) (.cons (.tup (.cons (.int 0) .nil)) (.cons (.tup (.cons (.bl true) .nil)) (.cons (.tup (.cons (.neg (.int 1)) .nil)) (.cons (.int 5) (.cons (.callm 3 2 .nil) .nil))))))))) (en script (.int c) (some (.ow s3)) (some (.sh (.tuple (ofInts bs)))) (some (.sh x1)) (some (.ow (.list L9))) c6 c7 c8 c9 c10) =
      some (.nx (en script (.int c) (some (.ow s4)) (some (.sh (.tuple (ofInts bs)))) (some (.sh x1)) (some (.ow (.list (L9 ++ L6)))) c6 c7 c8 c9 c10)) := by
    simp [defSem, outF, envOf, evalSs, evalS, evalEs, evalI, evalFs, EO.binS, AO.binS, evalE, getC, EO.bind, AO.bind, EO.binA, AO.binA, retE, outE, outB, boolE, intE, isTy, cmpV, isScal, ixV, atD, ixOf, slV, Cell.dat, Cell.isMut, Cell.put, binV, nxO, setC, setCs, setT, setTs, mkC, stxV, callE, callmE, bltV, rngL, seqL, optI, isNop, augI, isL, Tg.slots, hidI, wipeC, backC, m3, e4, LIM, L9, L6]
  -- all values of the list
  have vok : ∀ v ∈ L9 ++ L6, Dm v := fun v hv => by
    have b1 := (basket_cB hb).dm
    have b2 : Dm (.list (ofInts bs)) := by
      refine (cB.dm (B := 10000) (L := 12) (.inr ⟨ofInts bs, .inl rfl, by rw [len_ofInts]; exact hb.2.1, fun x hx => ?_⟩))
      obtain ⟨b, hb', rfl⟩ := List.mem_map.mp hx
      have := hb.2.2 b hb'
      show b.natAbs ≤ 10000
      omega
    simp only [L9, L6, List.mem_append, List.mem_cons, List.not_mem_nil, or_false] at hv
    rcases hv with (rfl | rfl | rfl | rfl | rfl | rfl | rfl | rfl | rfl) | (rfl | rfl | rfl | rfl | rfl | rfl)
    · exact b1
    · exact k1.dm
    · exact k2.dm
    · exact b2
    · exact ⟨by decide +kernel, by simp [PyData.depth, PyData.depthAll]⟩
    · exact ⟨by decide +kernel, by simp [PyData.depth, PyData.depthAll]⟩
    · exact ⟨by decide +kernel, by simp [PyData.depth, PyData.depthAll]⟩
    · exact ⟨by decide +kernel, by simp [PyData.depth, PyData.depthAll]⟩
    · exact ⟨by decide +kernel, by simp [PyData.depth, PyData.depthAll]⟩
    · exact ⟨by decide +kernel, by simp [PyData.depth, PyData.depthAll]⟩
    · exact ⟨by decide +kernel, by simp [PyData.depth, PyData.depthAll]⟩
    · exact ⟨by decide +kernel, by simp [PyData.depth, PyData.depthAll]⟩
    · exact ⟨by decide +kernel, by simp [PyData.depth, PyData.depthAll]⟩
    · exact ⟨by decide +kernel, by simp [PyData.depth, PyData.depthAll]⟩
    · exact any_dm k3
  have l15 : (L9 ++ L6).length = 15 := rfl
  generalize hL : L9 ++ L6 = L at vok st4 l15
  -- ten more
  obtain ⟨xs, ρ', e5, hl5, hp5, s5, hρ, t5⟩ := lc_st (tg := .nm 10) (cond := evalE qs (.bl true)) (elt := evalE qs (.callm 2 2 (.cons (.var 3) .nil))) (vs := [10]) (acc := [])
    (fun k ρ => ∃ d, ρ = en script (.int c) (some (.ow d)) (some (.sh (.tuple (ofInts bs)))) (some (.sh x1)) (some (.sh (.list L))) c6 c7 c8 c9 none ∧ Src (30 + 3 * k) d) (fun x => Dm x) 10 (ds := (List.range 10).map fun i => PyData.int ((0 : Int) + (i : Nat))) (n := 0) (ρ := en script (.int c) (some (.ow s4)) (some (.sh (.tuple (ofInts bs)))) (some (.sh x1)) (some (.sh (.list L))) c6 c7 c8 c9 none)
    (by simp) (fun y hy k ρ hk ⟨d, hρ, sd⟩ => by
      obtain ⟨x, m, e6, kx, s6⟩ := q_corrupt (B := 10000) (L := 12) (by omega) (by omega) sd (by omega) (basket_cB hb)
      subst hρ
      refine ⟨en script (.int c) (some (.ow d)) (some (.sh (.tuple (ofInts bs)))) (some (.sh x1)) (some (.sh (.list L))) c6 c7 c8 c9 (some (.sh y)), false, en script (.int c) (some (.ow d)) (some (.sh (.tuple (ofInts bs)))) (some (.sh x1)) (some (.sh (.list L))) c6 c7 c8 c9 (some (.sh y)), x, false,
        en script (.int c) (some (.ow m)) (some (.sh (.tuple (ofInts bs)))) (some (.sh x1)) (some (.sh (.list L))) c6 c7 c8 c9 (some (.sh y)), by simp [defSem, outF, envOf, evalSs, evalS, evalEs, evalI, evalFs, EO.binS, AO.binS, evalE, getC, EO.bind, AO.bind, EO.binA, AO.binA, retE, outE, outB, boolE, intE, isTy, cmpV, isScal, ixV, atD, ixOf, slV, Cell.dat, Cell.isMut, Cell.put, binV, nxO, setC, setCs, setT, setTs, mkC, stxV, callE, callmE, bltV, rngL, seqL, optI, isNop, augI, isL, Tg.slots, hidI, wipeC, backC], by simp [defSem, outF, envOf, evalSs, evalS, evalEs, evalI, evalFs, EO.binS, AO.binS, evalE, getC, EO.bind, AO.bind, EO.binA, AO.binA, retE, outE, outB, boolE, intE, isTy, cmpV, isScal, ixV, atD, ixOf, slV, Cell.dat, Cell.isMut, Cell.put, binV, nxO, setC, setCs, setT, setTs, mkC, stxV, callE, callmE, bltV, rngL, seqL, optI, isNop, augI, isL, Tg.slots, hidI, wipeC, backC], by simp [defSem, outF, envOf, evalSs, evalS, evalEs, evalI, evalFs, EO.binS, AO.binS, evalE, getC, EO.bind, AO.bind, EO.binA, AO.binA, retE, outE, outB, boolE, intE, isTy, cmpV, isScal, ixV, atD, ixOf, slV, Cell.dat, Cell.isMut, Cell.put, binV, nxO, setC, setCs, setT, setTs, mkC, stxV, callE, callmE, bltV, rngL, seqL, optI, isNop, augI, isL, Tg.slots, hidI, wipeC, backC, m2, e6], kx.dm, m, by simp [defSem, outF, envOf, evalSs, evalS, evalEs, evalI, evalFs, EO.binS, AO.binS, evalE, getC, EO.bind, AO.bind, EO.binA, AO.binA, retE, outE, outB, boolE, intE, isTy, cmpV, isScal, ixV, atD, ixOf, slV, Cell.dat, Cell.isMut, Cell.put, binV, nxO, setC, setCs, setT, setTs, mkC, stxV, callE, callmE, bltV, rngL, seqL, optI, isNop, augI, isL, Tg.slots, hidI, wipeC, backC], ?_⟩
      exact s6.up (by omega)) ⟨s4, rfl, t4.up (by omega)⟩
  subst hρ
  rw [List.nil_append] at e5
  have hl5' : xs.length = 10 := by simpa using hl5
  have ec : evalE qs c1_law_k01 (en script (.int c) (some (.ow s4)) (some (.sh (.tuple (ofInts bs)))) (some (.sh x1)) (some (.sh (.list L))) c6 c7 c8 c9 c10) = some (.ok (.list xs) true (en script (.int c) (some (.ow s5)) (some (.sh (.tuple (ofInts bs)))) (some (.sh x1)) (some (.sh (.list L))) c6 c7 c8 c9 c10)) :=
    ev_lc (cs := qs) (it := .rng (.cons (.int 10) .nil)) (ρ1 := en script (.int c) (some (.ow s4)) (some (.sh (.tuple (ofInts bs)))) (some (.sh x1)) (some (.sh (.list L))) c6 c7 c8 c9 c10) (by simp [defSem, outF, envOf, evalSs, evalS, evalEs, evalI, evalFs, EO.binS, AO.binS, evalE, getC, EO.bind, AO.bind, EO.binA, AO.binA, retE, outE, outB, boolE, intE, isTy, cmpV, isScal, ixV, atD, ixOf, slV, Cell.dat, Cell.isMut, Cell.put, binV, nxO, setC, setCs, setT, setTs, mkC, stxV, callE, callmE, bltV, rngL, seqL, optI, isNop, augI, isL, Tg.slots, hidI, wipeC, backC, LIM]) (by simp [LIM]) e5
  have ei : evalI qs (.seq (.bin .Add (.var 5) c1_law_k01)) (en script (.int c) (some (.ow s4)) (some (.sh (.tuple (ofInts bs)))) (some (.sh x1)) (some (.ow (.list L))) c6 c7 c8 c9 c10) = some (.ok (L ++ xs) (en script (.int c) (some (.ow s5)) (some (.sh (.tuple (ofInts bs)))) (some (.sh x1)) (some (.sh (.list L))) c6 c7 c8 c9 c10)) := by
    have hz : L.length + xs.length ≤ LIM := by
      rw [l15, hl5']
      decide
    have e7 : evalE qs (.var 5) (en script (.int c) (some (.ow s4)) (some (.sh (.tuple (ofInts bs)))) (some (.sh x1)) (some (.ow (.list L))) c6 c7 c8 c9 c10) = some (.ok (.list L) false (en script (.int c) (some (.ow s4)) (some (.sh (.tuple (ofInts bs)))) (some (.sh x1)) (some (.sh (.list L))) c6 c7 c8 c9 c10)) := by simp [defSem, outF, envOf, evalSs, evalS, evalEs, evalI, evalFs, EO.binS, AO.binS, evalE, getC, EO.bind, AO.bind, EO.binA, AO.binA, retE, outE, outB, boolE, intE, isTy, cmpV, isScal, ixV, atD, ixOf, slV, Cell.dat, Cell.isMut, Cell.put, binV, nxO, setC, setCs, setT, setTs, mkC, stxV, callE, callmE, bltV, rngL, seqL, optI, isNop, augI, isL, Tg.slots, hidI, wipeC, backC]
    show EO.binA (EO.bind (evalE qs (.var 5) _) _) _ = _
    rw [e7]
    show EO.binA (EO.bind (evalE qs c1_law_k01 _) _) _ = _
    rw [ec]
    show EO.binA (outE _ (binV .Add (.list L) (.list xs))) _ = _
    simp [defSem, outF, envOf, evalSs, evalS, evalEs, evalI, evalFs, EO.binS, AO.binS, evalE, getC, EO.bind, AO.bind, EO.binA, AO.binA, retE, outE, outB, boolE, intE, isTy, cmpV, isScal, ixV, atD, ixOf, slV, Cell.dat, Cell.isMut, Cell.put, binV, nxO, setC, setCs, setT, setTs, mkC, stxV, callE, callmE, bltV, rngL, seqL, optI, isNop, augI, isL, Tg.slots, hidI, wipeC, backC, hz]
  have vok2 : ∀ v ∈ L ++ xs, Dm v := fun v hv => by
    rcases List.mem_append.mp hv with h | h
    · exact vok v h
    · exact hp5 v h
  obtain ⟨ρ1, e8, d6, hρ1, nd6⟩ := for_inv (tg := .nm 6) (b := evalSs qs l1_law_k01) (fun _ ρ => ∃ d6, ρ = en script (.int c) (some (.ow s5)) (some (.sh (.tuple (ofInts bs)))) (some (.sh x1)) (some (.sh (.list L))) d6 c7 c8 c9 c10 ∧ NB d6) (L ++ xs).length (ds := L ++ xs) (n := 0)
    (ρ := en script (.int c) (some (.ow s5)) (some (.sh (.tuple (ofInts bs)))) (some (.sh x1)) (some (.sh (.list L))) c6 c7 c8 c9 c10) (by omega) (fun v hv k ρ _ ⟨d6, hρ, nd⟩ => by
      subst hρ
      exact ⟨en script (.int c) (some (.ow s5)) (some (.sh (.tuple (ofInts bs)))) (some (.sh x1)) (some (.sh (.list L))) (some (.sh v)) c7 c8 c9 c10, _, setC_free (i := 6) (x := .sh v) (by simp) (fun d => by
        cases d6 with
        | none => simp [getC]
        | some z => simpa [getC] using nd d), .inl (ev_l1 (vok2 v hv)), some (.sh v), rfl, nb_sh v⟩) ⟨c6, rfl, n6⟩
  subst hρ1
  have st5 : evalS qs (.fr (.nm 6) (.seq (.bin .Add (.var 5) c1_law_k01)) l1_law_k01) (en script (.int c) (some (.ow s4)) (some (.sh (.tuple (ofInts bs)))) (some (.sh x1)) (some (.ow (.list L))) c6 c7 c8 c9 c10) = some (.nx (en script (.int c) (some (.ow s5)) (some (.sh (.tuple (ofInts bs)))) (some (.sh x1)) (some (.sh (.list L))) d6 c7 c8 c9 c10)) := by
    rw [ev_fr ei]
    exact e8
  have er := q_rowB hb.1 hb.2.1 hb.2.2
  have st6 : evalS qs (.set 7 (.call 7 (.cons (.var 3) .nil))) (en script (.int c) (some (.ow s5)) (some (.sh (.tuple (ofInts bs)))) (some (.sh x1)) (some (.sh (.list L))) d6 c7 c8 c9 c10) = some (.nx (en script (.int c) (some (.ow s5)) (some (.sh (.tuple (ofInts bs)))) (some (.sh x1)) (some (.sh (.list L))) d6 (some (.sh (.tuple (ofInts (rowOf bs))))) c8 c9 c10)) :=
    go_set (ρ1 := en script (.int c) (some (.ow s5)) (some (.sh (.tuple (ofInts bs)))) (some (.sh x1)) (some (.sh (.list L))) d6 c7 c8 c9 c10) (d := .tuple (ofInts (rowOf bs))) (fr := false) (by simp [defSem, outF, envOf, evalSs, evalS, evalEs, evalI, evalFs, EO.binS, AO.binS, evalE, getC, EO.bind, AO.bind, EO.binA, AO.binA, retE, outE, outB, boolE, intE, isTy, cmpV, isScal, ixV, atD, ixOf, slV, Cell.dat, Cell.isMut, Cell.put, binV, nxO, setC, setCs, setT, setTs, mkC, stxV, callE, callmE, bltV, rngL, seqL, optI, isNop, augI, isL, Tg.slots, hidI, wipeC, backC, m7, er]) (setC_free (by simp) fun d => by
      cases c7 with
      | none => simp [getC]
      | some z => simpa [getC] using n7 d)
  have st7 : evalS qs (.ite (.sc (.or (.not (.isi (.var 7) [.tuple])) (.cmp .NotEq (.blt .sorted (.cons (.var 7) .nil)) (.trng .list (.cons (.sc (.blt .len (.cons (.var 3) .nil))) .nil))))) (.cons (.ret (.bl false)) .nil) .nil) (en script (.int c) (some (.ow s5)) (some (.sh (.tuple (ofInts bs)))) (some (.sh x1)) (some (.sh (.list L))) d6 (some (.sh (.tuple (ofInts (rowOf bs))))) c8 c9 c10) =
      some (.nx (en script (.int c) (some (.ow s5)) (some (.sh (.tuple (ofInts bs)))) (some (.sh x1)) (some (.sh (.list L))) d6 (some (.sh (.tuple (ofInts (rowOf bs))))) c8 c9 c10)) := by
    have z1 : (bs.length : Int) ≤ LIM := by
      have := hb.2.1
      unfold LIM
      omega
    have z2 : -(LIM : Int) ≤ (bs.length : Int) := by
      unfold LIM
      omega
    have z3 : ofInts (sortI (rowOf bs)) = (List.range bs.length).map fun i => PyData.int ((0 : Int) + (i : Nat)) := by
      rw [row_sort]
      unfold ofInts
      rw [List.map_map]
      simp [Function.comp_def]
    have z4 : PyData.eqv (.list (ofInts (sortI (rowOf bs)))) (.list (ofInts (sortI (rowOf bs)))) = true := by
      simp only [PyData.eqv]
      exact eqv_ints _
    have z5 : evalE qs (.trng .list (.cons (.sc (.blt .len (.cons (.var 3) .nil))) .nil)) (en script (.int c) (some (.ow s5)) (some (.sh (.tuple (ofInts bs)))) (some (.sh x1)) (some (.sh (.list L))) d6 (some (.sh (.tuple (ofInts (rowOf bs))))) c8 c9 c10) =
        some (.ok (.list (ofInts (sortI (rowOf bs)))) true (en script (.int c) (some (.ow s5)) (some (.sh (.tuple (ofInts bs)))) (some (.sh x1)) (some (.sh (.list L))) d6 (some (.sh (.tuple (ofInts (rowOf bs))))) c8 c9 c10)) := by
      rw [z3]
      simp [defSem, outF, envOf, evalSs, evalS, evalEs, evalI, evalFs, EO.binS, AO.binS, evalE, getC, EO.bind, AO.bind, EO.binA, AO.binA, retE, outE, outB, boolE, intE, isTy, cmpV, isScal, ixV, atD, ixOf, slV, Cell.dat, Cell.isMut, Cell.put, binV, nxO, setC, setCs, setT, setTs, mkC, stxV, callE, callmE, bltV, rngL, seqL, optI, isNop, augI, isL, Tg.slots, hidI, wipeC, backC, len_ofInts, z1, z2]
    have z6 : evalE qs (.blt .sorted (.cons (.var 7) .nil)) (en script (.int c) (some (.ow s5)) (some (.sh (.tuple (ofInts bs)))) (some (.sh x1)) (some (.sh (.list L))) d6 (some (.sh (.tuple (ofInts (rowOf bs))))) c8 c9 c10) =
        some (.ok (.list (ofInts (sortI (rowOf bs)))) true (en script (.int c) (some (.ow s5)) (some (.sh (.tuple (ofInts bs)))) (some (.sh x1)) (some (.sh (.list L))) d6 (some (.sh (.tuple (ofInts (rowOf bs))))) c8 c9 c10)) := by
      simp [defSem, outF, envOf, evalSs, evalS, evalEs, evalI, evalFs, EO.binS, AO.binS, evalE, getC, EO.bind, AO.bind, EO.binA, AO.binA, retE, outE, outB, boolE, intE, isTy, cmpV, isScal, ixV, atD, ixOf, slV, Cell.dat, Cell.isMut, Cell.put, binV, nxO, setC, setCs, setT, setTs, mkC, stxV, callE, callmE, bltV, rngL, seqL, optI, isNop, augI, isL, Tg.slots, hidI, wipeC, backC, ints_map]
    have z7 : evalE qs (.cmp .NotEq (.blt .sorted (.cons (.var 7) .nil)) (.trng .list (.cons (.sc (.blt .len (.cons (.var 3) .nil))) .nil))) (en script (.int c) (some (.ow s5)) (some (.sh (.tuple (ofInts bs)))) (some (.sh x1)) (some (.sh (.list L))) d6 (some (.sh (.tuple (ofInts (rowOf bs))))) c8 c9 c10) =
        some (.ok (.bool false) false (en script (.int c) (some (.ow s5)) (some (.sh (.tuple (ofInts bs)))) (some (.sh x1)) (some (.sh (.list L))) d6 (some (.sh (.tuple (ofInts (rowOf bs))))) c8 c9 c10)) := by
      show EO.bind (evalE qs (.blt .sorted (.cons (.var 7) .nil)) _) _ = _
      rw [z6]
      show EO.bind (evalE qs (.trng .list (.cons (.sc (.blt .len (.cons (.var 3) .nil))) .nil)) _) _ = _
      rw [z5]
      simp [defSem, outF, envOf, evalSs, evalS, evalEs, evalI, evalFs, EO.binS, AO.binS, evalE, getC, EO.bind, AO.bind, EO.binA, AO.binA, retE, outE, outB, boolE, intE, isTy, cmpV, isScal, slV, Cell.dat, Cell.isMut, Cell.put, binV, nxO, setC, setCs, setT, setTs, mkC, stxV, callE, callmE, bltV, rngL, seqL, optI, isNop, augI, isL, Tg.slots, hidI, wipeC, backC, shp_ints, z4]
    refine (go_if (k := false) (fr := false) (ρ1 := en script (.int c) (some (.ow s5)) (some (.sh (.tuple (ofInts bs)))) (some (.sh x1)) (some (.sh (.list L))) d6 (some (.sh (.tuple (ofInts (rowOf bs))))) c8 c9 c10) ?_).trans (if_neg Bool.false_ne_true)
    have z8 : evalE qs (.or (.not (.isi (.var 7) [.tuple])) (.cmp .NotEq (.blt .sorted (.cons (.var 7) .nil)) (.trng .list (.cons (.sc (.blt .len (.cons (.var 3) .nil))) .nil)))) (en script (.int c) (some (.ow s5)) (some (.sh (.tuple (ofInts bs)))) (some (.sh x1)) (some (.sh (.list L))) d6 (some (.sh (.tuple (ofInts (rowOf bs))))) c8 c9 c10) =
        some (.ok (.bool false) false (en script (.int c) (some (.ow s5)) (some (.sh (.tuple (ofInts bs)))) (some (.sh x1)) (some (.sh (.list L))) d6 (some (.sh (.tuple (ofInts (rowOf bs))))) c8 c9 c10)) := by
      have z9 : evalE qs (.not (.isi (.var 7) [.tuple])) (en script (.int c) (some (.ow s5)) (some (.sh (.tuple (ofInts bs)))) (some (.sh x1)) (some (.sh (.list L))) d6 (some (.sh (.tuple (ofInts (rowOf bs))))) c8 c9 c10) = some (.ok (.bool false) false (en script (.int c) (some (.ow s5)) (some (.sh (.tuple (ofInts bs)))) (some (.sh x1)) (some (.sh (.list L))) d6 (some (.sh (.tuple (ofInts (rowOf bs))))) c8 c9 c10)) := by
        simp [defSem, outF, envOf, evalSs, evalS, evalEs, evalI, evalFs, EO.binS, AO.binS, evalE, getC, EO.bind, AO.bind, EO.binA, AO.binA, retE, outE, outB, boolE, intE, isTy, cmpV, isScal, ixV, atD, ixOf, slV, Cell.dat, Cell.isMut, Cell.put, binV, nxO, setC, setCs, setT, setTs, mkC, stxV, callE, callmE, bltV, rngL, seqL, optI, isNop, augI, isL, Tg.slots, hidI, wipeC, backC]
      show EO.bind (evalE qs (.not (.isi (.var 7) [.tuple])) _) _ = _
      rw [z9]
      show EO.bind (evalE qs (.cmp .NotEq _ _) _) _ = _
      rw [z7]
      rfl
    exact ev_sc z8 rfl
  have ez : evalI qs (.zip (.var 7) (.slv 7 (.int 1) .nop)) (en script (.int c) (some (.ow s5)) (some (.sh (.tuple (ofInts bs)))) (some (.sh x1)) (some (.sh (.list L))) d6 (some (.sh (.tuple (ofInts (rowOf bs))))) c8 c9 c10) =
      some (.ok ((ofInts (rowOf bs)).zipWith (fun a b => PyData.tuple [a, b]) (cutD (ofInts (rowOf bs)) (some 1) none)) (en script (.int c) (some (.ow s5)) (some (.sh (.tuple (ofInts bs)))) (some (.sh x1)) (some (.sh (.list L))) d6 (some (.sh (.tuple (ofInts (rowOf bs))))) c8 c9 c10)) := by
    simp [defSem, outF, envOf, evalSs, evalS, evalEs, evalI, evalFs, EO.binS, AO.binS, evalE, getC, EO.bind, AO.bind, EO.binA, AO.binA, retE, outE, outB, boolE, intE, isTy, cmpV, isScal, ixV, atD, ixOf, slV, Cell.dat, Cell.isMut, Cell.put, binV, nxO, setC, setCs, setT, setTs, mkC, stxV, callE, callmE, bltV, rngL, seqL, optI, isNop, augI, isL, Tg.slots, hidI, wipeC, backC]
  obtain ⟨ρ2, e9, d8, d9, hρ2, nd8, nd9⟩ := for_inv (tg := .tp [8, 9]) (b := evalSs qs l2_law_k01) (fun _ ρ => ∃ d8 d9, ρ = en script (.int c) (some (.ow s5)) (some (.sh (.tuple (ofInts bs)))) (some (.sh x1)) (some (.sh (.list L))) d6 (some (.sh (.tuple (ofInts (rowOf bs))))) d8 d9 c10 ∧ NB d8 ∧ NB d9) _
    (ds := (ofInts (rowOf bs)).zipWith (fun a b => PyData.tuple [a, b]) (cutD (ofInts (rowOf bs)) (some 1) none)) (n := 0) (ρ := en script (.int c) (some (.ow s5)) (some (.sh (.tuple (ofInts bs)))) (some (.sh x1)) (some (.sh (.list L))) d6 (some (.sh (.tuple (ofInts (rowOf bs))))) c8 c9 c10) (Nat.le_refl _) (fun v hv k ρ _ ⟨d8, d9, hρ, nd, ne⟩ => by
      subst hρ
      obtain ⟨i, a, b, ha, hb', rfl⟩ := zip_mem hv
      obtain ⟨j, k, x, y, q1, q2, q3, q4, q5⟩ := row_next (bs := bs) (i := i) (List.getElem?_eq_some_iff.mp hb').1
      rw [ha] at q1
      rw [hb'] at q2
      cases q1
      cases q2
      refine ⟨en script (.int c) (some (.ow s5)) (some (.sh (.tuple (ofInts bs)))) (some (.sh x1)) (some (.sh (.list L))) d6 (some (.sh (.tuple (ofInts (rowOf bs))))) (some (.sh (.int j))) (some (.sh (.int k))) c10, _, ?_, .inl (ev_l2 q3 q4 q5), some (.sh (.int j)), some (.sh (.int k)), rfl, nb_sh _, nb_sh _⟩
      show (setC (en script (.int c) (some (.ow s5)) (some (.sh (.tuple (ofInts bs)))) (some (.sh x1)) (some (.sh (.list L))) d6 (some (.sh (.tuple (ofInts (rowOf bs))))) d8 d9 c10) 8 (.sh (.int j))).bind (fun ρ => (setC ρ 9 (.sh (.int k))).bind fun ρ => some ρ) = _
      rw [setC_free (i := 8) (by simp) (fun d => by
        cases d8 with
        | none => simp [getC]
        | some z => simpa [getC] using nd d)]
      show (setC (en script (.int c) (some (.ow s5)) (some (.sh (.tuple (ofInts bs)))) (some (.sh x1)) (some (.sh (.list L))) d6 (some (.sh (.tuple (ofInts (rowOf bs))))) (some (.sh (.int j))) d9 c10) 9 (.sh (.int k))).bind (fun ρ => some ρ) = _
      rw [setC_free (i := 9) (by simp) (fun d => by
        cases d9 with
        | none => simp [getC]
        | some z => simpa [getC] using ne d)]
      rfl) ⟨c8, c9, rfl, n8, n9⟩
  subst hρ2
  have st8 : evalS qs (.fr (.tp [8, 9]) (.zip (.var 7) (.slv 7 (.int 1) .nop)) l2_law_k01) (en script (.int c) (some (.ow s5)) (some (.sh (.tuple (ofInts bs)))) (some (.sh x1)) (some (.sh (.list L))) d6 (some (.sh (.tuple (ofInts (rowOf bs))))) c8 c9 c10) = some (.nx (en script (.int c) (some (.ow s5)) (some (.sh (.tuple (ofInts bs)))) (some (.sh x1)) (some (.sh (.list L))) d6 (some (.sh (.tuple (ofInts (rowOf bs))))) d8 d9 c10)) := by
    rw [ev_fr ez]
    exact e9
  refine ⟨some (.ow s5), some (.sh (.tuple (ofInts bs))), some (.sh x1), some (.sh (.list L)), d6, some (.sh (.tuple (ofInts (rowOf bs)))), d8, d9, ?_, nb_ow s5, nb_sh _, nb_sh x1, nb_sh _, nd6, nb_sh _, nd8, nd9⟩
  unfold l3_law_k01
  rw [go_nx st0, go_nx st1, go_nx st2, go_nx st3, go_nx st4, go_nx st5, go_nx st6, go_nx st7, go_nx st8]
  rfl
theorem row_5 : rowOf [5, 7, 5] = [1, 0, 2] := by decide +kernel
theorem plain : Plain q_law_k01 := by
  intro ns hns
  have m7 : q_row.mu = false := rfl
  let script : PD := .list (ofInts ns)
  have e0 : evalI qs (.seq (.slc (.bin .Add (.lst (.cons (.int 0) .nil)) (.var 0)) .nop (.int 10))) [some (.sh script), none, none, none, none, none, none, none, none, none, none] = some (.ok (cutD (PyData.int 0 :: ofInts ns) none (some 10)) [some (.sh script), none, none, none, none, none, none, none, none, none, none]) := by
    have hz : 1 + ns.length ≤ LIM := by
      unfold LIM
      omega
    have l1 : (1 : Nat) ≤ LIM := by decide
    have b1 : binV .Add (.list [.int 0]) (.list (ofInts ns)) = some (.list (PyData.int 0 :: ofInts ns), true) := by
      show (if [PyData.int 0].length + (ofInts ns).length ≤ LIM then some (PyData.list ([PyData.int 0] ++ ofInts ns), true) else none) = _
      rw [len_ofInts, if_pos (by simpa using hz)]
      rfl
    have a1 : evalE qs (.bin .Add (.lst (.cons (.int 0) .nil)) (.var 0)) [some (.sh script), none, none, none, none, none, none, none, none, none, none] = some (.ok (.list (PyData.int 0 :: ofInts ns)) true [some (.sh script), none, none, none, none, none, none, none, none, none, none]) := by
      have a2 : evalE qs (.lst (.cons (.int 0) .nil)) [some (.sh script), none, none, none, none, none, none, none, none, none, none] = some (.ok (.list [.int 0]) true [some (.sh script), none, none, none, none, none, none, none, none, none, none]) := by simp [defSem, outF, envOf, evalSs, evalS, evalEs, evalI, evalFs, EO.binS, AO.binS, evalE, getC, EO.bind, AO.bind, EO.binA, AO.binA, retE, outE, outB, boolE, intE, isTy, cmpV, isScal, ixV, atD, ixOf, slV, Cell.dat, Cell.isMut, Cell.put, binV, nxO, setC, setCs, setT, setTs, mkC, stxV, callE, callmE, bltV, rngL, seqL, optI, isNop, augI, isL, Tg.slots, hidI, wipeC, backC, l1]
      show EO.bind (evalE qs (.lst (.cons (.int 0) .nil)) _) _ = _
      rw [a2]
      show outE _ (binV .Add (.list [.int 0]) (.list (ofInts ns))) = _
      rw [b1]
      rfl
    show EO.binA (EO.bind (evalE qs (.bin .Add _ _) _) _) _ = _
    rw [a1]
    rfl
  have hin : ∀ v ∈ cutD (PyData.int 0 :: ofInts ns) none (some 10), ∃ c : Int, v = .int c := fun v hv => by
    rcases List.mem_cons.mp (cut_mem hv) with rfl | h
    · exact ⟨0, rfl⟩
    · obtain ⟨c, _, rfl⟩ := List.mem_map.mp h
      exact ⟨c, rfl⟩
  obtain ⟨ρ', e1, cell, c2, c3, c4, c5, c6, c7, c8, c9, hρ⟩ := for_inv (tg := .nm 1) (b := evalSs qs l3_law_k01) (fun _ ρ => ∃ cell c2 c3 c4 c5 c6 c7 c8 c9, ρ = [some (.sh script), cell, c2, c3, c4, c5, c6, c7, c8, c9, none] ∧ NB cell ∧ NB c2 ∧ NB c3 ∧ NB c4 ∧ NB c5 ∧ NB c6 ∧ NB c7 ∧ NB c8 ∧ NB c9) _
    (ds := cutD (PyData.int 0 :: ofInts ns) none (some 10)) (n := 0) (ρ := [some (.sh script), none, none, none, none, none, none, none, none, none, none]) (Nat.le_refl _) (fun v hv k ρ _ ⟨cell, c2, c3, c4, c5, c6, c7, c8, c9, hρ, n1, n2, n3, n4, n5, n6, n7, n8, n9⟩ => by
      obtain ⟨c, rfl⟩ := hin v hv
      subst hρ
      obtain ⟨d2, d3, d4, d5, d6, d7, d8, d9, e, p2, p3, p4, p5, p6, p7, p8, p9⟩ := ev_l3 (script := script) (c := c) (c10 := none) n2 n3 n4 n5 n6 n7 n8 n9
      exact ⟨_, _, setC_free (i := 1) (by simp) (fun d => by
        cases cell with
        | none => simp [getC]
        | some z => simpa [getC] using n1 d), .inl e, some (.sh (.int c)), d2, d3, d4, d5, d6, d7, d8, d9, rfl, nb_sh _, p2, p3, p4, p5, p6, p7, p8, p9⟩)
    ⟨none, none, none, none, none, none, none, none, none, rfl, nb_no, nb_no, nb_no, nb_no, nb_no, nb_no, nb_no, nb_no, nb_no⟩
  obtain ⟨hρ, _⟩ := hρ
  subst hρ
  have st : evalS qs (.fr (.nm 1) (.seq (.slc (.bin .Add (.lst (.cons (.int 0) .nil)) (.var 0)) .nop (.int 10))) l3_law_k01) [some (.sh script), none, none, none, none, none, none, none, none, none, none] = some (.nx [some (.sh script), cell, c2, c3, c4, c5, c6, c7, c8, c9, none]) := by
    rw [ev_fr e0]
    exact e1
  have er : q_row.run [.tuple [.int 5, .int 7, .int 5]] = some (.ret (.tuple [.int 1, .int 0, .int 2]) false .none) := by
    have := q_rowB (bs := [5, 7, 5]) (by simp) (by simp) (by simp)
    rw [row_5] at this
    exact this
  have l3 : (3 : Nat) ≤ LIM := by decide
  have z1 : shp (.tuple [.int 1, .int 0, .int 2]) = true := shp_intsT [1, 0, 2]
  have z2 : PyData.eqv (.tuple [.int 1, .int 0, .int 2]) (.tuple [.int 1, .int 0, .int 2]) = true := by
    simp only [PyData.eqv]
    exact eqv_ints [1, 0, 2]
  have fin : evalS qs (.ret (.sc (.cmp .Eq (.call 7 (.cons (.tup (.cons (.int 5) (.cons (.int 7) (.cons (.int 5) .nil)))) .nil)) (.tup (.cons (.int 1) (.cons (.int 0) (.cons (.int 2) .nil))))))) [some (.sh script), cell, c2, c3, c4, c5, c6, c7, c8, c9, none] = some (.rt (.bool true) false [some (.sh script), cell, c2, c3, c4, c5, c6, c7, c8, c9, none]) := by
    refine go_ret (ev_sc (fr := false) (ρ1 := [some (.sh script), cell, c2, c3, c4, c5, c6, c7, c8, c9, none]) ?_ rfl)
    simp [defSem, outF, envOf, evalSs, evalS, evalEs, evalI, evalFs, EO.binS, AO.binS, evalE, getC, EO.bind, AO.bind, EO.binA, AO.binA, retE, outE, outB, boolE, intE, isTy, cmpV, isScal, slV, Cell.dat, Cell.isMut, Cell.put, binV, nxO, setC, setCs, setT, setTs, mkC, stxV, callE, callmE, bltV, rngL, seqL, optI, isNop, augI, isL, Tg.slots, hidI, wipeC, backC, m7, er, l3, z1, z2]
  refine ⟨false, .none, ?_⟩
  show outF false (evalSs qs b_law_k01 [some (.sh script), none, none, none, none, none, none, none, none, none, none]) = _
  unfold b_law_k01
  rw [go_nx st, go_rt fin]
  rfl
end DD.K01

-- part rest
namespace DD.K01
open PySem PySem.Spec PyProof.Rows L2 DD.P
abbrev st_is_between : Stmt := top 6
theorem sc_is_between : FnScope t_is_between.N ["value", "low", "high"] (defScope st_is_between) := ⟨rfl, rfl, rfl, by decide +kernel, rfl, by decide +kernel, by decide +kernel⟩
theorem m_is_between : isSs t_is_between (defScope st_is_between) b_is_between (defBody st_is_between) = true := by decide +kernel
abbrev st_is_basket : Stmt := top 7
theorem sc_is_basket : FnScope t_is_basket.N ["value"] (defScope st_is_basket) := ⟨rfl, rfl, rfl, by decide +kernel, rfl, by decide +kernel, by decide +kernel⟩
theorem m_is_basket : isSs t_is_basket (defScope st_is_basket) b_is_basket (defBody st_is_basket) = true := by decide +kernel
abbrev st_check_basket : Stmt := top 8
theorem sc_check_basket : FnScope t_check_basket.N ["basket"] (defScope st_check_basket) := ⟨rfl, rfl, rfl, by decide +kernel, rfl, by decide +kernel, by decide +kernel⟩
theorem m_check_basket : isSs t_check_basket (defScope st_check_basket) b_check_basket (defBody st_check_basket) = true := by decide +kernel
abbrev st_row_of : Stmt := top 9
theorem sc_row_of : FnScope t_row_of.N ["basket"] (defScope st_row_of) := ⟨rfl, rfl, rfl, by decide +kernel, rfl, by decide +kernel, by decide +kernel⟩
theorem m_row_of : isSs t_row_of (defScope st_row_of) b_row_of (defBody st_row_of) = true := by decide +kernel
abbrev st_row : Stmt := top 10
theorem sc_row : FnScope t_row.N ["basket"] (defScope st_row) := ⟨rfl, rfl, rfl, by decide +kernel, rfl, by decide +kernel, by decide +kernel⟩
theorem m_row : isSs t_row (defScope st_row) b_row (defBody st_row) = true := by decide +kernel
abbrev st_law_source : Stmt := top 12
theorem sc_law_source : FnScope t_law_source.N ["_law_cell", "_law_turn"] (defScope st_law_source) := ⟨rfl, rfl, rfl, by decide +kernel, rfl, by decide +kernel, by decide +kernel⟩
theorem m_law_source : isSs t_law_source (defScope st_law_source) b_law_source (defBody st_law_source) = true := by decide +kernel
abbrev st_law_draw : Stmt := top 13
theorem sc_law_draw : FnScope t_law_draw.N ["_law_source_here", "_law_size"] (defScope st_law_draw) := ⟨rfl, rfl, rfl, by decide +kernel, rfl, by decide +kernel, by decide +kernel⟩
theorem m_law_draw : isSs t_law_draw (defScope st_law_draw) b_law_draw (defBody st_law_draw) = true := by decide +kernel
abbrev st_law_is_int : Stmt := top 14
theorem sc_law_is_int : FnScope t_law_is_int.N ["_law_value"] (defScope st_law_is_int) := ⟨rfl, rfl, rfl, by decide +kernel, rfl, by decide +kernel, by decide +kernel⟩
theorem m_law_is_int : isSs t_law_is_int (defScope st_law_is_int) b_law_is_int (defBody st_law_is_int) = true := by decide +kernel
abbrev st_law_choice : Stmt := top 15
theorem sc_law_choice : FnScope t_law_choice.N ["_law_source_here", "_law_items"] (defScope st_law_choice) := ⟨rfl, rfl, rfl, by decide +kernel, rfl, by decide +kernel, by decide +kernel⟩
theorem m_law_choice : isSs t_law_choice (defScope st_law_choice) b_law_choice (defBody st_law_choice) = true := by decide +kernel
abbrev st_law_kind : Stmt := top 16
theorem sc_law_kind : FnScope t_law_kind.N ["_law_value"] (defScope st_law_kind) := ⟨rfl, rfl, rfl, by decide +kernel, rfl, by decide +kernel, by decide +kernel⟩
theorem m_law_kind : isSs t_law_kind (defScope st_law_kind) b_law_kind (defBody st_law_kind) = true := by decide +kernel
abbrev st_law_equal : Stmt := top 17
theorem sc_law_equal : FnScope t_law_equal.N ["_law_value", "_law_expected"] (defScope st_law_equal) := ⟨rfl, rfl, rfl, by decide +kernel, rfl, by decide +kernel, by decide +kernel⟩
theorem m_law_equal : isSs t_law_equal (defScope st_law_equal) b_law_equal (defBody st_law_equal) = true := by decide +kernel
abbrev st_law_any_value : Stmt := top 18
theorem sc_law_any_value : FnScope t_law_any_value.N ["_law_source_here"] (defScope st_law_any_value) := ⟨rfl, rfl, rfl, by decide +kernel, rfl, by decide +kernel, by decide +kernel⟩
theorem m_law_any_value : isSs t_law_any_value (defScope st_law_any_value) b_law_any_value (defBody st_law_any_value) = true := by decide +kernel
abbrev st_law_corrupt : Stmt := top 19
theorem sc_law_corrupt : FnScope t_law_corrupt.N ["_law_source_here", "_law_value"] (defScope st_law_corrupt) := ⟨rfl, rfl, rfl, by decide +kernel, rfl, by decide +kernel, by decide +kernel⟩
theorem m_law_corrupt : isSs t_law_corrupt (defScope st_law_corrupt) b_law_corrupt (defBody st_law_corrupt) = true := by decide +kernel
abbrev st_law_basket : Stmt := top 20
theorem sc_law_basket : FnScope t_law_basket.N ["_law_source_here", "_law_most"] (defScope st_law_basket) := ⟨rfl, rfl, rfl, by decide +kernel, rfl, by decide +kernel, by decide +kernel⟩
theorem m_law_basket : isSs t_law_basket (defScope st_law_basket) b_law_basket (defBody st_law_basket) = true := by decide +kernel
abbrev st_law_is_basket : Stmt := top 21
theorem sc_law_is_basket : FnScope t_law_is_basket.N ["_law_value"] (defScope st_law_is_basket) := ⟨rfl, rfl, rfl, by decide +kernel, rfl, by decide +kernel, by decide +kernel⟩
theorem m_law_is_basket : isSs t_law_is_basket (defScope st_law_is_basket) b_law_is_basket (defBody st_law_is_basket) = true := by decide +kernel
abbrev st_law_k01 : Stmt := top 22
theorem sc_law_k01 : FnScope t_law_k01.N ["_law_script"] (defScope st_law_k01) := ⟨rfl, rfl, rfl, by decide +kernel, rfl, by decide +kernel, by decide +kernel⟩
theorem m_law_k01 : isSs t_law_k01 (defScope st_law_k01) b_law_k01 (defBody st_law_k01) = true := by decide +kernel
theorem ok_is_between {P : Program} {w : World} {K : PySem.W.Frag} {mg : Str → Option Value} {base : Heap} {f : Addr} {fd : FuncData} (D : Def K mg "is_between" st_is_between f fd ["value", "low", "high"]) (hz : ∀ x ∈ bltNames, mg x = none) : FnOk P w K mg base (L2.CX P w) 1 f fd ["value", "low", "high"] (spF K mg q_is_between 3) :=
  mk_ok D rfl sc_is_between m_is_between hz .nil trivial trivial trivial
theorem ok_is_basket {P : Program} {w : World} {K : PySem.W.Frag} {mg : Str → Option Value} {base : Heap} {f : Addr} {fd : FuncData} (D : Def K mg "is_basket" st_is_basket f fd ["value"]) (hz : ∀ x ∈ bltNames, mg x = none) {g0 : FInfo} (c0 : Callee P w K mg base 1 ("is_between", false, 3) q_is_between g0) (h_MAX_ITEMS : ∃ t, mg "MAX_ITEMS" = some (.int 12 t)) (h_MAX_PRICE : ∃ t, mg "MAX_PRICE" = some (.int 10000 t)) : FnOk P w K mg base (L2.CX P w) 2 f fd ["value"] (spF K mg q_is_basket 1) :=
  mk_ok D rfl sc_is_basket m_is_basket hz (.cons c0 .nil) ⟨h_MAX_ITEMS, h_MAX_PRICE, trivial⟩ trivial trivial
theorem ok_check_basket {P : Program} {w : World} {K : PySem.W.Frag} {mg : Str → Option Value} {base : Heap} {f : Addr} {fd : FuncData} (D : Def K mg "check_basket" st_check_basket f fd ["basket"]) (hz : ∀ x ∈ bltNames, mg x = none) {g0 : FInfo} (c0 : Callee P w K mg base 2 ("is_basket", false, 1) q_is_basket g0) (h_InvalidBasket : ExnOk K mg "InvalidBasket") : FnOk P w K mg base (L2.CX P w) 3 f fd ["basket"] (spF K mg q_check_basket 1) :=
  mk_ok D rfl sc_check_basket m_check_basket hz (.cons c0 .nil) trivial trivial ⟨h_InvalidBasket, trivial⟩
theorem ok_row_of {P : Program} {w : World} {K : PySem.W.Frag} {mg : Str → Option Value} {base : Heap} {f : Addr} {fd : FuncData} (D : Def K mg "row_of" st_row_of f fd ["basket"]) (hz : ∀ x ∈ bltNames, mg x = none) : FnOk P w K mg base (L2.CX P w) 1 f fd ["basket"] (spF K mg q_row_of 1) :=
  mk_ok D rfl sc_row_of m_row_of hz .nil trivial trivial trivial
theorem ok_row {P : Program} {w : World} {K : PySem.W.Frag} {mg : Str → Option Value} {base : Heap} {f : Addr} {fd : FuncData} (D : Def K mg "row" st_row f fd ["basket"]) (hz : ∀ x ∈ bltNames, mg x = none) {g0 : FInfo} (c0 : Callee P w K mg base 3 ("check_basket", false, 1) q_check_basket g0) {g1 : FInfo} (c1 : Callee P w K mg base 3 ("row_of", false, 1) q_row_of g1) : FnOk P w K mg base (L2.CX P w) 4 f fd ["basket"] (spF K mg q_row 1) :=
  mk_ok D rfl sc_row m_row hz (.cons c0 (.cons c1 .nil)) trivial trivial trivial
theorem ok_law_source {P : Program} {w : World} {K : PySem.W.Frag} {mg : Str → Option Value} {base : Heap} {f : Addr} {fd : FuncData} (D : Def K mg "_law_source" st_law_source f fd ["_law_cell", "_law_turn"]) (hz : ∀ x ∈ bltNames, mg x = none) : FnOk P w K mg base (L2.CX P w) 1 f fd ["_law_cell", "_law_turn"] (spF K mg q_law_source 2) :=
  mk_ok D rfl sc_law_source m_law_source hz .nil trivial trivial trivial
theorem ok_law_draw {P : Program} {w : World} {K : PySem.W.Frag} {mg : Str → Option Value} {base : Heap} {f : Addr} {fd : FuncData} (D : Def K mg "_law_draw" st_law_draw f fd ["_law_source_here", "_law_size"]) (hz : ∀ x ∈ bltNames, mg x = none) : FnOk P w K mg base (L2.CX P w) 1 f fd ["_law_source_here", "_law_size"] (spF K mg q_law_draw 2) :=
  mk_ok D rfl sc_law_draw m_law_draw hz .nil trivial trivial trivial
theorem ok_law_is_int {P : Program} {w : World} {K : PySem.W.Frag} {mg : Str → Option Value} {base : Heap} {f : Addr} {fd : FuncData} (D : Def K mg "_law_is_int" st_law_is_int f fd ["_law_value"]) (hz : ∀ x ∈ bltNames, mg x = none) : FnOk P w K mg base (L2.CX P w) 1 f fd ["_law_value"] (spF K mg q_law_is_int 1) :=
  mk_ok D rfl sc_law_is_int m_law_is_int hz .nil trivial trivial trivial
theorem ok_law_choice {P : Program} {w : World} {K : PySem.W.Frag} {mg : Str → Option Value} {base : Heap} {f : Addr} {fd : FuncData} (D : Def K mg "_law_choice" st_law_choice f fd ["_law_source_here", "_law_items"]) (hz : ∀ x ∈ bltNames, mg x = none) {g0 : FInfo} (c0 : Callee P w K mg base 1 ("_law_draw", true, 2) q_law_draw g0) : FnOk P w K mg base (L2.CX P w) 2 f fd ["_law_source_here", "_law_items"] (spF K mg q_law_choice 2) :=
  mk_ok D rfl sc_law_choice m_law_choice hz (.cons c0 .nil) trivial trivial trivial
theorem ok_law_kind {P : Program} {w : World} {K : PySem.W.Frag} {mg : Str → Option Value} {base : Heap} {f : Addr} {fd : FuncData} (D : Def K mg "_law_kind" st_law_kind f fd ["_law_value"]) (hz : ∀ x ∈ bltNames, mg x = none) : FnOk P w K mg base (L2.CX P w) 1 f fd ["_law_value"] (spF K mg q_law_kind 1) :=
  mk_ok D rfl sc_law_kind m_law_kind hz .nil trivial trivial trivial
theorem ok_law_equal {P : Program} {w : World} {K : PySem.W.Frag} {mg : Str → Option Value} {base : Heap} {f : Addr} {fd : FuncData} (D : Def K mg "_law_equal" st_law_equal f fd ["_law_value", "_law_expected"]) (hz : ∀ x ∈ bltNames, mg x = none) {g0 : FInfo} (c0 : Callee P w K mg base 1 ("_law_kind", false, 1) q_law_kind g0) : ∀ n : Nat, FnOk P w K mg base (L2.CX P w) (1 + n) f fd ["_law_value", "_law_expected"] (spF K mg (q_law_equal n) 2)
  | 0 => no_ok
  | n + 1 => mk_ok D rfl sc_law_equal m_law_equal hz (.cons (c0.up (Nat.le_add_right _ _)) (.cons (D.call (ok_law_equal D hz c0 n) (by cases n <;> rfl) rfl) .nil)) trivial trivial trivial
theorem ok_law_any_value {P : Program} {w : World} {K : PySem.W.Frag} {mg : Str → Option Value} {base : Heap} {f : Addr} {fd : FuncData} (D : Def K mg "_law_any_value" st_law_any_value f fd ["_law_source_here"]) (hz : ∀ x ∈ bltNames, mg x = none) {g0 : FInfo} (c0 : Callee P w K mg base 2 ("_law_choice", true, 2) q_law_choice g0) : FnOk P w K mg base (L2.CX P w) 3 f fd ["_law_source_here"] (spF K mg q_law_any_value 1) :=
  mk_ok D rfl sc_law_any_value m_law_any_value hz (.cons c0 .nil) trivial trivial trivial
theorem ok_law_corrupt {P : Program} {w : World} {K : PySem.W.Frag} {mg : Str → Option Value} {base : Heap} {f : Addr} {fd : FuncData} (D : Def K mg "_law_corrupt" st_law_corrupt f fd ["_law_source_here", "_law_value"]) (hz : ∀ x ∈ bltNames, mg x = none) {g0 : FInfo} (c0 : Callee P w K mg base 1 ("_law_draw", true, 2) q_law_draw g0) : ∀ n : Nat, FnOk P w K mg base (L2.CX P w) (1 + n) f fd ["_law_source_here", "_law_value"] (spF K mg (q_law_corrupt n) 2)
  | 0 => no_ok
  | n + 1 => mk_ok D rfl sc_law_corrupt m_law_corrupt hz (.cons (c0.up (Nat.le_add_right _ _)) (.cons (D.call (ok_law_corrupt D hz c0 n) (by cases n <;> rfl) rfl) .nil)) trivial trivial trivial
theorem ok_law_basket {P : Program} {w : World} {K : PySem.W.Frag} {mg : Str → Option Value} {base : Heap} {f : Addr} {fd : FuncData} (D : Def K mg "_law_basket" st_law_basket f fd ["_law_source_here", "_law_most"]) (hz : ∀ x ∈ bltNames, mg x = none) {g0 : FInfo} (c0 : Callee P w K mg base 2 ("_law_choice", true, 2) q_law_choice g0) {g1 : FInfo} (c1 : Callee P w K mg base 2 ("_law_draw", true, 2) q_law_draw g1) : FnOk P w K mg base (L2.CX P w) 3 f fd ["_law_source_here", "_law_most"] (spF K mg q_law_basket 2) :=
  mk_ok D rfl sc_law_basket m_law_basket hz (.cons c0 (.cons c1 .nil)) trivial trivial trivial
theorem ok_law_is_basket {P : Program} {w : World} {K : PySem.W.Frag} {mg : Str → Option Value} {base : Heap} {f : Addr} {fd : FuncData} (D : Def K mg "_law_is_basket" st_law_is_basket f fd ["_law_value"]) (hz : ∀ x ∈ bltNames, mg x = none) {g0 : FInfo} (c0 : Callee P w K mg base 1 ("_law_is_int", false, 1) q_law_is_int g0) : FnOk P w K mg base (L2.CX P w) 2 f fd ["_law_value"] (spF K mg q_law_is_basket 1) :=
  mk_ok D rfl sc_law_is_basket m_law_is_basket hz (.cons c0 .nil) trivial trivial trivial
theorem ok_law_k01 {P : Program} {w : World} {K : PySem.W.Frag} {mg : Str → Option Value} {base : Heap} {f : Addr} {fd : FuncData} (D : Def K mg "law" st_law_k01 f fd ["_law_script"]) (hz : ∀ x ∈ bltNames, mg x = none) {g0 : FInfo} (c0 : Callee P w K mg base 8 ("_law_source", false, 2) q_law_source g0) {g1 : FInfo} (c1 : Callee P w K mg base 8 ("_law_basket", true, 2) q_law_basket g1) {g2 : FInfo} (c2 : Callee P w K mg base 8 ("_law_corrupt", true, 2) (q_law_corrupt 6) g2) {g3 : FInfo} (c3 : Callee P w K mg base 8 ("_law_any_value", true, 1) q_law_any_value g3) {g4 : FInfo} (c4 : Callee P w K mg base 8 ("_law_equal", false, 2) (q_law_equal 6) g4) {g5 : FInfo} (c5 : Callee P w K mg base 8 ("is_basket", false, 1) q_is_basket g5) {g6 : FInfo} (c6 : Callee P w K mg base 8 ("_law_is_basket", false, 1) q_law_is_basket g6) {g7 : FInfo} (c7 : Callee P w K mg base 8 ("row", false, 1) q_row g7) : FnOk P w K mg base (L2.CX P w) 9 f fd ["_law_script"] (spF K mg q_law_k01 1) :=
  mk_ok D rfl sc_law_k01 m_law_k01 hz (.cons c0 (.cons c1 (.cons c2 (.cons c3 (.cons c4 (.cons c5 (.cons c6 (.cons c7 .nil)))))))) trivial trivial trivial
theorem all_mk {l : PySem.W.OpenLaw} {w : World} {K : PySem.W.Frag} {h : Heap} {mg : Str → Option Value} {fa : Addr} (hp : Plain q_law_k01) (X : K.In h) (G : h.Ns mainGlobals mg) (hfa : mg "law" = some (.ref fa))
    {f0 : Addr} {od0 an0 : Option Addr} {sl0 : Array (Option Value)} {oc0 kV0 dc0 pm0 cd0 ct0 : Value} (a0 : PySem.W.nsIn K mainGlobals "is_between" = some (some (.ref f0))) (l0 : K.lookup f0 = some ⟨oc0, od0, .func (PySem.W.fnOf "is_between" "is_between" (defArgs st_is_between) (defBody st_is_between) (defScope st_is_between) .none kV0 dc0 pm0 an0 cd0 ct0), sl0⟩) (c0 : PySem.W.codeIn K cd0 "is_between" = true) (k0 : PySem.W.keepIn K (.ref f0) = true)
    {f1 : Addr} {od1 an1 : Option Addr} {sl1 : Array (Option Value)} {oc1 kV1 dc1 pm1 cd1 ct1 : Value} (a1 : PySem.W.nsIn K mainGlobals "is_basket" = some (some (.ref f1))) (l1 : K.lookup f1 = some ⟨oc1, od1, .func (PySem.W.fnOf "is_basket" "is_basket" (defArgs st_is_basket) (defBody st_is_basket) (defScope st_is_basket) .none kV1 dc1 pm1 an1 cd1 ct1), sl1⟩) (c1 : PySem.W.codeIn K cd1 "is_basket" = true) (k1 : PySem.W.keepIn K (.ref f1) = true)
    {f2 : Addr} {od2 an2 : Option Addr} {sl2 : Array (Option Value)} {oc2 kV2 dc2 pm2 cd2 ct2 : Value} (a2 : PySem.W.nsIn K mainGlobals "check_basket" = some (some (.ref f2))) (l2 : K.lookup f2 = some ⟨oc2, od2, .func (PySem.W.fnOf "check_basket" "check_basket" (defArgs st_check_basket) (defBody st_check_basket) (defScope st_check_basket) .none kV2 dc2 pm2 an2 cd2 ct2), sl2⟩) (c2 : PySem.W.codeIn K cd2 "check_basket" = true) (k2 : PySem.W.keepIn K (.ref f2) = true)
    {f3 : Addr} {od3 an3 : Option Addr} {sl3 : Array (Option Value)} {oc3 kV3 dc3 pm3 cd3 ct3 : Value} (a3 : PySem.W.nsIn K mainGlobals "row_of" = some (some (.ref f3))) (l3 : K.lookup f3 = some ⟨oc3, od3, .func (PySem.W.fnOf "row_of" "row_of" (defArgs st_row_of) (defBody st_row_of) (defScope st_row_of) .none kV3 dc3 pm3 an3 cd3 ct3), sl3⟩) (c3 : PySem.W.codeIn K cd3 "row_of" = true) (k3 : PySem.W.keepIn K (.ref f3) = true)
    {f4 : Addr} {od4 an4 : Option Addr} {sl4 : Array (Option Value)} {oc4 kV4 dc4 pm4 cd4 ct4 : Value} (a4 : PySem.W.nsIn K mainGlobals "row" = some (some (.ref f4))) (l4 : K.lookup f4 = some ⟨oc4, od4, .func (PySem.W.fnOf "row" "row" (defArgs st_row) (defBody st_row) (defScope st_row) .none kV4 dc4 pm4 an4 cd4 ct4), sl4⟩) (c4 : PySem.W.codeIn K cd4 "row" = true) (k4 : PySem.W.keepIn K (.ref f4) = true)
    {f5 : Addr} {od5 an5 : Option Addr} {sl5 : Array (Option Value)} {oc5 kV5 dc5 pm5 cd5 ct5 : Value} (a5 : PySem.W.nsIn K mainGlobals "_law_source" = some (some (.ref f5))) (l5 : K.lookup f5 = some ⟨oc5, od5, .func (PySem.W.fnOf "_law_source" "_law_source" (defArgs st_law_source) (defBody st_law_source) (defScope st_law_source) .none kV5 dc5 pm5 an5 cd5 ct5), sl5⟩) (c5 : PySem.W.codeIn K cd5 "_law_source" = true) (k5 : PySem.W.keepIn K (.ref f5) = true)
    {f6 : Addr} {od6 an6 : Option Addr} {sl6 : Array (Option Value)} {oc6 kV6 dc6 pm6 cd6 ct6 : Value} (a6 : PySem.W.nsIn K mainGlobals "_law_draw" = some (some (.ref f6))) (l6 : K.lookup f6 = some ⟨oc6, od6, .func (PySem.W.fnOf "_law_draw" "_law_draw" (defArgs st_law_draw) (defBody st_law_draw) (defScope st_law_draw) .none kV6 dc6 pm6 an6 cd6 ct6), sl6⟩) (c6 : PySem.W.codeIn K cd6 "_law_draw" = true) (k6 : PySem.W.keepIn K (.ref f6) = true)
    {f7 : Addr} {od7 an7 : Option Addr} {sl7 : Array (Option Value)} {oc7 kV7 dc7 pm7 cd7 ct7 : Value} (a7 : PySem.W.nsIn K mainGlobals "_law_is_int" = some (some (.ref f7))) (l7 : K.lookup f7 = some ⟨oc7, od7, .func (PySem.W.fnOf "_law_is_int" "_law_is_int" (defArgs st_law_is_int) (defBody st_law_is_int) (defScope st_law_is_int) .none kV7 dc7 pm7 an7 cd7 ct7), sl7⟩) (c7 : PySem.W.codeIn K cd7 "_law_is_int" = true) (k7 : PySem.W.keepIn K (.ref f7) = true)
    {f8 : Addr} {od8 an8 : Option Addr} {sl8 : Array (Option Value)} {oc8 kV8 dc8 pm8 cd8 ct8 : Value} (a8 : PySem.W.nsIn K mainGlobals "_law_choice" = some (some (.ref f8))) (l8 : K.lookup f8 = some ⟨oc8, od8, .func (PySem.W.fnOf "_law_choice" "_law_choice" (defArgs st_law_choice) (defBody st_law_choice) (defScope st_law_choice) .none kV8 dc8 pm8 an8 cd8 ct8), sl8⟩) (c8 : PySem.W.codeIn K cd8 "_law_choice" = true) (k8 : PySem.W.keepIn K (.ref f8) = true)
    {f9 : Addr} {od9 an9 : Option Addr} {sl9 : Array (Option Value)} {oc9 kV9 dc9 pm9 cd9 ct9 : Value} (a9 : PySem.W.nsIn K mainGlobals "_law_kind" = some (some (.ref f9))) (l9 : K.lookup f9 = some ⟨oc9, od9, .func (PySem.W.fnOf "_law_kind" "_law_kind" (defArgs st_law_kind) (defBody st_law_kind) (defScope st_law_kind) .none kV9 dc9 pm9 an9 cd9 ct9), sl9⟩) (c9 : PySem.W.codeIn K cd9 "_law_kind" = true) (k9 : PySem.W.keepIn K (.ref f9) = true)
    {f10 : Addr} {od10 an10 : Option Addr} {sl10 : Array (Option Value)} {oc10 kV10 dc10 pm10 cd10 ct10 : Value} (a10 : PySem.W.nsIn K mainGlobals "_law_equal" = some (some (.ref f10))) (l10 : K.lookup f10 = some ⟨oc10, od10, .func (PySem.W.fnOf "_law_equal" "_law_equal" (defArgs st_law_equal) (defBody st_law_equal) (defScope st_law_equal) .none kV10 dc10 pm10 an10 cd10 ct10), sl10⟩) (c10 : PySem.W.codeIn K cd10 "_law_equal" = true) (k10 : PySem.W.keepIn K (.ref f10) = true)
    {f11 : Addr} {od11 an11 : Option Addr} {sl11 : Array (Option Value)} {oc11 kV11 dc11 pm11 cd11 ct11 : Value} (a11 : PySem.W.nsIn K mainGlobals "_law_any_value" = some (some (.ref f11))) (l11 : K.lookup f11 = some ⟨oc11, od11, .func (PySem.W.fnOf "_law_any_value" "_law_any_value" (defArgs st_law_any_value) (defBody st_law_any_value) (defScope st_law_any_value) .none kV11 dc11 pm11 an11 cd11 ct11), sl11⟩) (c11 : PySem.W.codeIn K cd11 "_law_any_value" = true) (k11 : PySem.W.keepIn K (.ref f11) = true)
    {f12 : Addr} {od12 an12 : Option Addr} {sl12 : Array (Option Value)} {oc12 kV12 dc12 pm12 cd12 ct12 : Value} (a12 : PySem.W.nsIn K mainGlobals "_law_corrupt" = some (some (.ref f12))) (l12 : K.lookup f12 = some ⟨oc12, od12, .func (PySem.W.fnOf "_law_corrupt" "_law_corrupt" (defArgs st_law_corrupt) (defBody st_law_corrupt) (defScope st_law_corrupt) .none kV12 dc12 pm12 an12 cd12 ct12), sl12⟩) (c12 : PySem.W.codeIn K cd12 "_law_corrupt" = true) (k12 : PySem.W.keepIn K (.ref f12) = true)
    {f13 : Addr} {od13 an13 : Option Addr} {sl13 : Array (Option Value)} {oc13 kV13 dc13 pm13 cd13 ct13 : Value} (a13 : PySem.W.nsIn K mainGlobals "_law_basket" = some (some (.ref f13))) (l13 : K.lookup f13 = some ⟨oc13, od13, .func (PySem.W.fnOf "_law_basket" "_law_basket" (defArgs st_law_basket) (defBody st_law_basket) (defScope st_law_basket) .none kV13 dc13 pm13 an13 cd13 ct13), sl13⟩) (c13 : PySem.W.codeIn K cd13 "_law_basket" = true) (k13 : PySem.W.keepIn K (.ref f13) = true)
    {f14 : Addr} {od14 an14 : Option Addr} {sl14 : Array (Option Value)} {oc14 kV14 dc14 pm14 cd14 ct14 : Value} (a14 : PySem.W.nsIn K mainGlobals "_law_is_basket" = some (some (.ref f14))) (l14 : K.lookup f14 = some ⟨oc14, od14, .func (PySem.W.fnOf "_law_is_basket" "_law_is_basket" (defArgs st_law_is_basket) (defBody st_law_is_basket) (defScope st_law_is_basket) .none kV14 dc14 pm14 an14 cd14 ct14), sl14⟩) (c14 : PySem.W.codeIn K cd14 "_law_is_basket" = true) (k14 : PySem.W.keepIn K (.ref f14) = true)
    {f15 : Addr} {od15 an15 : Option Addr} {sl15 : Array (Option Value)} {oc15 kV15 dc15 pm15 cd15 ct15 : Value} (a15 : PySem.W.nsIn K mainGlobals "law" = some (some (.ref f15))) (l15 : K.lookup f15 = some ⟨oc15, od15, .func (PySem.W.fnOf "law" "law" (defArgs st_law_k01) (defBody st_law_k01) (defScope st_law_k01) .none kV15 dc15 pm15 an15 cd15 ct15), sl15⟩) (c15 : PySem.W.codeIn K cd15 "law" = true) (k15 : PySem.W.keepIn K (.ref f15) = true)
    {C0 : Addr} (ea0 : PySem.W.nsIn K mainGlobals "InvalidBasket" = some (some (.ref C0))) (ex0 : PySem.W.excIn K C0 [.type "ValueError", .type "Exception", .type "BaseException", .type "object"] "ValueError.__new__" = true) (ek0 : PySem.W.keepIn K (.ref C0) = true) (eb0 : PySem.W.subIn K (.ref C0) (.type "BaseException") = some true) (et0 : PySem.W.typeIn K (.ref C0) = some (.type "type"))
    {t0 : Tok} (con0 : PySem.W.nsIn K mainGlobals "MAX_ITEMS" = some (some (.int 12 t0)))
    {t1 : Tok} (con1 : PySem.W.nsIn K mainGlobals "MAX_PRICE" = some (some (.int 10000 t1)))
    (z0 : PySem.W.nsIn K mainGlobals "len" = some none)
    (z1 : PySem.W.nsIn K mainGlobals "sum" = some none)
    (z2 : PySem.W.nsIn K mainGlobals "max" = some none)
    (z3 : PySem.W.nsIn K mainGlobals "min" = some none)
    (z4 : PySem.W.nsIn K mainGlobals "sorted" = some none)
    (z5 : PySem.W.nsIn K mainGlobals "all" = some none)
    (z6 : PySem.W.nsIn K mainGlobals "any" = some none)
    (z7 : PySem.W.nsIn K mainGlobals "tuple" = some none)
    (z8 : PySem.W.nsIn K mainGlobals "list" = some none)
    (z9 : PySem.W.nsIn K mainGlobals "set" = some none)
    (z10 : PySem.W.nsIn K mainGlobals "int" = some none)
    (z11 : PySem.W.nsIn K mainGlobals "str" = some none)
    (z12 : PySem.W.nsIn K mainGlobals "bool" = some none)
    (z13 : PySem.W.nsIn K mainGlobals "isinstance" = some none)
    (z14 : PySem.W.nsIn K mainGlobals "range" = some none)
    (z15 : PySem.W.nsIn K mainGlobals "enumerate" = some none)
    (z16 : PySem.W.nsIn K mainGlobals "zip" = some none) :
    ∃ fd : FuncData, (∀ (s : Shared) (v : Value), BindsTo s fd ⟨[v], []⟩ [("_law_script", v)]) ∧ ∀ base : Heap, K.In base → base.Ns mainGlobals mg → FnOk l.prog w K mg base (L2.CX l.prog w) 9 fa fd ["_law_script"] (spL K) := by
  have e := hfa.symm.trans (PySem.W.mg_of X G a15)
  have ef : fa = f15 := Value.ref.inj (Option.some.inj e)
  rw [ef]
  have hz : ∀ x ∈ bltNames, mg x = none := by
    intro x hx
    simp only [bltNames, List.mem_cons, List.not_mem_nil, or_false] at hx
    rcases hx with rfl | rfl | rfl | rfl | rfl | rfl | rfl | rfl | rfl | rfl | rfl | rfl | rfl | rfl | rfl | rfl | rfl
    · exact PySem.W.mg_none_of X G z0
    · exact PySem.W.mg_none_of X G z1
    · exact PySem.W.mg_none_of X G z2
    · exact PySem.W.mg_none_of X G z3
    · exact PySem.W.mg_none_of X G z4
    · exact PySem.W.mg_none_of X G z5
    · exact PySem.W.mg_none_of X G z6
    · exact PySem.W.mg_none_of X G z7
    · exact PySem.W.mg_none_of X G z8
    · exact PySem.W.mg_none_of X G z9
    · exact PySem.W.mg_none_of X G z10
    · exact PySem.W.mg_none_of X G z11
    · exact PySem.W.mg_none_of X G z12
    · exact PySem.W.mg_none_of X G z13
    · exact PySem.W.mg_none_of X G z14
    · exact PySem.W.mg_none_of X G z15
    · exact PySem.W.mg_none_of X G z16
  have h_InvalidBasket : ExnOk K mg "InvalidBasket" := ⟨⟨C0, PySem.W.mg_of X G ea0, ex0, ek0, eb0, et0⟩⟩
  have h_MAX_ITEMS : ∃ t, mg "MAX_ITEMS" = some (.int 12 t) := ⟨t0, PySem.W.mg_of X G con0⟩
  have h_MAX_PRICE : ∃ t, mg "MAX_PRICE" = some (.int 10000 t) := ⟨t1, PySem.W.mg_of X G con1⟩
  have F0 := fun_mk (st := st_is_between) l0 c0 k0
  have D0 : Def K mg "is_between" st_is_between f0 _ ["value", "low", "high"] := ⟨F0, PySem.W.mg_of X G a0, F0.binds (ps := ["value", "low", "high"]) fun _ _ _ _ _ _ us hl => match us, hl with | [_, _, _], _ => rfl⟩
  have F1 := fun_mk (st := st_is_basket) l1 c1 k1
  have D1 : Def K mg "is_basket" st_is_basket f1 _ ["value"] := ⟨F1, PySem.W.mg_of X G a1, F1.binds (ps := ["value"]) fun _ _ _ _ _ _ us hl => match us, hl with | [_], _ => rfl⟩
  have F2 := fun_mk (st := st_check_basket) l2 c2 k2
  have D2 : Def K mg "check_basket" st_check_basket f2 _ ["basket"] := ⟨F2, PySem.W.mg_of X G a2, F2.binds (ps := ["basket"]) fun _ _ _ _ _ _ us hl => match us, hl with | [_], _ => rfl⟩
  have F3 := fun_mk (st := st_row_of) l3 c3 k3
  have D3 : Def K mg "row_of" st_row_of f3 _ ["basket"] := ⟨F3, PySem.W.mg_of X G a3, F3.binds (ps := ["basket"]) fun _ _ _ _ _ _ us hl => match us, hl with | [_], _ => rfl⟩
  have F4 := fun_mk (st := st_row) l4 c4 k4
  have D4 : Def K mg "row" st_row f4 _ ["basket"] := ⟨F4, PySem.W.mg_of X G a4, F4.binds (ps := ["basket"]) fun _ _ _ _ _ _ us hl => match us, hl with | [_], _ => rfl⟩
  have F5 := fun_mk (st := st_law_source) l5 c5 k5
  have D5 : Def K mg "_law_source" st_law_source f5 _ ["_law_cell", "_law_turn"] := ⟨F5, PySem.W.mg_of X G a5, F5.binds (ps := ["_law_cell", "_law_turn"]) fun _ _ _ _ _ _ us hl => match us, hl with | [_, _], _ => rfl⟩
  have F6 := fun_mk (st := st_law_draw) l6 c6 k6
  have D6 : Def K mg "_law_draw" st_law_draw f6 _ ["_law_source_here", "_law_size"] := ⟨F6, PySem.W.mg_of X G a6, F6.binds (ps := ["_law_source_here", "_law_size"]) fun _ _ _ _ _ _ us hl => match us, hl with | [_, _], _ => rfl⟩
  have F7 := fun_mk (st := st_law_is_int) l7 c7 k7
  have D7 : Def K mg "_law_is_int" st_law_is_int f7 _ ["_law_value"] := ⟨F7, PySem.W.mg_of X G a7, F7.binds (ps := ["_law_value"]) fun _ _ _ _ _ _ us hl => match us, hl with | [_], _ => rfl⟩
  have F8 := fun_mk (st := st_law_choice) l8 c8 k8
  have D8 : Def K mg "_law_choice" st_law_choice f8 _ ["_law_source_here", "_law_items"] := ⟨F8, PySem.W.mg_of X G a8, F8.binds (ps := ["_law_source_here", "_law_items"]) fun _ _ _ _ _ _ us hl => match us, hl with | [_, _], _ => rfl⟩
  have F9 := fun_mk (st := st_law_kind) l9 c9 k9
  have D9 : Def K mg "_law_kind" st_law_kind f9 _ ["_law_value"] := ⟨F9, PySem.W.mg_of X G a9, F9.binds (ps := ["_law_value"]) fun _ _ _ _ _ _ us hl => match us, hl with | [_], _ => rfl⟩
  have F10 := fun_mk (st := st_law_equal) l10 c10 k10
  have D10 : Def K mg "_law_equal" st_law_equal f10 _ ["_law_value", "_law_expected"] := ⟨F10, PySem.W.mg_of X G a10, F10.binds (ps := ["_law_value", "_law_expected"]) fun _ _ _ _ _ _ us hl => match us, hl with | [_, _], _ => rfl⟩
  have F11 := fun_mk (st := st_law_any_value) l11 c11 k11
  have D11 : Def K mg "_law_any_value" st_law_any_value f11 _ ["_law_source_here"] := ⟨F11, PySem.W.mg_of X G a11, F11.binds (ps := ["_law_source_here"]) fun _ _ _ _ _ _ us hl => match us, hl with | [_], _ => rfl⟩
  have F12 := fun_mk (st := st_law_corrupt) l12 c12 k12
  have D12 : Def K mg "_law_corrupt" st_law_corrupt f12 _ ["_law_source_here", "_law_value"] := ⟨F12, PySem.W.mg_of X G a12, F12.binds (ps := ["_law_source_here", "_law_value"]) fun _ _ _ _ _ _ us hl => match us, hl with | [_, _], _ => rfl⟩
  have F13 := fun_mk (st := st_law_basket) l13 c13 k13
  have D13 : Def K mg "_law_basket" st_law_basket f13 _ ["_law_source_here", "_law_most"] := ⟨F13, PySem.W.mg_of X G a13, F13.binds (ps := ["_law_source_here", "_law_most"]) fun _ _ _ _ _ _ us hl => match us, hl with | [_, _], _ => rfl⟩
  have F14 := fun_mk (st := st_law_is_basket) l14 c14 k14
  have D14 : Def K mg "_law_is_basket" st_law_is_basket f14 _ ["_law_value"] := ⟨F14, PySem.W.mg_of X G a14, F14.binds (ps := ["_law_value"]) fun _ _ _ _ _ _ us hl => match us, hl with | [_], _ => rfl⟩
  have F15 := fun_mk (st := st_law_k01) l15 c15 k15
  have D15 : Def K mg "law" st_law_k01 f15 _ ["_law_script"] := ⟨F15, PySem.W.mg_of X G a15, F15.binds (ps := ["_law_script"]) fun _ _ _ _ _ _ us hl => match us, hl with | [_], _ => rfl⟩
  refine ⟨PySem.W.fnOf "law" "law" (defArgs st_law_k01) (defBody st_law_k01) (defScope st_law_k01) .none kV15 dc15 pm15 an15 cd15 ct15, fun s v => .of_eq rfl, fun base _ _ => ?_⟩
  have o0 := ok_is_between (P := l.prog) (w := w) (base := base) D0 hz
  have o1 := ok_is_basket (P := l.prog) (w := w) (base := base) D1 hz ((D0.call o0 rfl rfl).up (by decide)) h_MAX_ITEMS h_MAX_PRICE
  have o2 := ok_check_basket (P := l.prog) (w := w) (base := base) D2 hz ((D1.call o1 rfl rfl).up (by decide)) h_InvalidBasket
  have o3 := ok_row_of (P := l.prog) (w := w) (base := base) D3 hz
  have o4 := ok_row (P := l.prog) (w := w) (base := base) D4 hz ((D2.call o2 rfl rfl).up (by decide)) ((D3.call o3 rfl rfl).up (by decide))
  have o5 := ok_law_source (P := l.prog) (w := w) (base := base) D5 hz
  have o6 := ok_law_draw (P := l.prog) (w := w) (base := base) D6 hz
  have o7 := ok_law_is_int (P := l.prog) (w := w) (base := base) D7 hz
  have o8 := ok_law_choice (P := l.prog) (w := w) (base := base) D8 hz ((D6.call o6 rfl rfl).up (by decide))
  have o9 := ok_law_kind (P := l.prog) (w := w) (base := base) D9 hz
  have o10 := ok_law_equal (P := l.prog) (w := w) (base := base) D10 hz ((D9.call o9 rfl rfl).up (by decide)) 6
  have o11 := ok_law_any_value (P := l.prog) (w := w) (base := base) D11 hz ((D8.call o8 rfl rfl).up (by decide))
  have o12 := ok_law_corrupt (P := l.prog) (w := w) (base := base) D12 hz ((D6.call o6 rfl rfl).up (by decide)) 6
  have o13 := ok_law_basket (P := l.prog) (w := w) (base := base) D13 hz ((D8.call o8 rfl rfl).up (by decide)) ((D6.call o6 rfl rfl).up (by decide))
  have o14 := ok_law_is_basket (P := l.prog) (w := w) (base := base) D14 hz ((D7.call o7 rfl rfl).up (by decide))
  exact (ok_law_k01 (P := l.prog) (w := w) (base := base) D15 hz ((D5.call o5 rfl rfl).up (by decide)) ((D13.call o13 rfl rfl).up (by decide)) ((D12.call o12 rfl rfl).up (by decide)) ((D11.call o11 rfl rfl).up (by decide)) ((D10.call o10 rfl rfl).up (by decide)) ((D1.call o1 rfl rfl).up (by decide)) ((D14.call o14 rfl rfl).up (by decide)) ((D4.call o4 rfl rfl).up (by decide))).imp (spL_imp rfl hp)
end DD.K01
open PySem PySem.W PyProof.Rows
set_option maxHeartbeats 0 in
theorem PySem.Challenge.cw_cheapestfree_k01_baskets_and_rows_holds : PySem.Challenge.rw_cheapestfree_k01_baskets_and_rows.Holds := by
  w_on; o_law; k_head; (case hw => w_witness2)
  k_fill
  refine L2.walk_of (l := PySem.Challenge.rw_cheapestfree_k01_baskets_and_rows) (n := 63) (k := 9) (x := "_law_script") (CX := fun w => L2.CX PySem.Challenge.rw_cheapestfree_k01_baskets_and_rows.prog w) (sp := fun w => DD.spL _) rfl (by decide) rfl ⟨rfl, by decide, by decide⟩ (fun w h Y => PySem.W.kIn_of Y) ?F (fun _ _ a ns hl _ hS => ⟨a, ns, rfl, hl, hS, fun _ => rfl⟩) (fun _ _ _ _ _ h => DD.cx_false h)
  case F =>
    intro w mg fa h KX G hmg
    refine' DD.K01.all_mk DD.K01.plain KX G hmg ?a0 ?l0 ?c0 ?k0 ?a1 ?l1 ?c1 ?k1 ?a2 ?l2 ?c2 ?k2 ?a3 ?l3 ?c3 ?k3 ?a4 ?l4 ?c4 ?k4 ?a5 ?l5 ?c5 ?k5 ?a6 ?l6 ?c6 ?k6 ?a7 ?l7 ?c7 ?k7 ?a8 ?l8 ?c8 ?k8 ?a9 ?l9 ?c9 ?k9 ?a10 ?l10 ?c10 ?k10 ?a11 ?l11 ?c11 ?k11 ?a12 ?l12 ?c12 ?k12 ?a13 ?l13 ?c13 ?k13 ?a14 ?l14 ?c14 ?k14 ?a15 ?l15 ?c15 ?k15 ?ea0 ?ex0 ?ek0 ?eb0 ?et0 ?con0 ?con1 ?z0 ?z1 ?z2 ?z3 ?z4 ?z5 ?z6 ?z7 ?z8 ?z9 ?z10 ?z11 ?z12 ?z13 ?z14 ?z15 ?z16
    (case a0 => k_is); (case l0 => k_is); (case c0 => k_is); (case k0 => k_is); (case a1 => k_is); (case l1 => k_is)
    (case c1 => k_is); (case k1 => k_is); (case a2 => k_is); (case l2 => k_is); (case c2 => k_is); (case k2 => k_is)
    (case a3 => k_is); (case l3 => k_is); (case c3 => k_is); (case k3 => k_is); (case a4 => k_is); (case l4 => k_is)
    (case c4 => k_is); (case k4 => k_is); (case a5 => k_is); (case l5 => k_is); (case c5 => k_is); (case k5 => k_is)
    (case a6 => k_is); (case l6 => k_is); (case c6 => k_is); (case k6 => k_is); (case a7 => k_is); (case l7 => k_is)
    (case c7 => k_is); (case k7 => k_is); (case a8 => k_is); (case l8 => k_is); (case c8 => k_is); (case k8 => k_is)
    (case a9 => k_is); (case l9 => k_is); (case c9 => k_is); (case k9 => k_is); (case a10 => k_is); (case l10 => k_is)
    (case c10 => k_is); (case k10 => k_is); (case a11 => k_is); (case l11 => k_is); (case c11 => k_is); (case k11 => k_is)
    (case a12 => k_is); (case l12 => k_is); (case c12 => k_is); (case k12 => k_is); (case a13 => k_is); (case l13 => k_is)
    (case c13 => k_is); (case k13 => k_is); (case a14 => k_is); (case l14 => k_is); (case c14 => k_is); (case k14 => k_is)
    (case a15 => k_is); (case l15 => k_is); (case c15 => k_is); (case k15 => k_is); (case ea0 => k_is); (case ex0 => k_exc)
    (case ek0 => k_is); (case eb0 => k_is); (case et0 => k_is); (case con0 => k_is); (case con1 => k_is); (case z0 => k_is)
    (case z1 => k_is); (case z2 => k_is); (case z3 => k_is); (case z4 => k_is); (case z5 => k_is); (case z6 => k_is)
    (case z7 => k_is); (case z8 => k_is); (case z9 => k_is); (case z10 => k_is); (case z11 => k_is); (case z12 => k_is)
    (case z13 => k_is); (case z14 => k_is); (case z15 => k_is); (case z16 => k_is)


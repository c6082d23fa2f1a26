import PyProof.Rows.All
import HandS.ForMost
import HandS.ForExc
import HandS.TupAny
import HandS.Style
import HandS.IsInst
import HandS.Wide
import HandS.SortRule
import HandS.SortInts
import HandS.Strs
import HandS.Deep
import HandS.Zip
import HandS.Walk
import HandS.TupMul
import KE.SortData
import KE.DatumOrd
import KE.GoesMore
import KE.GoesEnum
import HandS.Conv
import HandS.Small
import PySem.Challenge.RW_cheapestfree_k07_trade_offs_and_fewest_r
-- part DEv
set_option Elab.async false
set_option linter.all false
/-! The small language: syntax, values, evaluator. -/
namespace DD
open PySem (PyData Str Operator CmpOp)
abbrev PD := PyData

/-- a line that every sequence keeps below -/
def LIM : Nat := 1000000

/-! ### data -/
def ints? : List PD → Option (List Int)
  | [] => some []
  | .int i :: r => (ints? r).map (i :: ·)
  | _ :: _ => none
def bools? : List PD → Option (List Bool)
  | [] => some []
  | .bool b :: r => (bools? r).map (b :: ·)
  | _ :: _ => none
def pairs? : List PD → Option (List (Int × Int))
  | [] => some []
  | .tuple [.int i, .int j] :: r => (pairs? r).map ((i, j) :: ·)
  | _ :: _ => none
def intss? : List PD → Option (List (List Int))
  | [] => some []
  | .tuple ds :: r => match ints? ds with
    | some is => (intss? r).map (is :: ·)
    | none => none
  | _ :: _ => none
def ofInts (is : List Int) : List PD := is.map PyData.int
def ofPair (p : Int × Int) : PD := .tuple [.int p.1, .int p.2]
def isScal : PD → Bool
  | .none => true
  | .bool _ => true
  | .int _ => true
  | .str _ => true
  | _ => false
/-- places as Python counts them -/
def ixOf (n : Nat) (i : Int) : Option Nat := if 0 ≤ i then (if i < n then some i.toNat else none) else if -(n : Int) ≤ i then some (i + n).toNat else none
def atD {α : Type} (xs : List α) (i : Int) : Option α := match ixOf xs.length i with
  | some j => xs[j]?
  | none => none
def clip (n d : Nat) : Option Int → Nat
  | none => d
  | some v => if v < 0 then (v + (n : Int)).toNat else min v.toNat n
def cutD {α : Type} (xs : List α) (lo hi : Option Int) : List α := (xs.drop (clip xs.length 0 lo)).take (clip xs.length xs.length hi - clip xs.length 0 lo)
def keyAt (kvs : List (PD × PD)) (k : Int) : Option PD := match kvs with
  | [] => none
  | (.int j, v) :: r => if j = k then some v else keyAt r k
  | _ :: r => keyAt r k
def keyIs (k : Int) : PD → Bool
  | .int j => decide (j = k)
  | _ => false
def keyPut (kvs : List (PD × PD)) (k : Int) (v : PD) : List (PD × PD) :=
  if (kvs.any fun p => keyIs k p.1) = true then kvs.map (fun p => if keyIs k p.1 = true then (p.1, v) else p) else kvs ++ [(.int k, v)]

/-! ### sorting -/
def insI (x : Int) : List Int → List Int
  | [] => [x]
  | y :: r => if x ≤ y then x :: y :: r else y :: insI x r
def sortI : List Int → List Int
  | [] => []
  | x :: r => insI x (sortI r)
def leP (p q : Int × Int) : Bool := decide (p.1 < q.1) || (decide (p.1 = q.1) && decide (p.2 ≤ q.2))
def insP (x : Int × Int) : List (Int × Int) → List (Int × Int)
  | [] => [x]
  | y :: r => if leP x y then x :: y :: r else y :: insP x r
def sortP : List (Int × Int) → List (Int × Int)
  | [] => []
  | x :: r => insP x (sortP r)
def leL : List Int → List Int → Bool
  | [], _ => true
  | _ :: _, [] => false
  | x :: xs, y :: ys => decide (x < y) || (decide (x = y) && leL xs ys)
def insL (x : List Int) : List (List Int) → List (List Int)
  | [] => [x]
  | y :: r => if leL x y then x :: y :: r else y :: insL x r
def sortL : List (List Int) → List (List Int)
  | [] => []
  | x :: r => insL x (sortL r)
def maxI : Int → List Int → Int
  | m, [] => m
  | m, x :: r => maxI (if m < x then x else m) r
def minI : Int → List Int → Int
  | m, [] => m
  | m, x :: r => minI (if x < m then x else m) r
def maxP : Int × Int → List (Int × Int) → Int × Int
  | m, [] => m
  | m, x :: r => maxP (if leP x m then m else x) r
def dedupI : List Int → List Int
  | [] => []
  | x :: r => if x ∈ r then dedupI r else x :: dedupI r
def dedupL : List (List Int) → List (List Int)
  | [] => []
  | x :: r => if x ∈ r then dedupL r else x :: dedupL r

/-! ### operators by values; the Bool: a new list -/
def binV (op : Operator) (a b : PD) : Option (PD × Bool) := match op, a, b with
  | .Add, .int i, .int j => some (.int (i + j), false)
  | .Add, .tuple xs, .tuple ys => if xs.length + ys.length ≤ LIM then some (.tuple (xs ++ ys), false) else none
  | .Add, .list xs, .list ys => if xs.length + ys.length ≤ LIM then some (.list (xs ++ ys), true) else none
  | .Add, .bool b, .int j => some (.int ((if b = true then 1 else 0) + j), false)
  | .Sub, .int i, .int j => some (.int (i - j), false)
  | .Sub, .bool b, .int j => some (.int ((if b = true then 1 else 0) - j), false)
  | .Mult, .int i, .int j => if (-(2 ^ 64) < i ∧ i < 2 ^ 64) ∨ (-(2 ^ 64) < j ∧ j < 2 ^ 64) then some (.int (i * j), false) else none
  | .Mult, .list xs, .int j => if 0 ≤ j ∧ j ≤ LIM ∧ xs.length * j.toNat ≤ LIM then some (.list (List.replicate j.toNat xs).flatten, true) else none
  | .Mult, .tuple xs, .int j => if xs.isEmpty = false ∧ 2 ≤ j ∧ j ≤ 1000 ∧ xs.length ≤ 1000 then some (.tuple (List.replicate j.toNat xs).flatten, false) else none
  | .FloorDiv, .int i, .int j => if 0 < j ∧ j < 1073741824 then some (.int (i / j), false) else none
  | .Mod, .int i, .int j => if 0 < j then some (.int (i % j), false) else none
  | .Pow, .int i, .int j => if 0 ≤ j ∧ j ≤ 1000000 ∧ i.natAbs < 2 ^ 64 then some (.int (i ^ j.toNat), false) else none
  | _, _, _ => none
def shp (d : PD) : Bool := PySem.SeqAt.shaped d
def isNon : PD → Bool
  | .none => true
  | _ => false
def inD (x : PD) (ys : List PD) : Bool := ys.any fun y => PyData.eqv y x
def cmpV (op : CmpOp) (a b : PD) : Option Bool := match op, a, b with
  | .Eq, a, b => if shp a && shp b then some (PyData.eqv a b) else none
  | .NotEq, a, b => if shp a && shp b then some (!PyData.eqv a b) else none
  | .Lt, .int i, .int j => some (decide (i < j))
  | .LtE, .int i, .int j => some (decide (i ≤ j))
  | .Gt, .int i, .int j => some (decide (j < i))
  | .GtE, .int i, .int j => some (decide (j ≤ i))
  | .In, x, .list ys => if shp x && shp (.list ys) then some (inD x ys) else none
  | .In, x, .tuple ys => if shp x && shp (.tuple ys) then some (inD x ys) else none
  | .In, .int k, .dict kvs => some (keyAt kvs k).isSome
  | .NotIn, x, .list ys => if shp x && shp (.list ys) then some (!inD x ys) else none
  | .NotIn, x, .tuple ys => if shp x && shp (.tuple ys) then some (!inD x ys) else none
  | .Is, a, .none => some (isNon a)
  | .IsNot, a, .none => some (!isNon a)
  | .Is, .bool a, .bool b => some (decide (a = b))
  | .IsNot, .bool a, .bool b => some (!decide (a = b))
  | _, _, _ => none
def ixV (a i : PD) : Option PD := match a, i with
  | .list xs, .int i => atD xs i
  | .tuple xs, .int i => atD xs i
  | .dict kvs, .int i => keyAt kvs i
  | _, _ => none
def slV (a : PD) (lo hi : Option Int) : Option (PD × Bool) := match a with
  | .list xs => some (.list (cutD xs lo hi), true)
  | .tuple xs => some (.tuple (cutD xs lo hi), false)
  | _ => none
/-- the built-in functions -/
inductive Bt where
  | len | sum | max | min | sorted | all | any | tuple | list | sset | int | str
  deriving DecidableEq
def bltV (f : Bt) (as : List PD) : Option (PD × Bool) := match f, as with
  | .len, [.list xs] => some (.int xs.length, false)
  | .len, [.tuple xs] => some (.int xs.length, false)
  | .sum, [.list xs] => (ints? xs).map fun is => (.int is.sum, false)
  | .sum, [.tuple xs] => (ints? xs).map fun is => (.int is.sum, false)
  | .max, [.int i, .int j] => some (.int (if j > i then j else i), false)
  | .min, [.int i, .int j] => some (.int (if j < i then j else i), false)
  | .max, [.list xs] => match ints? xs with
    | some (i :: r) => some (.int (maxI i r), false)
    | some [] => none
    | none => match pairs? xs with
      | some (p :: r) => some (ofPair (maxP p r), false)
      | _ => none
  | .min, [.list xs] => match ints? xs with
    | some (i :: r) => some (.int (minI i r), false)
    | _ => none
  | .sorted, [.list xs] => match ints? xs with
    | some is => some (.list (ofInts (sortI is)), true)
    | none => match pairs? xs with
      | some ps => if xs.length ≤ LIM then some (.list ((sortP ps).map ofPair), true) else none
      | none => none
  | .sorted, [.tuple xs] => (ints? xs).map fun is => (.list (ofInts (sortI is)), true)
  | .all, [.list xs] => (bools? xs).map fun bs => (.bool (bs.all id), false)
  | .any, [.list xs] => (bools? xs).map fun bs => (.bool (bs.any id), false)
  | .tuple, [.list xs] => some (.tuple xs, false)
  | .tuple, [.tuple xs] => some (.tuple xs, false)
  | .list, [.list xs] => some (.list xs, true)
  | .list, [.tuple xs] => some (.list xs, true)
  | .int, [.bool b] => some (.int (if b then 1 else 0), false)
  | .int, [.int i] => some (.int i, false)
  | .str, [.bool b] => some (.str (if b then "True" else "False"), false)
  | .str, [.int i] => if i.natAbs.log2 < 1920 then some (.str (toString i : String), false) else none
  | _, _ => none
inductive Ty where
  | int | bool | tuple | list | str
  deriving DecidableEq
def isTy : PD → Ty → Bool
  | .int _, .int => true
  | .bool _, .int => true
  | .bool _, .bool => true
  | .tuple _, .tuple => true
  | .list _, .list => true
  | .str _, .str => true
  | _, _ => false
def idxV : List PD → PD → Nat → Option Nat
  | [], _, _ => none
  | y :: r, x, n => if PyData.eqv y x then some n else idxV r x (n + 1)

/-! ### defs by what they compute -/
inductive FO where
  | ret (d : PD) (fr : Bool) (m : PD)
  | ex (x : Str)
structure FSem where
  mu : Bool
  run : List PD → Option FO

/-! ### the small language -/
inductive Tg where
  | nm (i : Nat) | tp (is : List Nat)
  deriving DecidableEq
def Tg.slots : Tg → List Nat
  | .nm i => [i]
  | .tp is => is
mutual
inductive E where
  | nop | int (i : Int) | bl (b : Bool) | non | str (s : Str)
  | gint (x : Str) (i : Int) | gtup (x : Str) (is : List Int)
  | var (i : Nat) | mv (i : Nat) | sc (e : E)
  | bin (op : Operator) (a b : E) | neg (a : E)
  | cmp (op : CmpOp) (a b : E) | chain (op op2 : CmpOp) (a b c : E)
  | and (a b : E) | or (a b : E) | not (a : E) | ite (c a b : E)
  | call (k : Nat) (as : Es) | callm (k : Nat) (v : Nat) (as : Es)
  | blt (f : Bt) (as : Es) | trng (f : Bt) (as : Es) | isi (a : E) (ts : List Ty)
  | ix (a i : E) | ixv (v : Nat) (i : E)
  | slc (a lo hi : E) | slv (v : Nat) (lo hi : E) | rev (a : E)
  | tup (as : Es) | lst (as : Es) | dic0 | dic1 (k v : E)
  | lc (elt : E) (tg : Tg) (it : It) (cond : E)
  | idx (a x : E)
inductive Es where
  | nil | cons (e : E) (es : Es)
inductive It where
  | seq (e : E) | hid (v : Nat) | rng (as : Es) | enu (e : E) | zip (a b : E)
end
mutual
inductive S where
  | set (i : Nat) (e : E) | par (is : List Nat) (es : Es) | unp (is : List Nat) (e : E)
  | stx (v : Nat) (i e : E) | aug (i : Nat) (op : Operator) (e : E) | app (v : Nat) (e : E)
  | exp (e : E) | ret (e : E) | ret0
  | ite (c : E) (a b : Ss) | fr (tg : Tg) (it : It) (b : Ss) | whl (c : E) (b : Ss)
  | rai (x : Str) | pas | brk | cnt
inductive Ss where
  | nil | cons (s : S) (ss : Ss)
end

/-! ### the environment -/
inductive Cell where
  | sh (d : PD) | ow (d : PD) | bo (d : PD)
def Cell.dat : Cell → PD
  | .sh d => d
  | .ow d => d
  | .bo d => d
def Cell.isMut : Cell → Bool
  | .sh _ => false
  | _ => true
def Cell.put : Cell → PD → Cell
  | .sh _, d => .sh d
  | .ow _, d => .ow d
  | .bo _, d => .bo d
abbrev Env := List (Option Cell)
def getC (ρ : Env) (i : Nat) : Option Cell := match ρ[i]? with
  | some (some c) => some c
  | _ => none
def mkC (d : PD) (fr : Bool) : Cell := if fr then .ow d else .sh d
/-- a name is stored -/
def setC (ρ : Env) (i : Nat) (c : Cell) : Option Env := match ρ[i]? with
  | some (some (.bo _)) => none
  | some _ => some (ρ.set i (some c))
  | none => none
def wipeC (ρ : Env) : List Nat → Env
  | [] => ρ
  | v :: vs => (wipeC ρ vs).set v none
def backC (ρ ρ0 : Env) : List Nat → Env
  | [] => ρ
  | v :: vs => (backC ρ ρ0 vs).set v (ρ0.getD v none)
def setTs : List Nat → List PD → Env → Option Env
  | [], [], ρ => some ρ
  | i :: is, d :: ds, ρ => (setC ρ i (.sh d)).bind fun ρ => setTs is ds ρ
  | _, _, _ => none
def setT : Tg → PD → Env → Option Env
  | .nm i, d, ρ => setC ρ i (.sh d)
  | .tp is, .tuple ds, ρ => setTs is ds ρ
  | .tp _, _, _ => none

/-! ### evaluation -/
inductive EO where
  | ok (d : PD) (fr : Bool) (ρ : Env)
  | ex (x : Str)
inductive AO where
  | ok (ds : List PD) (ρ : Env)
  | ex (x : Str)
def EO.bind (r : Option EO) (k : PD → Env → Option EO) : Option EO := match r with
  | some (.ok d _ ρ) => k d ρ
  | some (.ex x) => some (.ex x)
  | none => none
def EO.binA (r : Option EO) (k : PD → Env → Option AO) : Option AO := match r with
  | some (.ok d _ ρ) => k d ρ
  | some (.ex x) => some (.ex x)
  | none => none
def AO.bind (r : Option AO) (k : List PD → Env → Option EO) : Option EO := match r with
  | some (.ok ds ρ) => k ds ρ
  | some (.ex x) => some (.ex x)
  | none => none
def AO.binA (r : Option AO) (k : List PD → Env → Option AO) : Option AO := match r with
  | some (.ok ds ρ) => k ds ρ
  | some (.ex x) => some (.ex x)
  | none => none
def retE (ρ : Env) (d : PD) (fr : Bool := false) : Option EO := some (.ok d fr ρ)
def outE (ρ : Env) : Option (PD × Bool) → Option EO
  | some (d, fr) => some (.ok d fr ρ)
  | none => none
def outB (ρ : Env) : Option Bool → Option EO
  | some b => some (.ok (.bool b) false ρ)
  | none => none
def boolE (d : PD) (k : Bool → Option EO) : Option EO := match d with
  | .bool b => k b
  | _ => none
def intE (d : PD) (k : Int → Option EO) : Option EO := match d with
  | .int i => k i
  | _ => none
def intO (d : PD) : Option Int := match d with
  | .int i => some i
  | _ => none
def callE (s : Option FSem) (ds : List PD) (ρ : Env) : Option EO := match s with
  | some s => if s.mu = false then (match s.run ds with
      | some (.ret d fr _) => some (.ok d fr ρ)
      | some (.ex x) => some (.ex x)
      | none => none) else none
  | none => none
def callmE (s : Option FSem) (v : Nat) (ds : List PD) (ρ : Env) : Option EO := match s, getC ρ v with
  | some s, some c => if s.mu = true ∧ c.isMut = true then (match s.run (c.dat :: ds) with
      | some (.ret d fr m) => some (.ok d fr (ρ.set v (some (c.put m))))
      | some (.ex x) => some (.ex x)
      | none => none) else none
  | _, _ => none
def rngL (ds : List PD) : Option (List PD) := match ds with
  | [.int n] => if -(LIM : Int) ≤ n ∧ n ≤ LIM then some ((List.range n.toNat).map fun i => .int ((0 : Int) + (i : Nat))) else none
  | [.int a, .int b] => if (-(LIM : Int) ≤ a ∧ a ≤ LIM) ∧ (-(LIM : Int) ≤ b ∧ b ≤ LIM) then some ((List.range (b - a).toNat).map fun i => .int (a + (i : Nat))) else none
  | [.int a, .int b, .int c] => if (-(LIM : Int) ≤ a ∧ a ≤ LIM) ∧ (-(LIM : Int) ≤ b ∧ b ≤ LIM) ∧ 0 < c ∧ c ≤ LIM then some ((List.range ((b - a + c - 1) / c).toNat).map fun i => .int (a + (i : Nat) * c)) else none
  | _ => none
def seqL : PD → Option (List PD)
  | .list xs => some xs
  | .tuple xs => some xs
  | _ => none
/-- a comprehension's loop -/
def lcLoop (tg : Tg) (cond elt : Env → Option EO) (vs : List Nat) : List PD → Env → List PD → Option AO
  | [], ρ, acc => some (.ok acc ρ)
  | d :: ds, ρ, acc => match setT tg d ρ with
    | none => none
    | some ρ1 => match cond ρ1 with
      | some (.ok (.bool false) _ ρ2) => lcLoop tg cond elt vs ds (wipeC ρ2 vs) acc
      | some (.ok (.bool true) _ ρ2) => match elt ρ2 with
        | some (.ok y _ ρ3) => lcLoop tg cond elt vs ds (wipeC ρ3 vs) (acc ++ [y])
        | _ => none
      | _ => none
def lcE (tg : Tg) (cond elt : Env → Option EO) (vs : List Nat) (ds : List PD) (ρ : Env) : Option EO :=
  if ds.length ≤ LIM then (match lcLoop tg cond elt (tg.slots) ds (wipeC ρ vs) [] with
    | some (.ok acc ρ') => some (.ok (.list acc) true (backC ρ' ρ vs))
    | _ => none) else none
def hidI : It → List Nat
  | .hid v => [v]
  | _ => []
def isNop : E → Bool
  | .nop => true
  | _ => false
/-- a part of a slice; r : what it computes, where it is there -/
def optI (p : Bool) (ρ0 : Env) (r : Option EO) (k : Option Int → Env → Option EO) : Option EO := if p then k none ρ0 else match r with
  | some (.ok (.int i) _ ρ) => k (some i) ρ
  | some (.ex x) => some (.ex x)
  | _ => none
mutual
def evalE (cs : List FSem) : E → Env → Option EO
  | .nop, _ => none
  | .int i, ρ => retE ρ (.int i)
  | .bl b, ρ => retE ρ (.bool b)
  | .non, ρ => retE ρ .none
  | .str s, ρ => retE ρ (.str s)
  | .gint _ i, ρ => retE ρ (.int i)
  | .gtup _ is, ρ => retE ρ (.tuple (ofInts is))
  | .var i, ρ => match getC ρ i with
    | some (.sh d) => some (.ok d false ρ)
    | some (.ow d) => some (.ok d false (ρ.set i (some (.sh d))))
    | _ => none
  | .mv i, ρ => match getC ρ i with
    | some (.sh d) => some (.ok d false ρ)
    | some (.ow d) => some (.ok d true (ρ.set i none))
    | _ => none
  | .sc e, ρ => match evalE cs e ρ with
    | some (.ok d _ _) => if isScal d then some (.ok d false ρ) else none
    | some (.ex x) => some (.ex x)
    | none => none
  | .bin op a b, ρ => EO.bind (evalE cs a ρ) fun x ρ => EO.bind (evalE cs b ρ) fun y ρ => outE ρ (binV op x y)
  | .neg a, ρ => EO.bind (evalE cs a ρ) fun x ρ => intE x fun i => retE ρ (.int (-i))
  | .cmp op a b, ρ => EO.bind (evalE cs a ρ) fun x ρ => EO.bind (evalE cs b ρ) fun y ρ => outB ρ (cmpV op x y)
  | .chain op op2 a b c, ρ => EO.bind (evalE cs a ρ) fun x ρ => EO.bind (evalE cs b ρ) fun y ρ => match cmpV op x y with
    | some true => EO.bind (evalE cs c ρ) fun z ρ => outB ρ (cmpV op2 y z)
    | some false => retE ρ (.bool false)
    | none => none
  | .and a b, ρ => EO.bind (evalE cs a ρ) fun x ρ => boolE x fun k => if k then EO.bind (evalE cs b ρ) fun y ρ => boolE y fun j => retE ρ (.bool j) else retE ρ (.bool false)
  | .or a b, ρ => EO.bind (evalE cs a ρ) fun x ρ => boolE x fun k => if k then retE ρ (.bool true) else EO.bind (evalE cs b ρ) fun y ρ => boolE y fun j => retE ρ (.bool j)
  | .not a, ρ => EO.bind (evalE cs a ρ) fun x ρ => boolE x fun k => retE ρ (.bool (!k))
  | .ite c a b, ρ => EO.bind (evalE cs c ρ) fun x ρ => boolE x fun k => if k then EO.bind (evalE cs a ρ) fun y ρ => retE ρ y else EO.bind (evalE cs b ρ) fun y ρ => retE ρ y
  | .call k as, ρ => AO.bind (evalEs cs as ρ) fun ds ρ => callE cs[k]? ds ρ
  | .callm k v as, ρ => match getC ρ v with
    | some _ => AO.bind (evalEs cs as ρ) fun ds ρ => callmE cs[k]? v ds ρ
    | none => none
  | .blt f as, ρ => AO.bind (evalEs cs as ρ) fun ds ρ => outE ρ (bltV f ds)
  | .trng f as, ρ => AO.bind (evalEs cs as ρ) fun ds ρ => match rngL ds with
    | some is => outE ρ (bltV f [.list is])
    | none => none
  | .isi a ts, ρ => EO.bind (evalE cs a ρ) fun x ρ => retE ρ (.bool (ts.any (isTy x)))
  | .ix a i, ρ => EO.bind (evalE cs a ρ) fun x ρ => EO.bind (evalE cs i ρ) fun y ρ => (ixV x y).bind fun d => retE ρ d
  | .ixv v i, ρ => match getC ρ v with
    | some _ => EO.bind (evalE cs i ρ) fun y ρ => (match getC ρ v with
      | some c => (ixV c.dat y).bind fun d => retE ρ d
      | none => none)
    | none => none
  | .slc a lo hi, ρ => EO.bind (evalE cs a ρ) fun x ρ => optI (isNop lo) ρ (evalE cs lo ρ) fun l ρ => optI (isNop hi) ρ (evalE cs hi ρ) fun h ρ => outE ρ (slV x l h)
  | .slv v lo hi, ρ => match getC ρ v with
    | some _ => optI (isNop lo) ρ (evalE cs lo ρ) fun l ρ => optI (isNop hi) ρ (evalE cs hi ρ) fun h ρ => (match getC ρ v with
      | some c => outE ρ (slV c.dat l h)
      | none => none)
    | none => none
  | .rev a, ρ => EO.bind (evalE cs a ρ) fun x ρ => match x with
    | .list xs => retE ρ (.list xs.reverse) true
    | .tuple xs => retE ρ (.tuple xs.reverse)
    | _ => none
  | .tup as, ρ => AO.bind (evalEs cs as ρ) fun ds ρ => if ds.length ≤ LIM then retE ρ (.tuple ds) else none
  | .lst as, ρ => AO.bind (evalEs cs as ρ) fun ds ρ => if ds.length ≤ LIM then retE ρ (.list ds) true else none
  | .dic0, ρ => retE ρ (.dict []) true
  | .dic1 k v, ρ => EO.bind (evalE cs k ρ) fun x ρ => EO.bind (evalE cs v ρ) fun y ρ => intE x fun i => retE ρ (.dict [(.int i, y)]) true
  | .lc elt tg it cond, ρ => AO.bind (evalI cs it ρ) fun ds ρ => lcE tg (evalE cs cond) (evalE cs elt) (tg.slots ++ hidI it) ds ρ
  | .idx a x, ρ => EO.bind (evalE cs a ρ) fun xs ρ => match xs with
    | .list l => EO.bind (evalE cs x ρ) fun y ρ => if shp (.list l) && shp y then (idxV l y 0).bind fun n => retE ρ (.int (n : Nat)) else none
    | _ => none
def evalEs (cs : List FSem) : Es → Env → Option AO
  | .nil, ρ => some (.ok [] ρ)
  | .cons e es, ρ => EO.binA (evalE cs e ρ) fun x ρ => AO.binA (evalEs cs es ρ) fun xs ρ => some (.ok (x :: xs) ρ)
def evalI (cs : List FSem) : It → Env → Option AO
  | .seq e, ρ => EO.binA (evalE cs e ρ) fun x ρ => (seqL x).bind fun xs => some (.ok xs ρ)
  | .hid v, ρ => match getC ρ v with
    | some c => match c.dat with
      | .list xs => some (.ok xs ρ)
      | _ => none
    | none => none
  | .rng as, ρ => AO.binA (evalEs cs as ρ) fun ds ρ => (rngL ds).bind fun xs => some (.ok xs ρ)
  | .enu e, ρ => EO.binA (evalE cs e ρ) fun x ρ => (seqL x).bind fun xs => some (.ok ((List.range xs.length).zipWith (fun i y => .tuple [.int ((i : Nat) : Int), y]) xs) ρ)
  | .zip a b, ρ => EO.binA (evalE cs a ρ) fun x ρ => EO.binA (evalE cs b ρ) fun y ρ => match x, y with
    | .list xs, .list ys => some (.ok (xs.zipWith (fun a b => .tuple [a, b]) ys) ρ)
    | .tuple xs, .tuple ys => some (.ok (xs.zipWith (fun a b => .tuple [a, b]) ys) ρ)
    | _, _ => none
end

/-! ### statements -/
inductive SO where
  | nx (ρ : Env) | rt (d : PD) (fr : Bool) (ρ : Env) | bk (ρ : Env) | ct (ρ : Env) | ex (x : Str)
def EO.binS (r : Option EO) (k : PD → Bool → Env → Option SO) : Option SO := match r with
  | some (.ok d fr ρ) => k d fr ρ
  | some (.ex x) => some (.ex x)
  | none => none
def AO.binS (r : Option AO) (k : List PD → Env → Option SO) : Option SO := match r with
  | some (.ok ds ρ) => k ds ρ
  | some (.ex x) => some (.ex x)
  | none => none
def nxO : Option Env → Option SO
  | some ρ => some (.nx ρ)
  | none => none
/-- items evaluated with their newness, for a, b = x, y -/
def evalFs (cs : List FSem) : Es → Env → (List Cell → Env → Option SO) → Option SO
  | .nil, ρ, k => k [] ρ
  | .cons e es, ρ, k => EO.binS (evalE cs e ρ) fun d fr ρ => evalFs cs es ρ fun xs ρ => k (mkC d fr :: xs) ρ
def setCs : List Nat → List Cell → Env → Option Env
  | [], [], ρ => some ρ
  | i :: is, c :: csl, ρ => (setC ρ i c).bind fun ρ => setCs is csl ρ
  | _, _, _ => none
def forL (tg : Tg) (b : Env → Option SO) : List PD → Env → Option SO
  | [], ρ => some (.nx ρ)
  | d :: ds, ρ => match setT tg d ρ with
    | none => none
    | some ρ1 => match b ρ1 with
      | some (.nx ρ2) => forL tg b ds ρ2
      | some (.ct ρ2) => forL tg b ds ρ2
      | some (.bk ρ2) => some (.nx ρ2)
      | r => r
def whlL (c : Env → Option EO) (b : Env → Option SO) : Nat → Env → Option SO
  | 0, _ => none
  | n + 1, ρ => match c ρ with
    | some (.ok (.bool false) _ ρ1) => some (.nx ρ1)
    | some (.ok (.bool true) _ ρ1) => match b ρ1 with
      | some (.nx ρ2) => whlL c b n ρ2
      | some (.ct ρ2) => whlL c b n ρ2
      | some (.bk ρ2) => some (.nx ρ2)
      | r => r
    | some (.ex x) => some (.ex x)
    | _ => none
def FUEL : Nat := 200
def stxV (c : PD) (i v : PD) : Option PD := match c, i with
  | .list xs, .int k => match ixOf xs.length k with
    | some j => some (.list (xs.set j v))
    | none => none
  | .dict kvs, .int k => if kvs.length < LIM then some (.dict (keyPut kvs k v)) else none
  | _, _ => none
def isL : PD → Bool
  | .list _ => true
  | _ => false
def augI (op : Operator) (a b : PD) (k : Int → Option SO) : Option SO := match op, a, b with
  | .Add, .int i, .int j => k (i + j)
  | .Sub, .int i, .int j => k (i - j)
  | .Mult, .int i, .int j => if (-(2 ^ 64) < i ∧ i < 2 ^ 64) ∨ (-(2 ^ 64) < j ∧ j < 2 ^ 64) then k (i * j) else none
  | _, _, _ => none
mutual
def evalS (cs : List FSem) : S → Env → Option SO
  | .set i e, ρ => EO.binS (evalE cs e ρ) fun d fr ρ => nxO (setC ρ i (mkC d fr))
  | .par is es, ρ => evalFs cs es ρ fun xs ρ => nxO (setCs is xs ρ)
  | .unp is e, ρ => EO.binS (evalE cs e ρ) fun d _ ρ => match d with
    | .tuple ds => nxO (setTs is ds ρ)
    | _ => none
  | .stx v i e, ρ => EO.binS (evalE cs e ρ) fun d _ ρ => match getC ρ v with
    | some _ => EO.binS (evalE cs i ρ) fun k _ ρ => (match getC ρ v with
      | some c => if c.isMut then (match stxV c.dat k d with
        | some m => some (.nx (ρ.set v (some (c.put m))))
        | none => none) else none
      | none => none)
    | none => none
  | .aug i op e, ρ => match getC ρ i with
    | some _ => EO.binS (evalE cs e ρ) fun d _ ρ => (match getC ρ i with
      | some (.sh x) => augI op x d fun y => nxO (setC ρ i (.sh (.int y)))
      | some (.ow (.list xs)) => (match op, d with
        | .Add, .list ys => if xs.length + ys.length ≤ LIM then some (.nx (ρ.set i (some (.ow (.list (xs ++ ys)))))) else none
        | .Add, .tuple ys => if xs.length + ys.length ≤ LIM then some (.nx (ρ.set i (some (.ow (.list (xs ++ ys)))))) else none
        | _, _ => none)
      | _ => none)
    | none => none
  | .app v e, ρ => match getC ρ v with
    | some c0 => if isL c0.dat then EO.binS (evalE cs e ρ) fun d _ ρ => (match getC ρ v with
      | some c => if c.isMut then (match c.dat with
        | .list xs => if xs.length < LIM then some (.nx (ρ.set v (some (c.put (.list (xs ++ [d])))))) else none
        | _ => none) else none
      | none => none) else none
    | none => none
  | .exp e, ρ => EO.binS (evalE cs e ρ) fun _ _ ρ => some (.nx ρ)
  | .ret e, ρ => EO.binS (evalE cs e ρ) fun d fr ρ => some (.rt d fr ρ)
  | .ret0, ρ => some (.rt .none false ρ)
  | .ite c a b, ρ => EO.binS (evalE cs c ρ) fun d _ ρ => match d with
    | .bool true => evalSs cs a ρ
    | .bool false => evalSs cs b ρ
    | _ => none
  | .fr tg it b, ρ => AO.binS (evalI cs it ρ) fun ds ρ => forL tg (evalSs cs b) ds ρ
  | .whl c b, ρ => whlL (evalE cs c) (evalSs cs b) FUEL ρ
  | .rai x, _ => some (.ex x)
  | .pas, ρ => some (.nx ρ)
  | .brk, ρ => some (.bk ρ)
  | .cnt, ρ => some (.ct ρ)
def evalSs (cs : List FSem) : Ss → Env → Option SO
  | .nil, ρ => some (.nx ρ)
  | .cons s ss, ρ => match evalS cs s ρ with
    | some (.nx ρ1) => evalSs cs ss ρ1
    | r => r
end
/-- a def -/
def envOf (mu : Bool) (ds : List PD) (n : Nat) : Env := match mu, ds with
  | true, d :: r => some (.bo d) :: (r.map fun d => some (.sh d)) ++ List.replicate (n - ds.length) none
  | _, ds => (ds.map fun d => some (.sh d)) ++ List.replicate (n - ds.length) none
def outF (mu : Bool) : Option SO → Option FO
  | some (.nx ρ) => if mu then (match getC ρ 0 with | some (.bo m) => some (.ret .none false m) | _ => none) else some (.ret .none false .none)
  | some (.rt d fr ρ) => if mu then (match getC ρ 0 with | some (.bo m) => some (.ret d fr m) | _ => none) else some (.ret d fr .none)
  | some (.ex x) => some (.ex x)
  | _ => none
/-- n names, ar of them parameters -/
def defSem (mu : Bool) (ar n : Nat) (cs : List FSem) (b : Ss) : FSem :=
  ⟨mu, fun ds => if ds.length = ar then outF mu (evalSs cs b (envOf mu ds n)) else none⟩
end DD

-- part DRel
set_option Elab.async false
set_option linter.all false
set_option maxRecDepth 100000
/-! Data over the abstract heap; the environment against the slots. -/
namespace DD
open PySem PySem.Spec PyProof.Rows L2

mutual
inductive Rp (K : PySem.W.Frag) (H : Hp) : V → PD → Prop where
  | non : Rp K H .non .none
  | bl (b : Bool) : Rp K H (.bl b) (.bool b)
  | int (i : Int) : Rp K H (.int i) (.int i)
  | str (x : Str) : Rp K H (.str x) (.str x)
  | lst {a : Addr} {xs : List V} {ds : List PD} : SqL K H a xs → RpA K H xs ds → Rp K H (.ref a) (.list ds)
  | tup {a : Addr} {xs : List V} {ds : List PD} : SqT K H a xs → RpA K H xs ds → Rp K H (.ref a) (.tuple ds)
  | dic {a : Addr} {kvs : List (Key × V)} {ds : List (PD × PD)} : H a = some (.dK kvs) → RpK K H kvs ds → Rp K H (.ref a) (.dict ds)
inductive RpA (K : PySem.W.Frag) (H : Hp) : List V → List PD → Prop where
  | nil : RpA K H [] []
  | cons {v : V} {vs : List V} {d : PD} {ds : List PD} : Rp K H v d → RpA K H vs ds → RpA K H (v :: vs) (d :: ds)
inductive RpK (K : PySem.W.Frag) (H : Hp) : List (Key × V) → List (PD × PD) → Prop where
  | nil : RpK K H [] []
  | cons {k : Int} {v : V} {vs : List (Key × V)} {d : PD} {ds : List (PD × PD)} : Rp K H v d → RpK K H vs ds → RpK K H ((.inl k, v) :: vs) ((.int k, d) :: ds)
end

theorem Same.sqt {K : PySem.W.Frag} {H H' : Hp} {a : Addr} {xs : List V} (e : Same H H') (h : SqT K H a xs) : SqT K H' a xs := by
  rcases h with (h | ⟨o, h⟩) | h
  · exact Or.inl (Or.inl (e _ _ h))
  · exact Or.inl (Or.inr ⟨o, e _ _ h⟩)
  · exact Or.inr h

theorem Same.rd {H H' : Hp} {a : Addr} {u : HO} (e : Same H H') (h : Rd H a u) : Rd H' a u := by
  rcases h with h | ⟨o, h⟩
  · exact Or.inl (e _ _ h)
  · exact Or.inr ⟨o, e _ _ h⟩

theorem Same.sql {K : PySem.W.Frag} {H H' : Hp} {a : Addr} {xs : List V} (e : Same H H') (h : SqL K H a xs) : SqL K H' a xs := h.elim (fun h => .inl (Same.rd e h)) .inr
section
variable {K : PySem.W.Frag} {H H' : Hp}
mutual
theorem Rp.mono (e : Same H H') : ∀ {v : V} {d : PD}, Rp K H v d → Rp K H' v d
  | _, _, .non => .non
  | _, _, .bl b => .bl b
  | _, _, .int i => .int i
  | _, _, .str x => .str x
  | _, _, .lst s r => .lst (Same.sql e s) (RpA.mono e r)
  | _, _, .tup s r => .tup (Same.sqt e s) (RpA.mono e r)
  | _, _, .dic s r => .dic (e _ _ s) (RpK.mono e r)
theorem RpA.mono (e : Same H H') : ∀ {vs : List V} {ds : List PD}, RpA K H vs ds → RpA K H' vs ds
  | _, _, .nil => .nil
  | _, _, .cons a b => .cons (Rp.mono e a) (RpA.mono e b)
theorem RpK.mono (e : Same H H') : ∀ {vs : List (Key × V)} {ds : List (PD × PD)}, RpK K H vs ds → RpK K H' vs ds
  | _, _, .nil => .nil
  | _, _, .cons a b => .cons (Rp.mono e a) (RpK.mono e b)
end
theorem RpA.length : ∀ {vs : List V} {ds : List PD}, RpA K H vs ds → vs.length = ds.length
  | _, _, .nil => rfl
  | _, _, .cons _ b => by simp [RpA.length b]
theorem RpA.get : ∀ {vs : List V} {ds : List PD} {i : Nat} {d : PD}, RpA K H vs ds → ds[i]? = some d → ∃ v, vs[i]? = some v ∧ Rp K H v d
  | _, _, _, _, .nil, e => by simp at e
  | _, _, 0, d, .cons a _, e => by
    simp at e
    subst e
    exact ⟨_, rfl, a⟩
  | _, _, i + 1, d, .cons _ b, e => by
    obtain ⟨v, h1, h2⟩ := RpA.get (i := i) b (by simpa using e)
    exact ⟨v, by simpa using h1, h2⟩
theorem RpA.getV : ∀ {vs : List V} {ds : List PD} {i : Nat} {v : V}, RpA K H vs ds → vs[i]? = some v → ∃ d, ds[i]? = some d ∧ Rp K H v d
  | _, _, _, _, .nil, e => by simp at e
  | _, _, 0, d, .cons a _, e => by
    simp at e
    subst e
    exact ⟨_, rfl, a⟩
  | _, _, i + 1, d, .cons _ b, e => by
    obtain ⟨v, h1, h2⟩ := RpA.getV (i := i) b (by simpa using e)
    exact ⟨v, by simpa using h1, h2⟩
theorem RpA.append : ∀ {vs ws : List V} {ds es : List PD}, RpA K H vs ds → RpA K H ws es → RpA K H (vs ++ ws) (ds ++ es)
  | _, _, _, _, .nil, s => s
  | _, _, _, _, .cons a b, s => .cons a (RpA.append b s)
theorem RpA.take : ∀ {vs : List V} {ds : List PD} (n : Nat), RpA K H vs ds → RpA K H (vs.take n) (ds.take n)
  | _, _, 0, _ => .nil
  | _, _, _ + 1, .nil => .nil
  | _, _, n + 1, .cons a b => .cons a (RpA.take n b)
theorem RpA.drop : ∀ {vs : List V} {ds : List PD} (n : Nat), RpA K H vs ds → RpA K H (vs.drop n) (ds.drop n)
  | _, _, 0, r => r
  | _, _, _ + 1, .nil => .nil
  | _, _, n + 1, .cons _ b => RpA.drop n b
theorem RpA.set {v : V} {d : PD} (r : Rp K H v d) : ∀ {vs : List V} {ds : List PD} (n : Nat), RpA K H vs ds → RpA K H (vs.set n v) (ds.set n d)
  | _, _, _, .nil => .nil
  | _, _, 0, .cons _ b => .cons r b
  | _, _, n + 1, .cons a b => .cons a (RpA.set r n b)
theorem RpA.snoc {vs : List V} {ds : List PD} {v : V} {d : PD} (a : RpA K H vs ds) (r : Rp K H v d) : RpA K H (vs ++ [v]) (ds ++ [d]) := a.append (.cons r .nil)
theorem RpA.reverse : ∀ {vs : List V} {ds : List PD}, RpA K H vs ds → RpA K H vs.reverse ds.reverse
  | _, _, .nil => .nil
  | _, _, .cons a b => by
    rw [List.reverse_cons, List.reverse_cons]
    exact (RpA.reverse b).snoc a
theorem RpA.ofInts : ∀ (is : List Int), RpA K H (is.map V.int) (ofInts is)
  | [] => .nil
  | i :: r => .cons (.int i) (RpA.ofInts r)
theorem RpA.ints : ∀ {vs : List V} {ds : List PD} {is : List Int}, RpA K H vs ds → ints? ds = some is → vs = is.map V.int ∧ ds = DD.ofInts is
  | _, _, is, .nil, e => by
    have : is = [] := by simpa [ints?] using e.symm
    subst this
    exact ⟨rfl, rfl⟩
  | _, _, is, .cons (ds := ds) a b, e => by
    cases a with
    | int i =>
      cases q : ints? ds with
      | none => simp [ints?, q] at e
      | some js =>
        have e' : i :: js = is := by simpa [ints?, q] using e
        obtain ⟨h1, h2⟩ := RpA.ints b q
        subst e'
        rw [h1, h2]
        exact ⟨rfl, rfl⟩
    | _ => simp [ints?] at e
theorem RpA.bools : ∀ {vs : List V} {ds : List PD} {is : List Bool}, RpA K H vs ds → bools? ds = some is → vs = is.map V.bl
  | _, _, is, .nil, e => by
    have : is = [] := by simpa [bools?] using e.symm
    subst this
    rfl
  | _, _, is, .cons (ds := ds) a b, e => by
    cases a with
    | bl i =>
      cases q : bools? ds with
      | none => simp [bools?, q] at e
      | some js =>
        have e' : i :: js = is := by simpa [bools?, q] using e
        subst e'
        rw [RpA.bools b q]
        rfl
    | _ => simp [bools?] at e
theorem Rp.int_inv {v : V} {i : Int} (r : Rp K H v (.int i)) : v = .int i := by cases r; rfl
theorem Rp.bl_inv {v : V} {b : Bool} (r : Rp K H v (.bool b)) : v = .bl b := by cases r; rfl
theorem Rp.non_inv {v : V} (r : Rp K H v .none) : v = .non := by cases r; rfl
theorem Rp.str_inv {v : V} {b : Str} (r : Rp K H v (.str b)) : v = .str b := by cases r; rfl
theorem Rp.lst_inv {v : V} {ds : List PD} (r : Rp K H v (.list ds)) : ∃ a xs, v = .ref a ∧ SqL K H a xs ∧ RpA K H xs ds := by
  cases r with
  | lst s t => exact ⟨_, _, rfl, s, t⟩
theorem Rp.tup_inv {v : V} {ds : List PD} (r : Rp K H v (.tuple ds)) : ∃ a xs, v = .ref a ∧ SqT K H a xs ∧ RpA K H xs ds := by
  cases r with
  | tup s t => exact ⟨_, _, rfl, s, t⟩
theorem Rp.dic_inv {v : V} {ds : List (PD × PD)} (r : Rp K H v (.dict ds)) : ∃ a xs, v = .ref a ∧ H a = some (.dK xs) ∧ RpK K H xs ds := by
  cases r with
  | dic s t => exact ⟨_, _, rfl, s, t⟩
theorem Rp.scal {v : V} {d : PD} (r : Rp K H v d) (h : isScal d = true) (H2 : Hp) : Rp K H2 v d := by
  cases r with
  | non => exact .non
  | bl b => exact .bl b
  | int i => exact .int i
  | str x => exact .str x
  | _ => simp [isScal] at h
/-- as the library's own relation -/
def noDic : PD → Bool
  | d => d.canLay0
mutual
theorem Rp.dp : ∀ {v : V} {d : PD}, Rp K H v d → d.canLay0 = true → Dp K H v d
  | _, _, .non, _ => .non
  | _, _, .bl b, _ => .bl b
  | _, _, .int i, _ => .int i
  | _, _, .str x, _ => .str x
  | _, _, .lst s r, h => .lst s (RpA.dp r (by simpa [PyData.canLay0] using h))
  | _, _, .tup s r, h => .tup s (RpA.dp r (by simpa [PyData.canLay0] using h))
  | _, _, .dic s r, h => by simp [PyData.canLay0] at h
theorem RpA.dp : ∀ {vs : List V} {ds : List PD}, RpA K H vs ds → PyData.canLayAll0 ds = true → DpAll K H vs ds
  | _, _, .nil, _ => .nil
  | _, _, .cons a b, h => by
    simp [PyData.canLayAll0] at h
    exact .cons (Rp.dp a h.1) (RpA.dp b h.2)
end
theorem Rp.dpS {v : V} {d : PD} (r : Rp K H v d) (h : shp d = true) : Dp K H v d := r.dp (SeqAt.canLay_of_shaped h)
end

/-! ### a list or dict that one name owns -/
inductive Own (K : PySem.W.Frag) (H Hf : Hp) : V → PD → Prop where
  | lst {a : Addr} {xs : List V} {ds : List PD} : H a = some (.lst xs) → Hf a = none → RpA K Hf xs ds → Own K H Hf (.ref a) (.list ds)
  | dic {a : Addr} {kvs : List (Key × V)} {ds : List (PD × PD)} : H a = some (.dK kvs) → Hf a = none → RpK K Hf kvs ds → Own K H Hf (.ref a) (.dict ds)
section
variable {K : PySem.W.Frag} {H H' Hf Hf' : Hp} {v : V} {d : PD}
theorem Own.ref (o : Own K H Hf v d) : ∃ a, v = .ref a ∧ Hf a = none ∧ ∃ u, H a = some u := by
  cases o with
  | lst h n _ => exact ⟨_, rfl, n, _, h⟩
  | dic h n _ => exact ⟨_, rfl, n, _, h⟩
/-- elsewhere the heap has changed -/
theorem Own.keep (o : Own K H Hf v d) (e : Same Hf Hf') (h : ∀ a u, v = .ref a → H a = some u → H' a = some u) (n : ∀ a, v = .ref a → Hf' a = none) : Own K H' Hf' v d := by
  cases o with
  | lst q z r => exact .lst (h _ _ rfl q) (n _ rfl) (r.mono e)
  | dic q z r => exact .dic (h _ _ rfl q) (n _ rfl) (r.mono e)
/-- it is given up: from now on it stands still -/
theorem Own.freeze (o : Own K H Hf v d) (e : Same Hf H) : ∃ Hf', Same Hf Hf' ∧ Same Hf' H ∧ Rp K Hf' v d ∧ ∀ b, v ≠ .ref b → Hf' b = Hf b := by
  cases o with
  | @lst a xs ds q z r =>
    have s1 : Same Hf (upd Hf a (.lst xs)) := fun b u h => by
      rw [upd_ne (ne_of_none h z)]
      exact h
    refine ⟨upd Hf a (.lst xs), s1, fun b u h => ?_, .lst (SqL.of upd_same) (r.mono s1), fun b hb => upd_ne (fun e => hb (by rw [e]))⟩
    by_cases hb : b = a
    · subst hb
      rw [upd_same] at h
      cases h
      exact q
    · rw [upd_ne hb] at h
      exact e b u h
  | @dic a xs ds q z r =>
    have s1 : Same Hf (upd Hf a (.dK xs)) := fun b u h => by
      rw [upd_ne (ne_of_none h z)]
      exact h
    refine ⟨upd Hf a (.dK xs), s1, fun b u h => ?_, .dic upd_same (r.mono s1), fun b hb => upd_ne (fun e => hb (by rw [e]))⟩
    by_cases hb : b = a
    · subst hb
      rw [upd_same] at h
      cases h
      exact q
    · rw [upd_ne hb] at h
      exact e b u h
end

/-! ### the environment against the slots -/
abbrev Bor := List (Nat × Addr)
def CellOk (K : PySem.W.Frag) (H0 : Hp) (B : Bor) (H Hf : Hp) (i : Nat) (v : V) : Cell → Prop
  | .sh d => Rp K Hf v d
  | .ow d => Own K H Hf v d ∧ ∀ a, v = .ref a → H0 a = none
  | .bo d => Own K H Hf v d ∧ ∀ a, v = .ref a → (i, a) ∈ B
structure Rel (K : PySem.W.Frag) (H0 : Hp) (B : Bor) (σ : L2.St) (H Hf : Hp) (ρ : Env) : Prop where
  ext : Same Hf H
  len : σ.length = ρ.length
  get : ∀ i c, getC ρ i = some c → ∃ v, σ[i]? = some (some v) ∧ CellOk K H0 B H Hf i v c
  sep : ∀ i j c c' a, getC ρ i = some c → getC ρ j = some c' → c.isMut = true → c'.isMut = true → σ[i]? = some (some (.ref a)) → σ[j]? = some (some (.ref a)) → i = j
  ent : ∀ a o, H0 a = some o → (∀ i, (i, a) ∉ B) → H a = some o
  bor : ∀ i a, (i, a) ∈ B → σ[i]? = some (some (.ref a)) ∧ ∃ d, getC ρ i = some (.bo d)
/-- an address that a name at ms may change -/
def MutAt (σ : L2.St) (ρ : Env) (ms : List Nat) (a : Addr) : Prop := ∃ i, i ∈ ms ∧ ∃ c, getC ρ i = some c ∧ c.isMut = true ∧ σ[i]? = some (some (V.ref a))
def Fr (σ : L2.St) (ρ : Env) (ms : List Nat) (H H' : Hp) : Prop := ∀ a o, H a = some o → ¬ MutAt σ ρ ms a → H' a = some o
/-- no name comes to own anything -/
structure Le (ρ ρ' : Env) : Prop where
  len : ρ'.length = ρ.length
  mu : ∀ i c', getC ρ' i = some c' → c'.isMut = true → ∃ c, getC ρ i = some c ∧ c.isMut = true
theorem Le.refl (ρ : Env) : Le ρ ρ := ⟨rfl, fun i c h m => ⟨c, h, m⟩⟩
theorem Le.trans {a b c : Env} (h : Le a b) (h' : Le b c) : Le a c := ⟨h'.len.trans h.len, fun i x hx m => by
  obtain ⟨y, hy, my⟩ := h'.mu i x hx m
  exact h.mu i y hy my⟩
theorem MutAt.up {σ : L2.St} {ρ ρ' : Env} {ms ms' : List Nat} {a : Addr} (l : Le ρ ρ') (s : ∀ i ∈ ms, i ∈ ms') (h : MutAt σ ρ' ms a) : MutAt σ ρ ms' a := by
  obtain ⟨i, hi, c, hc, m, e⟩ := h
  obtain ⟨c', hc', m'⟩ := l.mu i c hc m
  exact ⟨i, s i hi, c', hc', m', e⟩
theorem Fr.refl (σ : L2.St) (ρ : Env) (ms : List Nat) (H : Hp) : Fr σ ρ ms H H := fun _ _ h _ => h
theorem Fr.same {σ : L2.St} {ρ : Env} {ms : List Nat} {H H' : Hp} (e : Same H H') : Fr σ ρ ms H H' := fun a o h _ => e a o h
theorem Fr.trans {σ : L2.St} {ρ ρ' : Env} {ms ms1 ms2 : List Nat} {H H1 H2 : Hp} (a : Fr σ ρ ms1 H H1) (l : Le ρ ρ') (b : Fr σ ρ' ms2 H1 H2) (s1 : ∀ i ∈ ms1, i ∈ ms) (s2 : ∀ i ∈ ms2, i ∈ ms) : Fr σ ρ ms H H2 :=
  fun x o h n => b x o (a x o h fun m => n (m.up (Le.refl ρ) s1)) fun m => n (m.up l s2)
/-- what an expression leaves: its value's relation -/
def ResOk (K : PySem.W.Frag) (H0 : Hp) (σ : L2.St) (ρ' : Env) (H' Hf' : Hp) (v : V) (d : PD) (fr : Bool) : Prop :=
  if fr = true then Own K H' Hf' v d ∧ ∀ a, v = .ref a → H0 a = none ∧ ∀ i c, getC ρ' i = some c → c.isMut = true → σ[i]? ≠ some (some (.ref a)) else Rp K Hf' v d
/-- what was no name's own is frozen as before -/
def Gr (σ : L2.St) (ρ : Env) (H Hf Hf' : Hp) : Prop := ∀ b u, H b = some u → (¬ ∃ i c, getC ρ i = some c ∧ c.isMut = true ∧ σ[i]? = some (some (V.ref b))) → Hf' b = Hf b
/-- from (ρ, H, Hf) to (ρ', H', Hf') -/
structure Step (K : PySem.W.Frag) (H0 : Hp) (B : Bor) (σ : L2.St) (ms : List Nat) (ρ : Env) (H Hf : Hp) (ρ' : Env) (H' Hf' : Hp) : Prop where
  ext : Same Hf Hf'
  rel : Rel K H0 B σ H' Hf' ρ'
  fr : Fr σ ρ ms H H'
  gr : Gr σ ρ H Hf Hf'
  le : Le ρ ρ'
theorem Step.refl {K : PySem.W.Frag} {H0 : Hp} {B : Bor} {σ : L2.St} {ms : List Nat} {ρ : Env} {H Hf : Hp} (R : Rel K H0 B σ H Hf ρ) : Step K H0 B σ ms ρ H Hf ρ H Hf :=
  ⟨fun _ _ h => h, R, Fr.refl _ _ _ _, fun _ _ _ _ => rfl, Le.refl _⟩
theorem Step.trans {K : PySem.W.Frag} {H0 : Hp} {B : Bor} {σ : L2.St} {ms ms1 ms2 : List Nat} {ρ ρ1 ρ2 : Env} {H Hf H1 Hf1 H2 Hf2 : Hp} (a : Step K H0 B σ ms1 ρ H Hf ρ1 H1 Hf1) (b : Step K H0 B σ ms2 ρ1 H1 Hf1 ρ2 H2 Hf2)
    (s1 : ∀ i ∈ ms1, i ∈ ms) (s2 : ∀ i ∈ ms2, i ∈ ms) : Step K H0 B σ ms ρ H Hf ρ2 H2 Hf2 :=
  ⟨Same.trans a.ext b.ext, b.rel, a.fr.trans a.le b.fr s1 s2, fun x u h n => by
    have h1 := a.fr x u h fun ⟨i, _, c, hc, m, e⟩ => n ⟨i, c, hc, m, e⟩
    refine (b.gr x u h1 fun ⟨i, c, hc, m, e⟩ => ?_).trans (a.gr x u h n)
    obtain ⟨c', hc', m'⟩ := a.le.mu i c hc m
    exact n ⟨i, c', hc', m', e⟩, a.le.trans b.le⟩
theorem Step.more {K : PySem.W.Frag} {H0 : Hp} {B : Bor} {σ : L2.St} {ms ms1 : List Nat} {ρ ρ1 : Env} {H Hf H1 Hf1 : Hp} (a : Step K H0 B σ ms1 ρ H Hf ρ1 H1 Hf1) (s1 : ∀ i ∈ ms1, i ∈ ms) : Step K H0 B σ ms ρ H Hf ρ1 H1 Hf1 :=
  ⟨a.ext, a.rel, fun x o h n => a.fr x o h fun m => n (m.up (Le.refl ρ) s1), a.gr, a.le⟩
/-- a new address, or one that a name owned -/
def NewOk (σ : L2.St) (ρ : Env) (H : Hp) (v : V) : Prop := ∀ a, v = .ref a → H a = none ∨ ∃ i c, getC ρ i = some c ∧ c.isMut = true ∧ σ[i]? = some (some (V.ref a))
def PostE (K : PySem.W.Frag) (H0 : Hp) (B : Bor) (σ : L2.St) (ρ : Env) (ms : List Nat) (H Hf : Hp) (d : PD) (fr : Bool) (ρ' : Env) (v : V) (H' : Hp) : Prop :=
  ∃ Hf', Step K H0 B σ ms ρ H Hf ρ' H' Hf' ∧ ResOk K H0 σ ρ' H' Hf' v d fr ∧ (fr = true → NewOk σ ρ H v)
def PostA (K : PySem.W.Frag) (H0 : Hp) (B : Bor) (σ : L2.St) (ρ : Env) (ms : List Nat) (H Hf : Hp) (ds : List PD) (ρ' : Env) (vs : List V) (H' : Hp) : Prop :=
  ∃ Hf', Step K H0 B σ ms ρ H Hf ρ' H' Hf' ∧ RpA K Hf' vs ds

section
variable {K : PySem.W.Frag} {H0 H H' Hf Hf' : Hp} {B : Bor} {σ : L2.St} {ρ ρ' : Env} {i : Nat} {v : V} {d : PD}
theorem getC_set_self {c : Cell} (h : i < ρ.length) : getC (ρ.set i (some c)) i = some c := by
  unfold getC
  rw [List.getElem?_set_self h]
theorem getC_set_none : getC (ρ.set i none) i = none := by
  unfold getC
  by_cases h : i < ρ.length
  · rw [List.getElem?_set_self h]
  · rw [List.getElem?_eq_none (by simpa using h)]
theorem getC_set_ne {c : Option Cell} {j : Nat} (h : i ≠ j) : getC (ρ.set i c) j = getC ρ j := by
  unfold getC
  rw [List.getElem?_set_ne h]
theorem getC_lt {c : Cell} (h : getC ρ i = some c) : i < ρ.length := by
  unfold getC at h
  by_cases q : i < ρ.length
  · exact q
  · rw [List.getElem?_eq_none (by simpa using q)] at h
    simp at h
/-- an owned address is none of the frozen ones, and is tracked -/
theorem Rel.own (R : Rel K H0 B σ H Hf ρ) {c : Cell} (h : getC ρ i = some c) (m : c.isMut = true) : ∃ a, σ[i]? = some (some (.ref a)) ∧ Hf a = none ∧ (∃ u, H a = some u) ∧ Own K H Hf (.ref a) c.dat ∧ (H0 a = none ∨ (i, a) ∈ B) := by
  obtain ⟨v, hv, ok⟩ := R.get i c h
  cases c with
  | sh d => simp [Cell.isMut] at m
  | ow d =>
    obtain ⟨o, n⟩ := ok
    obtain ⟨a, rfl, h1, h2⟩ := o.ref
    exact ⟨a, hv, h1, h2, o, Or.inl (n a rfl)⟩
  | bo d =>
    obtain ⟨o, n⟩ := ok
    obtain ⟨a, rfl, h1, h2⟩ := o.ref
    exact ⟨a, hv, h1, h2, o, Or.inr (n a rfl)⟩
/-- the heap has moved on; what names own stands -/
theorem Rel.move (R : Rel K H0 B σ H Hf ρ) (e1 : Same Hf Hf') (e2 : Same Hf' H') (f : Fr σ ρ [] H H') (n : ∀ i c a, getC ρ i = some c → c.isMut = true → σ[i]? = some (some (.ref a)) → Hf' a = none) : Rel K H0 B σ H' Hf' ρ := by
  have st : ∀ a u, H a = some u → H' a = some u := fun a u h => f a u h (fun ⟨i, hi, _⟩ => by simp at hi)
  refine ⟨e2, R.len, fun i c h => ?_, R.sep, fun a o h hb => st a o (R.ent a o h hb), R.bor⟩
  obtain ⟨v, hv, ok⟩ := R.get i c h
  refine ⟨v, hv, ?_⟩
  cases c with
  | sh d => exact Rp.mono e1 ok
  | ow d => exact ⟨ok.1.keep e1 (fun a u _ q => st a u q) (fun a ea => n i _ a h rfl (by rw [hv, ea])), ok.2⟩
  | bo d => exact ⟨ok.1.keep e1 (fun a u _ q => st a u q) (fun a ea => n i _ a h rfl (by rw [hv, ea])), ok.2⟩
/-- a new object is frozen at once -/
theorem Rel.fresh {a : Addr} {o : HO} (R : Rel K H0 B σ H Hf ρ) (n : H a = none) : Same Hf (upd Hf a o) ∧ Same (upd Hf a o) (upd H a o) ∧ Same H (upd H a o) ∧ Rel K H0 B σ (upd H a o) (upd Hf a o) ρ := by
  have nf : Hf a = none := Same.free R.ext n
  have s1 : Same Hf (upd Hf a o) := fun b u h => by
    rw [upd_ne (ne_of_none h nf)]
    exact h
  have s3 : Same H (upd H a o) := fun b u h => by
    rw [upd_ne (ne_of_none h n)]
    exact h
  have s2 : Same (upd Hf a o) (upd H a o) := fun b u h => by
    by_cases e : b = a
    · subst e
      rw [upd_same] at h ⊢
      exact h
    · rw [upd_ne e] at h ⊢
      exact R.ext b u h
  refine ⟨s1, s2, s3, R.move s1 s2 (Fr.same s3) fun i c b h m e => ?_⟩
  obtain ⟨b', e', h1, ⟨u, h2⟩, _⟩ := R.own h m
  have eb : b' = b := by
    rw [e] at e'
    cases e'
    rfl
  subst eb
  rw [upd_ne (ne_of_none h2 n)]
  exact h1
/-- the heap grows beside -/
theorem Rel.grow {a : Addr} {o : HO} (R : Rel K H0 B σ H Hf ρ) (n : H a = none) : Same H (upd H a o) ∧ Rel K H0 B σ (upd H a o) Hf ρ := by
  have s3 : Same H (upd H a o) := fun b u h => by
    rw [upd_ne (ne_of_none h n)]
    exact h
  refine ⟨s3, R.move (fun _ _ h => h) (Same.trans R.ext s3) (Fr.same s3) fun i c b h m e => ?_⟩
  obtain ⟨b', e', h1, _⟩ := R.own h m
  have eb : b' = b := by
    rw [e] at e'
    cases e'
    rfl
  subst eb
  exact h1
theorem Rel.h0 (R : Rel K H0 B σ H Hf ρ) {a : Addr} (n : H a = none) : H0 a = none := by
  cases q : H0 a with
  | none => rfl
  | some o =>
    by_cases hb : ∃ i, (i, a) ∈ B
    · obtain ⟨i, hi⟩ := hb
      obtain ⟨e, d, g⟩ := R.bor i a hi
      obtain ⟨b, e', _, ⟨u, h2⟩, _⟩ := R.own g rfl
      rw [e] at e'
      cases e'
      rw [n] at h2
      cases h2
    · have := R.ent a o q fun i hi => hb ⟨i, hi⟩
      rw [n] at this
      cases this
/-- a result is given up -/
theorem PostE.frz {ms : List Nat} {fr : Bool} {v : V} (p : PostE K H0 B σ ρ ms H Hf d fr ρ' v H') : PostE K H0 B σ ρ ms H Hf d false ρ' v H' := by
  obtain ⟨Hf1, S, r, hn0⟩ := p
  cases fr with
  | false => exact ⟨Hf1, S, r, fun z => nomatch z⟩
  | true =>
    obtain ⟨o, hn⟩ := r
    obtain ⟨Hf2, s1, s2, rp, ne⟩ := o.freeze S.rel.ext
    obtain ⟨a, rfl, _, _⟩ := o.ref
    refine ⟨Hf2, ⟨Same.trans S.ext s1, S.rel.move s1 s2 (Fr.refl _ _ _ _) fun i c b hc m e => ?_, S.fr, fun b u h n => ?_, S.le⟩, rp, fun z => nomatch z⟩
    · obtain ⟨b', e', h1, _⟩ := S.rel.own hc m
      have eb : b' = b := by
        rw [e] at e'
        cases e'
        rfl
      subst eb
      rw [ne b' fun z => (hn a rfl).2 i c hc m (by rw [e, z])]
      exact h1
    · rw [ne b fun z => ?_]
      · exact S.gr b u h n
      · have eb : a = b := V.ref.inj z
        subst eb
        rcases hn0 rfl a rfl with q | q
        · rw [h] at q
          cases q
        · exact n q
end
end DD

-- part DOps
set_option Elab.async false
set_option linter.all false
set_option maxRecDepth 100000
/-! Operators and built-in functions by values: what the rules of the hand layer give for data. -/
namespace PySem
open AutoListH (joined_fits)
theorem dd_mul_list (l : Addr) (xs : Array Value) (n : Nat) (k : Int) (t : Tok) (sl : Array (Option Value)) (c0 : ¬(!Builtin.List.listFitsIndex k) = true) (c1 : ¬xs.size * k.toNat > (2 ^ 63 - 1) / 8) (c2 : ¬Builtin.List.listTooLong (xs.size * k.toNat) = true) :
    Meets (Builtin.«list.__mul__» ⟨[.ref l, .int k t], []⟩) (fun _ R s => s.heap.get? l = some { cls := .type "list", dict := none, data := .seq xs n, slots := sl } ∧
      R (.ok (.ret (Value.ref s.heap.objs.size))) { s with heap := s.heap.push { cls := Value.type "list", data := Data.seq (List.foldl (fun x1 x2 => x1 ++ x2) #[] (List.replicate (if xs.isEmpty = true then 0 else k.toNat) xs)) } }) :=
  .of_wp fun prog w A R s h => by
    obtain ⟨hp, g, d, tk, os⟩ := s
    obtain ⟨hl, h⟩ := h
    have fit := joined_fits c2
    wp_walk
    refine wpAny_ite_false (decide_eq_false (Nat.not_lt.mpr fit)) ?_
    wp_walk
    exact ⟨_, rfl, h⟩
theorem dd_rmul_list (k : Int) (t : Tok) (l : Addr) (xs : Array Value) (n : Nat) (sl : Array (Option Value)) :
    Meets (Builtin.«int.__rmul__» ⟨[.int k t, .ref l], []⟩) (fun _ R s => s.heap.get? l = some { cls := .type "list", dict := none, data := .seq xs n, slots := sl } ∧ R (.ok (.ret Value.notImplemented)) s) :=
  .of_wp fun prog w A R s h => by
    obtain ⟨hp, g, d, tk, os⟩ := s
    obtain ⟨hl, h⟩ := h
    wp_walk
    exact ⟨_, rfl, h⟩
end PySem
namespace DD
open PySem PySem.Spec PyProof.Rows L2

theorem lim_line {n : Nat} (h : n ≤ LIM) : n ≤ sizeLine := by
  rw [sizeLine_eq]
  exact Nat.le_trans h (by decide)
theorem lim_lt {n : Nat} (h : n ≤ LIM) : n < sizeLine := by
  rw [sizeLine_eq]
  exact Nat.lt_of_le_of_lt h (by decide)

def PostV (K : PySem.W.Frag) (H Hf : Hp) (d : PD) (fr : Bool) (v : V) (H' : Hp) : Prop :=
  ∃ Hf', Same Hf Hf' ∧ Same Hf' H' ∧ Same H H' ∧ (∀ b u, H b = some u → Hf' b = Hf b) ∧
    (if fr = true then Own K H' Hf' v d ∧ ∀ a, v = .ref a → H a = none else Rp K Hf' v d)
section
variable {K : PySem.W.Frag} {H Hf H' : Hp} {d : PD} {v : V} {fr : Bool} {xs : List V} {ds : List PD} {p : Addr}
theorem PostV.here (e : Same Hf H) (r : Rp K Hf v d) : PostV K H Hf d false v H := ⟨Hf, fun _ _ h => h, e, fun _ _ h => h, fun _ _ _ => rfl, r⟩
theorem upd_pair {o : HO} (e : Same Hf H) (n : H p = none) : Same Hf (upd Hf p o) ∧ Same (upd Hf p o) (upd H p o) ∧ Same H (upd H p o) ∧ ∀ b u, H b = some u → upd Hf p o b = Hf b := by
  have nf : Hf p = none := Same.free e n
  refine ⟨fun b u h => ?_, fun b u h => ?_, fun b u h => ?_, fun b u h => ?_⟩
  · rw [upd_ne (ne_of_none h nf)]
    exact h
  · by_cases q : b = p
    · subst q
      rw [upd_same] at h ⊢
      exact h
    · rw [upd_ne q] at h ⊢
      exact e b u h
  · rw [upd_ne (ne_of_none h n)]
    exact h
  · rw [upd_ne (ne_of_none h n)]
theorem PostV.newT (e : Same Hf H) (n : H p = none) (r : RpA K Hf xs ds) : PostV K H Hf (.tuple ds) false (.ref p) (upd H p (.tup xs)) := by
  obtain ⟨s1, s2, s3, s4⟩ := upd_pair (o := .tup xs) e n
  exact ⟨_, s1, s2, s3, s4, Rp.tup (SqT.of upd_same) (r.mono s1)⟩
theorem PostV.newL (e : Same Hf H) (n : H p = none) (r : RpA K Hf xs ds) : PostV K H Hf (.list ds) true (.ref p) (upd H p (.lst xs)) := by
  have s3 : Same H (upd H p (.lst xs)) := fun b u h => by
    rw [upd_ne (ne_of_none h n)]
    exact h
  exact ⟨Hf, fun _ _ h => h, Same.trans e s3, s3, fun _ _ _ => rfl, Own.lst upd_same (Same.free e n) r, fun a ea => by
    cases ea
    exact n⟩
theorem PostV.newD {kvs : List (Key × V)} {dk : List (PD × PD)} (e : Same Hf H) (n : H p = none) (r : RpK K Hf kvs dk) : PostV K H Hf (.dict dk) true (.ref p) (upd H p (.dK kvs)) := by
  have s3 : Same H (upd H p (.dK kvs)) := fun b u h => by
    rw [upd_ne (ne_of_none h n)]
    exact h
  exact ⟨Hf, fun _ _ h => h, Same.trans e s3, s3, fun _ _ _ => rfl, Own.dic upd_same (Same.free e n) r, fun a ea => by
    cases ea
    exact n⟩
theorem PostV.frzV (p : PostV K H Hf d fr v H') : PostV K H Hf d false v H' := by
  obtain ⟨Hf1, s1, s2, s3, s4, r⟩ := p
  cases fr with
  | false => exact ⟨Hf1, s1, s2, s3, s4, r⟩
  | true =>
    obtain ⟨o, hn⟩ := r
    obtain ⟨Hf2, t1, t2, rp, ne⟩ := o.freeze s2
    obtain ⟨a, rfl, _, _⟩ := o.ref
    refine ⟨Hf2, Same.trans s1 t1, t2, s3, fun b u h => ?_, rp⟩
    rw [ne b fun z => ?_]
    · exact s4 b u h
    · cases z
      rw [hn a rfl] at h
      cases h
theorem PostV.toE {H0 : Hp} {B : Bor} {σ : L2.St} {ρ : Env} {ms : List Nat} (R : Rel K H0 B σ H Hf ρ) (p : PostV K H Hf d fr v H') : PostE K H0 B σ ρ ms H Hf d fr ρ v H' := by
  obtain ⟨Hf1, s1, s2, s3, s4, r⟩ := p
  have nn : ∀ i c a, getC ρ i = some c → c.isMut = true → σ[i]? = some (some (V.ref a)) → Hf1 a = none := fun i c a hc m e => by
    obtain ⟨b', e', h1, ⟨u, h2⟩, _⟩ := R.own hc m
    rw [e] at e'
    cases e'
    rw [s4 a u h2]
    exact h1
  refine ⟨Hf1, ⟨s1, R.move s1 s2 (Fr.same s3) nn, Fr.same s3, fun b u h _ => s4 b u h, Le.refl ρ⟩, ?_, fun z a ea => .inl (by
    subst z
    exact r.2 a ea)⟩
  cases fr with
  | false => exact r
  | true =>
    refine ⟨r.1, fun a ea => ⟨R.h0 (r.2 a ea), fun i c hc m z => ?_⟩⟩
    obtain ⟨b', e', _, ⟨u, h2⟩, _⟩ := R.own hc m
    rw [z] at e'
    cases e'
    rw [r.2 a ea] at h2
    cases h2
end

/-- a two-place rule is right for f -/
def R2Ok (K : PySem.W.Frag) (r : R2) (f : PD → PD → Option (PD × Bool)) : Prop := ∀ x y H Hf dx dy d fr, Same Hf H → Rp K Hf x dx → Rp K Hf y dy → f dx dy = some (d, fr) → ∀ Q : VK, (∀ v H', PostV K H Hf d fr v H' → Q v H') → r x y H Q
theorem OpR.or {X : Cx} {f : Value → Value → Sem Value} {r r' : R2} (h : OpR X f r) (h' : OpR X f r') : OpR X f (fun x y H Q => r x y H Q ∨ r' x y H Q) := by
  intro pins s σ H x y v u Q I rx ry q
  rcases q with q | q
  · exact h pins s σ H x y v u Q I rx ry q
  · exact h' pins s σ H x y v u Q I rx ry q
def rNo : R2 := fun _ _ _ _ => False
theorem op_no {X : Cx} {f : Value → Value → Sem Value} : OpR X f rNo := fun _ _ _ _ _ _ _ _ _ _ _ _ q => q.elim

/-- list + list, the first or the second may be locked -/
def rCatL (K : PySem.W.Frag) : R2 := fun x y H Q => ∃ l b xs zs, x = .ref l ∧ y = .ref b ∧ SqL K H l xs ∧ SqL K H b zs ∧ xs.length + zs.length ≤ sizeLine ∧ ∀ p, H p = none → Q (.ref p) (upd H p (.lst (xs ++ zs)))
theorem rd_lst {X : Cx} {pins : List (Addr × Obj)} {s : Shared} {σ : L2.St} {H : Hp} {l : Addr} {xs : List V} (I : Inv X pins σ H s) (h : SqL X.K H l xs) : ∃ (its : List Value) (n : Nat) (sl : Array (Option Value)), Vals xs its ∧ xs.length = its.length ∧
    s.heap.get? l = some { cls := .type "list", dict := none, data := .seq its.toArray n, slots := sl } := by
  obtain ⟨its, rv, ⟨⟨cc, dd, dt, sl⟩, n, ho, hc, hd, hdt⟩, _⟩ := I.list h
  replace hc : cc = .type "list" := hc
  replace hd : dd = none := hd
  replace hdt : dt = .seq its.toArray n := hdt
  subst hc hd hdt
  exact ⟨its, n, sl, rv, rv.length, ho⟩
theorem op_catL {X : Cx} : OpR X (binaryOp .Add) (rCatL X.K) := by
  intro pins s σ H x y v u Q I rx ry h
  obtain ⟨l, b, xs, zs, rfl, rfl, hH, hB, hz, q⟩ := h
  cases rx
  cases ry
  obtain ⟨ia, n, sl, r, hl, e⟩ := rd_lst I hH
  obtain ⟨ib, n2, sl2, r2, hl2, e2⟩ := rd_lst I hB
  refine concat_meets ⟨_, e, rfl⟩ ⟨_, e2, rfl⟩ noFill_list_add seq_list_add PySem.F.slot_list_add PySem.F.entry_list_add (PySem.F.args_list_add_2 _ _) (list_addW l b ia.toArray ib.toArray n n2 none none sl sl2 (by simp only [List.size_toArray]; omega)) ⟨e, e2, ?_⟩
  have ea : ia.toArray ++ ib.toArray = (ia ++ ib).toArray := by simp
  rw [ea]
  exact ⟨V.ref _, _, I.lnew (t' := s.toks) (r.append r2) (by rw [List.length_append]; omega), rfl, q _ I.fresh⟩

/-- list * int, the list may be locked -/
def rRepL (K : PySem.W.Frag) : R2 := fun x y H Q => ∃ l k xs, x = .ref l ∧ y = .int k ∧ SqL K H l xs ∧ 0 ≤ k ∧ k < 2 ^ 63 ∧ xs.length * k.toNat ≤ sizeLine ∧
  ∀ p, H p = none → Q (.ref p) (upd H p (.lst (List.replicate k.toNat xs).flatten))
theorem op_repL {X : Cx} : OpR X (binaryOp .Mult) (rRepL X.K) := by
  intro pins s σ H x y v u Q I rx ry h
  obtain ⟨l, k, xs, rfl, rfl, hH, h1, h2, hz, q⟩ := h
  cases rx
  obtain ⟨t, rfl⟩ := ry
  obtain ⟨ia, n, sl, r, hl, e⟩ := rd_lst I hH
  have sz : ia.toArray.size = ia.length := List.size_toArray
  have a1 : ia.toArray.size * k.toNat ≤ sizeLine := by
    rw [sz, ← hl]
    exact hz
  have a2 : ¬ ia.toArray.size * k.toNat > (2 ^ 63 - 1) / 8 := by
    have : (sizeLine : Nat) ≤ (2 ^ 63 - 1) / 8 := by decide
    omega
  have a3 : ¬ (!Builtin.List.listFitsIndex k) = true := by
    rw [fitsIndex_both (by omega) h2]
    simp
  have a4 : ¬ Builtin.List.listTooLong (ia.toArray.size * k.toNat) = true := by
    rw [notLongL a1]
    simp
  have f0 : ∀ m : Nat, List.foldl (fun x1 x2 => x1 ++ x2) #[] (List.replicate m ia.toArray) = (List.replicate m ia).flatten.toArray := fun m => by
    have q := foldl_rep ia m []
    rw [List.nil_append] at q
    exact q
  have a5 : List.foldl (fun x1 x2 => x1 ++ x2) #[] (List.replicate (if ia.toArray.isEmpty = true then 0 else k.toNat) ia.toArray) = (List.replicate k.toNat ia).flatten.toArray := by
    rw [f0]
    cases ia with
    | nil => simp
    | cons a r' => rw [if_neg (by simp)]
  have tl : s.TypeIs (.ref l) "list" := ⟨_, e, rfl⟩
  have m2 := call_meets (prog := X.prog) (w := X.w) (A := X.A) (E := X.xe) (Q := EP X pins σ Q) F.slot_list_mul tl F.entry_list_mul (F.args_list_mul_2 _ _) (dd_mul_list l ia.toArray n k t sl a3 a2 a4) ⟨e, by
    rw [a5]
    exact ⟨V.ref _, _, I.lnew (t' := s.toks) (r.rep k.toNat) (by rw [PyProof.Rows.lm_len_rep_flat, Nat.mul_comm]; exact hz), rfl, q _ I.fresh⟩⟩
  refine wpAny_binaryOp_repeat_ref (T := "list") (U := "int") (by decide) tl (fun s' => typeIs_int s' k t) noFill_list_mul F.fills_int_mul F.slot_int_rmul repeat_list F.slot_int_index.lookup ?_
  exact call_meets F.slot_int_rmul (typeIs_int s k t) F.entry_int_rmul (F.args_int_rmul_2 _ _) (dd_rmul_list k t l ia.toArray n sl) ⟨e, rfl, tl, m2⟩

/-- a bool and an int -/
def rBI (g : Int → Int → Int) : R2 := fun x y H Q => ∃ b j, x = .bl b ∧ y = .int j ∧ Q (.int (g (if b = true then 1 else 0) j)) H
theorem op_addBI {X : Cx} : OpR X (binaryOp .Add) (rBI fun i j => i + j) := by
  intro pins s σ H x y v u Q I rx ry h
  obtain ⟨b, j, rfl, rfl, q⟩ := h
  cases rx
  obtain ⟨t, rfl⟩ := ry
  exact PySem.IntBool.add_bool_int ⟨.int _, H, I.tok _, ⟨_, rfl⟩, q⟩
theorem op_subBI {X : Cx} : OpR X (binaryOp .Sub) (rBI fun i j => i - j) := by
  intro pins s σ H x y v u Q I rx ry h
  obtain ⟨b, j, rfl, rfl, q⟩ := h
  cases rx
  obtain ⟨t, rfl⟩ := ry
  exact PySem.IntBool.sub_bool_int ⟨.int _, H, I.tok _, ⟨_, rfl⟩, q⟩
def rBin (K : PySem.W.Frag) : Operator → R2
  | .Add => fun x y H Q => rI0 (fun i j => .int (i + j)) x y H Q ∨ (rCatA K x y H Q ∨ (rCatL K x y H Q ∨ rBI (fun i j => i + j) x y H Q))
  | .Sub => fun x y H Q => rI0 (fun i j => .int (i - j)) x y H Q ∨ rBI (fun i j => i - j) x y H Q
  | .Mult => fun x y H Q => rI CMul (fun i j => .int (i * j)) x y H Q ∨ (rRepL K x y H Q ∨ rRepT K x y H Q)
  | .FloorDiv => rI CDiv fun i j => .int (i / j)
  | .Mod => rI (fun _ j => 0 < j) fun i j => .int (i % j)
  | .Pow => rI CPow fun i j => .int (i ^ j.toNat)
  | _ => rNo
theorem bin_ok {X : Cx} (op : Operator) : OpR X (binaryOp op) (rBin X.K op) := by
  cases op with
  | Add => exact op_add.or (op_catA.or (op_catL.or op_addBI))
  | Sub => exact op_sub.or op_subBI
  | Mult => exact op_mul.or (op_repL.or op_repT)
  | FloorDiv => exact op_fdiv
  | Mod => exact op_mod
  | Pow => exact op_pow
  | _ => exact op_no
theorem nil_of_len {α β : Type} {xs : List α} {ds : List β} (h : xs.length = ds.length) : xs = [] ↔ ds = [] := by
  cases xs <;> cases ds <;> simp_all
theorem RpA.flat {K : PySem.W.Frag} {H : Hp} {xs : List V} {ds : List PD} (r : RpA K H xs ds) : ∀ n : Nat, RpA K H (List.replicate n xs).flatten (List.replicate n ds).flatten
  | 0 => .nil
  | n + 1 => by
    rw [List.replicate_succ, List.replicate_succ, List.flatten_cons, List.flatten_cons]
    exact r.append (RpA.flat r n)
theorem bin_sound (K : PySem.W.Frag) (op : Operator) : R2Ok K (rBin K op) (binV op) := by
  intro x y H Hf dx dy d fr e rx ry h Q q
  cases op with
  | Add =>
    cases dx with
    | int i =>
      cases dy with
      | int j =>
        simp only [binV, Option.some.injEq, Prod.mk.injEq] at h
        obtain ⟨rfl, rfl⟩ := h
        exact Or.inl ⟨i, j, rx.int_inv, ry.int_inv, q _ _ (PostV.here e (.int _))⟩
      | _ => simp [binV] at h
    | tuple xs =>
      cases dy with
      | tuple ys =>
        simp only [binV] at h
        split at h
        · rename_i hz
          simp only [Option.some.injEq, Prod.mk.injEq] at h
          obtain ⟨rfl, rfl⟩ := h
          obtain ⟨a, vs, rfl, s1, r1⟩ := rx.tup_inv
          obtain ⟨b, ws, rfl, s2, r2⟩ := ry.tup_inv
          have l1 := r1.length
          have l2 := r2.length
          refine Or.inr (Or.inl ⟨a, b, vs, ws, rfl, rfl, Same.sqt e s1, Same.sqt e s2, lim_line (by omega), fun z => ?_, fun _ z => ?_, fun _ _ p n => ?_⟩)
          · have : xs = [] := (nil_of_len l1).mp z
            subst this
            exact q _ _ (PostV.here e ry)
          · have : ys = [] := (nil_of_len l2).mp z
            subst this
            rw [List.append_nil] at q
            exact q _ _ (PostV.here e rx)
          · exact q _ _ (PostV.newT e n (r1.append r2))
        · cases h
      | _ => simp [binV] at h
    | list xs =>
      cases dy with
      | list ys =>
        simp only [binV] at h
        split at h
        · rename_i hz
          simp only [Option.some.injEq, Prod.mk.injEq] at h
          obtain ⟨rfl, rfl⟩ := h
          obtain ⟨a, vs, rfl, s1, r1⟩ := rx.lst_inv
          obtain ⟨b, ws, rfl, s2, r2⟩ := ry.lst_inv
          have l1 := r1.length
          have l2 := r2.length
          exact Or.inr (Or.inr (Or.inl ⟨a, b, vs, ws, rfl, rfl, Same.sql e s1, Same.sql e s2, lim_line (by omega), fun p n => q _ _ (PostV.newL e n (r1.append r2))⟩))
        · cases h
      | _ => simp [binV] at h
    | bool b =>
      cases dy with
      | int j =>
        simp only [binV, Option.some.injEq, Prod.mk.injEq] at h
        obtain ⟨rfl, rfl⟩ := h
        exact Or.inr (Or.inr (Or.inr ⟨b, j, rx.bl_inv, ry.int_inv, q _ _ (PostV.here e (.int _))⟩))
      | _ => simp [binV] at h
    | _ => simp [binV] at h
  | Sub =>
    cases dx with
    | int i =>
      cases dy with
      | int j =>
        simp only [binV, Option.some.injEq, Prod.mk.injEq] at h
        obtain ⟨rfl, rfl⟩ := h
        exact Or.inl ⟨i, j, rx.int_inv, ry.int_inv, q _ _ (PostV.here e (.int _))⟩
      | _ => simp [binV] at h
    | bool b =>
      cases dy with
      | int j =>
        simp only [binV, Option.some.injEq, Prod.mk.injEq] at h
        obtain ⟨rfl, rfl⟩ := h
        exact Or.inr ⟨b, j, rx.bl_inv, ry.int_inv, q _ _ (PostV.here e (.int _))⟩
      | _ => simp [binV] at h
    | _ => simp [binV] at h
  | Mult =>
    cases dx with
    | int i =>
      cases dy with
      | int j =>
        simp only [binV] at h
        split at h
        · rename_i hz
          simp only [Option.some.injEq, Prod.mk.injEq] at h
          obtain ⟨rfl, rfl⟩ := h
          exact Or.inl ⟨i, j, rx.int_inv, ry.int_inv, hz, q _ _ (PostV.here e (.int _))⟩
        · cases h
      | _ => simp [binV] at h
    | list xs =>
      cases dy with
      | int j =>
        simp only [binV] at h
        split at h
        · rename_i hz
          simp only [Option.some.injEq, Prod.mk.injEq] at h
          obtain ⟨rfl, rfl⟩ := h
          obtain ⟨a, vs, rfl, s1, r1⟩ := rx.lst_inv
          have l1 := r1.length
          refine Or.inr (Or.inl ⟨a, j, vs, rfl, ry.int_inv, Same.sql e s1, hz.1, ?_, ?_, fun p n => q _ _ (PostV.newL e n (r1.flat _))⟩)
          · have := hz.2.1
            unfold LIM at this
            omega
          · rw [l1]
            exact lim_line hz.2.2
        · cases h
      | _ => simp [binV] at h
    | tuple xs =>
      cases dy with
      | int j =>
        simp only [binV] at h
        split at h
        · rename_i hz
          simp only [Option.some.injEq, Prod.mk.injEq] at h
          obtain ⟨rfl, rfl⟩ := h
          obtain ⟨a, vs, rfl, s1, r1⟩ := rx.tup_inv
          have l1 := r1.length
          refine Or.inr (Or.inr ⟨a, j, vs, rfl, ry.int_inv, Same.sqt e s1, fun z => ?_, hz.2.1, hz.2.2.1, by rw [l1]; exact hz.2.2.2, fun p n => q _ _ (PostV.newT e n (r1.flat _))⟩)
          have : xs = [] := (nil_of_len l1).mp z
          subst this
          simp at hz
        · cases h
      | _ => simp [binV] at h
    | _ => simp [binV] at h
  | FloorDiv =>
    cases dx with
    | int i =>
      cases dy with
      | int j =>
        simp only [binV] at h
        split at h
        · rename_i hz
          simp only [Option.some.injEq, Prod.mk.injEq] at h
          obtain ⟨rfl, rfl⟩ := h
          exact ⟨i, j, rx.int_inv, ry.int_inv, hz, q _ _ (PostV.here e (.int _))⟩
        · cases h
      | _ => simp [binV] at h
    | _ => simp [binV] at h
  | Mod =>
    cases dx with
    | int i =>
      cases dy with
      | int j =>
        simp only [binV] at h
        split at h
        · rename_i hz
          simp only [Option.some.injEq, Prod.mk.injEq] at h
          obtain ⟨rfl, rfl⟩ := h
          exact ⟨i, j, rx.int_inv, ry.int_inv, hz, q _ _ (PostV.here e (.int _))⟩
        · cases h
      | _ => simp [binV] at h
    | _ => simp [binV] at h
  | Pow =>
    cases dx with
    | int i =>
      cases dy with
      | int j =>
        simp only [binV] at h
        split at h
        · rename_i hz
          simp only [Option.some.injEq, Prod.mk.injEq] at h
          obtain ⟨rfl, rfl⟩ := h
          exact ⟨i, j, rx.int_inv, ry.int_inv, hz, q _ _ (PostV.here e (.int _))⟩
        · cases h
      | _ => simp [binV] at h
    | _ => simp [binV] at h
  | _ => simp [binV] at h
end DD

-- part DCmp
set_option Elab.async false
set_option linter.all false
set_option maxRecDepth 100000
/-! Comparisons by values. -/
namespace DD
open PySem PySem.Spec PyProof.Rows L2

def R2B (K : PySem.W.Frag) (r : R2) (f : PD → PD → Option Bool) : Prop := ∀ x y H Hf dx dy b, Same Hf H → Rp K Hf x dx → Rp K Hf y dy → f dx dy = some b → ∀ Q : VK, Q (.bl b) H → r x y H Q
theorem room_in {A : Around} {d : PD} {ds : List PD} (sd : shp d = true) (hu : A.units + 65 < cLine) : A.units + 1 + min (PyData.depthAll ds) d.depth < cLine := by
  have h1 := SeqAt.depth_of_shaped sd
  have h2 := Nat.min_le_right (PyData.depthAll ds) d.depth
  omega
def rInT (K : PySem.W.Frag) (neg : Bool) : R2 := fun x y H Q => ∃ d ds, Dp K H x d ∧ Dp K H y (.tuple ds) ∧ SeqAt.shaped d = true ∧ SeqAt.shaped (.tuple ds) = true ∧ Q (.bl (if neg then !inD d ds else inD d ds)) H
theorem op_inT {X : Cx} (hu : X.A.units + 65 < cLine) : OpR X (compareOp .In) (rInT X.K false) := by
  intro pins s σ H x y v u Q I rx ry ⟨d, ds, hd, he, sd, se, q⟩
  obtain ⟨c1, r1⟩ := Dp.reads I d x v hd rx
  obtain ⟨c2, r2⟩ := Dp.reads I (.tuple ds) y u he ry
  have hc : PyData.canLayAll0 ds = true := by
    have := SeqAt.canLay_of_shaped se
    simpa [PyData.canLay0] using this
  exact SeqAt.in_tuple_reads r2 r1 hc (SeqAt.canLay_of_shaped sd) (room_in sd hu) ⟨V.bl _, H, I, rfl, q⟩
theorem op_notInT {X : Cx} (hu : X.A.units + 65 < cLine) : OpR X (compareOp .NotIn) (rInT X.K true) := by
  intro pins s σ H x y v u Q I rx ry ⟨d, ds, hd, he, sd, se, q⟩
  obtain ⟨c1, r1⟩ := Dp.reads I d x v hd rx
  obtain ⟨c2, r2⟩ := Dp.reads I (.tuple ds) y u he ry
  have hc : PyData.canLayAll0 ds = true := by
    have := SeqAt.canLay_of_shaped se
    simpa [PyData.canLay0] using this
  exact SeqAt.notIn_tuple_reads r2 r1 hc (SeqAt.canLay_of_shaped sd) (room_in sd hu) ⟨V.bl _, H, I, rfl, q⟩
/-- k in a dict -/
def rInK (neg : Bool) : R2 := fun x y H Q => ∃ a o, y = .ref a ∧ DGet H a x o ∧ Q (.bl (if neg then !o.isSome else o.isSome)) H
theorem op_inK {X : Cx} (hu : X.A.units + 65 < cLine) : OpR X (compareOp .In) (rInK false) := by
  intro pins s σ H x y v u Q I rx ry ⟨a, o, ey, g, q⟩
  subst ey
  cases ry
  exact d_in (by omega) I g rx fun s' I' => ⟨V.bl _, H, I', rfl, q⟩
theorem op_notInK {X : Cx} (hu : X.A.units + 65 < cLine) : OpR X (compareOp .NotIn) (rInK true) := by
  intro pins s σ H x y v u Q I rx ry ⟨a, o, ey, g, q⟩
  subst ey
  cases ry
  exact d_notIn (by omega) I g rx fun s' I' => ⟨V.bl _, H, I', rfl, q⟩
def rIsNon : R2 := fun x y H Q => y = .non ∧ Q (.bl (decide (x = .non))) H
def rNotNon : R2 := fun x y H Q => y = .non ∧ Q (.bl (!decide (x = .non))) H
def rCmp (K : PySem.W.Frag) : CmpOp → R2
  | .Eq => rEqD K
  | .NotEq => rNeD K
  | .Lt => rI0 fun i j => .bl (decide (i < j))
  | .LtE => rI0 fun i j => .bl (decide (i ≤ j))
  | .Gt => rI0 fun i j => .bl (decide (j < i))
  | .GtE => rI0 fun i j => .bl (decide (j ≤ i))
  | .In => fun x y H Q => rInD K x y H Q ∨ (rInT K false x y H Q ∨ rInK false x y H Q)
  | .NotIn => fun x y H Q => rNotInD K x y H Q ∨ (rInT K true x y H Q ∨ rInK true x y H Q)
  | .Is => fun x y H Q => rIsNon x y H Q ∨ rIsB x y H Q
  | .IsNot => fun x y H Q => rNotNon x y H Q ∨ rNotB x y H Q
theorem cmp_ok {X : Cx} (hu : X.A.units + 65 < cLine) (op : CmpOp) : OpR X (compareOp op) (rCmp X.K op) := by
  cases op with
  | Eq => exact op_eqD (by omega)
  | NotEq => exact op_neD (by omega)
  | Lt => exact op_lt
  | LtE => exact op_le
  | Gt => exact op_gt
  | GtE => exact op_ge
  | In => exact (op_inD hu).or ((op_inT hu).or (op_inK hu))
  | NotIn => exact (op_notInD hu).or ((op_notInT hu).or (op_notInK hu))
  | Is => exact op_isN.or op_isBl
  | IsNot => exact op_notN.or op_notBl
theorem Rp.non_dec {K : PySem.W.Frag} {H : Hp} {v : V} {d : PD} (r : Rp K H v d) : decide (v = V.non) = isNon d := by
  cases r <;> simp [isNon]
theorem valV_keyAt {K : PySem.W.Frag} {H : Hp} (k : Int) : ∀ {kvs : List (Key × V)} {ds : List (PD × PD)}, RpK K H kvs ds →
    match keyAt ds k with
    | some d => ∃ v, valV kvs (Sum.inl k : Key) = some v ∧ Rp K H v d
    | none => valV kvs (Sum.inl k : Key) = none
  | _, _, .nil => by simp [keyAt, valV]
  | _, _, .cons (k := j) (v := v) (vs := vs) (d := d) (ds := ds) a b => by
    have ih := valV_keyAt k b
    by_cases e : j = k
    · subst e
      simp only [keyAt, if_true]
      exact ⟨v, valV_pos rfl, a⟩
    · have ne : ¬ (Sum.inl j : Key) = Sum.inl k := fun z => e (Sum.inl.inj z)
      have e2 : valV (((Sum.inl j : Key), v) :: vs) (Sum.inl k) = valV vs (Sum.inl k) := valV_neg (p := ((Sum.inl j : Key), v)) ne
      simp only [keyAt, if_neg e, e2]
      exact ih
theorem cmp_sound (K : PySem.W.Frag) (op : CmpOp) : R2B K (rCmp K op) (cmpV op) := by
  intro x y H Hf dx dy b e rx ry h Q q
  have eqs : ∀ {c : Bool}, (if (shp dx && shp dy) = true then some c else none) = some b → shp dx = true ∧ shp dy = true ∧ c = b := fun {c} hh => by
    split at hh
    · rename_i z
      rw [Bool.and_eq_true] at z
      exact ⟨z.1, z.2, Option.some.inj hh⟩
    · cases hh
  cases op with
  | Eq =>
    simp only [cmpV] at h
    obtain ⟨s1, s2, rfl⟩ := eqs h
    exact ⟨dx, dy, (rx.mono e).dpS s1, (ry.mono e).dpS s2, s1, s2, q⟩
  | NotEq =>
    simp only [cmpV] at h
    obtain ⟨s1, s2, rfl⟩ := eqs h
    exact ⟨dx, dy, (rx.mono e).dpS s1, (ry.mono e).dpS s2, s1, s2, q⟩
  | Lt =>
    cases dx with
    | int i =>
      cases dy with
      | int j =>
        simp only [cmpV, Option.some.injEq] at h
        subst h
        exact ⟨i, j, rx.int_inv, ry.int_inv, q⟩
      | _ => simp [cmpV] at h
    | _ => simp [cmpV] at h
  | LtE =>
    cases dx with
    | int i =>
      cases dy with
      | int j =>
        simp only [cmpV, Option.some.injEq] at h
        subst h
        exact ⟨i, j, rx.int_inv, ry.int_inv, q⟩
      | _ => simp [cmpV] at h
    | _ => simp [cmpV] at h
  | Gt =>
    cases dx with
    | int i =>
      cases dy with
      | int j =>
        simp only [cmpV, Option.some.injEq] at h
        subst h
        exact ⟨i, j, rx.int_inv, ry.int_inv, q⟩
      | _ => simp [cmpV] at h
    | _ => simp [cmpV] at h
  | GtE =>
    cases dx with
    | int i =>
      cases dy with
      | int j =>
        simp only [cmpV, Option.some.injEq] at h
        subst h
        exact ⟨i, j, rx.int_inv, ry.int_inv, q⟩
      | _ => simp [cmpV] at h
    | _ => simp [cmpV] at h
  | In =>
    cases dy with
    | list ys =>
      simp only [cmpV] at h
      obtain ⟨s1, s2, rfl⟩ := eqs h
      exact Or.inl ⟨dx, ys, (rx.mono e).dpS s1, (ry.mono e).dpS s2, s1, s2, q⟩
    | tuple ys =>
      simp only [cmpV] at h
      obtain ⟨s1, s2, rfl⟩ := eqs h
      exact Or.inr (Or.inl ⟨dx, ys, (rx.mono e).dpS s1, (ry.mono e).dpS s2, s1, s2, q⟩)
    | dict kvs =>
      cases dx with
      | int k =>
        simp only [cmpV, Option.some.injEq] at h
        subst h
        obtain ⟨a, vs, rfl, s1, r1⟩ := (ry.mono e).dic_inv
        have hv := valV_keyAt k r1
        refine Or.inr (Or.inr ⟨a, valV vs (Sum.inl k), rfl, ?_, ?_⟩)
        · rw [rx.int_inv]
          exact DGet.k (k := Sum.inl k) s1
        · cases q' : keyAt kvs k with
          | none =>
            rw [q'] at hv q
            rw [hv]
            exact q
          | some d =>
            rw [q'] at hv q
            obtain ⟨v, hv, _⟩ := hv
            rw [hv]
            exact q
      | _ => simp [cmpV] at h
    | _ => simp [cmpV] at h
  | NotIn =>
    cases dy with
    | list ys =>
      simp only [cmpV] at h
      obtain ⟨s1, s2, rfl⟩ := eqs h
      exact Or.inl ⟨dx, ys, (rx.mono e).dpS s1, (ry.mono e).dpS s2, s1, s2, q⟩
    | tuple ys =>
      simp only [cmpV] at h
      obtain ⟨s1, s2, rfl⟩ := eqs h
      exact Or.inr (Or.inl ⟨dx, ys, (rx.mono e).dpS s1, (ry.mono e).dpS s2, s1, s2, q⟩)
    | _ => simp [cmpV] at h
  | Is =>
    cases dy with
    | none =>
      simp only [cmpV, Option.some.injEq] at h
      subst h
      refine Or.inl ⟨ry.non_inv, ?_⟩
      rw [rx.non_dec]
      exact q
    | bool c =>
      cases dx with
      | bool a =>
        simp only [cmpV, Option.some.injEq] at h
        subst h
        exact Or.inr ⟨a, c, rx.bl_inv, ry.bl_inv, q⟩
      | _ => simp [cmpV] at h
    | _ => simp [cmpV] at h
  | IsNot =>
    cases dy with
    | none =>
      simp only [cmpV, Option.some.injEq] at h
      subst h
      refine Or.inl ⟨ry.non_inv, ?_⟩
      rw [rx.non_dec]
      exact q
    | bool c =>
      cases dx with
      | bool a =>
        simp only [cmpV, Option.some.injEq] at h
        subst h
        exact Or.inr ⟨a, c, rx.bl_inv, ry.bl_inv, q⟩
      | _ => simp [cmpV] at h
    | _ => simp [cmpV] at h
end DD

-- part DBlt
set_option Elab.async false
set_option linter.all false
set_option maxRecDepth 100000
set_option maxHeartbeats 1000000
/-! Built-in functions by values. -/
namespace DD
open PySem PySem.Spec PyProof.Rows L2

/-! ### the order -/
theorem insI_perm (x : Int) : ∀ l, (insI x l).Perm (x :: l)
  | [] => .refl _
  | y :: r => by
    unfold insI
    split
    · exact .refl _
    · exact ((insI_perm x r).cons y).trans (.swap x y r)
theorem sortI_perm : ∀ l, (sortI l).Perm l
  | [] => .refl _
  | x :: r => (insI_perm x (sortI r)).trans ((sortI_perm r).cons x)
theorem insI_sorted (x : Int) : ∀ l : List Int, l.Pairwise (· ≤ ·) → (insI x l).Pairwise (· ≤ ·)
  | [], _ => by simp [insI]
  | y :: r, h => by
    unfold insI
    rw [List.pairwise_cons] at h
    split
    · rename_i hxy
      refine List.pairwise_cons.mpr ⟨fun z hz => ?_, List.pairwise_cons.mpr h⟩
      rcases List.mem_cons.mp hz with rfl | hz
      · exact hxy
      · exact Int.le_trans hxy (h.1 z hz)
    · rename_i hxy
      refine List.pairwise_cons.mpr ⟨fun z hz => ?_, insI_sorted x r h.2⟩
      rcases List.mem_cons.mp ((insI_perm x r).mem_iff.mp hz) with rfl | hz
      · omega
      · exact h.1 z hz
theorem sortI_sorted : ∀ l, (sortI l).Pairwise (· ≤ ·)
  | [] => .nil
  | x :: r => insI_sorted x _ (sortI_sorted r)
theorem sortI_one {l m : List Int} (h : m.Perm l) (s : m.Pairwise (· ≤ ·)) : m = sortI l :=
  List.Perm.eq_of_pairwise (le := (· ≤ ·)) (fun a b _ _ h1 h2 => by omega) s (sortI_sorted l) (h.trans (sortI_perm l).symm)
theorem leP_iff {p q : Int × Int} : leP p q = true ↔ p.1 < q.1 ∨ (p.1 = q.1 ∧ p.2 ≤ q.2) := by
  unfold leP
  simp
theorem insP_perm (x : Int × Int) : ∀ l, (insP x l).Perm (x :: l)
  | [] => .refl _
  | y :: r => by
    unfold insP
    split
    · exact .refl _
    · exact ((insP_perm x r).cons y).trans (.swap x y r)
theorem sortP_perm : ∀ l, (sortP l).Perm l
  | [] => .refl _
  | x :: r => (insP_perm x (sortP r)).trans ((sortP_perm r).cons x)
abbrev LeP (p q : Int × Int) : Prop := p.1 < q.1 ∨ (p.1 = q.1 ∧ p.2 ≤ q.2)
theorem insP_sorted (x : Int × Int) : ∀ l, l.Pairwise LeP → (insP x l).Pairwise LeP
  | [], _ => by simp [insP]
  | y :: r, h => by
    unfold insP
    rw [List.pairwise_cons] at h
    split
    · rename_i hxy
      rw [leP_iff] at hxy
      refine List.pairwise_cons.mpr ⟨fun z hz => ?_, List.pairwise_cons.mpr h⟩
      rcases List.mem_cons.mp hz with rfl | hz
      · exact hxy
      · have := h.1 z hz
        unfold LeP at this ⊢
        omega
    · rename_i hxy
      rw [leP_iff] at hxy
      refine List.pairwise_cons.mpr ⟨fun z hz => ?_, insP_sorted x r h.2⟩
      rcases List.mem_cons.mp ((insP_perm x r).mem_iff.mp hz) with rfl | hz
      · unfold LeP
        omega
      · exact h.1 z hz
theorem sortP_sorted : ∀ l, (sortP l).Pairwise LeP
  | [] => .nil
  | x :: r => insP_sorted x _ (sortP_sorted r)
theorem sortP_one {l m : List (Int × Int)} (h : m.Perm l) (s : m.Pairwise LeP) : m = sortP l :=
  List.Perm.eq_of_pairwise (le := LeP) (fun a b _ _ h1 h2 => by
    unfold LeP at h1 h2
    exact Prod.ext (by omega) (by omega)) s (sortP_sorted l) (h.trans (sortP_perm l).symm)
theorem maxI_mem : ∀ (l : List Int) (m : Int), (maxI m l = m ∨ maxI m l ∈ l) ∧ (m ≤ maxI m l ∧ ∀ y ∈ l, y ≤ maxI m l)
  | [], m => ⟨.inl rfl, Int.le_refl _, fun y h => by simp at h⟩
  | x :: r, m => by
    have ih := maxI_mem r (if m < x then x else m)
    unfold maxI
    by_cases c : m < x
    · rw [if_pos c] at ih ⊢
      refine ⟨.inr ?_, by omega, fun y hy => ?_⟩
      · rcases ih.1 with e | e
        · rw [e]
          exact List.mem_cons_self
        · exact List.mem_cons_of_mem _ e
      · rcases List.mem_cons.mp hy with rfl | hy
        · exact ih.2.1
        · exact ih.2.2 y hy
    · rw [if_neg c] at ih ⊢
      refine ⟨?_, ih.2.1, fun y hy => ?_⟩
      · rcases ih.1 with e | e
        · exact .inl e
        · exact .inr (List.mem_cons_of_mem _ e)
      · rcases List.mem_cons.mp hy with rfl | hy
        · have := ih.2.1
          omega
        · exact ih.2.2 y hy
theorem minI_mem : ∀ (l : List Int) (m : Int), (minI m l = m ∨ minI m l ∈ l) ∧ (minI m l ≤ m ∧ ∀ y ∈ l, minI m l ≤ y)
  | [], m => ⟨.inl rfl, Int.le_refl _, fun y h => by simp at h⟩
  | x :: r, m => by
    have ih := minI_mem r (if x < m then x else m)
    unfold minI
    by_cases c : x < m
    · rw [if_pos c] at ih ⊢
      refine ⟨.inr ?_, by omega, fun y hy => ?_⟩
      · rcases ih.1 with e | e
        · rw [e]
          exact List.mem_cons_self
        · exact List.mem_cons_of_mem _ e
      · rcases List.mem_cons.mp hy with rfl | hy
        · exact ih.2.1
        · exact ih.2.2 y hy
    · rw [if_neg c] at ih ⊢
      refine ⟨?_, ih.2.1, fun y hy => ?_⟩
      · rcases ih.1 with e | e
        · exact .inl e
        · exact .inr (List.mem_cons_of_mem _ e)
      · rcases List.mem_cons.mp hy with rfl | hy
        · have := ih.2.1
          omega
        · exact ih.2.2 y hy

/-! ### rules that the layer lacks -/
/-- sum of a tuple of ints -/
def rSumT (K : PySem.W.Frag) : List V → Hp → VK → Prop := fun vs H Q => ∃ (a : Addr) (ns : List Int), vs = [V.ref a] ∧ SqT K H a (ns.map V.int) ∧ Q (.int ns.sum) H
theorem cr_sumT {X : Cx} (hc : X.calm = true) : CallR X (.builtin "sum") (rSumT X.K) := by
  intro pins s σ H vs us Q I r h
  obtain ⟨a, ns, rfl, hs, q⟩ := h
  obtain ⟨its, rv, hl, _⟩ := I.tuple hs
  rw [Vals.ref1 r]
  have hi := rv.ints
  obtain ⟨xs, e⟩ := hi.allInts.items
  have hn : numsOf (intItems xs).toList = ns := by
    rw [← e]
    exact hi.numsOf
  rw [nums_intItems] at hn
  have hl' : s.heap.IsTuple a its.toArray := hl
  rw [e] at hl'
  refine PySem.W.ktm_sumG (I.ok.hd hc) hl' fun h' tk t' hk => ?_
  refine ⟨V.int ns.sum, H, I.kept hk, ⟨t', ?_⟩, q⟩
  rw [preSum_eq, List.take_of_length_le (by simp), hn]
theorem CallR.no {X : Cx} {f : Value} : CallR X f (fun _ _ _ => False) := fun _ _ _ _ _ _ _ _ _ h => h.elim
/-- sorted of a list of alike data -/
def rSortD (K : PySem.W.Frag) : List V → Hp → VK → Prop := fun vs H Q => ∃ (a : Addr) (bs : List (V × PD)), vs = [V.ref a] ∧ SqL K H a (bs.map Prod.fst) ∧ (∀ b ∈ bs, Dp K H b.1 b.2) ∧
  PySem.W.AllAlike (bs.map Prod.snd) ∧ PySem.W.Sortable (bs.map Prod.snd) ∧ (∀ b ∈ bs, b.2.depth ≤ 60) ∧
  ∀ p, H p = none → Q (.ref p) (upd H p (.lst ((bs.mergeSort (PySem.W.dataLe false Prod.snd)).map Prod.fst)))
theorem each_of {X : Cx} {pins : List (Addr × Obj)} {s : Shared} {σ : L2.St} {H : Hp} (I : Inv X pins σ H s) : ∀ {bs : List (V × PD)} {its : List Value}, Vals (bs.map Prod.fst) its → (∀ b ∈ bs, Dp X.K H b.1 b.2) →
    PySem.W.EachIs (fun v b => RelV b.1 v) its bs ∧ PySem.W.EachIs (fun v b => ∃ as, Reads s.heap v b.2 as) its bs
  | [], _, r, _ => by
    cases r
    exact ⟨.nil, .nil⟩
  | b :: bs, _, r, h => by
    cases r with
    | cons r1 r2 =>
      obtain ⟨e1, e2⟩ := each_of I (bs := bs) r2 fun b hb => h b (List.mem_cons_of_mem _ hb)
      exact ⟨.cons r1 e1, .cons (Dp.reads I b.2 b.1 _ (h b List.mem_cons_self) r1) e2⟩
theorem vals_each : ∀ {out : List Value} {bs : List (V × PD)}, PySem.W.EachIs (fun v b => RelV b.1 v) out bs → Vals (bs.map Prod.fst) out
  | _, _, .nil => .nil
  | _, _, .cons r t => .cons r (vals_each t)
theorem cr_sortD {X : Cx} (hu : X.A.units + 64 < cLine) : CallR X (.builtin "sorted") (rSortD X.K) := by
  intro pins s σ H vs us Q I r h
  obtain ⟨a, bs, rfl, hs, hd, hal, hk, hdp, q⟩ := h
  obtain ⟨its, rv, hl, hz⟩ := I.list hs
  rw [Vals.ref1 r]
  obtain ⟨e1, e2⟩ := each_of I rv hd
  rw [List.length_map] at hz
  refine PySem.W.sorted_data hl.isList e1 e2 hal hk hz (fun b hb => by
    have := hdp b hb
    omega) fun out ho eo => ?_
  obtain ⟨ep, he'⟩ := PyProof.Rows.sortedAll_at s.heap its out.toArray
  have hv := vals_each eo
  refine ⟨V.ref (s.heap.objs.size + 1), upd H (s.heap.objs.size + 1) (.lst ((bs.mergeSort (PySem.W.dataLe false Prod.snd)).map Prod.fst)), ?_, rfl, q _ (I.hok.fresh (Nat.le_succ _))⟩
  refine I.laid (t' := s.toks) (fun _ _ => PyProof.Rows.sortedAll_old) (Nat.le_succ _) ⟨?_, out, ep, hv, he'⟩
  rw [hv.length, ho]
  exact hz
/-- max of a list of pairs of ints -/
def rMaxP (K : PySem.W.Frag) : List V → Hp → VK → Prop := fun vs H Q => ∃ (a : Addr) (xs : List V) (p : Int × Int) (ps : List (Int × Int)), vs = [V.ref a] ∧ SqL K H a xs ∧ DpAll K H xs ((p :: ps).map ofPair) ∧
  ∀ (i : Nat) (v : V), xs[i]? = some v → (p :: ps)[i]? = some (maxP p ps) → Q v H
theorem maxP_of : ∀ (ps : List (Int × Int)) (p : Int × Int), PySem.W.maxOf p ps = maxP p ps
  | [], p => rfl
  | q :: r, p => by
    have ih := maxP_of r
    show PySem.W.maxOf (if PySem.W.DatumOrd.lt p q = true then q else p) r = maxP (if leP q p = true then p else q) r
    rw [ih]
    congr 1
    have e : PySem.W.DatumOrd.lt p q = if p.1 = q.1 then decide (p.2 < q.2) else decide (p.1 < q.1) := rfl
    rw [e]
    have h1 : leP q p = true ↔ q.1 < p.1 ∨ (q.1 = p.1 ∧ q.2 ≤ p.2) := leP_iff
    by_cases c : leP q p = true
    · rw [if_pos c, if_neg]
      rw [h1] at c
      by_cases c2 : p.1 = q.1
      · rw [if_pos c2, decide_eq_true_eq]
        omega
      · rw [if_neg c2, decide_eq_true_eq]
        omega
    · rw [if_neg c, if_pos]
      rw [h1] at c
      by_cases c2 : p.1 = q.1
      · rw [if_pos c2, decide_eq_true_eq]
        omega
      · rw [if_neg c2, decide_eq_true_eq]
        omega
theorem cr_maxP {X : Cx} (hc : X.calm = true) (hu : X.A.units + 64 < cLine) : CallR X (.builtin "max") (rMaxP X.K) := by
  intro pins s σ H vs us Q I r h
  obtain ⟨a, xs, p, ps, rfl, hs, hd, q⟩ := h
  obtain ⟨its, rv, hl, hz⟩ := I.list hs
  rw [Vals.ref1 r]
  obtain ⟨as, ra⟩ := Dp.readsAll I _ _ its hd rv
  have HA : PySem.W.HoldAll s.heap its.toArray.toList (p :: ps) := ⟨as, ra⟩
  have hdep : PySem.W.Datum.depth (Int × Int) = 1 := rfl
  refine PySem.W.max_list_datum (I.ok.hd hc) hl.isList HA (by rw [hdep]; omega) fun i v h' tk hi hv hk => ?_
  have hi' : its[i]? = some v := by simpa using hi
  obtain ⟨x, hx1, hx2⟩ : ∃ x, xs[i]? = some x ∧ RelV x v := by
    cases e : xs[i]? with
    | none =>
      rw [rv.none_of e] at hi'
      cases hi'
    | some x =>
      obtain ⟨u, hu1, hu2⟩ := rv.get e
      rw [hi'] at hu1
      cases hu1
      exact ⟨x, rfl, hu2⟩
  have hpi : (p :: ps)[i]? = some (maxP p ps) := by
    obtain ⟨y, hy1, hy2⟩ := (HA.keeps hk).at (i := i) (v := v) (by simpa using hi')
    obtain ⟨a1, r1⟩ := hy2
    obtain ⟨a2, r2⟩ := hv
    have := PySem.SeqAt.Reads.unique _ _ _ _ _ (by show (ofPair y).canLay0 = true; simp [ofPair, PyData.canLay0, PyData.canLayAll0]) r1 r2
    have e2 : ofPair y = ofPair (PySem.W.maxOf p ps) := this
    rw [maxP_of] at e2
    have : y = maxP p ps := by
      simp only [ofPair, PyData.tuple.injEq, List.cons.injEq, PyData.int.injEq, and_true] at e2
      exact Prod.ext e2.1 e2.2
    rw [hy1, this]
  exact ⟨x, H, I.kept hk, hx2, q i x hx1 hpi⟩

/-! ### sorted of a tuple -/
theorem dd_sorted_tup {prog : Program} {w : World} {A : Around} {E : Value → Shared → Prop} {s : Shared} {l : Addr} {vs : List Value} {ltv : Value → Value → Bool} {Q : Value → Shared → Prop} (O : SrtO.Swo ltv) (hl : s.heap.IsTuple l vs.toArray) (hz : vs.length ≤ sizeLine)
    (hS : 2 ≤ vs.length → ∀ (h1 : Heap) (a : Addr), SrtO.SortableO prog w A.in1.in1 { s with heap := h1 } a vs ltv)
    (h : ∀ (out : List Value) (h1 : Heap), (∀ b o, s.heap.get? b = some o → h1.get? b = some o) → SrtO.Srtd ltv out → SrtO.Stb ltv out vs → Q (.ref h1.objs.size) { s with heap := sortedHeap (h1.push (seqObj "list" vs.toArray 0)) h1.objs.size vs out.toArray }) :
    wpAny (model prog w) A (PySem.call (.builtin "sorted") [.ref l]) Q E s := by
  obtain ⟨o, ho, hc, n, hd⟩ := hl
  refine Calls.call_function_entry kind_sorted plain_sorted entry_sorted (args_sorted1 _) ?_
  unfold Builtin.«sorted»
  refine wpAny_bind (m := checkCount "sorted" 1 1 _) (wpAny_pure ?_)
  refine wpAny_bind (wpAny_collect_seq l (.inr rfl) ho hc hd (fun h1 hk => ?_) (by rw [List.size_toArray]; exact hz))
  have ev : vs.toArray.toList = vs := by simp
  rw [ev]
  refine wpAny_bind (wpAny_newList ?_ hz)
  have hoL : (h1.push (seqObj "list" vs.toArray 0)).get? h1.objs.size = some (seqObj "list" vs.toArray 0) := Heap.get?_push_size _ rfl
  show wpAny _ _ _ _ _ { s with heap := h1.push (seqObj "list" vs.toArray 0) }
  refine wpAny_bind (wpAny_holding (wpAny_call_entry slot_list_sort ⟨_, hoL, rfl⟩ entry_list_sort (SrtO.list_sort_ord O hoL hz (fun h2 => hS h2 _ _) fun out hs hb => ⟨_, rfl, ?_⟩) (args_list_sort _)))
  exact wpAny_pure ⟨_, rfl, h out h1 hk hs hb⟩
def rSortedTu (K : PySem.W.Frag) : List V → Hp → VK → Prop := fun vs H Q => ∃ (a : Addr) (ns : List Int), vs = [V.ref a] ∧ SqT K H a (ns.map V.int) ∧
  ∀ (ns' : List Int) (p : Addr), ns'.Perm ns → ns'.Pairwise (· ≤ ·) → H p = none → Q (.ref p) (upd H p (.lst (ns'.map V.int)))
theorem cr_sortedTu {X : Cx} : CallR X (.builtin "sorted") (rSortedTu X.K) := by
  intro pins s σ H vs us Q I r h
  obtain ⟨a, ns, rfl, hs, q⟩ := h
  obtain ⟨its, rv, hl, hz⟩ := I.tuple hs
  rw [Vals.ref1 r]
  have hi := rv.ints
  refine dd_sorted_tup SrtO.swo_int hl (by rw [← rv.length]; exact hz) (fun h2 h1 a' => SrtO.ints_sortable hi h2) fun out h1 hk o1 o2 => ?_
  obtain ⟨k1, k2, k3⟩ := SrtO.ints_out hi o1 o2
  have I1 : Inv X pins σ H { s with heap := h1 } := I.kept (t' := s.toks) hk
  have hob : (h1.push (seqObj "list" its.toArray 0)).get? h1.objs.size = some (seqObj "list" its.toArray 0) := Heap.get?_push_size _ rfl
  obtain ⟨ep, he'⟩ := PyProof.Rows.sortedHeap_at (vs := its) (out := out.toArray) hob
  have hlen : ((out.map SrtO.iv).map V.int).length ≤ sizeLine := by
    rw [List.length_map, k2.length_eq]
    rw [List.length_map] at hz
    exact hz
  refine ⟨.ref _, upd H h1.objs.size (.lst ((out.map SrtO.iv).map V.int)), I1.laid (t' := s.toks) (fun b o e => ?_) (Nat.le_refl _) ⟨hlen, out, ep, vals_of_ints k1, he'⟩, rfl, q _ _ k2 k3 (I1.hok.fresh (Nat.le_refl _))⟩
  have hlt : b < h1.objs.size := Heap.lt_size e
  rw [PyProof.Rows.sortedHeap_old (Nat.ne_of_lt hlt) (by rw [Heap.size_push]; exact Nat.lt_succ_of_lt hlt)]
  exact Heap.get?_push_of_some _ e

/-! ### the table -/
def bltNm : Bt → Str
  | .len => "len" | .sum => "sum" | .max => "max" | .min => "min" | .sorted => "sorted" | .all => "all" | .any => "any"
  | .tuple => "tuple" | .list => "list" | .sset => "set" | .int => "int" | .str => "str"
def bltVal : Bt → Value
  | .len => .builtin "len" | .sum => .builtin "sum" | .max => .builtin "max" | .min => .builtin "min" | .sorted => .builtin "sorted" | .all => .builtin "all" | .any => .builtin "any"
  | .tuple => .type "tuple" | .list => .type "list" | .sset => .type "set" | .int => .type "int" | .str => .type "str"
theorem bltBoot : ∀ f : Bt, bootBuiltins (bltNm f) = some (bltVal f)
  | .len => by decide +kernel
  | .sum => by decide +kernel
  | .max => by decide +kernel
  | .min => by decide +kernel
  | .sorted => by decide +kernel
  | .all => by decide +kernel
  | .any => by decide +kernel
  | .tuple => by decide +kernel
  | .list => by decide +kernel
  | .sset => by decide +kernel
  | .int => by decide +kernel
  | .str => by decide +kernel
theorem cr_strB {X : Cx} : CallR X (.type "str") (fun xs H Q => ∃ b, xs = [.bl b] ∧ Q (.str (if b then "True" else "False")) H) := by
  intro pins s σ H xs us Q I r h
  obtain ⟨b, rfl, q⟩ := h
  obtain ⟨u, rfl, r1⟩ := vals1 r
  cases r1
  exact PySem.P.str_of_bool ⟨.str _, H, I.tok _, ⟨_, rfl⟩, q⟩
abbrev RC := List V → Hp → VK → Prop
def rBlt (K : PySem.W.Frag) : Bt → RC
  | .len => fun xs H Q => ∃ p ys, xs = [.ref p] ∧ (SqL K H p ys ∨ SqT K H p ys) ∧ Q (.int ys.length) H
  | .sum => fun xs H Q => rSum K xs H Q ∨ rSumT K xs H Q
  | .max => fun xs H Q => (∃ i j, xs = [.int i, .int j] ∧ Q (.int (if j > i then j else i)) H) ∨ (rMax K xs H Q ∨ rMaxP K xs H Q)
  | .min => fun xs H Q => (∃ i j, xs = [.int i, .int j] ∧ Q (.int (if j < i then j else i)) H) ∨ rMin K xs H Q
  | .sorted => fun xs H Q => rSortedI K xs H Q ∨ (rSortD K xs H Q ∨ rSortedTu K xs H Q)
  | .all => rAll K
  | .any => rAny K
  | .tuple => fun xs H Q => ∃ p ys, xs = [.ref p] ∧ ((SqL K H p ys ∧ ∀ l, H l = none → Q (.ref l) (upd H l (.tup ys))) ∨ (SqT K H p ys ∧ Q (.ref p) H))
  | .list => fun xs H Q => ∃ p ys, xs = [.ref p] ∧ (SqL K H p ys ∨ SqT K H p ys) ∧ ∀ l, H l = none → Q (.ref l) (upd H l (.lst ys))
  | .sset => fun _ _ _ => False
  | .int => fun xs H Q => (∃ i, xs = [.int i] ∧ Q (.int i) H) ∨ ∃ k, xs = [.bl k] ∧ Q (.int (if k then 1 else 0)) H
  | .str => fun xs H Q => (∃ i, xs = [.int i] ∧ i.natAbs.log2 < 1920 ∧ Q (.str (toString i : String)) H) ∨ ∃ b, xs = [.bl b] ∧ Q (.str (if b then "True" else "False")) H
theorem blt_ok {X : Cx} (hc : X.calm = true) (hu : X.A.units + 64 < cLine) : ∀ f : Bt, CallR X (bltVal f) (rBlt X.K f)
  | .len => call_len_seq
  | .sum => (cr_sum hc).or (cr_sumT hc)
  | .max => (call_max2 hc).or ((cr_max hc).or (cr_maxP hc hu))
  | .min => (call_min2 hc).or (cr_min hc)
  | .sorted => cr_sortedI.or ((cr_sortD hu).or cr_sortedTu)
  | .all => cr_all hc
  | .any => cr_any hc
  | .tuple => call_tuple_of
  | .list => call_list_of
  | .sset => CallR.no
  | .int => call_int1
  | .str => call_str_int.or cr_strB
theorem RpA.one {K : PySem.W.Frag} {H : Hp} {vs : List V} {d : PD} (r : RpA K H vs [d]) : ∃ v, vs = [v] ∧ Rp K H v d := by
  cases r with
  | cons a b =>
    cases b
    exact ⟨_, rfl, a⟩
theorem RpA.two {K : PySem.W.Frag} {H : Hp} {vs : List V} {d e : PD} (r : RpA K H vs [d, e]) : ∃ v w, vs = [v, w] ∧ Rp K H v d ∧ Rp K H w e := by
  cases r with
  | cons a b =>
    obtain ⟨w, rfl, h⟩ := b.one
    exact ⟨_, _, rfl, a, h⟩
theorem ofPairs : ∀ {ds : List PD} {ps : List (Int × Int)}, pairs? ds = some ps → ds = ps.map ofPair
  | [], ps, h => by
    have : ps = [] := by simpa [pairs?] using h.symm
    subst this
    rfl
  | .tuple [.int i, .int j] :: r, ps, h => by
    cases q : pairs? r with
    | none => simp [pairs?, q] at h
    | some qs =>
      have : (i, j) :: qs = ps := by simpa [pairs?, q] using h
      subst this
      rw [ofPairs q]
      rfl
  | .none :: r, ps, h => by simp [pairs?] at h
  | .bool _ :: r, ps, h => by simp [pairs?] at h
  | .int _ :: r, ps, h => by simp [pairs?] at h
  | .str _ :: r, ps, h => by simp [pairs?] at h
  | .list _ :: r, ps, h => by simp [pairs?] at h
  | .dict _ :: r, ps, h => by simp [pairs?] at h
  | .tuple [] :: r, ps, h => by simp [pairs?] at h
  | .tuple [_] :: r, ps, h => by simp [pairs?] at h
  | .tuple (_ :: _ :: _ :: _) :: r, ps, h => by simp [pairs?] at h
  | .tuple [.none, _] :: r, ps, h => by simp [pairs?] at h
  | .tuple [.bool _, _] :: r, ps, h => by simp [pairs?] at h
  | .tuple [.str _, _] :: r, ps, h => by simp [pairs?] at h
  | .tuple [.list _, _] :: r, ps, h => by simp [pairs?] at h
  | .tuple [.tuple _, _] :: r, ps, h => by simp [pairs?] at h
  | .tuple [.dict _, _] :: r, ps, h => by simp [pairs?] at h
  | .tuple [.int _, .none] :: r, ps, h => by simp [pairs?] at h
  | .tuple [.int _, .bool _] :: r, ps, h => by simp [pairs?] at h
  | .tuple [.int _, .str _] :: r, ps, h => by simp [pairs?] at h
  | .tuple [.int _, .list _] :: r, ps, h => by simp [pairs?] at h
  | .tuple [.int _, .tuple _] :: r, ps, h => by simp [pairs?] at h
  | .tuple [.int _, .dict _] :: r, ps, h => by simp [pairs?] at h
theorem ofPair_lay (p : Int × Int) : (ofPair p).canLay0 = true := by simp [ofPair, PyData.canLay0, PyData.canLayAll0]
theorem ofPairs_lay : ∀ ps : List (Int × Int), PyData.canLayAll0 (ps.map ofPair) = true
  | [] => by simp [PyData.canLayAll0]
  | p :: ps => by simp [PyData.canLayAll0, ofPair_lay p, ofPairs_lay ps]
/-- the values beside their data -/
theorem RpA.zip {K : PySem.W.Frag} {H : Hp} : ∀ {vs : List V} {ps : List (Int × Int)}, RpA K H vs (ps.map ofPair) → ∃ bs : List (V × (Int × Int)), bs.map Prod.fst = vs ∧ bs.map Prod.snd = ps ∧ ∀ b ∈ bs, Rp K H b.1 (ofPair b.2)
  | _, [], r => by
    cases r
    exact ⟨[], rfl, rfl, fun b h => by simp at h⟩
  | _, p :: ps, r => by
    cases r with
    | cons a b =>
      obtain ⟨bs, h1, h2, h3⟩ := RpA.zip b
      refine ⟨(_, p) :: bs, by rw [List.map_cons, h1], by rw [List.map_cons, h2], fun c hc => ?_⟩
      rcases List.mem_cons.mp hc with rfl | hc
      · exact a
      · exact h3 c hc
theorem RpA.of_mem {K : PySem.W.Frag} {H : Hp} : ∀ {bs : List (V × (Int × Int))}, (∀ b ∈ bs, Rp K H b.1 (ofPair b.2)) → RpA K H (bs.map Prod.fst) ((bs.map Prod.snd).map ofPair)
  | [], _ => .nil
  | b :: bs, h => .cons (h b List.mem_cons_self) (RpA.of_mem fun c hc => h c (List.mem_cons_of_mem _ hc))
theorem blt_sound (K : PySem.W.Frag) (f : Bt) (vs : List V) (H Hf : Hp) (ds : List PD) (d : PD) (fr : Bool) (e : Same Hf H) (r : RpA K Hf vs ds) (h : bltV f ds = some (d, fr)) (Q : VK) (q : ∀ v H', PostV K H Hf d fr v H' → Q v H') : rBlt K f vs H Q := by
  unfold bltV at h
  split at h
  · cases h
    obtain ⟨v, rfl, rv⟩ := r.one
    obtain ⟨a, xs, rfl, s, ra⟩ := (rv.mono e).lst_inv
    refine ⟨a, xs, rfl, .inl s, q _ _ ?_⟩
    rw [ra.length]
    exact PostV.here e (.int _)
  · cases h
    obtain ⟨v, rfl, rv⟩ := r.one
    obtain ⟨a, xs, rfl, s, ra⟩ := (rv.mono e).tup_inv
    refine ⟨a, xs, rfl, .inr s, q _ _ ?_⟩
    rw [ra.length]
    exact PostV.here e (.int _)
  · rename_i xs
    cases hi : ints? xs with
    | none => simp [hi] at h
    | some is =>
      simp only [hi, Option.map_some, Option.some.injEq, Prod.mk.injEq] at h
      obtain ⟨rfl, rfl⟩ := h
      obtain ⟨v, rfl, rv⟩ := r.one
      obtain ⟨a, ys, rfl, s, ra⟩ := (rv.mono e).lst_inv
      obtain ⟨e1, _⟩ := ra.ints hi
      exact Or.inl ⟨a, is, rfl, by rw [← e1]; exact s, q _ _ (PostV.here e (.int _))⟩
  · rename_i xs
    cases hi : ints? xs with
    | none => simp [hi] at h
    | some is =>
      simp only [hi, Option.map_some, Option.some.injEq, Prod.mk.injEq] at h
      obtain ⟨rfl, rfl⟩ := h
      obtain ⟨v, rfl, rv⟩ := r.one
      obtain ⟨a, ys, rfl, s, ra⟩ := (rv.mono e).tup_inv
      obtain ⟨e1, _⟩ := ra.ints hi
      exact Or.inr ⟨a, is, rfl, by rw [← e1]; exact s, q _ _ (PostV.here e (.int _))⟩
  · cases h
    obtain ⟨v, w, rfl, rv, rw'⟩ := r.two
    exact Or.inl ⟨_, _, by rw [rv.int_inv, rw'.int_inv], q _ _ (PostV.here e (.int _))⟩
  · cases h
    obtain ⟨v, w, rfl, rv, rw'⟩ := r.two
    exact Or.inl ⟨_, _, by rw [rv.int_inv, rw'.int_inv], q _ _ (PostV.here e (.int _))⟩
  · rename_i xs
    cases hi : ints? xs with
    | some is =>
      cases is with
      | nil => simp [hi] at h
      | cons i is =>
        simp only [hi, Option.some.injEq, Prod.mk.injEq] at h
        obtain ⟨rfl, rfl⟩ := h
        obtain ⟨v, rfl, rv⟩ := r.one
        obtain ⟨a, ys, rfl, s, ra⟩ := (rv.mono e).lst_inv
        obtain ⟨e1, _⟩ := ra.ints hi
        refine Or.inr (Or.inl ⟨a, i :: is, rfl, by rw [← e1]; exact s, by simp, fun m hm hle => ?_⟩)
        have mm := maxI_mem is i
        have e3 : m = maxI i is := by
          have h1 : maxI i is ≤ m := hle _ (by rcases mm.1 with e | e <;> simp [e])
          have h2 : m ≤ maxI i is := by
            rcases List.mem_cons.mp hm with rfl | hm
            · exact mm.2.1
            · exact mm.2.2 m hm
          omega
        rw [e3]
        exact q _ _ (PostV.here e (.int _))
    | none =>
      cases hp : pairs? xs with
      | none => simp [hi, hp] at h
      | some ps =>
        cases ps with
        | nil => simp [hi, hp] at h
        | cons p ps =>
          simp only [hi, hp, Option.some.injEq, Prod.mk.injEq] at h
          obtain ⟨rfl, rfl⟩ := h
          obtain ⟨v, rfl, rv⟩ := r.one
          obtain ⟨a, ys, rfl, s, ra⟩ := rv.lst_inv
          have e1 := ofPairs hp
          rw [e1] at ra
          refine Or.inr (Or.inr ⟨a, ys, p, ps, rfl, Same.sql e s, (ra.mono e).dp (ofPairs_lay _), fun i v hi1 hi2 => ?_⟩)
          obtain ⟨d, hd1, hd2⟩ := ra.getV hi1
          rw [List.getElem?_map, hi2] at hd1
          cases hd1
          exact q _ _ (PostV.here e hd2)
  · rename_i xs
    cases hi : ints? xs with
    | none => simp [hi] at h
    | some is =>
      cases is with
      | nil => simp [hi] at h
      | cons i is =>
        simp only [hi, Option.some.injEq, Prod.mk.injEq] at h
        obtain ⟨rfl, rfl⟩ := h
        obtain ⟨v, rfl, rv⟩ := r.one
        obtain ⟨a, ys, rfl, s, ra⟩ := (rv.mono e).lst_inv
        obtain ⟨e1, _⟩ := ra.ints hi
        refine Or.inr ⟨a, i :: is, rfl, by rw [← e1]; exact s, by simp, fun m hm hle => ?_⟩
        have mm := minI_mem is i
        have e3 : m = minI i is := by
          have h1 : m ≤ minI i is := hle _ (by rcases mm.1 with e | e <;> simp [e])
          have h2 : minI i is ≤ m := by
            rcases List.mem_cons.mp hm with rfl | hm
            · exact mm.2.1
            · exact mm.2.2 m hm
          omega
        rw [e3]
        exact q _ _ (PostV.here e (.int _))
  · rename_i xs
    cases hi : ints? xs with
    | some is =>
      simp only [hi, Option.some.injEq, Prod.mk.injEq] at h
      obtain ⟨rfl, rfl⟩ := h
      obtain ⟨v, rfl, rv⟩ := r.one
      obtain ⟨a, ys, rfl, s, ra⟩ := (rv.mono e).lst_inv
      obtain ⟨e1, _⟩ := ra.ints hi
      refine Or.inl ⟨a, is, rfl, by rw [← e1]; exact s, fun ns' p pm so n => ?_⟩
      rw [sortI_one pm so]
      exact q _ _ (PostV.newL e n (RpA.ofInts _))
    | none =>
      cases hp : pairs? xs with
      | none => simp [hi, hp] at h
      | some ps =>
        simp only [hi, hp] at h
        split at h
        · simp only [Option.some.injEq, Prod.mk.injEq] at h
          obtain ⟨rfl, rfl⟩ := h
          obtain ⟨v, rfl, rv⟩ := r.one
          obtain ⟨a, ys, rfl, s, ra⟩ := rv.lst_inv
          have e1 := ofPairs hp
          rw [e1] at ra
          obtain ⟨bs, b1, b2, b3⟩ := ra.zip
          let cs : List (V × PD) := bs.map fun b => (b.1, ofPair b.2)
          have c1 : cs.map Prod.fst = ys := by
            rw [← b1]
            simp [cs, Function.comp_def]
          have hm : ∀ c ∈ cs, ∃ b ∈ bs, c = (b.1, ofPair b.2) := fun c hc => by
            obtain ⟨b, hb, rfl⟩ := List.mem_map.mp hc
            exact ⟨b, hb, rfl⟩
          refine Or.inr (Or.inl ⟨a, cs, rfl, by rw [c1]; exact Same.sql e s, fun c hc => ?_, fun x hx y hy => ?_, Or.inl fun x hx => ?_, fun c hc => ?_, fun p n => ?_⟩)
          · obtain ⟨b, hb, rfl⟩ := hm c hc
            exact ((b3 b hb).mono e).dp (ofPair_lay _)
          · obtain ⟨c, hc, rfl⟩ := List.mem_map.mp hx
            obtain ⟨c', hc', rfl⟩ := List.mem_map.mp hy
            obtain ⟨b, hb, rfl⟩ := hm c hc
            obtain ⟨b', hb', rfl⟩ := hm c' hc'
            simp [ofPair, PySem.W.alike, PySem.W.alikeAll]
          · obtain ⟨c, hc, rfl⟩ := List.mem_map.mp hx
            obtain ⟨b, hb, rfl⟩ := hm c hc
            exact ⟨_, _, rfl⟩
          · obtain ⟨b, hb, rfl⟩ := hm c hc
            simp [ofPair, PyData.depth, PyData.depthAll]
          · have so : cs.mergeSort (PySem.W.dataLe false Prod.snd) = (bs.mergeSort fun x y => leP x.2 y.2).map fun b => (b.1, ofPair b.2) := by
              refine (PySem.W.sort_maps (f := fun b : V × (Int × Int) => (b.1, ofPair b.2)) fun x _ y _ => ?_).symm
              have := congrFun (congrFun (PySem.W.dataLe_ii (β := V × (Int × Int)) (fun b => b.2.1) (fun b => b.2.2)) x) y
              refine Eq.trans ?_ this.symm
              rw [Bool.eq_iff_iff, leP_iff, decide_eq_true_eq]
            have tr : ∀ x y z : V × (Int × Int), leP x.2 y.2 = true → leP y.2 z.2 = true → leP x.2 z.2 = true := fun x y z h1 h2 => by
              rw [leP_iff] at *
              omega
            have tt : ∀ x y : V × (Int × Int), (leP x.2 y.2 || leP y.2 x.2) = true := fun x y => by
              rw [Bool.or_eq_true, leP_iff, leP_iff]
              omega
            have pm := List.mergeSort_perm bs fun x y => leP x.2 y.2
            have pw := List.pairwise_mergeSort tr tt bs
            have e5 : (bs.mergeSort fun x y => leP x.2 y.2).map Prod.snd = sortP ps := by
              rw [← b2]
              refine sortP_one (pm.map _) (List.pairwise_map.mpr (pw.imp fun h => ?_))
              rw [leP_iff] at h
              exact h
            have rr : RpA K Hf ((bs.mergeSort fun x y => leP x.2 y.2).map Prod.fst) ((sortP ps).map ofPair) := by
              rw [← e5]
              exact RpA.of_mem fun b hb => b3 b (pm.mem_iff.mp hb)
            have e6 : (cs.mergeSort (PySem.W.dataLe false Prod.snd)).map Prod.fst = (bs.mergeSort fun x y => leP x.2 y.2).map Prod.fst := by
              rw [so]
              simp [Function.comp_def]
            rw [e6]
            exact q _ _ (PostV.newL e n rr)
        · cases h
  · rename_i xs
    cases hi : ints? xs with
    | none => simp [hi] at h
    | some is =>
      simp only [hi, Option.map_some, Option.some.injEq, Prod.mk.injEq] at h
      obtain ⟨rfl, rfl⟩ := h
      obtain ⟨v, rfl, rv⟩ := r.one
      obtain ⟨a, ys, rfl, s, ra⟩ := (rv.mono e).tup_inv
      obtain ⟨e1, _⟩ := ra.ints hi
      refine Or.inr (Or.inr ⟨a, is, rfl, by rw [← e1]; exact s, fun ns' p pm so n => ?_⟩)
      rw [sortI_one pm so]
      exact q _ _ (PostV.newL e n (RpA.ofInts _))
  · rename_i xs
    cases hb : bools? xs with
    | none => simp [hb] at h
    | some bs =>
      simp only [hb, Option.map_some, Option.some.injEq, Prod.mk.injEq] at h
      obtain ⟨rfl, rfl⟩ := h
      obtain ⟨v, rfl, rv⟩ := r.one
      obtain ⟨a, ys, rfl, s, ra⟩ := (rv.mono e).lst_inv
      have e1 := ra.bools hb
      exact ⟨a, bs, rfl, by rw [← e1]; exact s, q _ _ (PostV.here e (.bl _))⟩
  · rename_i xs
    cases hb : bools? xs with
    | none => simp [hb] at h
    | some bs =>
      simp only [hb, Option.map_some, Option.some.injEq, Prod.mk.injEq] at h
      obtain ⟨rfl, rfl⟩ := h
      obtain ⟨v, rfl, rv⟩ := r.one
      obtain ⟨a, ys, rfl, s, ra⟩ := (rv.mono e).lst_inv
      have e1 := ra.bools hb
      exact ⟨a, bs, rfl, by rw [← e1]; exact s, q _ _ (PostV.here e (.bl _))⟩
  · cases h
    obtain ⟨v, rfl, rv⟩ := r.one
    obtain ⟨a, ys, rfl, s, ra⟩ := rv.lst_inv
    exact ⟨a, ys, rfl, .inl ⟨Same.sql e s, fun l n => q _ _ (PostV.newT e n ra)⟩⟩
  · cases h
    obtain ⟨v, rfl, rv⟩ := r.one
    obtain ⟨a, ys, rfl, s, ra⟩ := rv.tup_inv
    exact ⟨a, ys, rfl, .inr ⟨Same.sqt e s, q _ _ (PostV.here e rv)⟩⟩
  · cases h
    obtain ⟨v, rfl, rv⟩ := r.one
    obtain ⟨a, ys, rfl, s, ra⟩ := rv.lst_inv
    exact ⟨a, ys, rfl, .inl (Same.sql e s), fun l n => q _ _ (PostV.newL e n ra)⟩
  · cases h
    obtain ⟨v, rfl, rv⟩ := r.one
    obtain ⟨a, ys, rfl, s, ra⟩ := rv.tup_inv
    exact ⟨a, ys, rfl, .inr (Same.sqt e s), fun l n => q _ _ (PostV.newL e n ra)⟩
  · cases h
    obtain ⟨v, rfl, rv⟩ := r.one
    exact Or.inr ⟨_, by rw [rv.bl_inv], q _ _ (PostV.here e (.int _))⟩
  · cases h
    obtain ⟨v, rfl, rv⟩ := r.one
    exact Or.inl ⟨_, by rw [rv.int_inv], q _ _ (PostV.here e (.int _))⟩
  · cases h
    obtain ⟨v, rfl, rv⟩ := r.one
    exact Or.inr ⟨_, by rw [rv.bl_inv], q _ _ (PostV.here e (.str _))⟩
  · split at h
    · rename_i hz
      cases h
      obtain ⟨v, rfl, rv⟩ := r.one
      exact Or.inl ⟨_, by rw [rv.int_inv], hz, q _ _ (PostV.here e (.str _))⟩
    · cases h
  · cases h
end DD

-- part DSub
set_option Elab.async false
set_option linter.all false
set_option maxRecDepth 100000
set_option maxHeartbeats 1000000
/-! Subscripts, slices, isinstance, places, by values. -/
namespace DD
open PySem PySem.Spec PyProof.Rows L2 HT

/-! ### subscripts -/
def rIxK : R2 := fun x y H Q => ∃ a kvs k v, x = .ref a ∧ y = .int k ∧ Rd H a (.dK kvs) ∧ valV kvs (Sum.inl k : Key) = some v ∧ Q v H
theorem ix_dict {X : Cx} : IxR X rIxK := by
  intro value slice pins s σ H x y v u Q I rx ry ⟨a, kvs, k, z, ex, ey, hr, hv, q⟩ hs
  subst ex ey
  cases rx
  obtain ⟨zz, hd, vs, rel, dd⟩ := dk_rd I.hok hr
  obtain ⟨w', hw, rw'⟩ := RelO.some_of (v := z) (o := valueAt vs (Sum.inl k : Key)) (by rw [← hv]; exact rel.val _)
  have kk : (mixKind X.prog X.w).is (Sum.inl k) u = true := kV_is (k := Sum.inl k) ry
  refine subscriptTail_builtinR (x := w') dd.typeIs PySem.F.slot_dict_getitem.lookup ?_ hs
  exact wpAny_getItem_of kk dd.mapOf hw ⟨rfl, z, H, I.tok _, rw', q⟩
def rIxA (K : PySem.W.Frag) : R2 := fun x y H Q => rIxL K x y H Q ∨ (rIxT K x y H Q ∨ rIxK x y H Q)
theorem ix_any {X : Cx} : IxR X (rIxA X.K) := ix_list.or (ix_tup.or ix_dict)
theorem ixN_of (n : Nat) (i : Int) : ixN n i = ixOf n i := by
  unfold ixN ixOf
  rfl
theorem atI_atD {K : PySem.W.Frag} {H : Hp} {xs : List V} {ds : List PD} {i : Int} {d : PD} (r : RpA K H xs ds) (h : atD ds i = some d) : ∃ v, atI xs i = some v ∧ Rp K H v d := by
  unfold atD at h
  unfold atI
  rw [ixN_of, r.length]
  cases e : ixOf ds.length i with
  | none =>
    rw [e] at h
    cases h
  | some j =>
    rw [e] at h
    obtain ⟨v, h1, h2⟩ := r.get h
    exact ⟨v, h1, h2⟩
/-- x is read at the heap as it stands: items as data of the frozen part -/
def Top (K : PySem.W.Frag) (H Hf : Hp) (v : V) : PD → Prop
  | .list ds => ∃ a xs, v = .ref a ∧ SqL K H a xs ∧ RpA K Hf xs ds
  | .tuple ds => ∃ a xs, v = .ref a ∧ SqT K H a xs ∧ RpA K Hf xs ds
  | .dict kvs => ∃ a ys, v = .ref a ∧ H a = some (.dK ys) ∧ RpK K Hf ys kvs
  | _ => True
theorem Rp.top {K : PySem.W.Frag} {H Hf : Hp} {v : V} {d : PD} (e : Same Hf H) (r : Rp K Hf v d) : Top K H Hf v d := by
  cases r with
  | lst s t => exact ⟨_, _, rfl, Same.sql e s, t⟩
  | tup s t => exact ⟨_, _, rfl, Same.sqt e s, t⟩
  | dic s t => exact ⟨_, _, rfl, e _ _ s, t⟩
  | _ => trivial
theorem Own.top {K : PySem.W.Frag} {H Hf : Hp} {v : V} {d : PD} (o : Own K H Hf v d) : Top K H Hf v d := by
  cases o with
  | lst s _ t => exact ⟨_, _, rfl, SqL.of s, t⟩
  | dic s _ t => exact ⟨_, _, rfl, s, t⟩
theorem ix_sound (K : PySem.W.Frag) {H Hf : Hp} {x y : V} {dx dy d : PD} (e : Same Hf H) (t : Top K H Hf x dx) (ry : Rp K Hf y dy) (h : ixV dx dy = some d) (Q : VK) (q : ∀ v, Rp K Hf v d → Q v H) : rIxA K x y H Q := by
  cases dy with
  | int i =>
    have ey := ry.int_inv
    cases dx with
    | list ds =>
      obtain ⟨a, xs, rfl, s, r⟩ := t
      obtain ⟨v, h1, h2⟩ := atI_atD r h
      exact Or.inl ⟨a, xs, i, v, rfl, ey, s, h1, q v h2⟩
    | tuple ds =>
      obtain ⟨a, xs, rfl, s, r⟩ := t
      obtain ⟨v, h1, h2⟩ := atI_atD r h
      exact Or.inr (Or.inl ⟨a, xs, i, v, rfl, ey, s, h1, q v h2⟩)
    | dict kvs =>
      obtain ⟨a, ys, rfl, s, r⟩ := t
      have hv := valV_keyAt i r
      have h' : keyAt kvs i = some d := h
      rw [h'] at hv
      obtain ⟨v, h1, h2⟩ := hv
      exact Or.inr (Or.inr ⟨a, ys, i, v, rfl, ey, .inl s, h1, q v h2⟩)
    | _ => simp [ixV] at h
  | _ => cases dx <;> simp [ixV] at h

/-! ### slices -/
def rSlAny (K : PySem.W.Frag) : V → Option Int → Option Int → Hp → VK → Prop := fun x lo hi H Q => rSlL K x lo hi H Q ∨ rSlA K x lo hi H Q
theorem sl_any {X : Cx} : SlR X (rSlAny X.K) := sl_list.or sl_tupA
theorem clip_sIx (n d : Nat) : ∀ o : Option Int, HT.sIx n d o = clip n d o
  | none => rfl
  | some v => by
    have e : HT.sIx n d (some v) = if v < 0 then (v + (n : Int)).toNat else min v.toNat n := rfl
    rw [e]
    rfl
theorem cutV_cutD {K : PySem.W.Frag} {H : Hp} {xs : List V} {ds : List PD} (r : RpA K H xs ds) (lo hi : Option Int) : RpA K H (cutV xs lo hi) (cutD ds lo hi) := by
  unfold cutV cutD
  rw [clip_sIx, clip_sIx, r.length]
  exact (r.drop _).take _
theorem sl_sound (K : PySem.W.Frag) {H Hf : Hp} {x : V} {dx d : PD} {fr : Bool} {lo hi : Option Int} (e : Same Hf H) (t : Top K H Hf x dx) (hr : ∀ ds, dx = .tuple ds → Rp K Hf x dx) (h : slV dx lo hi = some (d, fr)) (Q : VK) (q : ∀ v H', PostV K H Hf d fr v H' → Q v H') : rSlAny K x lo hi H Q := by
  cases dx with
  | list ds =>
    simp only [slV, Option.some.injEq, Prod.mk.injEq] at h
    obtain ⟨rfl, rfl⟩ := h
    obtain ⟨a, xs, rfl, s, r⟩ := t
    exact Or.inl ⟨a, xs, rfl, s, fun p n => q _ _ (PostV.newL e n (cutV_cutD r lo hi))⟩
  | tuple ds =>
    simp only [slV, Option.some.injEq, Prod.mk.injEq] at h
    obtain ⟨rfl, rfl⟩ := h
    have rp := hr ds rfl
    obtain ⟨a, xs, rfl, s, r⟩ := t
    refine Or.inr ⟨a, xs, rfl, s, fun w => ?_, fun w p n => q _ _ (PostV.newT e n (cutV_cutD r lo hi))⟩
    have ew : cutD ds lo hi = ds := by
      unfold cutD
      rw [clip_sIx, clip_sIx, r.length] at w
      rw [w.1, w.2]
      simp
    rw [ew] at q
    exact q _ _ (PostV.here e rp)
  | _ => simp [slV] at h

/-! ### x[::-1] -/
theorem dd_applied {prog : Program} {w : World} {A : Around} {E : Value → Shared → Prop} {s : Shared} {sl : Addr} {t : Tok} {n : Nat} {Q : Int × Int × Nat → Shared → Prop} (hs : s.heap.IsSliceOf sl .none .none (.int (-1) t)) (h : Q ((n : Int) - 1, -1, n) s) :
    wpAny (model prog w) A (Builtin.Slice.sliceApplied (.ref sl) (pure (n : Int))) Q E s := by
  obtain ⟨os, hos, hcs, hds⟩ := id hs
  unfold Builtin.Slice.sliceApplied Builtin.Slice.sliceFields
  refine wpAny_bind (wpAny_bind (wpAny_field hos hds (x := .none) rfl (wpAny_bind (wpAny_field hos hds (x := .none) rfl (wpAny_bind (wpAny_field hos hds (x := .int (-1) t) rfl (wpAny_pure ?_)))))))
  refine wpAny_bind (slicePart_int ?_)
  show wpAny _ _ (if ((-1 : Int) == 0) = true then _ else _) _ _ s
  rw [if_neg (by decide)]
  refine wpAny_bind (slicePart_none (wpAny_bind (slicePart_none (wpAny_bind (wpAny_pure ?_)))))
  have ep : Builtin.Slice.slicePlaces ((n : Int) - 1) (-1) (-1) = n := by
    unfold Builtin.Slice.slicePlaces
    have z : ¬ ((-1 : Int) > 0) := by decide
    simp only [z, if_false]
    by_cases q : (n : Int) - 1 > -1
    · rw [if_pos q, show (- -1 : Int) = 1 by decide, Int.ediv_one]
      omega
    · rw [if_neg q]
      omega
  show wpAny _ _ (pure ((n : Int) - 1, (-1 : Int), Builtin.Slice.slicePlaces ((n : Int) - 1) (-1) (-1))) _ _ s
  rw [ep]
  exact wpAny_pure h
theorem fm_congr {α β : Type} {f g : α → Option β} : ∀ {l : List α}, (∀ x ∈ l, f x = g x) → l.filterMap f = l.filterMap g
  | [], _ => rfl
  | a :: l, h => by
    rw [List.filterMap_cons, List.filterMap_cons, h a List.mem_cons_self, fm_congr fun x hx => h x (List.mem_cons_of_mem _ hx)]
theorem dd_revPick (xs : Array Value) : ((List.range xs.size).filterMap fun (k : Nat) => xs[((xs.size : Int) - 1 + (k : Int) * -1).toNat]?) = xs.toList.reverse := by
  have e : (List.range xs.size).filterMap (fun (k : Nat) => xs[((xs.size : Int) - 1 + (k : Int) * -1).toNat]?) = ((List.range xs.size).map fun k => xs.size - 1 - k).filterMap (xs[·]?) := by
    rw [List.filterMap_map]
    refine fm_congr fun k hk => ?_
    have := List.mem_range.mp hk
    have : ((xs.size : Int) - 1 + (k : Int) * -1).toNat = xs.size - 1 - k := by omega
    simp only [this, Function.comp_apply]
  rw [e, PySem.W.krv_range, List.filterMap_reverse, PySem.W.krv_all]
theorem dd_getRevT {prog : Program} {w : World} {A : Around} {E : Value → Shared → Prop} {s : Shared} {t sl : Addr} {items : Array Value} {tk : Tok} {Q : Value → Shared → Prop} (ht : IsTup s.heap t items) (hs : s.heap.IsSliceOf sl .none .none (.int (-1) tk)) (hsz : items.size ≤ sizeLine)
    (h : Q (.ref s.heap.objs.size) { s with heap := s.heap.push { cls := .type "tuple", data := .seq items.toList.reverse.toArray } }) : wpAny (model prog w) A (getItem (.ref t) (.ref sl)) Q E s := by
  have big : sizeOk (.seq items.toList.reverse.toArray) := by
    show items.toList.reverse.toArray.size ≤ sizeLine
    rw [List.size_toArray, List.length_reverse, Array.length_toList]
    exact hsz
  obtain ⟨os, hos, hcs, hds⟩ := id hs
  have hTs : s.TypeIs (.ref sl) "slice" := ⟨os, hos, hcs⟩
  unfold getItem
  try with_reducible refine wpAny_holding ?_
  first | refine wpAny_bind (wpAny_pure ?_) | skip
  refine wpAny_bind (wpAny_sequenceKey ht.typeIs (by decide) (wpAny_bind ?_))
  refine wpAny_callSpecial?_slot (name := Str.ofString "__getitem__") ht.typeIs PyProof.Rows.slot_tuple_getitem (wpAny_call_entry PyProof.Rows.slot_tuple_getitem ht.typeIs entry_tuple_getitem ?_ (args_tuple_getitem _ _))
  show wpAny _ _ (Builtin.Tuple.tupleItemsOf (.ref t) >>= _) _ _ s
  refine wpAny_bind (tupleItemsOf_ ht (wpAny_bind (wpAny_typeOf hTs ?_)))
  rw [if_pos (by decide)]
  refine wpAny_bind (dd_applied hs ?_)
  have hno : ¬ ((((items.size : Int) - 1) == 0 && (-1 : Int) == 1 && items.size == items.size) = true) := by simp
  show wpAny _ _ (if ((((items.size : Int) - 1) == 0 && (-1 : Int) == 1 && items.size == items.size) = true) then _ else _) _ _ s
  rw [if_neg hno, dd_revPick]
  first
    | exact wpAny_bind (m := Builtin.Tuple.tupleExact _) (wpAny_newObj_type (wpAny_pure ⟨_, rfl, wpAny_pure h⟩) big)
    | exact wpAny_bind (m := Builtin.Tuple.tupleExact _) (wpAny_newObj_type (wpAny_bind (wpAny_pure (wpAny_pure ⟨_, rfl, wpAny_pure h⟩))) big)
    | exact wpAny_bind (wpAny_bind (m := Builtin.Tuple.tupleExact _) (wpAny_newObj_type (wpAny_pure (wpAny_pure ⟨_, rfl, wpAny_pure h⟩)) big))
    | exact wpAny_bind (wpAny_bind (m := Builtin.Tuple.tupleExact _) (wpAny_newObj_type (wpAny_pure ⟨_, rfl, wpAny_pure h⟩) big))
def tRev (K : PySem.W.Frag) (te : TE) : TE := fun σ H Q => te σ H fun x H1 => ∃ a xs, x = .ref a ∧ ((SqL K H1 a xs ∧ ∀ p, H1 p = none → Q (.ref p) (upd H1 p (.lst xs.reverse))) ∨ (SqT K H1 a xs ∧ ∀ p, H1 p = none → Q (.ref p) (upd H1 p (.tup xs.reverse))))
theorem pe_rev {X : Cx} {e : Expr} {te : TE} {k : Nat} {p1 p2 p3 pos : Pos} (he : PE X e te) : PE X (.Subscript e (.Slice none none (some (.UnaryOp .USub (.Constant (.int 1) k p1) p2)) p3) pos) (tRev X.K te) := by
  refine ⟨fun pins s σ H Q I h => Subscript_ (thn (he.run pins s σ H _ I h) fun v s1 ⟨x, H1, I1, r1, a, xs, ex, q⟩ => ?_)⟩
  subst ex
  cases r1
  have hst : PO X (some (.UnaryOp .USub (.Constant (.int 1) k p1) p2)) (tPart (tUn (rU fun i => .int (-i)) (tC (.int 1)))) := po_some (pe_un un_neg pe_int)
  refine wpAny_Slice (thn (po_none.run pins s1 σ H1 (fun o H2 => o = none ∧ H2 = H1) I1 ⟨rfl, rfl⟩) fun vl s2 ⟨l0, H2, I2, pl, e1, e2⟩ => ?_)
  subst e1 e2
  refine thn (po_none.run pins s2 σ H2 (fun o H3 => o = none ∧ H3 = H2) I2 ⟨rfl, rfl⟩) fun vu s3 ⟨l1, H3, I3, pu, e3, e4⟩ => ?_
  subst e3 e4
  refine thn (hst.run pins s3 σ H3 (fun o H4 => o = some (-1) ∧ H4 = H3) I3 ⟨1, rfl, -1, rfl, rfl, rfl⟩) fun vs s4 ⟨l2, H4, I4, ps, e5, e6⟩ => ?_
  subst e5 e6
  have I5 : Inv X pins σ H4 { s4 with heap := s4.heap.push { cls := .type "slice", data := .fields #[vl, vu, vs] } } := I4.kept (t' := s4.toks) fun b ob q => Heap.get?_push_of_some _ q
  cases pl
  cases pu
  obtain ⟨tk, rfl⟩ : ∃ tk, vs = Value.int (-1) tk := by
    cases ps
    exact ⟨_, rfl⟩
  show wpAny (model X.prog X.w) X.A (subscriptTail e (.Slice none none (some (.UnaryOp .USub (.Constant (.int 1) k p1) p2)) p3) (.ref a) (.ref s4.heap.objs.size)) (EP X pins σ Q) X.xe { s4 with heap := s4.heap.push { cls := .type "slice", data := .fields #[.none, .none, .int (-1) tk] } }
  rcases q with ⟨hx, q⟩ | ⟨hx, q⟩
  · obtain ⟨its, r, ht, hz⟩ := I5.list hx
    have hlen := r.length
    refine tail_any (ops := [.ref a, .ref s4.heap.objs.size]) ht.isList.typeIs (PySem.slot_list_getitem.lookup) ?_ (by with_unfolding_all rfl)
    refine wpAny_getItem_list_slice ht.isList (Heap.IsSliceOf.new _ .none .none (.int (-1) tk)) .none .none (.int _ _) (by decide) ?_ (by rw [List.size_toArray]; omega)
    rw [PySem.W.krv_pick]
    refine ⟨.ref _, _, I5.laid (t' := s4.toks) (o := .lst xs.reverse) (fun b ob z => Heap.get?_push_of_some _ z) (Nat.le_refl _) ⟨?_, _, 0, r.reverse, Heap.get?_push_size _ rfl⟩, rfl, q _ (I5.hok.fresh (Nat.le_refl _))⟩
    rw [List.length_reverse]
    exact hz
  · obtain ⟨its, r, ht, hz⟩ := I5.tuple hx
    have hlen := r.length
    refine tail_any (ops := [.ref a, .ref s4.heap.objs.size]) ht.typeIs (PyProof.Rows.slot_tuple_getitem.lookup) ?_ (by with_unfolding_all rfl)
    refine dd_getRevT ht (Heap.IsSliceOf.new _ .none .none (.int (-1) tk)) (by rw [List.size_toArray]; omega) ?_
    have er : its.toArray.toList.reverse = its.reverse := by simp
    rw [er]
    refine ⟨.ref _, _, I5.laid (t' := s4.toks) (o := .tup xs.reverse) (fun b ob z => Heap.get?_push_of_some _ z) (Nat.le_refl _) ⟨?_, _, r.reverse, IsTup.new _ _⟩, rfl, q _ (I5.hok.fresh (Nat.le_refl _))⟩
    rw [List.length_reverse]
    exact hz

/-! ### isinstance -/
def tyNm : Ty → Str
  | .int => "int" | .bool => "bool" | .tuple => "tuple" | .list => "list" | .str => "str"
def tyS : Ty → String
  | .int => "int" | .bool => "bool" | .tuple => "tuple" | .list => "list" | .str => "str"
theorem tyBoot : ∀ f : Ty, bootBuiltins (tyNm f) = some (.type (tyS f))
  | .int => by decide +kernel
  | .bool => by decide +kernel
  | .tuple => by decide +kernel
  | .list => by decide +kernel
  | .str => by decide +kernel
def dTy : PD → String
  | .none => "NoneType" | .bool _ => "bool" | .int _ => "int" | .str _ => "str" | .list _ => "list" | .tuple _ => "tuple" | .dict _ => "dict"
theorem kit_of_ty (K : PySem.W.Frag) (d : PD) (t : Ty) : PySem.W.kitOne K (.type (dTy d)) (.type (tyS t)) = some (isTy d t) := by
  cases d <;> cases t <;> simp only [dTy, tyS, isTy] <;> first
    | exact kit_ty (by decide +kernel)
    | (show PySem.W.kitOne K (.type _) (.type _) = some _; first | exact kit_ty (by decide +kernel) | decide +kernel)
theorem tyx_of {K : PySem.W.Frag} {H : Hp} {v : V} {d : PD} (r : Rp K H v d) : TyX K H v (.type (dTy d)) := by
  cases r with
  | non => exact .base .non
  | bl b => exact .base (.bl b)
  | int i => exact .base (.int i)
  | str x => exact .base (.str x)
  | lst s _ =>
    rcases s with (s | ⟨o, s⟩) | ⟨o, its, n, h1, h2, _⟩
    · exact .base (.lst s)
    · exact .base (.frz s)
    · exact .kList h1 h2
  | tup s _ =>
    rcases s with (s | ⟨o, s⟩) | ⟨o, its, n, h1, h2, _⟩
    · exact .base (.tup s)
    · exact .fTuple s
    · exact .kTuple h1 h2
  | dic s _ => exact .base (.dK s)
def rIsi1 (K : PySem.W.Frag) (t : Ty) : RC := fun vs H Q => ∃ x d, vs = [x, .ty (tyS t)] ∧ Rp K H x d ∧ Q (.bl (isTy d t)) H
theorem call_isi1 {X : Cx} (t : Ty) : CallR X (.builtin "isinstance") (rIsi1 X.K t) := by
  intro pins s σ H xs us Q I r ⟨x, d, e, rx, q⟩
  exact call_isi pins s σ H xs us Q I r ⟨x, _, _, _, isTy d t, e, .ty _, tyx_of rx, kit_of_ty X.K d t, q⟩
theorem kitAny_of (K : PySem.W.Frag) (d : PD) : ∀ ts : List Ty, PySem.W.kitAny K (.type (dTy d)) (ts.map fun t => .type (tyS t)) = some (ts.any (isTy d))
  | [] => rfl
  | t :: r => by
    rw [List.map_cons, PySem.W.kitAny, kit_of_ty, List.any_cons]
    cases isTy d t with
    | true => rfl
    | false => exact kitAny_of K d r
def rIsiN (K : PySem.W.Frag) (ts : List Ty) : RC := fun vs H Q => ∃ x d tp, vs = [x, .ref tp] ∧ H tp = some (.tup (ts.map fun t => V.ty (tyS t))) ∧ Rp K H x d ∧ Q (.bl (ts.any (isTy d))) H
theorem paired_ty : ∀ ts : List Ty, Paired ClsV (ts.map fun t => V.ty (tyS t)) (ts.map fun t => Value.type (tyS t))
  | [] => .nil
  | t :: r => .cons (.ty _) (paired_ty r)
theorem call_isiN {X : Cx} (ts : List Ty) : CallR X (.builtin "isinstance") (rIsiN X.K ts) := by
  intro pins s σ H xs us Q I r ⟨x, d, tp, e, ht, rx, q⟩
  exact call_isiT pins s σ H xs us Q I r ⟨x, tp, _, _, _, _, e, ht, paired_ty ts, tyx_of rx, kitAny_of X.K d ts, q⟩

/-! ### the place of an item -/
theorem idxV_spec : ∀ (l : List PD) (x : PD) (k n : Nat), idxV l x k = some n → ∃ j, n = k + j ∧ (∃ z, l[j]? = some z ∧ PyData.eqv z x = true) ∧ ∀ m z, m < j → l[m]? = some z → PyData.eqv z x = false
  | [], _, _, _, h => by simp [idxV] at h
  | y :: r, x, k, n, h => by
    unfold idxV at h
    split at h
    · rename_i e
      cases h
      exact ⟨0, rfl, ⟨y, rfl, e⟩, fun m z hm => absurd hm (Nat.not_lt_zero _)⟩
    · rename_i e
      obtain ⟨j, h1, h2, h3⟩ := idxV_spec r x (k + 1) n h
      refine ⟨j + 1, by omega, h2, fun m z hm hz => ?_⟩
      cases m with
      | zero =>
        simp at hz
        subst hz
        simpa using e
      | succ m => exact h3 m z (by omega) (by simpa using hz)
end DD

-- part DIter
set_option Elab.async false
set_option linter.all false
set_option maxRecDepth 100000
set_option maxHeartbeats 2000000
/-! What loops walk. -/
namespace PySem
open Sem (wp)
open AutoSeq1 (wpAny_loadPart')
theorem dd_enum_newT (t : Addr) (items : Array Value) (n : Nat) (dct : Option Addr) (sl : Array (Option Value)) :
    Meets (Builtin.«enumerate.__new__» ⟨[.type "enumerate", .ref t], []⟩) (fun _ R s => s.heap.get? t = some { cls := .type "tuple", dict := dct, data := .seq items n, slots := sl } ∧
      R (.ok (.ret (.ref (s.heap.push { cls := .type "tuple_iterator", data := .fields #[.ref t, .int 0 0] }).objs.size)))
        { s with heap := (s.heap.push { cls := .type "tuple_iterator", data := .fields #[.ref t, .int 0 0] }).push { cls := .type "enumerate", data := .fields #[.none, .bool false, .ref s.heap.objs.size, rawInt 0, .none, .none] } }) :=
  .of_wp fun prog w A R s h => by
    obtain ⟨hp, g, d, tk, os⟩ := s
    obtain ⟨ht, h⟩ := h
    have hsub := sub_enumerate
    have hT : Heap.IsTuple (Shared.heap ⟨hp, g, d, tk, os⟩) t items := ⟨_, ht, rfl, n, rfl⟩
    wp_walk using wpAny_loadPart' ht
    refine wpAny_stack_any fun st => wpAny_pure ?_
    split
    · rename_i c _ _ _ _ _
      cases (c == Value.type "enumerate") <;> (wp_walk using wpAny_loadPart' ht, wpAny_pyIter_tuple hT; exact ⟨_, rfl, h⟩)
    · wp_walk using wpAny_loadPart' ht, wpAny_pyIter_tuple hT
      exact ⟨_, rfl, h⟩
section
variable {prog : Program} {w : World} {A : Around} {E : Value → Shared → Prop} {s : Shared}
theorem dd_call_enumT {t : Addr} {items : Array Value} {Q : Value → Shared → Prop} (hT : s.heap.IsTuple t items)
    (h : ∀ h', IsEnum h' (s.heap.objs.size + 1) s.heap.objs.size 0 .none → h'.IsTupleIter s.heap.objs.size t 0 →
      (∀ b o, s.heap.get? b = some o → h'.get? b = some o) → Q (.ref (s.heap.objs.size + 1)) { s with heap := h' }) :
    wpAny (model prog w) A (call (.type "enumerate") [.ref t]) Q E s := by
  obtain ⟨⟨c, dct, dt, sl⟩, ht, hc, n, hd⟩ := hT
  replace hc : c = .type "tuple" := hc
  replace hd : dt = .seq items n := hd
  subst hc hd
  refine callType_new F.called_enumerate (by decide) (F.typeCall_enumerate_1 _) (F.newCall_enumerate_1 _) (fun obj => F.args_object_init_2 obj _) F.entry_enumerate_new (dd_enum_newT t items n dct sl) ⟨ht, ?_⟩
  have hz : (s.heap.push { cls := .type "tuple_iterator", data := .fields #[.ref t, .int 0 0] }).objs.size = s.heap.objs.size + 1 := Heap.size_push ..
  show _ ∧ _
  rw [hz]
  have he : IsEnum ((s.heap.push { cls := .type "tuple_iterator", data := .fields #[.ref t, .int 0 0] }).push
      { cls := .type "enumerate", data := .fields #[.none, .bool false, .ref s.heap.objs.size, rawInt 0, .none, .none] }) (s.heap.objs.size + 1) s.heap.objs.size 0 .none := by
    have q := Heap.get?_push_size (s.heap.push { cls := .type "tuple_iterator", data := .fields #[.ref t, .int 0 0] })
      (o := { cls := .type "enumerate", data := .fields #[.none, .bool false, .ref s.heap.objs.size, rawInt 0, .none, .none] }) rfl
    rw [hz] at q
    exact q
  exact ⟨⟨_, he, rfl⟩, h _ he ⟨_, Heap.get?_push_of_some _ (Heap.get?_push_size _ rfl), rfl, rfl⟩ fun b o x => Heap.get?_push_of_some _ (Heap.get?_push_of_some _ x)⟩
end
end PySem
namespace DD
open PySem PySem.Spec PyProof.Rows L2

/-! ### enumerate of a tuple -/
def IteT (K : PySem.W.Frag) (a : Addr) : L2.It :=
  ⟨fun i H => ∃ (xs : List V) (x : V), SqT K H a xs ∧ xs[i]? = some x, fun i H v H' => ∃ T x, v = .ref T ∧ H T = none ∧ H' = upd H T (.tup [.int (i : Nat), x]) ∧ ∀ xs, SqT K H a xs → xs[i]? = some x, fun i H => ∃ xs : List V, SqT K H a xs ∧ xs.length ≤ i⟩
theorem turn_enumT {P : Program} {w : World} {K : PySem.W.Frag} {elts : List Expr} {kk : Nat} {tpos : Pos} (a e it : Addr) :
    Turn P w K (.Tuple elts kk tpos) (IteT K a) [e, it] e (fun i h => (∃ old, IsEnum h e it ((i : Nat) : Int) old) ∧ h.IsTupleIter it a i ∧ e ≠ it ∧ a ≠ it) where
  mem := by simp
  obj := fun i h st b hb => by
    obtain ⟨⟨old, he⟩, ⟨o, ho, hc, hd⟩, _⟩ := st
    have e' : b = e ∨ b = it := by simpa using hb
    rcases e' with z | z
    · rw [z]
      exact ⟨_, he, fun v q => nomatch q⟩
    · rw [z]
      exact ⟨o, ho, fun v q => by
        rw [hd] at q
        cases q⟩
  keep := fun i h h' st k => by
    obtain ⟨⟨old, he⟩, hi, hne, hna⟩ := st
    exact ⟨⟨old, k e (by simp) _ he⟩, hi.at fun o q => k it (by simp) o q, hne, hna⟩
  item := by
    intro X hP hw hK hc i pins s σ H E I hf st hg
    subst hP hw hK
    obtain ⟨⟨old, he⟩, hit, hne, hna⟩ := st
    obtain ⟨xs, x, hq, hx⟩ := hg
    obtain ⟨its, rv, p, hz⟩ := I.tuple hq
    obtain ⟨u, hu, ru⟩ := rv.get hx
    have pT : s.heap.IsTuple a its.toArray := p
    have hel : e < s.heap.objs.size := Heap.lt_size he
    have hil : it < s.heap.objs.size := by
      obtain ⟨_, q, _⟩ := hit
      exact Heap.lt_size q
    by_cases hea : e = a
    · exfalso
      obtain ⟨o1, ho1, hc1, _⟩ := pT
      rw [← hea, he] at ho1
      cases ho1
      exact absurd hc1 (by
        show ¬ (Value.type "enumerate" = Value.type "tuple")
        decide)
    have D := Draws.tuple (prog := X.prog) (w := X.w) (A := X.A.in1) (I.ok.hd hc) it a hna its.toArray
    have hin : i < its.toArray.size := by
      have := List.getElem?_eq_some_iff.mp hu
      simpa using this.1
    refine wpAny_pyNext_enum_itemD D he ⟨hit, pT⟩ hin hne (by
      intro hm
      rcases List.mem_cons.mp hm with z | z
      · exact hne z
      · exact hea (by simpa using z)) fun x' h' tk hx' ho hst hT hsz hk => ?_
    have ex' : x' = u := by
      have h1 : its.toArray[i]? = some u := by simpa using hu
      rw [h1] at hx'
      exact (Option.some.inj hx').symm
    subst ex'
    refine ⟨_, rfl, wpAny_letOwnedTupleGo_enum (s := { s with heap := h', toks := tk + 1 }) ho fun h'' he' sb => ?_⟩
    have hT2 : h''.get? s.heap.objs.size = some { cls := .type "tuple", data := .seq #[.int i tk, x'] } := (sb.2 _ (Nat.ne_of_gt hel)).trans hT
    have new : ObjOk X.prog X.w (upd H s.heap.objs.size (.tup [.int (i : Nat), x])) h'' s.heap.objs.size (.tup [.int (i : Nat), x]) :=
      ⟨by show 2 ≤ sizeLine; decide, [.int i tk, x'], .cons ⟨_, rfl⟩ (.cons ru .nil), ⟨_, hT2, rfl, _, rfl⟩⟩
    have I1 : Inv X pins σ (upd H s.heap.objs.size (.tup [.int (i : Nat), x])) { s with heap := h'', toks := tk + 1 } :=
      I.turnedNew (ch := [e, it]) (fun b ob hb q => (sb.2 b (fun z => hb (by simp [z]))).trans (hk b ob (fun z => hb (by simp [z])) (fun z => hb (by simp [z])) q)) hf (Nat.le_refl _) new
    refine ⟨V.ref s.heap.objs.size, _, I1, rfl, ⟨_, x, rfl, I.hok.fresh (Nat.le_refl _), rfl, fun ys hy => by rw [I.tuple_inj hy hq]; exact hx⟩, ⟨⟨x', ?_⟩, hst.1.at fun o q => (sb.2 it (Ne.symm hne)).trans q, hne, hna⟩, fun b hb => ?_⟩
    · have e1 : ((i + 1 : Nat) : Int) = (i : Int) + 1 := by omega
      rw [e1]
      exact he'
    · have hb' : b < s.heap.objs.size := by
        have e' : b = e ∨ b = it := by simpa using hb
        rcases e' with z | z
        · rw [z]
          exact hel
        · rw [z]
          exact hil
      rw [upd_ne (Nat.ne_of_lt hb')]
      exact (hf b hb).1
  done := by
    intro X hP hw hK hc i pins s σ H E I hf st hg
    subst hP hw hK
    obtain ⟨⟨old, he⟩, hit, hne, hna⟩ := st
    obtain ⟨xs, hq, hx⟩ := hg
    obtain ⟨its, rv, p, hz⟩ := I.tuple hq
    obtain ⟨f0, f1, f2, f3, f4, f5⟩ := hf it (by simp)
    have hl := rv.length
    have pT : s.heap.IsTuple a its.toArray := p
    unfold pyNext
    have hT : s.TypeIs (.ref e) "enumerate" := ⟨_, he, rfl⟩
    refine wpAny_bind (wpAny_attempt (wpAny_callSpecial?_slot (name := Str.ofString "__next__") hT F.slot_enumerate_next
      (wpAny_call_entry F.slot_enumerate_next hT F.entry_enumerate_next ?_ (F.args_enumerate_next_1 _))))
    show wpAny _ _ (field (.ref e) 2 >>= _) _ _ _
    refine wpAny_bind (wpAny_field he rfl (x := .ref it) rfl ?_)
    refine wpAny_bind (wpAny_nextOf_tuple_end (I.ok.hd hc) hit pT (by simp; omega) fun h' x he' hx' => ?_)
    obtain ⟨o, ho, hcl⟩ := hx'
    refine wpAny_bind (wpAny_isInstance (T := "StopIteration") (b := true) ⟨o, ho, hcl⟩ isSubtype_stop ?_)
    exact wpAny_pure ⟨rfl, I.turned (t' := s.toks) (fun b o hb q => he' b o hb q) f0 f1 f3 f4 f5⟩
  self := fun A i s Q E st h => by
    obtain ⟨⟨_, he⟩, _⟩ := st
    exact wpAny_pyIter_enum he h
end DD

-- part DMatch
set_option Elab.async false
set_option linter.all false
set_option maxRecDepth 100000
/-! When a Python text is a text of the small language. -/
namespace DD
open PySem PySem.Spec PyProof.Rows L2

structure Tb where
  N : List Str
  cn : List (Str × Bool × Nat)
  gi : List (Str × Int)
  gt : List (Str × List Int)
  exn : List Str

def visB (sc : Scope) (x : Str) : Bool := match sc.names.lookup x with
  | some .local => true
  | some .cell => true
  | some .free => true
  | _ => false
def glB (sc : Scope) (x : Str) : Bool := match sc.names.lookup x with
  | some .globalImplicit => true
  | _ => false
def locB (sc : Scope) (x : Str) : Bool := match sc.names.lookup x with
  | some .local => true
  | some .cell => true
  | _ => false
def lcB (sc : Scope) (x : Str) : Bool := match sc.names.lookup x with
  | some .local => true
  | _ => false
def nmOk (x : Str) : Bool := !(x == ("__debug__" : Str)) && !(x == ("__classdict__" : Str)) && decide (x ≠ ("__name__" : Str))
def slotB (tb : Tb) (sc : Scope) (i : Nat) (x : Str) : Bool := decide (tb.N[i]? = some x) && visB sc x && nmOk x
def nostar : Expr → Bool
  | .Starred _ _ => false
  | _ => true
def noset : Expr → Bool
  | .Set _ _ _ => false
  | _ => true
def nocomp : Expr → Bool
  | .ListComp _ _ _ _ => false
  | .SetComp _ _ _ _ => false
  | .DictComp _ _ _ _ _ => false
  | _ => true
def noslice : Expr → Bool
  | .Slice _ _ _ _ => false
  | _ => true
def baseB : Expr → Bool
  | .Call _ [] _ _ => false
  | _ => true
/-- a plain test: its value's truth -/
def plainT : Expr → Bool
  | .UnaryOp .Not _ _ => false
  | .BoolOp _ _ _ => false
  | .IfExp _ _ _ _ => false
  | .Compare _ _ _ _ => false
  | _ => true
/-- the names of a target with their slots -/
def ownNs : List Nat → List Expr → Option (List (Str × Nat))
  | [], [] => some []
  | i :: is, .Name x _ :: es => (ownNs is es).map ((x, i) :: ·)
  | _, _ => none
def ownOf : Tg → Expr → Option (List (Str × Nat))
  | .nm i, .Name x _ => some [(x, i)]
  | .tp is, .Tuple es _ _ => ownNs is es
  | _, _ => none
def lenEs : Es → Nat
  | .nil => 0
  | .cons _ es => lenEs es + 1
mutual
def mutsE : E → List Nat
  | .sc e => mutsE e
  | .bin _ a b => mutsE a ++ mutsE b
  | .neg a => mutsE a
  | .cmp _ a b => mutsE a ++ mutsE b
  | .chain _ _ a b c => mutsE a ++ (mutsE b ++ mutsE c)
  | .and a b => mutsE a ++ mutsE b
  | .or a b => mutsE a ++ mutsE b
  | .not a => mutsE a
  | .ite c a b => mutsE c ++ (mutsE a ++ mutsE b)
  | .call _ as => mutsEs as
  | .callm _ v as => v :: mutsEs as
  | .blt _ as => mutsEs as
  | .trng _ as => mutsEs as
  | .isi a _ => mutsE a
  | .ix a i => mutsE a ++ mutsE i
  | .ixv _ i => mutsE i
  | .slc a lo hi => mutsE a ++ (mutsE lo ++ mutsE hi)
  | .slv _ lo hi => mutsE lo ++ mutsE hi
  | .rev a => mutsE a
  | .tup as => mutsEs as
  | .lst as => mutsEs as
  | .dic1 k v => mutsE k ++ mutsE v
  | .lc elt _ it cond => mutsI it ++ (mutsE cond ++ mutsE elt)
  | .idx a x => mutsE a ++ mutsE x
  | _ => []
def mutsEs : Es → List Nat
  | .nil => []
  | .cons e es => mutsE e ++ mutsEs es
def mutsI : It → List Nat
  | .seq e => mutsE e
  | .hid _ => []
  | .rng as => mutsEs as
  | .enu e => mutsE e
  | .zip a b => mutsE a ++ mutsE b
end
def isYes : E → Bool
  | .bl true => true
  | _ => false
def ownB (tb : Tb) (sc scope : Scope) (tg : Tg) (t : Expr) : Bool := match ownOf tg t with
  | some own => blkC tb.N sc scope own && own.all (fun p => locB scope p.1) && decide (own.map (·.2)).Nodup
  | none => false
def isTys : List Ty → List Expr → Bool
  | [], [] => true
  | t :: ts, .Name x _ :: es => decide (x = tyNm t) && isTys ts es
  | _, _ => false
def allGl (sc : Scope) : List Expr → Bool
  | [] => true
  | .Name x _ :: es => glB sc x && allGl sc es
  | _ => false
def isTy1 (sc : Scope) (ts : List Ty) : Expr → Bool
  | .Name x _ => (match ts with
    | [t] => decide (x = tyNm t)
    | _ => false) && glB sc x
  | .Tuple es _ _ => isTys ts es && allGl sc es && decide (ts.length ≤ 5)
  | _ => false
def sub0 (xs : List Nat) : Bool := xs.all fun i => decide (i ≠ 0)
def apart (xs ys : List Nat) : Bool := xs.all fun i => decide (i ∉ ys)
mutual
def isE (tb : Tb) (sc : Scope) : E → Expr → Bool
  | .int i, .Constant (.int j) _ _ => decide (i = j)
  | .bl b, .Constant (.bool c) _ _ => decide (b = c)
  | .non, .Constant .none _ _ => true
  | .str s, .Constant (.str t) _ _ => decide (s = t)
  | .gint x i, .Name y _ => decide (x = y) && glB sc y && nmOk y && decide ((x, i) ∈ tb.gi)
  | .gtup x is, .Name y _ => decide (x = y) && glB sc y && nmOk y && decide ((x, is) ∈ tb.gt)
  | .var i, .Name x _ => slotB tb sc i x
  | .mv i, .Name x _ => slotB tb sc i x
  | .sc e, ex => (mutsE e).isEmpty && isE tb sc e ex
  | .bin op a b, .BinOp l o r _ => decide (op = o) && isE tb sc a l && isE tb sc b r
  | .neg a, .UnaryOp .USub x _ => isE tb sc a x
  | .cmp op a b, .Compare l [o] [r] _ => decide (op = o) && noset r && isE tb sc a l && isE tb sc b r
  | .chain op op2 a b c, .Compare l [o, o2] [r, r2] _ => decide (op = o) && decide (op2 = o2) && noset r && noset r2 && isE tb sc a l && isE tb sc b r && isE tb sc c r2
  | .and a b, .BoolOp .And (x :: y :: r) pos => isE tb sc a x && (match r with
    | [] => isE tb sc b y
    | _ :: _ => isE tb sc b (.BoolOp .And (y :: r) pos))
  | .or a b, .BoolOp .Or (x :: y :: r) pos => isE tb sc a x && (match r with
    | [] => isE tb sc b y
    | _ :: _ => isE tb sc b (.BoolOp .Or (y :: r) pos))
  | .not a, .UnaryOp .Not x _ => isE tb sc a x
  | .ite c a b, .IfExp t x y _ => isE tb sc c t && isE tb sc a x && isE tb sc b y
  | .call k as, .Call (.Name x _) (e :: es) [] _ => decide (tb.cn[k]? = some (x, false, lenEs as)) && glB sc x && nmOk x && isEs tb sc as (e :: es)
  | .callm k v as, .Call (.Name x _) (.Name y _ :: es) [] _ => decide (tb.cn[k]? = some (x, true, lenEs as + 1)) && glB sc x && nmOk x && slotB tb sc v y && isEs tb sc as es
  | .blt f as, .Call (.Name x _) (e :: es) [] _ => decide (x = bltNm f) && glB sc x && isEs tb sc as (e :: es)
  | .isi a ts, .Call (.Name x _) [e, t] [] _ => decide (x = ("isinstance" : Str)) && glB sc x && nostar e && isE tb sc a e && isTy1 sc ts t
  | .ix a i, .Subscript e s _ => noslice s && isE tb sc a e && isE tb sc i s
  | .ixv v i, .Subscript (.Name x _) s _ => slotB tb sc v x && noslice s && isE tb sc i s
  | .slc a lo hi, .Subscript e (.Slice l h none _) _ => isE tb sc a e && (match l with
    | none => isNop lo
    | some x => isE tb sc lo x) && (match h with
    | none => isNop hi
    | some x => isE tb sc hi x)
  | .rev a, .Subscript e (.Slice none none (some (.UnaryOp .USub (.Constant (.int j) _ _) _)) _) _ => decide (j = 1) && isE tb sc a e
  | .trng f as, .Call (.Name x _) [.Call (.Name y _) es [] _] [] _ => (decide (f = .tuple) || decide (f = .list)) && decide (x = bltNm f) && glB sc x && decide (y = ("range" : Str)) && glB sc y && (decide (lenEs as = 1) || decide (lenEs as = 2)) && isEs tb sc as es
  | .slv v lo hi, .Subscript (.Name x _) (.Slice l h none _) _ => slotB tb sc v x && (match l with
    | none => isNop lo
    | some x => isE tb sc lo x) && (match h with
    | none => isNop hi
    | some x => isE tb sc hi x)
  | .tup as, .Tuple es _ _ => isEs tb sc as es
  | .lst as, .List es _ => isEs tb sc as es
  | .dic0, .Dict [] [] _ => true
  | .dic1 k v, .Dict [some ke] [ve] _ => isE tb sc k ke && isE tb sc v ve
  | .lc elt tg it cond, .ListComp el [⟨t, i, ifs, as⟩] scope _ => decide (as = 0) && ownB tb sc scope tg t && sub0 (tg.slots ++ hidI it) && apart (tg.slots ++ hidI it) (mutsE cond ++ mutsE elt) && noset i && isI tb sc it i t && isE tb (relS scope sc) elt el && (match ifs with
    | [] => isYes cond
    | [c] => isE tb (relS scope sc) cond c
    | _ => false)
  | .idx a x, .Call (.Attribute o m ap) [e] [] cp => decide (m = ("index" : Str)) && baseB o && (ap.endLine == cp.line) && nostar e && isE tb sc a o && isE tb sc x e
  | _, _ => false
def isEs (tb : Tb) (sc : Scope) : Es → List Expr → Bool
  | .nil, [] => true
  | .cons e es, x :: xs => nostar x && isE tb sc e x && isEs tb sc es xs
  | _, _ => false
def isI (tb : Tb) (sc : Scope) : It → Expr → Expr → Bool
  | .seq e, ex, _ => isE tb sc e ex
  | .hid v, .Name x _, _ => slotB tb sc v x
  | .rng as, .Call (.Name x _) (e :: es) [] _, _ => decide (x = ("range" : Str)) && glB sc x && decide (lenEs as ≤ 2) && isEs tb sc as (e :: es)
  | .enu e, .Call (.Name x _) [a] [] _, .Tuple _ _ _ => decide (x = ("enumerate" : Str)) && glB sc x && nostar a && isE tb sc e a
  | .zip a b, .Call (.Name x _) [u, w] [] _, .Tuple _ _ _ => decide (x = ("zip" : Str)) && glB sc x && nostar u && nostar w && isE tb sc a u && isE tb sc b w
  | _, _, _ => false
end
end DD

-- part DCtx
set_option Elab.async false
set_option linter.all false
set_option maxRecDepth 100000
/-! The context, promises, what soundness says. -/
namespace DD
open PySem PySem.Spec PyProof.Rows L2

/-! ### a def's promise -/
def ArgsOk (K : PySem.W.Frag) (H Hf : Hp) (mu : Bool) (vs : List V) (ds : List PD) : Prop :=
  if mu = true then ∃ v r d s, vs = v :: r ∧ ds = d :: s ∧ Own K H Hf v d ∧ RpA K Hf r s else RpA K Hf vs ds
/-- what may change: the first argument's own object -/
def MuAt (mu : Bool) (vs : List V) (a : Addr) : Prop := mu = true ∧ vs.head? = some (V.ref a)
def spF (K : PySem.W.Frag) (mg : Str → Option Value) (s : FSem) (n : Nat) : Sp := fun vs H Q E => vs.length = n ∧ ∃ ds Hf, Same Hf H ∧ ArgsOk K H Hf s.mu vs ds ∧
  match s.run ds with
  | none => False
  | some (.ret d fr m) => ∀ v H' Hf', Same Hf Hf' → Same Hf' H' → (∀ a o, H a = some o → ¬ MuAt s.mu vs a → H' a = some o) → (∀ b u, H b = some u → Hf' b = Hf b) →
      (s.mu = true → ∀ w, vs.head? = some w → Own K H' Hf' w m) →
      (if fr = true then Own K H' Hf' v d ∧ ∀ a, v = .ref a → H a = none else Rp K Hf' v d) → Q v H'
  | some (.ex x) => ∀ C H', mg x = some (.ref C) → (∀ a o, H a = some o → ¬ MuAt s.mu vs a → H' a = some o) → E (.ref C) none H'

structure FInfo where
  f : Addr
  fd : FuncData
  ps : List Str
def bltNames : List Str := ["len", "sum", "max", "min", "sorted", "all", "any", "tuple", "list", "set", "int", "str", "bool", "isinstance", "range", "enumerate", "zip"]

structure DCx (tb : Tb) (cs : List FSem) (fa : List FInfo) (K : PySem.W.Frag) (mg : Str → Option Value) (k : Nat) (sc : Scope) (E : XK) (X : Cx) : Prop where
  hK : X.K = K
  hmg : X.mg = mg
  hN : X.N = tb.N
  nd : X.N.Nodup
  hsc : X.env.scope = sc
  calm : X.calm = true
  room : Room k X.A
  pass : Passes (L2.CX X.prog X.w) X E
  fns : ∀ (i : Nat) (nm : Str) (mu : Bool) (ar : Nat), tb.cn[i]? = some (nm, mu, ar) → ∃ (s : FSem) (g : FInfo), cs[i]? = some s ∧ fa[i]? = some g ∧ s.mu = mu ∧ mg nm = some (.ref g.f) ∧ PySem.W.keepIn X.K (.ref g.f) = true ∧ Binds X.K g.fd g.ps [] ∧ g.ps.length = ar ∧
    FnOk X.prog X.w X.K X.mg X.base (L2.CX X.prog X.w) k g.f g.fd g.ps (spF K mg s ar)
  blt : ∀ x ∈ bltNames, mg x = none
  gi : ∀ x i, (x, i) ∈ tb.gi → ∃ t, mg x = some (.int i t)
  gt : ∀ x is, (x, is) ∈ tb.gt → ∃ a, mg x = some (.ref a) ∧ ∀ H, SqT K H a (is.map V.int)
section
variable {tb : Tb} {cs : List FSem} {fa : List FInfo} {K : PySem.W.Frag} {mg : Str → Option Value} {k : Nat} {sc : Scope} {E : XK} {X : Cx}
theorem DCx.units (C : DCx tb cs fa K mg k sc E X) : X.A.units + 65 < cLine := by
  have := C.room.un
  omega
theorem DCx.slot (C : DCx tb cs fa K mg k sc E X) {i : Nat} {x : Str} {pos : Pos} (h : slotB tb sc i x = true) : PE X (.Name x pos) (tVar i) := by
  unfold slotB nmOk at h
  simp only [Bool.and_eq_true, decide_eq_true_eq, Bool.not_eq_true'] at h
  obtain ⟨⟨h1, h2⟩, ⟨h3, h4⟩, _⟩ := h
  refine pe_var (by rw [C.hN]; exact h1) ?_ h3 h4
  rw [C.hsc]
  unfold visB at h2
  unfold Vis
  split at h2
  · rename_i e
    exact .inl e
  · rename_i e
    exact .inr (.inl e)
  · rename_i e
    exact .inr (.inr e)
  · cases h2
theorem DCx.gl (C : DCx tb cs fa K mg k sc E X) {x : Str} (h : glB sc x = true) : Gl X x := by
  unfold glB at h
  unfold Gl Env.kindOf
  rw [C.hsc]
  split at h
  · rename_i e
    exact e
  · cases h
theorem DCx.nob (C : DCx tb cs fa K mg k sc E X) {x : Str} (h : x ∈ bltNames) : X.mg x = none := by
  rw [C.hmg]
  exact C.blt x h
end

/-! ### what is said of an expression -/
def EFr (H0 : Hp) (B : Bor) (H' : Hp) : Prop := ∀ a o, H0 a = some o → (∀ i, (i, a) ∉ B) → H' a = some o
def ExW (mg : Str → Option Value) (H0 : Hp) (B : Bor) (Ex : XK) (x : Str) : Prop := ∀ C H', mg x = some (Value.ref C) → EFr H0 B H' → Ex (.ref C) none H'
/-- borrowed names stand at slot 0 -/
def BOk (B : Bor) : Prop := ∀ i a, (i, a) ∈ B → i = 0
def GoodE (K : PySem.W.Frag) (mg : Str → Option Value) (cs : List FSem) (Ex : XK) (e : E) (t : TE) : Prop := ∀ H0 B σ H Hf ρ, BOk B → Rel K H0 B σ H Hf ρ →
  match evalE cs e ρ with
  | none => True
  | some (.ok d fr ρ') => ∀ Q : VK, (∀ v H', PostE K H0 B σ ρ (mutsE e) H Hf d fr ρ' v H' → Q v H') → t σ H Q
  | some (.ex x) => ∀ Q : VK, ExW mg H0 B Ex x → t σ H Q
def GoodT (K : PySem.W.Frag) (mg : Str → Option Value) (cs : List FSem) (Ex : XK) (e : E) (t : TT) : Prop := ∀ H0 B σ H Hf ρ, BOk B → Rel K H0 B σ H Hf ρ →
  match evalE cs e ρ with
  | some (.ok (.bool b) _ ρ') => ∀ Q : Bool → Hp → Prop, (∀ H' Hf', Step K H0 B σ (mutsE e) ρ H Hf ρ' H' Hf' → Q b H') → t σ H Q
  | some (.ex x) => ∀ Q : Bool → Hp → Prop, ExW mg H0 B Ex x → t σ H Q
  | _ => True
def GoodA (K : PySem.W.Frag) (mg : Str → Option Value) (cs : List FSem) (Ex : XK) (es : Es) (t : TA) : Prop := ∀ H0 B σ H Hf ρ, BOk B → Rel K H0 B σ H Hf ρ →
  match evalEs cs es ρ with
  | none => True
  | some (.ok ds ρ') => ∀ Q : List V → Hp → Prop, (∀ vs H', PostA K H0 B σ ρ (mutsEs es) H Hf ds ρ' vs H' → Q vs H') → t σ H Q
  | some (.ex x) => ∀ Q : List V → Hp → Prop, ExW mg H0 B Ex x → t σ H Q
/-- what is walked: n items while G stands -/
def Serves (K : PySem.W.Frag) (J : L2.It) (g : Option (Addr × List V)) (Hf : Hp) (ds : List PD) : Prop :=
  (∀ i d H Hf1, Same Hf Hf1 → Same Hf1 H → (∀ a xs, g = some (a, xs) → H a = some (.lst xs)) → ds[i]? = some d → J.go i H ∧ ∀ x H', J.yld i H x H' → PostV K H Hf1 d false x H') ∧
  (∀ H Hf1, Same Hf Hf1 → Same Hf1 H → (∀ a xs, g = some (a, xs) → H a = some (.lst xs)) → J.stop ds.length H)
def GoodI (K : PySem.W.Frag) (mg : Str → Option Value) (cs : List FSem) (Ex : XK) (it : It) (wi : TI) : Prop := ∀ H0 B σ H Hf ρ, BOk B → Rel K H0 B σ H Hf ρ →
  match evalI cs it ρ with
  | none => True
  | some (.ok ds ρ') => ∀ R : L2.It → Hp → Prop, (∀ J H' Hf' g, Step K H0 B σ (mutsI it) ρ H Hf ρ' H' Hf' → Serves K J g Hf' ds →
      (∀ a xs, g = some (a, xs) → H' a = some (.lst xs) ∧ ∃ v c, it = .hid v ∧ getC ρ' v = some c ∧ c.isMut = true ∧ σ[v]? = some (some (V.ref a))) → R J H') → wi σ H R
  | some (.ex x) => ∀ R : L2.It → Hp → Prop, ExW mg H0 B Ex x → wi σ H R

/-- the family of contexts that a text may run in -/
abbrev Fam := Cx → Prop
structure Setg where
  tb : Tb
  cs : List FSem
  fa : List FInfo
  K : PySem.W.Frag
  mg : Str → Option Value
  k : Nat
abbrev Setg.ctx (S : Setg) (sc : Scope) (Ex : XK) (X : Cx) : Prop := DCx S.tb S.cs S.fa S.K S.mg S.k sc Ex X
def SndE (S : Setg) (e : E) : Prop := ∀ (sc : Scope) (Ex : XK) (F : Fam), (∀ X, F X → S.ctx sc Ex X) → ∀ ex, isE S.tb sc e ex = true → ∃ t : TE, (∀ X, F X → PE X ex t) ∧ GoodE S.K S.mg S.cs Ex e t
def SndT (S : Setg) (e : E) : Prop := ∀ (sc : Scope) (Ex : XK) (F : Fam), (∀ X, F X → S.ctx sc Ex X) → ∀ ex, isE S.tb sc e ex = true → ∃ t : TT, (∀ X, F X → PT X ex t) ∧ GoodT S.K S.mg S.cs Ex e t
def SndA (S : Setg) (es : Es) : Prop := ∀ (sc : Scope) (Ex : XK) (F : Fam), (∀ X, F X → S.ctx sc Ex X) → ∀ exs, isEs S.tb sc es exs = true → ∃ t : TA, (∀ X, F X → PA X exs t) ∧ GoodA S.K S.mg S.cs Ex es t
def SndI (S : Setg) (it : It) : Prop := ∀ (sc : Scope) (Ex : XK) (F : Fam), (∀ X, F X → S.ctx sc Ex X) → ∀ ex tg, isI S.tb sc it ex tg = true → ∃ t : TI, (∀ X, F X → PI X tg ex t) ∧ GoodI S.K S.mg S.cs Ex it t

theorem ExW.of {mg : Str → Option Value} {H0 : Hp} {B : Bor} {Ex : XK} {x : Str} (h : ExW mg H0 B Ex x) : ExW mg H0 B Ex x := h
/-! ### plain ways -/
theorem star_ok {e : Expr} (h : nostar e = true) (es : List Expr) (env : PySem.Env) : starEach (e :: es) env = (false, eval e env) :: starEach es env := by
  cases e <;> first | rfl | simp [nostar] at h
theorem star_none {es : List Expr} (h : es.all nostar = true) (env : PySem.Env) (pos : Pos) : (backTo pos (starEach es env)).any (·.1) = false := by
  induction es with
  | nil => rfl
  | cons e r ih =>
    rw [List.all_cons, Bool.and_eq_true] at h
    rw [star_ok h.1]
    unfold backTo at ih ⊢
    rw [List.map_cons, List.any_cons, ih h.2]
    rfl
theorem fold_ok {e : Expr} (h : noset e = true) (env : PySem.Env) (x : Value) : foldedSetIterable e env x = pure x := by
  cases e <;> first | rfl | simp [noset] at h
theorem mark_ok {e : Expr} (h : noset e = true) (op : CmpOp) : behindInMarks op e = false := by
  cases e <;> first | rfl | simp [noset] at h
theorem plainIx_ok {e : Expr} (h : noslice e = true) : PlainIx e := by
  intro o i
  cases e <;> first | rfl | simp [noslice] at h
theorem base_ok {o : Expr} (h : baseB o = true) (m : Str) (env : PySem.Env) (w : Sem Value) : attributeBase o m env w = w := by
  cases o with
  | Call f as ks p =>
    cases as with
    | nil => simp [baseB] at h
    | cons a r =>
      cases f <;> rfl
  | _ => rfl
theorem plainT_ok {e : Expr} (h : plainT e = true) (env : PySem.Env) : ∀ whole, isTrue e env whole = (do let v ← whole; standAt e.pos; holding [v] (truthy v)) := by
  intro whole
  cases e with
  | UnaryOp op x p =>
    cases op with
    | Not => simp [plainT] at h
    | _ => rfl
  | BoolOp _ _ _ => simp [plainT] at h
  | IfExp _ _ _ _ => simp [plainT] at h
  | Compare _ _ _ _ => simp [plainT] at h
  | _ => rfl
theorem swap_ok {e : Expr} (h : nocomp e = true) (tg : Option Expr) (l : Nat) (env : PySem.Env) : swapsWith e tg l env = pure false := by
  cases e <;> first | rfl | simp [nocomp] at h
end DD

-- part DSnd
set_option Elab.async false
set_option linter.all false
set_option maxRecDepth 100000
set_option maxHeartbeats 1000000
/-! Soundness, construct by construct. -/
namespace DD
open PySem PySem.Spec PyProof.Rows L2

section
variable {K : PySem.W.Frag} {mg : Str → Option Value} {cs : List FSem} {Ex : XK} {H0 : Hp} {B : Bor} {σ : L2.St} {ms ms1 ms2 : List Nat} {ρ ρ1 ρ2 : Env} {H Hf H1 Hf1 H2 Hf2 : Hp} {d : PD} {fr : Bool} {v : V}
theorem PostE.after (a : Step K H0 B σ ms1 ρ H Hf ρ1 H1 Hf1) (b : PostE K H0 B σ ρ1 ms2 H1 Hf1 d fr ρ2 v H2) (s1 : ∀ i ∈ ms1, i ∈ ms) (s2 : ∀ i ∈ ms2, i ∈ ms) : PostE K H0 B σ ρ ms H Hf d fr ρ2 v H2 := by
  obtain ⟨Hf2, S, r, n⟩ := b
  refine ⟨Hf2, a.trans S s1 s2, r, fun z x ex => ?_⟩
  rcases n z x ex with q | ⟨i, c, hc, m, e⟩
  · cases hx : H x with
    | none => exact .inl rfl
    | some u =>
      refine .inr (Classical.byContradiction fun hn => ?_)
      have := a.fr x u hx fun ⟨i, _, c, hc, m, e⟩ => hn ⟨i, c, hc, m, e⟩
      rw [q] at this
      cases this
  · obtain ⟨c', hc', m'⟩ := a.le.mu i c hc m
    exact .inr ⟨i, c', hc', m', e⟩
theorem PostE.more (b : PostE K H0 B σ ρ ms2 H Hf d fr ρ2 v H2) (s2 : ∀ i ∈ ms2, i ∈ ms) : PostE K H0 B σ ρ ms H Hf d fr ρ2 v H2 := by
  obtain ⟨Hf2, S, r, n⟩ := b
  exact ⟨Hf2, S.more s2, r, n⟩
theorem PostE.ofV (a : Step K H0 B σ ms1 ρ H Hf ρ1 H1 Hf1) (b : PostV K H1 Hf1 d fr v H2) (s1 : ∀ i ∈ ms1, i ∈ ms) : PostE K H0 B σ ρ ms H Hf d fr ρ1 v H2 :=
  PostE.after a (b.toE (ms := []) a.rel) s1 (fun i h => by simp at h)
theorem GoodE.run {e : E} {t : TE} (g : GoodE K mg cs Ex e t) (hB : BOk B) (R : Rel K H0 B σ H Hf ρ) (h : evalE cs e ρ = some (.ok d fr ρ1)) {Q : VK} (q : ∀ v H1 Hf1, Step K H0 B σ (mutsE e) ρ H Hf ρ1 H1 Hf1 → Rp K Hf1 v d → Q v H1) : t σ H Q := by
  have := g H0 B σ H Hf ρ hB R
  rw [h] at this
  refine this Q fun v H1 p => ?_
  obtain ⟨Hf1, S, r, _⟩ := p.frz
  exact q v H1 Hf1 S r
theorem GoodE.full {e : E} {t : TE} (g : GoodE K mg cs Ex e t) (hB : BOk B) (R : Rel K H0 B σ H Hf ρ) (h : evalE cs e ρ = some (.ok d fr ρ1)) {Q : VK} (q : ∀ v H1, PostE K H0 B σ ρ (mutsE e) H Hf d fr ρ1 v H1 → Q v H1) : t σ H Q := by
  have := g H0 B σ H Hf ρ hB R
  rw [h] at this
  exact this Q q
theorem GoodE.exc {e : E} {t : TE} {x : Str} (g : GoodE K mg cs Ex e t) (hB : BOk B) (R : Rel K H0 B σ H Hf ρ) (h : evalE cs e ρ = some (.ex x)) {Q : VK} (q : ExW mg H0 B Ex x) : t σ H Q := by
  have := g H0 B σ H Hf ρ hB R
  rw [h] at this
  exact this Q q
theorem GoodA.run {e : Es} {t : TA} {ds : List PD} (g : GoodA K mg cs Ex e t) (hB : BOk B) (R : Rel K H0 B σ H Hf ρ) (h : evalEs cs e ρ = some (.ok ds ρ1)) {Q : List V → Hp → Prop} (q : ∀ vs H1 Hf1, Step K H0 B σ (mutsEs e) ρ H Hf ρ1 H1 Hf1 → RpA K Hf1 vs ds → Q vs H1) : t σ H Q := by
  have := g H0 B σ H Hf ρ hB R
  rw [h] at this
  refine this Q fun v H1 p => ?_
  obtain ⟨Hf1, S, r⟩ := p
  exact q v H1 Hf1 S r
theorem GoodA.exc {e : Es} {t : TA} {x : Str} (g : GoodA K mg cs Ex e t) (hB : BOk B) (R : Rel K H0 B σ H Hf ρ) (h : evalEs cs e ρ = some (.ex x)) {Q : List V → Hp → Prop} (q : ExW mg H0 B Ex x) : t σ H Q := by
  have := g H0 B σ H Hf ρ hB R
  rw [h] at this
  exact this Q q
theorem GoodT.run {e : E} {t : TT} {b : Bool} (g : GoodT K mg cs Ex e t) (hB : BOk B) (R : Rel K H0 B σ H Hf ρ) (h : evalE cs e ρ = some (.ok (.bool b) fr ρ1)) {Q : Bool → Hp → Prop} (q : ∀ H1 Hf1, Step K H0 B σ (mutsE e) ρ H Hf ρ1 H1 Hf1 → Q b H1) : t σ H Q := by
  have := g H0 B σ H Hf ρ hB R
  rw [h] at this
  exact this Q q
theorem GoodT.exc {e : E} {t : TT} {x : Str} (g : GoodT K mg cs Ex e t) (hB : BOk B) (R : Rel K H0 B σ H Hf ρ) (h : evalE cs e ρ = some (.ex x)) {Q : Bool → Hp → Prop} (q : ExW mg H0 B Ex x) : t σ H Q := by
  have := g H0 B σ H Hf ρ hB R
  rw [h] at this
  exact this Q q
theorem sub_l {a b : List Nat} : ∀ i ∈ a, i ∈ a ++ b := fun i h => List.mem_append_left _ h
theorem sub_r {a b : List Nat} : ∀ i ∈ b, i ∈ a ++ b := fun i h => List.mem_append_right _ h
theorem sub_nil {b : List Nat} : ∀ i ∈ ([] : List Nat), i ∈ b := fun i h => by simp at h
theorem sub_id {b : List Nat} : ∀ i ∈ b, i ∈ b := fun i h => h
end

variable {S : Setg}
/-! ### constants and names -/
theorem goodC {e : E} {d : PD} {v : V} {K : PySem.W.Frag} {mg : Str → Option Value} {cs : List FSem} {Ex : XK} (he : ∀ ρ, evalE cs e ρ = some (.ok d false ρ)) (r : ∀ H, Rp K H v d) : GoodE K mg cs Ex e (tC v) := by
  intro H0 B σ H Hf ρ hB R
  rw [he]
  exact fun Q q => q v H ((PostV.here R.ext (r Hf)).toE R)
theorem no {P : Prop} (h : false = true) : P := by cases h
theorem snd_int (i : Int) : SndE S (.int i) := by
  intro sc Ex F hF ex h
  cases ex with
  | Constant c j p =>
    cases c with
    | int z =>
      cases (of_decide_eq_true (show decide (i = z) = true from h))
      exact ⟨tC (.int i), fun _ _ => pe_int, goodC (fun _ => rfl) fun H => .int i⟩
    | _ => exact no h
  | _ => exact no h
theorem snd_bl (i : Bool) : SndE S (.bl i) := by
  intro sc Ex F hF ex h
  cases ex with
  | Constant c j p =>
    cases c with
    | bool z =>
      cases (of_decide_eq_true (show decide (i = z) = true from h))
      exact ⟨tC (.bl i), fun _ _ => pe_bl, goodC (fun _ => rfl) fun H => .bl i⟩
    | _ => exact no h
  | _ => exact no h
theorem snd_non : SndE S .non := by
  intro sc Ex F hF ex h
  cases ex with
  | Constant c j p =>
    cases c with
    | none => exact ⟨tC .non, fun _ _ => pe_non, goodC (fun _ => rfl) fun H => .non⟩
    | _ => exact no h
  | _ => exact no h
theorem snd_str (i : Str) : SndE S (.str i) := by
  intro sc Ex F hF ex h
  cases ex with
  | Constant c j p =>
    cases c with
    | str z =>
      cases (of_decide_eq_true (show decide (i = z) = true from h))
      exact ⟨tC (.str i), fun _ _ => pe_str, goodC (fun _ => rfl) fun H => .str i⟩
    | _ => exact no h
  | _ => exact no h
theorem snd_nop : SndE S .nop := by
  intro sc Ex F hF ex h
  cases ex <;> exact no h
end DD

-- part DSnd2
set_option Elab.async false
set_option linter.all false
set_option maxRecDepth 100000
set_option maxHeartbeats 1000000
/-! Soundness: names, operators, calls. -/
namespace DD
open PySem PySem.Spec PyProof.Rows L2
section
variable {K : PySem.W.Frag} {mg : Str → Option Value} {cs : List FSem} {Ex : XK} {H0 : Hp} {B : Bor} {σ : L2.St} {ms ms1 ms2 : List Nat} {ρ ρ1 ρ2 : Env} {H Hf H1 Hf1 H2 Hf2 : Hp} {d : PD} {fr : Bool} {v : V} {i : Nat}
theorem Rel.neq (R : Rel K H0 B σ H Hf ρ) {j : Nat} {c c' : Cell} {a b : Addr} (hi : getC ρ i = some c) (mi : c.isMut = true) (hj : getC ρ j = some c') (mj : c'.isMut = true) (ei : σ[i]? = some (some (.ref a))) (ej : σ[j]? = some (some (.ref b))) (h : i ≠ j) : a ≠ b := fun e => by
  subst e
  exact h (R.sep i j c c' a hi hj mi mj ei ej)
theorem Rel.frzSlot (R : Rel K H0 B σ H Hf ρ) (h : getC ρ i = some (.ow d)) : ∃ v Hf', σ[i]? = some (some v) ∧ Step K H0 B σ ms ρ H Hf (ρ.set i (some (.sh d))) H Hf' ∧ Rp K Hf' v d := by
  obtain ⟨a, ea, hn, ⟨u, hu⟩, o, _⟩ := R.own h rfl
  obtain ⟨Hf1, s1, s2, rp, ne⟩ := o.freeze R.ext
  have hi := getC_lt h
  have le : Le ρ (ρ.set i (some (.sh d))) := ⟨by simp, fun j c hc m => by
    by_cases e : i = j
    · subst e
      rw [getC_set_self hi] at hc
      cases hc
      simp [Cell.isMut] at m
    · rw [getC_set_ne e] at hc
      exact ⟨c, hc, m⟩⟩
  refine ⟨.ref a, Hf1, ea, ⟨s1, ⟨s2, by rw [R.len]; simp, fun j c hc => ?_, fun j l c c' x hj hl mj ml ej el => ?_, R.ent, fun j x hb => ?_⟩, Fr.refl _ _ _ _, fun b w hb n => ?_, le⟩, rp⟩
  · by_cases e : i = j
    · subst e
      rw [getC_set_self hi] at hc
      cases hc
      exact ⟨_, ea, rp⟩
    · rw [getC_set_ne e] at hc
      obtain ⟨w, hw, ok⟩ := R.get j c hc
      refine ⟨w, hw, ?_⟩
      cases c with
      | sh x => exact Rp.mono s1 ok
      | ow x =>
        refine ⟨ok.1.keep s1 (fun _ _ _ q => q) fun b eb => ?_, ok.2⟩
        obtain ⟨b', eb', hb', _⟩ := R.own hc rfl
        have : b = b' := by
          rw [hw, eb] at eb'
          cases eb'
          rfl
        subst this
        rw [ne b fun z => R.neq h rfl hc rfl ea eb' e (V.ref.inj z)]
        exact hb'
      | bo x =>
        refine ⟨ok.1.keep s1 (fun _ _ _ q => q) fun b eb => ?_, ok.2⟩
        obtain ⟨b', eb', hb', _⟩ := R.own hc rfl
        have : b = b' := by
          rw [hw, eb] at eb'
          cases eb'
          rfl
        subst this
        rw [ne b fun z => R.neq h rfl hc rfl ea eb' e (V.ref.inj z)]
        exact hb'
  · have g : ∀ {j : Nat} {c : Cell}, getC (ρ.set i (some (.sh d))) j = some c → c.isMut = true → getC ρ j = some c := fun {j c} hc m => by
      by_cases e : i = j
      · subst e
        rw [getC_set_self hi] at hc
        cases hc
        simp [Cell.isMut] at m
      · rwa [getC_set_ne e] at hc
    exact R.sep j l c c' x (g hj mj) (g hl ml) mj ml ej el
  · obtain ⟨e1, z, e2⟩ := R.bor j x hb
    refine ⟨e1, z, ?_⟩
    have : i ≠ j := fun e => by
      subst e
      rw [h] at e2
      cases e2
    rw [getC_set_ne this]
    exact e2
  · rw [ne b fun z => ?_]
    have : a = b := V.ref.inj z
    subst this
    exact n ⟨i, _, h, rfl, ea⟩
theorem Rel.mvSlot (R : Rel K H0 B σ H Hf ρ) (h : getC ρ i = some (.ow d)) : ∃ v, σ[i]? = some (some v) ∧ Step K H0 B σ ms ρ H Hf (ρ.set i none) H Hf ∧ ResOk K H0 σ (ρ.set i none) H Hf v d true ∧ NewOk σ ρ H v := by
  obtain ⟨a, ea, hn, ⟨u, hu⟩, o, _⟩ := R.own h rfl
  have g : ∀ {j : Nat} {c : Cell}, getC (ρ.set i none) j = some c → i ≠ j ∧ getC ρ j = some c := fun {j c} hc => by
    by_cases e : i = j
    · subst e
      rw [getC_set_none] at hc
      cases hc
    · rw [getC_set_ne e] at hc
      exact ⟨e, hc⟩
  have h0 : H0 a = none := by
    obtain ⟨w, hw, ok⟩ := R.get i _ h
    rw [ea] at hw
    cases hw
    exact ok.2 a rfl
  refine ⟨.ref a, ea, ⟨fun _ _ q => q, ⟨R.ext, by rw [R.len]; simp, fun j c hc => R.get j c (g hc).2, fun j l c c' x hj hl => R.sep j l c c' x (g hj).2 (g hl).2, R.ent, fun j x hb => ?_⟩, Fr.refl _ _ _ _, fun _ _ _ _ => rfl, ⟨by simp, fun j c hc m => ⟨c, (g hc).2, m⟩⟩⟩, ⟨o, fun b eb => ?_⟩, fun b eb => ?_⟩
  · obtain ⟨e1, z, e2⟩ := R.bor j x hb
    refine ⟨e1, z, ?_⟩
    have : i ≠ j := fun e => by
      subst e
      rw [h] at e2
      cases e2
    rw [getC_set_ne this]
    exact e2
  · cases eb
    exact ⟨h0, fun j c hc m z => (g hc).1 (R.sep i j _ c a h (g hc).2 rfl m ea z)⟩
  · cases eb
    exact .inr ⟨i, _, h, rfl, ea⟩
/-- pure and scalar: nothing has happened -/
theorem Step.pure (R : Rel K H0 B σ H Hf ρ) (S : Step K H0 B σ [] ρ H Hf ρ1 H1 Hf1) : Step K H0 B σ ms ρ H Hf ρ H1 Hf := by
  have st : Same H H1 := fun a u h => S.fr a u h fun ⟨i, hi, _⟩ => by simp at hi
  refine ⟨fun _ _ q => q, R.move (fun _ _ q => q) (Same.trans R.ext st) S.fr fun j c b hc m e => ?_, Fr.same st, fun _ _ _ _ => rfl, Le.refl _⟩
  obtain ⟨b', e', h1, _⟩ := R.own hc m
  rw [e] at e'
  cases e'
  exact h1
/-- behind a call that may have changed what name j owns -/
theorem Rel.called {mu : Bool} {j : Nat} {c : Cell} {a : Addr} {m : PD} (R : Rel K H0 B σ H Hf ρ) (hc : mu = true → getC ρ j = some c ∧ c.isMut = true ∧ σ[j]? = some (some (.ref a)))
    (e1 : Same Hf Hf1) (e2 : Same Hf1 H1) (f : ∀ b o, H b = some o → ¬ (mu = true ∧ b = a) → H1 b = some o) (g : ∀ b u, H b = some u → Hf1 b = Hf b) (ho : mu = true → Own K H1 Hf1 (.ref a) m) :
    Step K H0 B σ (if mu = true then [j] else []) ρ H Hf (if mu = true then ρ.set j (some (c.put m)) else ρ) H1 Hf1 := by
  have h0 : ∀ b o, H0 b = some o → (∀ i, (i, b) ∉ B) → H1 b = some o := fun b o h hb => by
    refine f b o (R.ent b o h hb) fun ⟨hm, eb⟩ => ?_
    obtain ⟨h1, h2, h3⟩ := hc hm
    obtain ⟨a', ea', _, _, _, hh⟩ := R.own h1 h2
    rw [h3] at ea'
    cases ea'
    subst eb
    rcases hh with hh | hh
    · rw [h] at hh
      cases hh
    · exact hb _ hh
  have nn : ∀ {l : Nat} {x : Cell} {b : Addr}, getC ρ l = some x → x.isMut = true → σ[l]? = some (some (.ref b)) → Hf1 b = none := fun {l x b} hx hm he => by
    obtain ⟨b', eb', q1, ⟨u, q2⟩, _⟩ := R.own hx hm
    rw [he] at eb'
    cases eb'
    rw [g b u q2]
    exact q1
  cases mu with
  | false =>
    have st : ∀ b o, H b = some o → H1 b = some o := fun b o h => f b o h fun z => nomatch z.1
    exact ⟨e1, R.move e1 e2 (fun b o h _ => st b o h) fun l x b hx hm he => nn hx hm he, fun b o h _ => st b o h, fun b u h _ => g b u h, Le.refl _⟩
  | true =>
    obtain ⟨h1, h2, h3⟩ := hc rfl
    have hj := getC_lt h1
    have pm : (c.put m).isMut = true := by
      cases c with
      | sh _ => simp [Cell.isMut] at h2
      | ow _ => rfl
      | bo _ => rfl
    have gc : ∀ {l : Nat} {x : Cell}, getC (ρ.set j (some (c.put m))) l = some x → (l = j ∧ x = c.put m) ∨ (l ≠ j ∧ getC ρ l = some x) := fun {l x} hx => by
      by_cases e : j = l
      · subst e
        rw [getC_set_self hj] at hx
        cases hx
        exact .inl ⟨rfl, rfl⟩
      · rw [getC_set_ne e] at hx
        exact .inr ⟨fun z => e z.symm, hx⟩
    simp only [if_true]
    refine ⟨e1, ⟨e2, by rw [R.len]; simp, fun l x hx => ?_, fun l n x y b hx hy mx my el en => ?_, h0, fun l b hb => ?_⟩, fun b o h n => f b o h fun z => n ⟨j, by simp, c, h1, h2, by rw [h3, z.2]⟩, fun b u h _ => g b u h, ⟨by simp, fun l x hx mx => ?_⟩⟩
    · rcases gc hx with ⟨rfl, rfl⟩ | ⟨ne, hx⟩
      · obtain ⟨w, hw, ok⟩ := R.get l _ h1
        rw [h3] at hw
        cases hw
        refine ⟨_, h3, ?_⟩
        cases c with
        | sh _ => simp [Cell.isMut] at h2
        | ow _ => exact ⟨ho rfl, ok.2⟩
        | bo _ => exact ⟨ho rfl, ok.2⟩
      · obtain ⟨w, hw, ok⟩ := R.get l x hx
        refine ⟨w, hw, ?_⟩
        have kp : ∀ (z : PD), x.isMut = true → Own K H Hf w z → Own K H1 Hf1 w z := fun z hm o => by
          refine o.keep e1 (fun b u eb q => f b u q fun zz => ?_) fun b eb => nn hx hm (by rw [hw, eb])
          exact R.neq hx hm h1 h2 (by rw [hw, eb]) h3 ne zz.2
        cases x with
        | sh z => exact Rp.mono e1 ok
        | ow z => exact ⟨kp z rfl ok.1, ok.2⟩
        | bo z => exact ⟨kp z rfl ok.1, ok.2⟩
    · rcases gc hx with ⟨q1, q2⟩ | ⟨ne, hx2⟩
      · rcases gc hy with ⟨q3, q4⟩ | ⟨ne', hy2⟩
        · rw [q1, q3]
        · rw [q1] at el ⊢
          exact R.sep j n c y b h1 hy2 h2 my el en
      · rcases gc hy with ⟨q3, q4⟩ | ⟨ne', hy2⟩
        · rw [q3] at en ⊢
          exact R.sep l j x c b hx2 h1 mx h2 el en
        · exact R.sep l n x y b hx2 hy2 mx my el en
    · obtain ⟨q1, z, q2⟩ := R.bor l b hb
      refine ⟨q1, ?_⟩
      by_cases e : j = l
      · subst e
        rw [h1] at q2
        cases q2
        exact ⟨m, getC_set_self hj⟩
      · rw [getC_set_ne e]
        exact ⟨z, q2⟩
    · rcases gc hx with ⟨rfl, rfl⟩ | ⟨ne, hx⟩
      · exact ⟨c, h1, h2⟩
      · exact ⟨x, hx, mx⟩
end

variable {S : Setg}
theorem snd_gint (x : Str) (i : Int) : SndE S (.gint x i) := by
  intro sc Ex F hF ex h
  cases ex with
  | Name y p =>
    have h' : (decide (x = y) && glB sc y && nmOk y && decide ((x, i) ∈ S.tb.gi)) = true := h
    simp only [Bool.and_eq_true, decide_eq_true_eq] at h'
    obtain ⟨⟨⟨rfl, h2⟩, h3⟩, h4⟩ := h'
    refine ⟨tC (.int i), fun X hX => ?_, goodC (fun _ => rfl) fun H => .int i⟩
    have C := hF X hX
    obtain ⟨t, ht⟩ := C.gi x i h4
    unfold nmOk at h3
    simp only [Bool.and_eq_true, Bool.not_eq_true'] at h3
    exact pe_glob (C.gl h2) (by rw [C.hmg]; exact ht) ⟨t, rfl⟩ h3.1.1
  | _ => exact no h
theorem snd_gtup (x : Str) (is : List Int) : SndE S (.gtup x is) := by
  intro sc Ex F hF ex h
  cases ex with
  | Name y p =>
    have h' : (decide (x = y) && glB sc y && nmOk y && decide ((x, is) ∈ S.tb.gt)) = true := h
    simp only [Bool.and_eq_true, decide_eq_true_eq] at h'
    obtain ⟨⟨⟨rfl, h2⟩, h3⟩, h4⟩ := h'
    refine ⟨fun _ H Q => ∀ a, S.mg x = some (.ref a) → (∀ H, SqT S.K H a (is.map V.int)) → Q (.ref a) H, fun X hX => ?_, ?_⟩
    · have C := hF X hX
      obtain ⟨a, ha, hs⟩ := C.gt x is h4
      unfold nmOk at h3
      simp only [Bool.and_eq_true, Bool.not_eq_true'] at h3
      have pg : PE X (.Name x p) (tC (.ref a)) := pe_glob (C.gl h2) (by rw [C.hmg]; exact ha) rfl h3.1.1
      exact ⟨fun pins s σ H Q I q => pg.run pins s σ H Q I (q a ha hs)⟩
    · intro H0 B σ H Hf ρ hB R
      show ∀ Q : VK, _ → _
      intro Q q a ha hs
      exact q _ _ ((PostV.here R.ext (.tup (hs Hf) (RpA.ofInts is))).toE R)
  | _ => exact no h
theorem snd_var (i : Nat) : SndE S (.var i) := by
  intro sc Ex F hF ex h
  cases ex with
  | Name x p =>
    refine ⟨tVar i, fun X hX => (hF X hX).slot h, ?_⟩
    intro H0 B σ H Hf ρ hB R
    unfold evalE
    cases e : getC ρ i with
    | none => trivial
    | some c =>
      cases c with
      | sh d =>
        intro Q q
        obtain ⟨v, hv, ok⟩ := R.get i _ e
        exact ⟨v, hv, q v H ((PostV.here R.ext ok).toE R)⟩
      | ow d =>
        intro Q q
        obtain ⟨v, Hf', hv, St, rp⟩ := R.frzSlot (ms := mutsE (.var i)) e
        exact ⟨v, hv, q v H ⟨Hf', St, rp, fun z => nomatch z⟩⟩
      | bo d => trivial
  | _ => exact no h
theorem snd_mv (i : Nat) : SndE S (.mv i) := by
  intro sc Ex F hF ex h
  cases ex with
  | Name x p =>
    refine ⟨tVar i, fun X hX => (hF X hX).slot h, ?_⟩
    intro H0 B σ H Hf ρ hB R
    unfold evalE
    cases e : getC ρ i with
    | none => trivial
    | some c =>
      cases c with
      | sh d =>
        intro Q q
        obtain ⟨v, hv, ok⟩ := R.get i _ e
        exact ⟨v, hv, q v H ((PostV.here R.ext ok).toE R)⟩
      | ow d =>
        intro Q q
        obtain ⟨v, hv, St, rp, nw⟩ := R.mvSlot (ms := mutsE (.mv i)) e
        exact ⟨v, hv, q v H ⟨Hf, St, rp, fun _ => nw⟩⟩
      | bo d => trivial
  | _ => exact no h
theorem snd_sc {e : E} (he : SndE S e) : SndE S (.sc e) := by
  intro sc Ex F hF ex h
  have h' : ((mutsE e).isEmpty && isE S.tb sc e ex) = true := by
    have : isE S.tb sc (.sc e) ex = ((mutsE e).isEmpty && isE S.tb sc e ex) := by cases ex <;> rfl
    rw [this] at h
    exact h
  rw [Bool.and_eq_true] at h'
  have em : mutsE e = [] := List.isEmpty_iff.mp h'.1
  obtain ⟨t, hp, hg⟩ := he sc Ex F hF ex h'.2
  refine ⟨t, hp, ?_⟩
  intro H0 B σ H Hf ρ hB R
  unfold evalE
  cases ev : evalE S.cs e ρ with
  | none => trivial
  | some r =>
    cases r with
    | ex x => exact fun Q q => hg.exc hB R ev q
    | ok d fr ρ1 =>
      simp only
      by_cases hs : isScal d = true
      · rw [if_pos hs]
        intro Q q
        refine hg.run hB R ev fun v H1 Hf1 St rp => q v H1 ?_
        rw [em] at St
        exact ⟨Hf, St.pure R, rp.scal hs Hf, fun z => nomatch z⟩
      · rw [if_neg hs]
        trivial
theorem snd_bin (op : Operator) {a b : E} (ha : SndE S a) (hb : SndE S b) : SndE S (.bin op a b) := by
  intro sc Ex F hF ex h
  cases ex with
  | BinOp l o r p =>
    have h' : (decide (op = o) && isE S.tb sc a l && isE S.tb sc b r) = true := h
    simp only [Bool.and_eq_true, decide_eq_true_eq] at h'
    obtain ⟨⟨rfl, h1⟩, h2⟩ := h'
    obtain ⟨ta, pa, ga⟩ := ha sc Ex F hF l h1
    obtain ⟨tb, pb, gb⟩ := hb sc Ex F hF r h2
    refine ⟨tOp (rBin S.K op) ta tb, fun X hX => ?_, ?_⟩
    · have C := hF X hX
      have := pe_op (pos := p) (bin_ok (X := X) op) (pa X hX) (pb X hX)
      rw [C.hK] at this
      exact this
    · intro H0 B σ H Hf ρ hB R
      unfold evalE
      cases e1 : evalE S.cs a ρ with
      | none => trivial
      | some r1 =>
        cases r1 with
        | ex x => exact fun Q q => ga.exc hB R e1 q
        | ok d1 fr1 ρ1 =>
          simp only [EO.bind]
          cases e2 : evalE S.cs b ρ1 with
          | none => trivial
          | some r2 =>
            cases r2 with
            | ex x => exact fun Q q => ga.run hB R e1 fun v H1 Hf1 S1 rp => gb.exc hB S1.rel e2 q
            | ok d2 fr2 ρ2 =>
              simp only [outE]
              cases e3 : binV op d1 d2 with
              | none => trivial
              | some dr =>
                obtain ⟨d, fr⟩ := dr
                intro Q q
                refine ga.run hB R e1 fun v H1 Hf1 S1 rp => gb.run hB S1.rel e2 fun w H2 Hf2 S2 rp2 => ?_
                exact bin_sound S.K op v w H2 Hf2 d1 d2 d fr S2.rel.ext (rp.mono S2.ext) rp2 e3 Q fun x H3 pv => q x H3 (PostE.ofV (S1.trans S2 sub_l sub_r) pv sub_id)
  | _ => exact no h
end DD

-- part DSnd3
set_option Elab.async false
set_option linter.all false
set_option maxRecDepth 100000
set_option maxHeartbeats 1000000
/-! Soundness: comparisons, truth, calls. -/
namespace DD
open PySem PySem.Spec PyProof.Rows L2
variable {S : Setg}
theorem snd_neg {a : E} (ha : SndE S a) : SndE S (.neg a) := by
  intro sc Ex F hF ex h
  cases ex with
  | UnaryOp o r p =>
    cases o with
    | USub =>
      obtain ⟨ta, pa, ga⟩ := ha sc Ex F hF r h
      refine ⟨tUn (rU fun i => .int (-i)) ta, fun X hX => pe_un un_neg (pa X hX), ?_⟩
      intro H0 B σ H Hf ρ hB R
      unfold evalE
      cases e1 : evalE S.cs a ρ with
      | none => trivial
      | some r1 =>
        cases r1 with
        | ex x => exact fun Q q => ga.exc hB R e1 q
        | ok d1 fr1 ρ1 =>
          simp only [EO.bind]
          cases d1 with
          | int i => exact fun Q q => ga.run hB R e1 fun v H1 Hf1 S1 rp => ⟨i, rp.int_inv, q _ H1 (PostE.ofV S1 (PostV.here S1.rel.ext (.int _)) sub_id)⟩
          | _ => trivial
    | _ => exact no h
  | _ => exact no h
/-- with the test's reading -/
def SndX (S : Setg) (e : E) : Prop := ∀ (sc : Scope) (Ex : XK) (F : Fam), (∀ X, F X → S.ctx sc Ex X) → ∀ ex, isE S.tb sc e ex = true → ∃ t : TE, (∀ X, F X → PE X ex t ∧ PT X ex (tTest t)) ∧ GoodE S.K S.mg S.cs Ex e t
theorem snd_cmp (op : CmpOp) {a b : E} (ha : SndE S a) (hb : SndE S b) : SndX S (.cmp op a b) := by
  intro sc Ex F hF ex h
  cases ex with
  | Compare l os rs p =>
    match os, rs, h with
    | [o], [r], h =>
      have h' : (decide (op = o) && noset r && isE S.tb sc a l && isE S.tb sc b r) = true := h
      simp only [Bool.and_eq_true, decide_eq_true_eq] at h'
      obtain ⟨⟨⟨rfl, hn⟩, h1⟩, h2⟩ := h'
      obtain ⟨ta, pa, ga⟩ := ha sc Ex F hF l h1
      obtain ⟨tb, pb, gb⟩ := hb sc Ex F hF r h2
      refine ⟨tOp (rCmp S.K op) ta tb, fun X hX => ?_, ?_⟩
      · have C := hF X hX
        have h1 := pe_cmpR (pos := p) (cmp_ok (X := X) C.units op) (pa X hX) (pb X hX) (mark_ok hn op)
        have h2 := pt_cmpR (pos := p) (cmp_ok (X := X) C.units op) (pa X hX) (pb X hX) (mark_ok hn op)
        rw [C.hK] at h1 h2
        exact ⟨h1, h2⟩
      · intro H0 B σ H Hf ρ hB R
        unfold evalE
        cases e1 : evalE S.cs a ρ with
        | none => trivial
        | some r1 =>
          cases r1 with
          | ex x => exact fun Q q => ga.exc hB R e1 q
          | ok d1 fr1 ρ1 =>
            simp only [EO.bind]
            cases e2 : evalE S.cs b ρ1 with
            | none => trivial
            | some r2 =>
              cases r2 with
              | ex x => exact fun Q q => ga.run hB R e1 fun v H1 Hf1 S1 rp => gb.exc hB S1.rel e2 q
              | ok d2 fr2 ρ2 =>
                simp only [outB]
                cases e3 : cmpV op d1 d2 with
                | none => trivial
                | some k =>
                  intro Q q
                  refine ga.run hB R e1 fun v H1 Hf1 S1 rp => gb.run hB S1.rel e2 fun w H2 Hf2 S2 rp2 => ?_
                  exact cmp_sound S.K op v w H2 Hf2 d1 d2 k S2.rel.ext (rp.mono S2.ext) rp2 e3 Q (q _ H2 (PostE.ofV (S1.trans S2 sub_l sub_r) (PostV.here S2.rel.ext (.bl k)) sub_id))
    | [], [], h => exact no h
    | [], _ :: _, h => exact no h
    | [_], [], h => exact no h
    | [_], _ :: _ :: _, h => exact no h
    | _ :: _ :: _, [], h => exact no h
    | _ :: _ :: _, _ :: _, h => exact no h
  | _ => exact no h
theorem snd_chain (op op2 : CmpOp) {a b c : E} (ha : SndE S a) (hb : SndE S b) (hc : SndE S c) : SndX S (.chain op op2 a b c) := by
  intro sc Ex F hF ex h
  cases ex with
  | Compare l os rs p =>
    match os, rs, h with
    | [o, o2], [r, r2], h =>
      have h' : (decide (op = o) && decide (op2 = o2) && noset r && noset r2 && isE S.tb sc a l && isE S.tb sc b r && isE S.tb sc c r2) = true := h
      simp only [Bool.and_eq_true, decide_eq_true_eq] at h'
      obtain ⟨⟨⟨⟨⟨⟨rfl, rfl⟩, hn⟩, hn2⟩, h1⟩, h2⟩, h3⟩ := h'
      obtain ⟨ta, pa, ga⟩ := ha sc Ex F hF l h1
      obtain ⟨tb, pb, gb⟩ := hb sc Ex F hF r h2
      obtain ⟨tc, pc, gc⟩ := hc sc Ex F hF r2 h3
      refine ⟨tChain (rCmp S.K op) (rCmp S.K op2) ta tb tc, fun X hX => ?_, ?_⟩
      · have C := hF X hX
        have h1 := pe_chain (pos := p) (cmp_ok (X := X) C.units op) (cmp_ok (X := X) C.units op2) (pa X hX) (pb X hX) (pc X hX) (hm := mark_ok hn2 op2)
        have h2 := pt_chain (pos := p) (cmp_ok (X := X) C.units op) (cmp_ok (X := X) C.units op2) (pa X hX) (pb X hX) (pc X hX) (hm := mark_ok hn2 op2)
        rw [C.hK] at h1 h2
        exact ⟨h1, h2⟩
      · intro H0 B σ H Hf ρ hB R
        unfold evalE
        cases e1 : evalE S.cs a ρ with
        | none => trivial
        | some r1 =>
          cases r1 with
          | ex x => exact fun Q q => ga.exc hB R e1 q
          | ok d1 fr1 ρ1 =>
            simp only [EO.bind]
            cases e2 : evalE S.cs b ρ1 with
            | none => trivial
            | some r2 =>
              cases r2 with
              | ex x => exact fun Q q => ga.run hB R e1 fun v H1 Hf1 S1 rp => gb.exc hB S1.rel e2 q
              | ok d2 fr2 ρ2 =>
                simp only
                cases e3 : cmpV op d1 d2 with
                | none => trivial
                | some k =>
                  cases k with
                  | false =>
                    intro Q q
                    refine ga.run hB R e1 fun v H1 Hf1 S1 rp => gb.run hB S1.rel e2 fun w H2 Hf2 S2 rp2 => ?_
                    refine cmp_sound S.K op v w H2 Hf2 d1 d2 false S2.rel.ext (rp.mono S2.ext) rp2 e3 _ ⟨false, rfl, ?_⟩
                    exact q _ H2 (PostE.ofV (S1.trans S2 sub_l sub_r) (PostV.here S2.rel.ext (.bl false)) (fun i hi => by
                      rcases List.mem_append.mp hi with hi | hi
                      · exact sub_l i hi
                      · exact sub_r i (sub_l i hi)))
                  | true =>
                    cases e4 : evalE S.cs c ρ2 with
                    | none => trivial
                    | some r3 =>
                      cases r3 with
                      | ex x =>
                        intro Q q
                        refine ga.run hB R e1 fun v H1 Hf1 S1 rp => gb.run hB S1.rel e2 fun w H2 Hf2 S2 rp2 => ?_
                        exact cmp_sound S.K op v w H2 Hf2 d1 d2 true S2.rel.ext (rp.mono S2.ext) rp2 e3 _ ⟨true, rfl, gc.exc hB S2.rel e4 q⟩
                      | ok d3 fr3 ρ3 =>
                        simp only [outB]
                        cases e5 : cmpV op2 d2 d3 with
                        | none => trivial
                        | some k =>
                          intro Q q
                          refine ga.run hB R e1 fun v H1 Hf1 S1 rp => gb.run hB S1.rel e2 fun w H2 Hf2 S2 rp2 => ?_
                          refine cmp_sound S.K op v w H2 Hf2 d1 d2 true S2.rel.ext (rp.mono S2.ext) rp2 e3 _ ⟨true, rfl, ?_⟩
                          refine gc.run hB S2.rel e4 fun z H3 Hf3 S3 rp3 => ?_
                          have S12 : Step S.K H0 B σ (mutsE a ++ mutsE b) ρ H Hf ρ2 H2 Hf2 := S1.trans S2 sub_l sub_r
                          have S13 : Step S.K H0 B σ (mutsE a ++ (mutsE b ++ mutsE c)) ρ H Hf ρ3 H3 Hf3 := S12.trans S3 (fun i hi => by
                            rcases List.mem_append.mp hi with hi | hi
                            · exact sub_l i hi
                            · exact sub_r i (sub_l i hi)) fun i hi => sub_r i (sub_r i hi)
                          exact cmp_sound S.K op2 w z H3 Hf3 d2 d3 k S3.rel.ext (rp2.mono S3.ext) rp3 e5 Q (q _ H3 (PostE.ofV S13 (PostV.here S3.rel.ext (.bl k)) sub_id))
    | [], _, h => exact no h
    | [_], [], h => exact no h
    | [_], _ :: _, h => exact no h
    | [_, _], [], h => exact no h
    | [_, _], [_], h => exact no h
    | [_, _], _ :: _ :: _ :: _, h => exact no h
    | _ :: _ :: _ :: _, _, h => exact no h
  | _ => exact no h
/-- what and, or ask at a text of two and more -/
theorem good_and {K : PySem.W.Frag} {mg : Str → Option Value} {cs : List FSem} {Ex : XK} {a b : E} {ta tb : TE} (ga : GoodE K mg cs Ex a ta) (gb : GoodE K mg cs Ex b tb) : GoodE K mg cs Ex (.and a b) (tAndV ta fun σ H Q => tb σ H fun y H1 => ∃ k, y = .bl k ∧ Q y H1) := by
  intro H0 B σ H Hf ρ hB R
  unfold evalE
  cases e1 : evalE cs a ρ with
  | none => trivial
  | some r1 =>
    cases r1 with
    | ex x => exact fun Q q => ga.exc hB R e1 q
    | ok d1 fr1 ρ1 =>
      simp only [EO.bind]
      cases d1 with
      | bool k =>
        cases k with
        | false =>
          intro Q q
          refine ga.run hB R e1 fun v H1 Hf1 S1 rp => ⟨false, rp.bl_inv, ?_⟩
          exact q _ H1 (PostE.ofV S1 (PostV.here S1.rel.ext (.bl false)) sub_l)
        | true =>
          simp only [boolE, if_true]
          cases e2 : evalE cs b ρ1 with
          | none => trivial
          | some r2 =>
            cases r2 with
            | ex x => exact fun Q q => ga.run hB R e1 fun v H1 Hf1 S1 rp => ⟨true, rp.bl_inv, gb.exc hB S1.rel e2 q⟩
            | ok d2 fr2 ρ2 =>
              simp only
              cases d2 with
              | bool j =>
                intro Q q
                refine ga.run hB R e1 fun v H1 Hf1 S1 rp => ⟨true, rp.bl_inv, ?_⟩
                refine gb.run hB S1.rel e2 fun w H2 Hf2 S2 rp2 => ?_
                exact ⟨j, rp2.bl_inv, q _ H2 (PostE.ofV (S1.trans S2 sub_l sub_r) (PostV.here S2.rel.ext rp2) sub_id)⟩
              | _ => trivial
      | _ => trivial
theorem good_or {K : PySem.W.Frag} {mg : Str → Option Value} {cs : List FSem} {Ex : XK} {a b : E} {ta tb : TE} (ga : GoodE K mg cs Ex a ta) (gb : GoodE K mg cs Ex b tb) : GoodE K mg cs Ex (.or a b) (tOrV ta fun σ H Q => tb σ H fun y H1 => ∃ k, y = .bl k ∧ Q y H1) := by
  intro H0 B σ H Hf ρ hB R
  unfold evalE
  cases e1 : evalE cs a ρ with
  | none => trivial
  | some r1 =>
    cases r1 with
    | ex x => exact fun Q q => ga.exc hB R e1 q
    | ok d1 fr1 ρ1 =>
      simp only [EO.bind]
      cases d1 with
      | bool k =>
        cases k with
        | true =>
          intro Q q
          refine ga.run hB R e1 fun v H1 Hf1 S1 rp => ⟨true, rp.bl_inv, ?_⟩
          exact q _ H1 (PostE.ofV S1 (PostV.here S1.rel.ext (.bl true)) sub_l)
        | false =>
          simp only [boolE, Bool.false_eq_true, if_false]
          cases e2 : evalE cs b ρ1 with
          | none => trivial
          | some r2 =>
            cases r2 with
            | ex x => exact fun Q q => ga.run hB R e1 fun v H1 Hf1 S1 rp => ⟨false, rp.bl_inv, gb.exc hB S1.rel e2 q⟩
            | ok d2 fr2 ρ2 =>
              simp only
              cases d2 with
              | bool j =>
                intro Q q
                refine ga.run hB R e1 fun v H1 Hf1 S1 rp => ⟨false, rp.bl_inv, ?_⟩
                refine gb.run hB S1.rel e2 fun w H2 Hf2 S2 rp2 => ?_
                exact ⟨j, rp2.bl_inv, q _ H2 (PostE.ofV (S1.trans S2 sub_l sub_r) (PostV.here S2.rel.ext rp2) sub_id)⟩
              | _ => trivial
      | _ => trivial
/-- a PE with a stronger end wanted -/
theorem PE.dem {X : Cx} {ex : Expr} {t : TE} (h : PE X ex t) : PE X ex (fun σ H Q => t σ H fun y H1 => ∃ k, y = .bl k ∧ Q y H1) := ⟨fun pins s σ H Q I q =>
  thn (h.run pins s σ H _ I q) fun v s1 ⟨x, H1, I1, r1, ⟨_, _, q1⟩⟩ => ⟨x, H1, I1, r1, q1⟩⟩
theorem snd_and {a b : E} (ha : SndE S a) (hb : SndE S b) : SndE S (.and a b) := by
  intro sc Ex F hF ex h
  cases ex with
  | BoolOp o vs p =>
    match o, vs, h with
    | .And, [x, y], h =>
      have h' : (isE S.tb sc a x && isE S.tb sc b y) = true := h
      rw [Bool.and_eq_true] at h'
      obtain ⟨ta, pa, ga⟩ := ha sc Ex F hF x h'.1
      obtain ⟨tb, pb, gb⟩ := hb sc Ex F hF y h'.2
      exact ⟨_, fun X hX => pe_and (pa X hX) (pe_one (PE.dem (pb X hX))), good_and ga gb⟩
    | .And, x :: y :: z :: r, h =>
      have h' : (isE S.tb sc a x && isE S.tb sc b (.BoolOp .And (y :: z :: r) p)) = true := h
      rw [Bool.and_eq_true] at h'
      obtain ⟨ta, pa, ga⟩ := ha sc Ex F hF x h'.1
      obtain ⟨tb, pb, gb⟩ := hb sc Ex F hF _ h'.2
      exact ⟨_, fun X hX => pe_and (pa X hX) (PE.dem (pb X hX)), good_and ga gb⟩
    | .And, [], h => exact no h
    | .And, [_], h => exact no h
    | .Or, _, h => exact no h
  | _ => exact no h
theorem snd_or {a b : E} (ha : SndE S a) (hb : SndE S b) : SndE S (.or a b) := by
  intro sc Ex F hF ex h
  cases ex with
  | BoolOp o vs p =>
    match o, vs, h with
    | .Or, [x, y], h =>
      have h' : (isE S.tb sc a x && isE S.tb sc b y) = true := h
      rw [Bool.and_eq_true] at h'
      obtain ⟨ta, pa, ga⟩ := ha sc Ex F hF x h'.1
      obtain ⟨tb, pb, gb⟩ := hb sc Ex F hF y h'.2
      exact ⟨_, fun X hX => pe_or (pa X hX) (pe_one (PE.dem (pb X hX))), good_or ga gb⟩
    | .Or, x :: y :: z :: r, h =>
      have h' : (isE S.tb sc a x && isE S.tb sc b (.BoolOp .Or (y :: z :: r) p)) = true := h
      rw [Bool.and_eq_true] at h'
      obtain ⟨ta, pa, ga⟩ := ha sc Ex F hF x h'.1
      obtain ⟨tb, pb, gb⟩ := hb sc Ex F hF _ h'.2
      exact ⟨_, fun X hX => pe_or (pa X hX) (PE.dem (pb X hX)), good_or ga gb⟩
    | .Or, [], h => exact no h
    | .Or, [_], h => exact no h
    | .And, _, h => exact no h
  | _ => exact no h
theorem snd_not {a : E} (ha : SndE S a) : SndE S (.not a) := by
  intro sc Ex F hF ex h
  cases ex with
  | UnaryOp o r p =>
    cases o with
    | Not =>
      obtain ⟨ta, pa, ga⟩ := ha sc Ex F hF r h
      refine ⟨_, fun X hX => pe_not (pa X hX), ?_⟩
      intro H0 B σ H Hf ρ hB R
      unfold evalE
      cases e1 : evalE S.cs a ρ with
      | none => trivial
      | some r1 =>
        cases r1 with
        | ex x => exact fun Q q => ga.exc hB R e1 q
        | ok d1 fr1 ρ1 =>
          simp only [EO.bind]
          cases d1 with
          | bool k => exact fun Q q => ga.run hB R e1 fun v H1 Hf1 S1 rp => ⟨k, rp.bl_inv, q _ H1 (PostE.ofV S1 (PostV.here S1.rel.ext (.bl _)) sub_id)⟩
          | _ => trivial
    | _ => exact no h
  | _ => exact no h
theorem snd_ite {c a b : E} (hc : SndT S c) (ha : SndE S a) (hb : SndE S b) : SndE S (.ite c a b) := by
  intro sc Ex F hF ex h
  cases ex with
  | IfExp t x y p =>
    have h' : (isE S.tb sc c t && isE S.tb sc a x && isE S.tb sc b y) = true := h
    simp only [Bool.and_eq_true] at h'
    obtain ⟨⟨h1, h2⟩, h3⟩ := h'
    obtain ⟨tc, pc, gc⟩ := hc sc Ex F hF t h1
    obtain ⟨ta, pa, ga⟩ := ha sc Ex F hF x h2
    obtain ⟨tb, pb, gb⟩ := hb sc Ex F hF y h3
    refine ⟨_, fun X hX => pe_ifExp (pc X hX) (pa X hX) (pb X hX), ?_⟩
    intro H0 B σ H Hf ρ hB R
    unfold evalE
    cases e1 : evalE S.cs c ρ with
    | none => trivial
    | some r1 =>
      cases r1 with
      | ex x => exact fun Q q => gc.exc hB R e1 q
      | ok d1 fr1 ρ1 =>
        simp only [EO.bind]
        cases d1 with
        | bool k =>
          cases k with
          | true =>
            simp only [boolE, if_true]
            cases e2 : evalE S.cs a ρ1 with
            | none => trivial
            | some r2 =>
              cases r2 with
              | ex x => exact fun Q q => gc.run hB R e1 fun H1 Hf1 S1 => iteT (ga.exc hB S1.rel e2 q)
              | ok d2 fr2 ρ2 =>
                intro Q q
                refine gc.run hB R e1 fun H1 Hf1 S1 => iteT (ga.run hB S1.rel e2 fun w H2 Hf2 S2 rp2 => ?_)
                exact q _ H2 (PostE.ofV (S1.trans S2 sub_l fun i hi => sub_r i (sub_l i hi)) (PostV.here S2.rel.ext rp2) sub_id)
          | false =>
            simp only [boolE, Bool.false_eq_true, if_false]
            cases e2 : evalE S.cs b ρ1 with
            | none => trivial
            | some r2 =>
              cases r2 with
              | ex x => exact fun Q q => gc.run hB R e1 fun H1 Hf1 S1 => iteF (gb.exc hB S1.rel e2 q)
              | ok d2 fr2 ρ2 =>
                intro Q q
                refine gc.run hB R e1 fun H1 Hf1 S1 => iteF (gb.run hB S1.rel e2 fun w H2 Hf2 S2 rp2 => ?_)
                exact q _ H2 (PostE.ofV (S1.trans S2 sub_l fun i hi => sub_r i (sub_r i hi)) (PostV.here S2.rel.ext rp2) sub_id)
        | _ => trivial
  | _ => exact no h

/-! ### argument lists -/
theorem snd_nil : SndA S .nil := by
  intro sc Ex F hF exs h
  cases exs with
  | nil =>
    refine ⟨tNil, fun X hX => pa_nil, ?_⟩
    intro H0 B σ H Hf ρ hB R
    exact fun Q q => q [] H ⟨Hf, Step.refl R, .nil⟩
  | cons _ _ => exact no h
theorem snd_cons {e : E} {es : Es} (he : SndE S e) (hs : SndA S es) : SndA S (.cons e es) := by
  intro sc Ex F hF exs h
  cases exs with
  | nil => exact no h
  | cons x xs =>
    have h' : (nostar x && isE S.tb sc e x && isEs S.tb sc es xs) = true := h
    simp only [Bool.and_eq_true] at h'
    obtain ⟨⟨h1, h2⟩, h3⟩ := h'
    obtain ⟨ta, pa, ga⟩ := he sc Ex F hF x h2
    obtain ⟨tb, pb, gb⟩ := hs sc Ex F hF xs h3
    refine ⟨_, fun X hX => pa_cons (pa X hX) (pb X hX) (star_ok h1 _ _), ?_⟩
    intro H0 B σ H Hf ρ hB R
    unfold evalEs
    cases e1 : evalE S.cs e ρ with
    | none => trivial
    | some r1 =>
      cases r1 with
      | ex x => exact fun Q q => ga.exc hB R e1 q
      | ok d1 fr1 ρ1 =>
        simp only [EO.binA]
        cases e2 : evalEs S.cs es ρ1 with
        | none => trivial
        | some r2 =>
          cases r2 with
          | ex x => exact fun Q q => ga.run hB R e1 fun v H1 Hf1 S1 rp => gb.exc hB S1.rel e2 q
          | ok ds ρ2 =>
            intro Q q
            refine ga.run hB R e1 fun v H1 Hf1 S1 rp => gb.run hB S1.rel e2 fun vs H2 Hf2 S2 rp2 => ?_
            exact q _ H2 ⟨Hf2, S1.trans S2 sub_l sub_r, .cons (rp.mono S2.ext) rp2⟩
theorem isEs_star {tb : Tb} {sc : Scope} : ∀ {es : Es} {xs : List Expr}, isEs tb sc es xs = true → xs.all nostar = true ∧ xs.length = lenEs es
  | .nil, [], _ => ⟨rfl, rfl⟩
  | .nil, _ :: _, h => no h
  | .cons _ _, [], h => no h
  | .cons e es, x :: xs, h => by
    have h' : (nostar x && isE tb sc e x && isEs tb sc es xs) = true := h
    simp only [Bool.and_eq_true] at h'
    obtain ⟨h1, h2⟩ := isEs_star h'.2
    refine ⟨by rw [List.all_cons, h'.1.1, h1]; rfl, ?_⟩
    rw [List.length_cons, h2]
    rfl
theorem evalEs_len {cs : List FSem} : ∀ {es : Es} {ρ : Env} {ds : List PD} {ρ' : Env}, evalEs cs es ρ = some (.ok ds ρ') → ds.length = lenEs es
  | .nil, ρ, ds, ρ', h => by
    unfold evalEs at h
    cases h
    rfl
  | .cons e es, ρ, ds, ρ', h => by
    unfold evalEs at h
    cases e1 : evalE cs e ρ with
    | none => simp [e1, EO.binA] at h
    | some r1 =>
      cases r1 with
      | ex x => simp [e1, EO.binA] at h
      | ok d1 fr1 ρ1 =>
        simp only [e1, EO.binA] at h
        cases e2 : evalEs cs es ρ1 with
        | none => simp [e2, AO.binA] at h
        | some r2 =>
          cases r2 with
          | ex x => simp [e2, AO.binA] at h
          | ok ds1 ρ2 =>
            simp only [e2, AO.binA, Option.some.injEq, AO.ok.injEq] at h
            obtain ⟨rfl, rfl⟩ := h
            rw [List.length_cons, evalEs_len e2]
            rfl
end DD

-- part DSnd4
set_option Elab.async false
set_option linter.all false
set_option maxRecDepth 100000
set_option maxHeartbeats 1000000
/-! Soundness: calls, displays, subscripts. -/
namespace DD
open PySem PySem.Spec PyProof.Rows L2
variable {S : Setg}
theorem nmOk1 {x : Str} (h : nmOk x = true) : (x == ("__debug__" : Str)) = false := by
  unfold nmOk at h
  simp only [Bool.and_eq_true, Bool.not_eq_true'] at h
  exact h.1.1
/-- a def called: the promise used at data -/
theorem call_use {K : PySem.W.Frag} {mg : Str → Option Value} {Ex : XK} {H0 : Hp} {B : Bor} {σ : L2.St} {ρ : Env} {H Hf : Hp} {s : FSem} {n j : Nat} {c : Cell} {a : Addr} {vs : List V} {ds : List PD} (R : Rel K H0 B σ H Hf ρ)
    (hl : vs.length = n) (ha : ArgsOk K H Hf s.mu vs ds) (hc : s.mu = true → getC ρ j = some c ∧ c.isMut = true ∧ σ[j]? = some (some (.ref a)) ∧ vs.head? = some (.ref a)) {Q : VK} :
    match s.run ds with
    | none => True
    | some (.ret d fr m) => (∀ v H', PostE K H0 B σ ρ (if s.mu = true then [j] else []) H Hf d fr (if s.mu = true then ρ.set j (some (c.put m)) else ρ) v H' → Q v H') → spF K mg s n vs H Q Ex
    | some (.ex x) => ExW mg H0 B Ex x → spF K mg s n vs H Q Ex := by
  have mua : ∀ b, MuAt s.mu vs b → s.mu = true ∧ b = a := fun b hb => by
    refine ⟨hb.1, ?_⟩
    have e1 := (hc hb.1).2.2.2
    rw [hb.2] at e1
    exact V.ref.inj (Option.some.inj e1)
  cases er : s.run ds with
  | none => trivial
  | some o =>
    cases o with
    | ret d fr m =>
      intro q
      refine ⟨hl, ds, Hf, R.ext, ha, ?_⟩
      rw [er]
      intro v H' Hf' e1 e2 f g ho rs
      have St := R.called (mu := s.mu) (j := j) (c := c) (a := a) (m := m) (fun hm => ⟨(hc hm).1, (hc hm).2.1, (hc hm).2.2.1⟩) e1 e2 (fun b o hb hn => f b o hb fun z => hn (mua b z)) g (fun hm => ho hm _ (hc hm).2.2.2)
      refine q v H' ⟨Hf', St, ?_, fun hfr b eb => ?_⟩
      · cases fr with
        | false => exact rs
        | true =>
          obtain ⟨o1, o2⟩ := rs
          refine ⟨o1, fun b eb => ⟨R.h0 (o2 b eb), fun i x hx hm z => ?_⟩⟩
          obtain ⟨y, hy, hm'⟩ := St.le.mu i x hx hm
          obtain ⟨b', eb', _, ⟨u, hu⟩, _⟩ := R.own hy hm'
          rw [z] at eb'
          cases eb'
          rw [o2 b eb] at hu
          cases hu
      · subst hfr
        exact .inl (rs.2 b eb)
    | ex x =>
      intro q
      refine ⟨hl, ds, Hf, R.ext, ha, ?_⟩
      rw [er]
      intro C H' hC f
      refine q C H' hC fun b o h0 hb => f b o (R.ent b o h0 hb) fun z => ?_
      obtain ⟨hm, eb⟩ := mua b z
      obtain ⟨h1, h2, h3, _⟩ := hc hm
      obtain ⟨b', eb', _, _, _, hh⟩ := R.own h1 h2
      rw [h3] at eb'
      cases eb'
      subst eb
      rcases hh with hh | hh
      · rw [h0] at hh
        cases hh
      · exact hb _ hh
theorem trueE {K : PySem.W.Frag} {mg : Str → Option Value} {cs : List FSem} {Ex : XK} {e : E} : GoodE K mg cs Ex e (fun _ _ _ => True) := by
  intro H0 B σ H Hf ρ hB R
  cases evalE cs e ρ with
  | none => trivial
  | some r => cases r <;> exact fun _ _ => trivial
theorem snd_call (k : Nat) {as : Es} (ha : SndA S as) : SndE S (.call k as) := by
  intro sc Ex F hF ex h
  cases ex with
  | Call f es kw p =>
    cases f with
    | Name x px =>
      cases es with
      | nil => exact no h
      | cons e es =>
        cases kw with
        | cons _ _ => exact no h
        | nil =>
          have h' : (decide (S.tb.cn[k]? = some (x, false, lenEs as)) && glB sc x && nmOk x && isEs S.tb sc as (e :: es)) = true := h
          simp only [Bool.and_eq_true, decide_eq_true_eq] at h'
          obtain ⟨⟨⟨h1, h2⟩, h3⟩, h4⟩ := h'
          obtain ⟨ta, pa, ga⟩ := ha sc Ex F hF _ h4
          obtain ⟨hst, hln⟩ := isEs_star h4
          rw [List.all_cons, Bool.and_eq_true] at hst
          cases hs : S.cs[k]? with
          | none =>
            refine ⟨fun _ _ _ => True, fun X hX => ?_, trueE⟩
            obtain ⟨s, g, e1, _⟩ := (hF X hX).fns k x false _ h1
            rw [hs] at e1
            cases e1
          | some s =>
            refine ⟨tCall (spF S.K S.mg s (lenEs as)) [] Ex ta, fun X hX => ?_, ?_⟩
            · have C := hF X hX
              obtain ⟨s', g, e1, e2, e3, e4, e5, e6, e7, e8⟩ := C.fns k x false _ h1
              rw [hs] at e1
              cases e1
              exact pe_call e8 C.room (C.gl h2) (by rw [C.hmg]; exact e4) e5 e6 .nil C.pass (pa X hX) (nmOk1 h3) (star_ok hst.1 _ _) (star_none hst.2 _ _)
            · intro H0 B σ H Hf ρ hB R
              unfold evalE
              cases e1 : evalEs S.cs as ρ with
              | none => trivial
              | some r1 =>
                cases r1 with
                | ex x => exact fun Q q => ga.exc hB R e1 q
                | ok ds ρ1 =>
                  simp only [AO.bind, callE, hs]
                  by_cases hm : s.mu = false
                  · rw [if_pos hm]
                    have hlen := evalEs_len e1
                    cases er : s.run ds with
                    | none => trivial
                    | some o =>
                      cases o with
                      | ret d fr m =>
                        intro Q q
                        refine ga.run hB R e1 fun vs H1 Hf1 S1 rp => ?_
                        have := call_use (mg := S.mg) (Ex := Ex) (s := s) (n := lenEs as) (j := 0) (c := .sh .none) (a := 0) (vs := vs) (ds := ds) S1.rel (by rw [rp.length, hlen]) (by unfold ArgsOk; rw [hm]; exact rp) (fun z => by rw [hm] at z; cases z) (Q := Q)
                        rw [er] at this
                        simp only [hm, Bool.false_eq_true, if_false] at this
                        rw [List.append_nil]
                        exact this fun v H' pe => q v H' (PostE.after S1 pe sub_id sub_nil)
                      | ex y =>
                        intro Q q
                        refine ga.run hB R e1 fun vs H1 Hf1 S1 rp => ?_
                        have := call_use (mg := S.mg) (Ex := Ex) (s := s) (n := lenEs as) (j := 0) (c := .sh .none) (a := 0) (vs := vs) (ds := ds) S1.rel (by rw [rp.length, hlen]) (by unfold ArgsOk; rw [hm]; exact rp) (fun z => by rw [hm] at z; cases z) (Q := Q)
                        rw [er] at this
                        rw [List.append_nil]
                        exact this q
                  · rw [if_neg hm]
                    trivial
    | _ => exact no h
  | _ => exact no h
theorem snd_callm (k v : Nat) {as : Es} (ha : SndA S as) : SndE S (.callm k v as) := by
  intro sc Ex F hF ex h
  cases ex with
  | Call f es kw p =>
    cases f with
    | Name x px =>
      cases es with
      | nil => exact no h
      | cons e es =>
        cases e with
        | Name y py =>
          cases kw with
          | cons _ _ => exact no h
          | nil =>
            have h' : (decide (S.tb.cn[k]? = some (x, true, lenEs as + 1)) && glB sc x && nmOk x && slotB S.tb sc v y && isEs S.tb sc as es) = true := h
            simp only [Bool.and_eq_true, decide_eq_true_eq] at h'
            obtain ⟨⟨⟨⟨h1, h2⟩, h3⟩, h5⟩, h4⟩ := h'
            obtain ⟨ta, pa, ga⟩ := ha sc Ex F hF _ h4
            obtain ⟨hst, hln⟩ := isEs_star h4
            cases hs : S.cs[k]? with
            | none =>
              refine ⟨fun _ _ _ => True, fun X hX => ?_, trueE⟩
              obtain ⟨s, g, e1, _⟩ := (hF X hX).fns k x true _ h1
              rw [hs] at e1
              cases e1
            | some s =>
              refine ⟨tCall (spF S.K S.mg s (lenEs as + 1)) [] Ex (tCons (tVar v) ta), fun X hX => ?_, ?_⟩
              · have C := hF X hX
                obtain ⟨s', g, e1, e2, e3, e4, e5, e6, e7, e8⟩ := C.fns k x true _ h1
                rw [hs] at e1
                cases e1
                exact pe_call e8 C.room (C.gl h2) (by rw [C.hmg]; exact e4) e5 e6 .nil C.pass (pa_cons (C.slot h5) (pa X hX) rfl) (nmOk1 h3) rfl (star_none hst _ _)
              · intro H0 B σ H Hf ρ hB R
                unfold evalE
                cases h0 : getC ρ v with
                | none => trivial
                | some c0 =>
                  obtain ⟨w, hw, _⟩ := R.get v c0 h0
                  simp only
                  cases e1 : evalEs S.cs as ρ with
                  | none => trivial
                  | some r1 =>
                    cases r1 with
                    | ex z => exact fun Q q => ⟨w, hw, ga.exc hB R e1 q⟩
                    | ok ds ρ1 =>
                      simp only [AO.bind, callmE, hs]
                      cases hc : getC ρ1 v with
                      | none => trivial
                      | some c =>
                        simp only
                        by_cases hm : s.mu = true ∧ c.isMut = true
                        · rw [if_pos hm]
                          have hlen := evalEs_len e1
                          cases er : s.run (c.dat :: ds) with
                          | none => trivial
                          | some o =>
                            cases o with
                            | ret d fr m =>
                              intro Q q
                              refine ⟨w, hw, ga.run hB R e1 fun vs H1 Hf1 S1 rp => ?_⟩
                              obtain ⟨a, ea, _, _, o, _⟩ := S1.rel.own hc hm.2
                              have ew : w = .ref a := by
                                rw [hw] at ea
                                cases ea
                                rfl
                              have := call_use (mg := S.mg) (Ex := Ex) (s := s) (n := lenEs as + 1) (j := v) (c := c) (a := a) (vs := w :: vs) (ds := c.dat :: ds) S1.rel (by rw [List.length_cons, rp.length, hlen])
                                (by
                                  unfold ArgsOk
                                  rw [if_pos hm.1]
                                  exact ⟨w, vs, c.dat, ds, rfl, rfl, by rw [ew]; exact o, rp⟩) (fun _ => ⟨hc, hm.2, ea, by rw [ew]; rfl⟩) (Q := Q)
                              rw [er] at this
                              simp only [hm.1, if_true] at this
                              rw [List.append_nil]
                              exact this fun v' H' pe => q v' H' (PostE.after S1 pe (fun i hi => List.mem_cons_of_mem _ hi) (fun i hi => by
                                have : i = v := by simpa using hi
                                rw [this]
                                exact List.mem_cons_self))
                            | ex y =>
                              intro Q q
                              refine ⟨w, hw, ga.run hB R e1 fun vs H1 Hf1 S1 rp => ?_⟩
                              obtain ⟨a, ea, _, _, o, _⟩ := S1.rel.own hc hm.2
                              have ew : w = .ref a := by
                                rw [hw] at ea
                                cases ea
                                rfl
                              have := call_use (mg := S.mg) (Ex := Ex) (s := s) (n := lenEs as + 1) (j := v) (c := c) (a := a) (vs := w :: vs) (ds := c.dat :: ds) S1.rel (by rw [List.length_cons, rp.length, hlen])
                                (by
                                  unfold ArgsOk
                                  rw [if_pos hm.1]
                                  exact ⟨w, vs, c.dat, ds, rfl, rfl, by rw [ew]; exact o, rp⟩) (fun _ => ⟨hc, hm.2, ea, by rw [ew]; rfl⟩) (Q := Q)
                              rw [er] at this
                              rw [List.append_nil]
                              exact this q
                        · rw [if_neg hm]
                          trivial
        | _ => exact no h
    | _ => exact no h
  | _ => exact no h
end DD

-- part DSnd5
set_option Elab.async false
set_option linter.all false
set_option maxRecDepth 100000
set_option maxHeartbeats 1000000
/-! Soundness: built-ins, displays, subscripts. -/
namespace DD
open PySem PySem.Spec PyProof.Rows L2
variable {S : Setg}
theorem bltNm_mem (f : Bt) : bltNm f ∈ bltNames := by cases f <;> decide
theorem bltNm_ok (f : Bt) : bltNm f ≠ "__name__" ∧ (bltNm f == ("__debug__" : Str)) = false := by cases f <;> decide
theorem tyNm_mem (f : Ty) : tyNm f ∈ bltNames := by cases f <;> decide
theorem tyNm_ok (f : Ty) : tyNm f ≠ "__name__" ∧ (tyNm f == ("__debug__" : Str)) = false := by cases f <;> decide
theorem snd_blt (f : Bt) {as : Es} (ha : SndA S as) : SndE S (.blt f as) := by
  intro sc Ex F hF ex h
  cases ex with
  | Call g es kw p =>
    cases g with
    | Name x px =>
      cases es with
      | nil => exact no h
      | cons e es =>
        cases kw with
        | cons _ _ => exact no h
        | nil =>
          have h' : (decide (x = bltNm f) && glB sc x && isEs S.tb sc as (e :: es)) = true := h
          simp only [Bool.and_eq_true, decide_eq_true_eq] at h'
          obtain ⟨⟨rfl, h2⟩, h4⟩ := h'
          obtain ⟨ta, pa, ga⟩ := ha sc Ex F hF _ h4
          obtain ⟨hst, hln⟩ := isEs_star h4
          rw [List.all_cons, Bool.and_eq_true] at hst
          refine ⟨tCB (rBlt S.K f) ta, fun X hX => ?_, ?_⟩
          · have C := hF X hX
            have cr := blt_ok (X := X) C.calm (by have := C.units; omega) f
            rw [C.hK] at cr
            have gl := C.gl h2
            have nb := C.nob (bltNm_mem f)
            have bo := bltBoot f
            have o1 := (bltNm_ok f).1
            have o2 := (bltNm_ok f).2
            cases hv : bltVal f with
            | builtin id =>
              rw [hv] at cr bo
              exact pe_callB cr gl nb bo (pa X hX) o1 o2 (star_ok hst.1 _ _) (star_none hst.2 _ _)
            | type T =>
              rw [hv] at cr bo
              exact pe_callTy cr gl nb bo (pa X hX) o1 o2 (star_ok hst.1 _ _) (star_none hst.2 _ _)
            | _ => cases f <;> cases hv
          · intro H0 B σ H Hf ρ hB R
            unfold evalE
            cases e1 : evalEs S.cs as ρ with
            | none => trivial
            | some r1 =>
              cases r1 with
              | ex x => exact fun Q q => ga.exc hB R e1 q
              | ok ds ρ1 =>
                simp only [AO.bind, outE]
                cases e2 : bltV f ds with
                | none => trivial
                | some dr =>
                  obtain ⟨d, fr⟩ := dr
                  intro Q q
                  refine ga.run hB R e1 fun vs H1 Hf1 S1 rp => ?_
                  exact blt_sound S.K f vs H1 Hf1 ds d fr S1.rel.ext rp e2 Q fun v H' pv => q v H' (PostE.ofV S1 pv sub_id)
    | _ => exact no h
  | _ => exact no h
def tTys : List Ty → TA
  | [] => tNil
  | t :: ts => tCons (tC (.ty (tyS t))) (tTys ts)
theorem pa_tys {sc : Scope} {Ex : XK} {X : Cx} (C : S.ctx sc Ex X) : ∀ {ts : List Ty} {es : List Expr}, isTys ts es = true → allGl sc es = true → PA X es (tTys ts)
  | [], [], _, _ => pa_nil
  | [], _ :: _, h, _ => no h
  | _ :: _, [], h, _ => no h
  | t :: ts, e :: es, h, g => by
    cases e with
    | Name x p =>
      have h' : (decide (x = tyNm t) && isTys ts es) = true := h
      have g' : (glB sc x && allGl sc es) = true := g
      simp only [Bool.and_eq_true, decide_eq_true_eq] at h' g'
      obtain ⟨rfl, h2⟩ := h'
      exact pa_cons (pe_bltn (C.gl g'.1) (C.nob (tyNm_mem t)) (tyBoot t) rfl (tyNm_ok t).1 (tyNm_ok t).2) (pa_tys C h2 g'.2) rfl
    | _ => exact no h
theorem tTys_run : ∀ (ts : List Ty) {σ : L2.St} {H : Hp} {Q : List V → Hp → Prop}, Q (ts.map fun t => V.ty (tyS t)) H → tTys ts σ H Q
  | [], _, _, _, q => q
  | t :: ts, σ, H, Q, q => tTys_run ts (Q := fun xs H2 => Q (.ty (tyS t) :: xs) H2) q
theorem snd_isi {a : E} (ts : List Ty) (ha : SndE S a) : SndE S (.isi a ts) := by
  intro sc Ex F hF ex h
  cases ex with
  | Call g es kw p =>
    cases g with
    | Name x px =>
      match es, kw, h with
      | [e, t], [], h =>
        have h' : (decide (x = ("isinstance" : Str)) && glB sc x && nostar e && isE S.tb sc a e && isTy1 sc ts t) = true := h
        simp only [Bool.and_eq_true, decide_eq_true_eq] at h'
        obtain ⟨⟨⟨⟨rfl, h2⟩, h3⟩, h4⟩, h5⟩ := h'
        obtain ⟨ta, pa, ga⟩ := ha sc Ex F hF _ h4
        have bo : bootBuiltins ("isinstance" : Str) = some (.builtin "isinstance") := by decide +kernel
        cases t with
        | Name y py =>
          match ts, h5 with
          | [t], h5 =>
            have h6 : (decide (y = tyNm t) && glB sc y) = true := h5
            simp only [Bool.and_eq_true, decide_eq_true_eq] at h6
            obtain ⟨rfl, h7⟩ := h6
            refine ⟨tCB (rIsi1 S.K t) (tCons ta (tCons (tC (.ty (tyS t))) tNil)), fun X hX => ?_, ?_⟩
            · have C := hF X hX
              have cr := call_isi1 (X := X) t
              rw [C.hK] at cr
              refine pe_callB cr (C.gl h2) (C.nob (by decide)) bo (pa_cons (pa X hX) (pa_cons (pe_bltn (C.gl h7) (C.nob (tyNm_mem t)) (tyBoot t) rfl (tyNm_ok t).1 (tyNm_ok t).2) pa_nil rfl) (star_ok h3 _ _)) (by decide) (by decide) (star_ok h3 _ _) rfl
            · intro H0 B σ H Hf ρ hB R
              unfold evalE
              cases e1 : evalE S.cs a ρ with
              | none => trivial
              | some r1 =>
                cases r1 with
                | ex x => exact fun Q q => ga.exc hB R e1 q
                | ok d fr ρ1 =>
                  intro Q q
                  refine ga.run hB R e1 fun v H1 Hf1 S1 rp => ⟨v, d, rfl, rp.mono S1.rel.ext, ?_⟩
                  have := q _ H1 (PostE.ofV S1 (PostV.here S1.rel.ext (.bl ([t].any (isTy d)))) sub_id)
                  simpa using this
          | [], h5 => exact no h5
          | _ :: _ :: _, h5 => exact no h5
        | Tuple ys k py =>
          have h6 : (isTys ts ys && allGl sc ys && decide (ts.length ≤ 5)) = true := h5
          simp only [Bool.and_eq_true, decide_eq_true_eq] at h6
          obtain ⟨⟨h7, h8⟩, h9⟩ := h6
          refine ⟨tCB (rIsiN S.K ts) (tCons ta (tCons (tTup (tTys ts)) tNil)), fun X hX => ?_, ?_⟩
          · have C := hF X hX
            have cr := call_isiN (X := X) ts
            rw [C.hK] at cr
            have pt : PE X (.Tuple ys k py) (tTup (tTys ts)) := pe_tup (pa_tys C h7 h8)
            exact pe_callB cr (C.gl h2) (C.nob (by decide)) bo (pa_cons (pa X hX) (pa_cons pt pa_nil rfl) (star_ok h3 _ _)) (by decide) (by decide) (star_ok h3 _ _) rfl
          · intro H0 B σ H Hf ρ hB R
            unfold evalE
            cases e1 : evalE S.cs a ρ with
            | none => trivial
            | some r1 =>
              cases r1 with
              | ex x => exact fun Q q => ga.exc hB R e1 q
              | ok d fr ρ1 =>
                intro Q q
                refine ga.run hB R e1 fun v H1 Hf1 S1 rp => ?_
                refine tTys_run ts ⟨by rw [List.length_map]; exact lim_line (Nat.le_trans h9 (by decide)), fun p n => ⟨v, d, p, rfl, upd_same, ?_, ?_⟩⟩
                · exact rp.mono (Same.trans S1.rel.ext (upd_pair (o := .tup (ts.map fun t => V.ty (tyS t))) S1.rel.ext n).2.2.1)
                · have pv : PostV S.K H1 Hf1 (.bool (ts.any (isTy d))) false (.bl (ts.any (isTy d))) (upd H1 p (.tup (ts.map fun t => V.ty (tyS t)))) := by
                    obtain ⟨s1, s2, s3, s4⟩ := upd_pair (o := .tup (ts.map fun t => V.ty (tyS t))) S1.rel.ext n
                    exact ⟨_, s1, s2, s3, s4, .bl _⟩
                  exact q _ _ (PostE.ofV S1 pv sub_id)
        | _ => exact no h5
      | [], _, h => exact no h
      | [_], _, h => exact no h
      | [_, _], _ :: _, h => exact no h
      | _ :: _ :: _ :: _, _, h => exact no h
    | _ => exact no h
  | _ => exact no h
end DD

-- part DSnd6
set_option Elab.async false
set_option linter.all false
set_option maxRecDepth 100000
set_option maxHeartbeats 1000000
/-! Soundness: subscripts, slices, displays. -/
namespace DD
open PySem PySem.Spec PyProof.Rows L2
variable {S : Setg}
theorem snd_ix {a i : E} (ha : SndE S a) (hi : SndE S i) : SndE S (.ix a i) := by
  intro sc Ex F hF ex h
  cases ex with
  | Subscript e s p =>
    have h' : (noslice s && isE S.tb sc a e && isE S.tb sc i s) = true := h
    simp only [Bool.and_eq_true] at h'
    obtain ⟨⟨h1, h2⟩, h3⟩ := h'
    obtain ⟨ta, pa, ga⟩ := ha sc Ex F hF _ h2
    obtain ⟨ti, pi, gi⟩ := hi sc Ex F hF _ h3
    refine ⟨tOp (rIxA S.K) ta ti, fun X hX => ?_, ?_⟩
    · have C := hF X hX
      have := ix_any (X := X)
      rw [C.hK] at this
      exact pe_ix this (pa X hX) (pi X hX) (plainIx_ok h1)
    · intro H0 B σ H Hf ρ hB R
      unfold evalE
      cases e1 : evalE S.cs a ρ with
      | none => trivial
      | some r1 =>
        cases r1 with
        | ex x => exact fun Q q => ga.exc hB R e1 q
        | ok d1 fr1 ρ1 =>
          simp only [EO.bind]
          cases e2 : evalE S.cs i ρ1 with
          | none => trivial
          | some r2 =>
            cases r2 with
            | ex x => exact fun Q q => ga.run hB R e1 fun v H1 Hf1 S1 rp => gi.exc hB S1.rel e2 q
            | ok d2 fr2 ρ2 =>
              simp only
              cases e3 : ixV d1 d2 with
              | none => trivial
              | some d =>
                intro Q q
                refine ga.run hB R e1 fun v H1 Hf1 S1 rp => gi.run hB S1.rel e2 fun w H2 Hf2 S2 rp2 => ?_
                exact ix_sound S.K S2.rel.ext ((rp.mono S2.ext).top S2.rel.ext) rp2 e3 Q fun x rx => q x H2 (PostE.ofV (S1.trans S2 sub_l sub_r) (PostV.here S2.rel.ext rx) sub_id)
  | _ => exact no h
theorem cell_top {K : PySem.W.Frag} {H0 : Hp} {B : Bor} {σ : L2.St} {ρ : Env} {H Hf : Hp} {i : Nat} {c : Cell} (R : Rel K H0 B σ H Hf ρ) (h : getC ρ i = some c) : ∃ v, σ[i]? = some (some v) ∧ Top K H Hf v c.dat ∧ ∀ ds, c.dat = .tuple ds → Rp K Hf v c.dat := by
  obtain ⟨v, hv, ok⟩ := R.get i c h
  refine ⟨v, hv, ?_⟩
  cases c with
  | sh d => exact ⟨Rp.top R.ext ok, fun _ _ => ok⟩
  | ow d =>
    refine ⟨ok.1.top, fun ds e => ?_⟩
    have e' : d = .tuple ds := e
    rw [e'] at ok
    cases ok.1
  | bo d =>
    refine ⟨ok.1.top, fun ds e => ?_⟩
    have e' : d = .tuple ds := e
    rw [e'] at ok
    cases ok.1
theorem snd_ixv (n : Nat) {i : E} (hi : SndE S i) : SndE S (.ixv n i) := by
  intro sc Ex F hF ex h
  cases ex with
  | Subscript e s p =>
    cases e with
    | Name x px =>
      have h' : (slotB S.tb sc n x && noslice s && isE S.tb sc i s) = true := h
      simp only [Bool.and_eq_true] at h'
      obtain ⟨⟨h1, h2⟩, h3⟩ := h'
      obtain ⟨ti, pi, gi⟩ := hi sc Ex F hF _ h3
      refine ⟨tOp (rIxA S.K) (tVar n) ti, fun X hX => ?_, ?_⟩
      · have C := hF X hX
        have := ix_any (X := X)
        rw [C.hK] at this
        exact pe_ix this (C.slot h1) (pi X hX) (plainIx_ok h2)
      · intro H0 B σ H Hf ρ hB R
        unfold evalE
        cases h0 : getC ρ n with
        | none => trivial
        | some c0 =>
          obtain ⟨w, hw, _⟩ := R.get n c0 h0
          simp only
          cases e2 : evalE S.cs i ρ with
          | none => trivial
          | some r2 =>
            cases r2 with
            | ex x => exact fun Q q => ⟨w, hw, gi.exc hB R e2 q⟩
            | ok d2 fr2 ρ2 =>
              simp only [EO.bind]
              cases hc : getC ρ2 n with
              | none => trivial
              | some c =>
                simp only
                cases e3 : ixV c.dat d2 with
                | none => trivial
                | some d =>
                  intro Q q
                  refine ⟨w, hw, gi.run hB R e2 fun y H2 Hf2 S2 rp2 => ?_⟩
                  obtain ⟨w', hw', tp, _⟩ := cell_top S2.rel hc
                  rw [hw] at hw'
                  cases hw'
                  exact ix_sound S.K S2.rel.ext tp rp2 e3 Q fun x rx => q x H2 (PostE.ofV S2 (PostV.here S2.rel.ext rx) sub_id)
    | _ => exact no h
  | _ => exact no h
/-- a part of a slice -/
def GoodO (K : PySem.W.Frag) (mg : Str → Option Value) (cs : List FSem) (Ex : XK) (e : E) (t : TO) : Prop := ∀ H0 B σ H Hf ρ, BOk B → Rel K H0 B σ H Hf ρ →
  if isNop e = true then ∀ Q : Option Int → Hp → Prop, Q none H → t σ H Q else
  match evalE cs e ρ with
  | some (.ok (.int i) _ ρ') => ∀ Q : Option Int → Hp → Prop, (∀ H' Hf', Step K H0 B σ (mutsE e) ρ H Hf ρ' H' Hf' → Q (some i) H') → t σ H Q
  | some (.ex x) => ∀ Q : Option Int → Hp → Prop, ExW mg H0 B Ex x → t σ H Q
  | _ => True
def isO (tb : Tb) (sc : Scope) (lo : E) (l : Option Expr) : Bool := match l with
    | none => isNop lo
    | some x => isE tb sc lo x
theorem snd_o {lo : E} (hl : SndE S lo) {sc : Scope} {Ex : XK} {F : Fam} (hF : ∀ X, F X → S.ctx sc Ex X) {l : Option Expr} (h : isO S.tb sc lo l = true) : ∃ t : TO, (∀ X, F X → PO X l t) ∧ GoodO S.K S.mg S.cs Ex lo t := by
  cases l with
  | none =>
    cases lo with
    | nop =>
      refine ⟨tNoPart, fun X hX => po_none, ?_⟩
      intro H0 B σ H Hf ρ hB R
      simp only [isNop, if_true]
      exact fun Q q => q
    | _ => exact no h
  | some x =>
    have h' : isE S.tb sc lo x = true := h
    obtain ⟨t, p, g⟩ := hl sc Ex F hF x h'
    refine ⟨fun σ H Q => t σ H fun y H1 => ∃ i, y = .int i ∧ Q (some i) H1, fun X hX => po_some (p X hX), ?_⟩
    intro H0 B σ H Hf ρ hB R
    have hno : isNop lo = false := by
      cases lo with
      | nop => cases x <;> exact no h'
      | _ => rfl
    simp only [hno, Bool.false_eq_true, if_false]
    cases e1 : evalE S.cs lo ρ with
    | none => trivial
    | some r1 =>
      cases r1 with
      | ex x => exact fun Q q => g.exc hB R e1 q
      | ok d fr ρ1 =>
        cases d with
        | int i => exact fun Q q => g.run hB R e1 fun v H1 Hf1 S1 rp => ⟨i, rp.int_inv, q H1 Hf1 S1⟩
        | _ => trivial
end DD

-- part DSnd7
set_option Elab.async false
set_option linter.all false
set_option maxRecDepth 100000
set_option maxHeartbeats 1000000
/-! Soundness: slices, displays, places. -/
namespace DD
open PySem PySem.Spec PyProof.Rows L2
section
variable {K : PySem.W.Frag} {mg : Str → Option Value} {cs : List FSem} {Ex : XK} {H0 : Hp} {B : Bor} {σ : L2.St} {ms ms1 ms2 : List Nat} {ρ ρ1 ρ2 : Env} {H Hf H1 Hf1 H2 Hf2 : Hp} {d : PD} {fr : Bool} {v : V}
def OutE (K : PySem.W.Frag) (mg : Str → Option Value) (Ex : XK) (H0 : Hp) (B : Bor) (σ : L2.St) (ρ : Env) (ms : List Nat) (H Hf : Hp) (t : TE) : EO → Prop
  | .ok d fr ρ' => ∀ Q : VK, (∀ v H', PostE K H0 B σ ρ ms H Hf d fr ρ' v H' → Q v H') → t σ H Q
  | .ex x => ∀ Q : VK, ExW mg H0 B Ex x → t σ H Q
theorem GoodE.of {e : E} {t : TE} (h : ∀ H0 B σ H Hf ρ, BOk B → Rel K H0 B σ H Hf ρ → ∀ r, evalE cs e ρ = some r → OutE K mg Ex H0 B σ ρ (mutsE e) H Hf t r) : GoodE K mg cs Ex e t := by
  intro H0 B σ H Hf ρ hB R
  have := h H0 B σ H Hf ρ hB R
  cases e1 : evalE cs e ρ with
  | none => trivial
  | some r => cases r <;> exact this _ e1
theorem GoodE.out {e : E} {t : TE} (g : GoodE K mg cs Ex e t) (hB : BOk B) (R : Rel K H0 B σ H Hf ρ) {r : EO} (h : evalE cs e ρ = some r) : OutE K mg Ex H0 B σ ρ (mutsE e) H Hf t r := by
  have := g H0 B σ H Hf ρ hB R
  rw [h] at this
  cases r <;> exact this
theorem bind_ok {r0 : Option EO} {k : PD → Env → Option EO} {r : EO} (h : EO.bind r0 k = some r) : (∃ x, r0 = some (.ex x) ∧ r = .ex x) ∨ ∃ d fr ρ1, r0 = some (.ok d fr ρ1) ∧ k d ρ1 = some r := by
  cases r0 with
  | none => cases h
  | some r0 =>
    cases r0 with
    | ex x =>
      cases h
      exact .inl ⟨x, rfl, rfl⟩
    | ok d fr ρ1 => exact .inr ⟨d, fr, ρ1, rfl, h⟩
theorem bindA_ok {r0 : Option AO} {k : List PD → Env → Option EO} {r : EO} (h : AO.bind r0 k = some r) : (∃ x, r0 = some (.ex x) ∧ r = .ex x) ∨ ∃ d ρ1, r0 = some (.ok d ρ1) ∧ k d ρ1 = some r := by
  cases r0 with
  | none => cases h
  | some r0 =>
    cases r0 with
    | ex x =>
      cases h
      exact .inl ⟨x, rfl, rfl⟩
    | ok d ρ1 => exact .inr ⟨d, ρ1, rfl, h⟩
theorem GoodO.run {lo : E} {t : TO} {k : Option Int → Env → Option EO} {r : EO} (g : GoodO K mg cs Ex lo t) (hB : BOk B) (R : Rel K H0 B σ H Hf ρ) (h : optI (isNop lo) ρ (evalE cs lo ρ) k = some r) :
    (∃ o ρ1, k o ρ1 = some r ∧ ∀ Q : Option Int → Hp → Prop, (∀ H' Hf', Step K H0 B σ (mutsE lo) ρ H Hf ρ1 H' Hf' → Q o H') → t σ H Q) ∨ (∃ x, r = .ex x ∧ ∀ Q : Option Int → Hp → Prop, ExW mg H0 B Ex x → t σ H Q) := by
  have := g H0 B σ H Hf ρ hB R
  unfold optI at h
  cases hn : isNop lo with
  | true =>
    rw [hn] at this h
    simp only [if_true] at this h
    exact .inl ⟨none, ρ, h, fun Q q => this Q (q H Hf (Step.refl R))⟩
  | false =>
    rw [hn] at this h
    simp only [Bool.false_eq_true, if_false] at this h
    cases e1 : evalE cs lo ρ with
    | none => simp [e1] at h
    | some r1 =>
      rw [e1] at this h
      cases r1 with
      | ex x =>
        simp only [Option.some.injEq] at h
        exact .inr ⟨x, h.symm, this⟩
      | ok d fr ρ1 =>
        cases d with
        | int i => exact .inl ⟨some i, ρ1, h, this⟩
        | _ => simp at h
end
variable {S : Setg}
theorem snd_slc {a lo hi : E} (ha : SndE S a) (hl : SndE S lo) (hh : SndE S hi) : SndE S (.slc a lo hi) := by
  intro sc Ex F hF ex h
  cases ex with
  | Subscript e s p =>
    cases s with
    | Slice l u st ps =>
      cases st with
      | some _ => exact no h
      | none =>
        have h' : (isE S.tb sc a e && isO S.tb sc lo l && isO S.tb sc hi u) = true := by
          cases l <;> cases u <;> exact h
        simp only [Bool.and_eq_true] at h'
        obtain ⟨⟨h1, h2⟩, h3⟩ := h'
        obtain ⟨ta, pa, ga⟩ := ha sc Ex F hF _ h1
        obtain ⟨tl, pl, gl⟩ := snd_o hl hF h2
        obtain ⟨tu, pu, gu⟩ := snd_o hh hF h3
        refine ⟨tSl (rSlAny S.K) ta tl tu, fun X hX => ?_, ?_⟩
        · have C := hF X hX
          have := sl_any (X := X)
          rw [C.hK] at this
          exact pe_slice this (pa X hX) (pl X hX) (pu X hX)
        · refine GoodE.of fun H0 B σ H Hf ρ hB R r hr => ?_
          unfold evalE at hr
          rcases bind_ok hr with ⟨x, e1, rfl⟩ | ⟨d1, f1, ρ1, e1, hr⟩
          · exact fun Q q => ga.exc hB R e1 q
          · have go : ∀ Q : VK, (∀ v H1 Hf1, Step S.K H0 B σ (mutsE a) ρ H Hf ρ1 H1 Hf1 → Rp S.K Hf1 v d1 → tl σ H1 fun l H2 => tu σ H2 fun u H3 => rSlAny S.K v l u H3 Q) → tSl (rSlAny S.K) ta tl tu σ H Q := fun Q q => ga.run hB R e1 q
            cases r with
            | ex x =>
              intro Q q
              refine go Q fun v H1 Hf1 S1 rp => ?_
              rcases gl.run hB S1.rel hr with ⟨o, ρ2, hr2, run2⟩ | ⟨x', ex', run2⟩
              · refine run2 _ fun H2 Hf2 S2 => ?_
                rcases gu.run hB S2.rel hr2 with ⟨o2, ρ3, hr3, run3⟩ | ⟨x', ex', run3⟩
                · unfold outE at hr3
                  split at hr3 <;> cases hr3
                · cases ex'
                  exact run3 _ q
              · cases ex'
                exact run2 _ q
            | ok d fr ρ' =>
              intro Q q
              refine go Q fun v H1 Hf1 S1 rp => ?_
              rcases gl.run hB S1.rel hr with ⟨o, ρ2, hr2, run2⟩ | ⟨x', ex', run2⟩
              · refine run2 _ fun H2 Hf2 S2 => ?_
                rcases gu.run hB S2.rel hr2 with ⟨o2, ρ3, hr3, run3⟩ | ⟨x', ex', run3⟩
                · refine run3 _ fun H3 Hf3 S3 => ?_
                  unfold outE at hr3
                  split at hr3
                  · rename_i dd frr esl
                    cases hr3
                    have r3 := (rp.mono S2.ext).mono S3.ext
                    refine sl_sound S.K S3.rel.ext (r3.top S3.rel.ext) (fun _ _ => r3) esl Q fun w H4 pv => q w H4 (PostE.ofV (S1.trans (S2.trans S3 sub_l sub_r (ms := mutsE lo ++ mutsE hi)) sub_l sub_r) pv sub_id)
                  · cases hr3
                · cases ex'
              · cases ex'
    | _ => exact no h
  | _ => exact no h
theorem snd_slv (n : Nat) {lo hi : E} (hl : SndE S lo) (hh : SndE S hi) : SndE S (.slv n lo hi) := by
  intro sc Ex F hF ex h
  cases ex with
  | Subscript e s p =>
    cases e with
    | Name x px =>
      cases s with
      | Slice l u st ps =>
        cases st with
        | some _ => exact no h
        | none =>
          have h' : (slotB S.tb sc n x && isO S.tb sc lo l && isO S.tb sc hi u) = true := by
            cases l <;> cases u <;> exact h
          simp only [Bool.and_eq_true] at h'
          obtain ⟨⟨h1, h2⟩, h3⟩ := h'
          obtain ⟨tl, pl, gl⟩ := snd_o hl hF h2
          obtain ⟨tu, pu, gu⟩ := snd_o hh hF h3
          refine ⟨tSl (rSlAny S.K) (tVar n) tl tu, fun X hX => ?_, ?_⟩
          · have C := hF X hX
            have := sl_any (X := X)
            rw [C.hK] at this
            exact pe_slice this (C.slot h1) (pl X hX) (pu X hX)
          · refine GoodE.of fun H0 B σ H Hf ρ hB R r hr => ?_
            unfold evalE at hr
            cases h0 : getC ρ n with
            | none => simp [h0] at hr
            | some c0 =>
              simp only [h0] at hr
              obtain ⟨w, hw, _⟩ := R.get n c0 h0
              rcases gl.run hB R hr with ⟨o, ρ2, hr2, run2⟩ | ⟨x', rfl, run2⟩
              · cases r with
                | ex x =>
                  intro Q q
                  refine ⟨w, hw, run2 _ fun H2 Hf2 S2 => ?_⟩
                  rcases gu.run hB S2.rel hr2 with ⟨o2, ρ3, hr3, run3⟩ | ⟨x', ex', run3⟩
                  · cases hc : getC ρ3 n with
                    | none => simp [hc] at hr3
                    | some c =>
                      simp only [hc, outE] at hr3
                      split at hr3 <;> cases hr3
                  · cases ex'
                    exact run3 _ q
                | ok d fr ρ' =>
                  intro Q q
                  refine ⟨w, hw, run2 _ fun H2 Hf2 S2 => ?_⟩
                  rcases gu.run hB S2.rel hr2 with ⟨o2, ρ3, hr3, run3⟩ | ⟨x', ex', run3⟩
                  · refine run3 _ fun H3 Hf3 S3 => ?_
                    cases hc : getC ρ3 n with
                    | none => simp [hc] at hr3
                    | some c =>
                      simp only [hc, outE] at hr3
                      split at hr3
                      · rename_i dd frr esl
                        cases hr3
                        obtain ⟨w', hw', tp, tpl⟩ := cell_top S3.rel hc
                        rw [hw] at hw'
                        cases hw'
                        refine sl_sound S.K S3.rel.ext tp tpl esl Q fun w H4 pv => q w H4 (PostE.ofV (S2.trans S3 sub_l sub_r) pv sub_id)
                      · cases hr3
                  · cases ex'
              · exact fun Q q => ⟨w, hw, run2 _ q⟩
      | _ => exact no h
    | _ => exact no h
  | _ => exact no h
theorem snd_tup {as : Es} (ha : SndA S as) : SndE S (.tup as) := by
  intro sc Ex F hF ex h
  cases ex with
  | Tuple es k p =>
    obtain ⟨ta, pa, ga⟩ := ha sc Ex F hF es h
    refine ⟨tTup ta, fun X hX => pe_tup (pa X hX), ?_⟩
    refine GoodE.of fun H0 B σ H Hf ρ hB R r hr => ?_
    unfold evalE at hr
    rcases bindA_ok hr with ⟨x, e1, rfl⟩ | ⟨ds, ρ1, e1, hr⟩
    · exact fun Q q => ga.exc hB R e1 q
    · split at hr
      · rename_i hz
        cases hr
        intro Q q
        refine ga.run hB R e1 fun vs H1 Hf1 S1 rp => ⟨lim_line (by rw [rp.length]; exact hz), fun p n => ?_⟩
        exact q _ _ (PostE.ofV S1 (PostV.newT S1.rel.ext n rp) sub_id)
      · cases hr
  | _ => exact no h
theorem snd_lst {as : Es} (ha : SndA S as) : SndE S (.lst as) := by
  intro sc Ex F hF ex h
  cases ex with
  | List es p =>
    obtain ⟨ta, pa, ga⟩ := ha sc Ex F hF es h
    refine ⟨_, fun X hX => pe_lst (pa X hX), ?_⟩
    refine GoodE.of fun H0 B σ H Hf ρ hB R r hr => ?_
    unfold evalE at hr
    rcases bindA_ok hr with ⟨x, e1, rfl⟩ | ⟨ds, ρ1, e1, hr⟩
    · exact fun Q q => ga.exc hB R e1 q
    · split at hr
      · rename_i hz
        cases hr
        intro Q q
        refine ga.run hB R e1 fun vs H1 Hf1 S1 rp => ⟨lim_line (by rw [rp.length]; exact hz), fun p n => ?_⟩
        exact q _ _ (PostE.ofV S1 (PostV.newL S1.rel.ext n rp) sub_id)
      · cases hr
  | _ => exact no h
theorem snd_dic0 : SndE S .dic0 := by
  intro sc Ex F hF ex h
  cases ex with
  | Dict ks vs p =>
    cases ks with
    | cons _ _ => exact no h
    | nil =>
      cases vs with
      | cons _ _ => exact no h
      | nil =>
        refine ⟨tDNewK, fun X hX => pe_dnewK, ?_⟩
        refine GoodE.of fun H0 B σ H Hf ρ hB R r hr => ?_
        unfold evalE at hr
        cases hr
        exact fun Q q p n => q _ _ ((PostV.newD (kvs := []) (dk := []) R.ext n .nil).toE R)
  | _ => exact no h
/-- an object that no name owns is changed -/
theorem Rel.putNew {K : PySem.W.Frag} {H0 H2 Hf2 : Hp} {B : Bor} {σ : L2.St} {ρ2 : Env} {pa : Addr} {u : HO} (R2 : Rel K H0 B σ H2 Hf2 ρ2) (hz : Hf2 pa = none) (h0 : H0 pa = none) (hno : ∀ i c, getC ρ2 i = some c → c.isMut = true → σ[i]? ≠ some (some (.ref pa))) : Rel K H0 B σ (upd H2 pa u) Hf2 ρ2 := by
  have ne0 : ∀ b w, Hf2 b = some w → b ≠ pa := fun b w h e => by
    rw [e, hz] at h
    cases h
  refine ⟨fun b w h => ?_, R2.len, fun i c h => ?_, R2.sep, fun a o h hb => ?_, R2.bor⟩
  · rw [upd_ne (ne0 b w h)]
    exact R2.ext b w h
  · obtain ⟨v, hv, ok⟩ := R2.get i c h
    refine ⟨v, hv, ?_⟩
    cases c with
    | sh d => exact ok
    | ow d =>
      refine ⟨ok.1.keep (fun _ _ z => z) (fun a w ea q => ?_) (fun a ea => ?_), ok.2⟩
      · rw [upd_ne fun e => hno i _ h rfl (by rw [hv, ea, e])]
        exact q
      · obtain ⟨a', ea', n, _⟩ := ok.1.ref
        rw [ea] at ea'
        cases ea'
        exact n
    | bo d =>
      refine ⟨ok.1.keep (fun _ _ z => z) (fun a w ea q => ?_) (fun a ea => ?_), ok.2⟩
      · rw [upd_ne fun e => hno i _ h rfl (by rw [hv, ea, e])]
        exact q
      · obtain ⟨a', ea', n, _⟩ := ok.1.ref
        rw [ea] at ea'
        cases ea'
        exact n
  · rw [upd_ne fun e => by
      rw [e, h0] at h
      cases h]
    exact R2.ent a o h hb
theorem snd_dic1 {k v : E} (hk : SndE S k) (hv : SndE S v) : SndE S (.dic1 k v) := by
  intro sc Ex F hF ex h
  cases ex with
  | Dict ks vs p =>
    match ks, vs, h with
    | [some ke], [ve], h =>
      have h' : (isE S.tb sc k ke && isE S.tb sc v ve) = true := h
      simp only [Bool.and_eq_true] at h'
      obtain ⟨h1, h2⟩ := h'
      obtain ⟨tk, pk, gk⟩ := hk sc Ex F hF ke h1
      obtain ⟨tv, pv, gv⟩ := hv sc Ex F hF ve h2
      refine ⟨tDisp [(tk, tv)], fun X hX => pe_disp (pps_cons (pk X hX) (pv X hX) pps_nil) rfl rfl (by simp) (by simp), ?_⟩
      refine GoodE.of fun H0 B σ H Hf ρ hB R r hr => ?_
      unfold evalE at hr
      rcases bind_ok hr with ⟨x, e1, rfl⟩ | ⟨d1, fr1, ρ1, e1, hr⟩
      · intro Q q pa n
        exact gk.exc hB (R.grow n).2 e1 q
      · rcases bind_ok hr with ⟨x, e2, rfl⟩ | ⟨d2, fr2, ρ2, e2, hr⟩
        · intro Q q pa n
          exact gk.run hB (R.grow n).2 e1 fun x H1 Hf1 S1 rp1 => gv.exc hB S1.rel e2 q
        · cases d1 with
          | int i =>
            cases hr
            intro Q q pa n
            refine gk.run hB (R.grow n).2 e1 fun x H1 Hf1 S1 rp1 => gv.run hB S1.rel e2 fun y H2 Hf2 S2 rp2 => ?_
            cases rp1
            have no : ∀ i c, getC ρ i = some c → c.isMut = true → σ[i]? ≠ some (some (.ref pa)) := fun i c hc m e => by
              obtain ⟨a', e', _, ⟨u, hu⟩, _⟩ := R.own hc m
              rw [e] at e'
              cases e'
              rw [n] at hu
              cases hu
            have S12 := S1.trans (ms := mutsE k ++ mutsE v) S2 (fun i hi => List.mem_append_left _ hi) (fun i hi => List.mem_append_right _ hi)
            have ne : ∀ b w, H b = some w → b ≠ pa := fun b w h e => by
              rw [e, n] at h
              cases h
            have hp : H2 pa = some (.dK []) := S12.fr pa _ upd_same fun ⟨i, _, c, hc, m, e⟩ => no i c hc m e
            have hz : Hf2 pa = none := by
              rw [S12.gr pa _ upd_same fun ⟨i, c, hc, m, e⟩ => no i c hc m e]
              exact Same.free R.ext n
            have no2 : ∀ i c, getC ρ2 i = some c → c.isMut = true → σ[i]? ≠ some (some (.ref pa)) := fun i c hc m => by
              obtain ⟨c', hc', m'⟩ := S12.le.mu i c hc m
              exact no i c' hc' m'
            refine ⟨hp, [(.inl i, y)], rfl, by simp, ?_⟩
            have em : mergeK [] [((Sum.inl i : Key), y)] = [(Sum.inl i, y)] := by simp [mergeK, putK]
            rw [em]
            refine q _ _ ⟨Hf2, ⟨S12.ext, S12.rel.putNew hz (R.h0 n) no2, fun a o ha hn => ?_, fun b u hb hn => ?_, S12.le⟩, ⟨.dic upd_same hz (.cons rp2 .nil), fun a ea => ?_⟩, fun _ a ea => ?_⟩
            · rw [upd_ne (ne a o ha)]
              exact S12.fr a o (by rw [upd_ne (ne a o ha)]; exact ha) hn
            · exact S12.gr b u (by rw [upd_ne (ne b u hb)]; exact hb) hn
            · cases ea
              exact ⟨R.h0 n, no2⟩
            · cases ea
              exact .inl n
          | _ => cases hr
    | [], _, h => exact no h
    | [none], _, h => exact no h
    | some _ :: _ :: _, _, h => exact no h
    | none :: _ :: _, _, h => exact no h
    | [some _], [], h => exact no h
    | [some _], _ :: _ :: _, h => exact no h
  | _ => exact no h
theorem snd_idx {a x : E} (ha : SndE S a) (hx : SndE S x) : SndE S (.idx a x) := by
  intro sc Ex F hF ex h
  cases ex with
  | Call f es kw cp =>
    cases f with
    | Attribute o m ap =>
      match es, kw, h with
      | [e], [], h =>
        have h' : (decide (m = ("index" : Str)) && baseB o && (ap.endLine == cp.line) && nostar e && isE S.tb sc a o && isE S.tb sc x e) = true := h
        simp only [Bool.and_eq_true, decide_eq_true_eq] at h'
        obtain ⟨⟨⟨⟨⟨rfl, h1⟩, h2⟩, h3⟩, h4⟩, h5⟩ := h'
        obtain ⟨ta, pa, ga⟩ := ha sc Ex F hF _ h4
        obtain ⟨tx, px, gx⟩ := hx sc Ex F hF _ h5
        refine ⟨tBM S.K "list" (rIndexD S.K) ta (tCons tx tNil), fun X hX => ?_, ?_⟩
        · have C := hF X hX
          have := mt_indexD (X := X) C.units
          rw [C.hK] at this
          have pb := pe_bm (apos := ap) (cpos := cp) PySem.F.plainAttrs_list PySem.F.slot_list_index PySem.F.type_list_index this (pa X hX) (pa_cons (px X hX) pa_nil (star_ok h3 _ _)) (base_ok h1 _ _ _) (by
            rw [star_ok h3]
            rfl) h2 (star_ok h3 _ _) rfl
          rw [C.hK] at pb
          exact pb
        · refine GoodE.of fun H0 B σ H Hf ρ hB R r hr => ?_
          unfold evalE at hr
          rcases bind_ok hr with ⟨y, e1, rfl⟩ | ⟨d1, f1, ρ1, e1, hr⟩
          · exact fun Q q => ga.exc hB R e1 q
          · cases d1 with
            | list l =>
              simp only at hr
              rcases bind_ok hr with ⟨y, e2, rfl⟩ | ⟨d2, f2, ρ2, e2, hr⟩
              · refine fun Q q => ga.run hB R e1 fun v H1 Hf1 S1 rp => ?_
                obtain ⟨b, xs, rfl, s, rr⟩ := rp.lst_inv
                exact ⟨.inl ⟨rfl, xs, Same.sql S1.rel.ext s⟩, gx.exc hB S1.rel e2 q⟩
              · split at hr
                · rename_i hs
                  rw [Bool.and_eq_true] at hs
                  cases e3 : idxV l d2 0 with
                  | none => simp [e3] at hr
                  | some nn =>
                    rw [e3] at hr
                    cases hr
                    intro Q q
                    refine ga.run hB R e1 fun v H1 Hf1 S1 rp => ?_
                    obtain ⟨b, xs, rfl, s, rr⟩ := rp.lst_inv
                    refine ⟨.inl ⟨rfl, xs, Same.sql S1.rel.ext s⟩, gx.run hB S1.rel e2 fun w H2 Hf2 S2 rp2 => ?_⟩
                    obtain ⟨j, ej, ⟨z, hz, hzz⟩, hno⟩ := idxV_spec l d2 0 nn e3
                    have rl : Rp S.K H2 (.ref b) (.list l) := (rp.mono S2.ext).mono S2.rel.ext
                    refine ⟨b, w, d2, l, j, z, rfl, rfl, rl.dpS hs.1, (rp2.mono S2.rel.ext).dpS hs.2, hs.1, hs.2, hz, hzz, fun m z' hm hz' => hno m z' hm hz', ?_⟩
                    have : nn = j := by omega
                    subst this
                    exact q _ H2 (PostE.ofV (S1.trans S2 sub_l sub_r) (PostV.here S2.rel.ext (.int _)) sub_id)
                · cases hr
            | _ => cases hr
      | [], _, h => exact no h
      | [_], _ :: _, h => exact no h
      | _ :: _ :: _, _, h => exact no h
    | _ => exact no h
  | _ => exact no h
end DD

-- part DSnd8
set_option Elab.async false
set_option linter.all false
set_option maxRecDepth 100000
set_option maxHeartbeats 2000000
/-! Soundness: what loops walk. -/
namespace DD
open PySem PySem.Spec PyProof.Rows L2

/-! ### the iterators serve data -/
section
variable {K : PySem.W.Frag} {H H' Hf : Hp} {a b : Addr} {xs ys : List V} {ds es : List PD}
theorem sv_list (s : SqL K Hf a xs) (r : RpA K Hf xs ds) : Serves K (Itl K a) none Hf ds := by
  refine ⟨fun i d H Hf1 e1 e2 _ hd => ?_, fun H Hf1 e1 e2 _ => ⟨xs, Same.sql e2 (Same.sql e1 s), by rw [r.length]; exact Nat.le_refl _⟩⟩
  obtain ⟨v, hv, rv⟩ := r.get hd
  have q : SqL K H a xs := Same.sql e2 (Same.sql e1 s)
  refine ⟨⟨xs, v, q, hv⟩, fun x H' y => ?_⟩
  obtain ⟨rfl, y⟩ := y
  have z := y xs q
  rw [hv] at z
  cases z
  exact PostV.here e2 (rv.mono e1)
theorem sv_tup (s : SqT K Hf a xs) (r : RpA K Hf xs ds) : Serves K (Itt K a) none Hf ds := by
  refine ⟨fun i d H Hf1 e1 e2 _ hd => ?_, fun H Hf1 e1 e2 _ => ⟨xs, Same.sqt e2 (Same.sqt e1 s), by rw [r.length]; exact Nat.le_refl _⟩⟩
  obtain ⟨v, hv, rv⟩ := r.get hd
  have q : SqT K H a xs := Same.sqt e2 (Same.sqt e1 s)
  refine ⟨⟨xs, v, q, hv⟩, fun x H' y => ?_⟩
  obtain ⟨rfl, y⟩ := y
  have z := y xs q
  rw [hv] at z
  cases z
  exact PostV.here e2 (rv.mono e1)
theorem sv_hid (r : RpA K Hf xs ds) : Serves K (Itl K a) (some (a, xs)) Hf ds := by
  refine ⟨fun i d H Hf1 e1 e2 hg hd => ?_, fun H Hf1 e1 e2 hg => ⟨xs, SqL.of (hg a xs rfl), by rw [r.length]; exact Nat.le_refl _⟩⟩
  obtain ⟨v, hv, rv⟩ := r.get hd
  have q : SqL K H a xs := SqL.of (hg a xs rfl)
  refine ⟨⟨xs, v, q, hv⟩, fun x H' y => ?_⟩
  obtain ⟨rfl, y⟩ := y
  have z := y xs q
  rw [hv] at z
  cases z
  exact PostV.here e2 (rv.mono e1)
theorem getR {n i : Nat} {f : Nat → PD} {d : PD} (h : ((List.range n).map f)[i]? = some d) : i < n ∧ d = f i := by
  by_cases q : i < n
  · rw [List.getElem?_map, List.getElem?_range q] at h
    exact ⟨q, (Option.some.inj h).symm⟩
  · rw [List.getElem?_eq_none (by simpa using q)] at h
    cases h
theorem sv_rng (lo : Int) (n : Nat) : Serves K (Itr lo n) none Hf ((List.range n).map fun i => .int (lo + (i : Nat))) := by
  refine ⟨fun i d H Hf1 e1 e2 _ hd => ?_, fun H Hf1 e1 e2 _ => by
    rw [List.length_map, List.length_range]
    exact Nat.le_refl n⟩
  obtain ⟨q, rfl⟩ := getR hd
  refine ⟨q, fun x H' y => ?_⟩
  obtain ⟨rfl, rfl⟩ := y
  exact PostV.here e2 (.int _)
theorem getE : ∀ {ds : List PD} {i k : Nat} {d : PD}, ((List.range' k ds.length).zipWith (fun (i : Nat) y => PyData.tuple [.int ((i : Nat) : Int), y]) ds)[i]? = some d → ∃ e, ds[i]? = some e ∧ d = .tuple [.int (((k + i : Nat)) : Int), e]
  | [], i, k, d, h => by simp at h
  | e :: r, 0, k, d, h => by
    simp [List.range'] at h
    exact ⟨e, rfl, by rw [← h]; simp⟩
  | e :: r, i + 1, k, d, h => by
    rw [List.length_cons, List.range'_succ, List.zipWith_cons_cons, List.getElem?_cons_succ] at h
    obtain ⟨x, h1, h2⟩ := getE (ds := r) h
    refine ⟨x, by simpa using h1, ?_⟩
    rw [h2]
    have : k + 1 + i = k + (i + 1) := by omega
    rw [this]
theorem getE0 {i : Nat} {d : PD} (h : ((List.range ds.length).zipWith (fun (i : Nat) y => PyData.tuple [.int ((i : Nat) : Int), y]) ds)[i]? = some d) : ∃ e, ds[i]? = some e ∧ d = .tuple [.int ((i : Nat) : Int), e] := by
  rw [List.range_eq_range'] at h
  obtain ⟨e, h1, h2⟩ := getE h
  rw [Nat.zero_add] at h2
  exact ⟨e, h1, h2⟩
theorem lenE : ((List.range ds.length).zipWith (fun (i : Nat) y => PyData.tuple [.int ((i : Nat) : Int), y]) ds).length = ds.length := by simp
theorem sv_enuL (s : SqL K Hf a xs) (r : RpA K Hf xs ds) : Serves K (Ite K a) none Hf ((List.range ds.length).zipWith (fun (i : Nat) y => .tuple [.int ((i : Nat) : Int), y]) ds) := by
  refine ⟨fun i d H Hf1 e1 e2 _ hd => ?_, fun H Hf1 e1 e2 _ => ⟨xs, Same.sql e2 (Same.sql e1 s), by rw [lenE, r.length]; exact Nat.le_refl _⟩⟩
  obtain ⟨e, he, rfl⟩ := getE0 hd
  obtain ⟨v, hv, rv⟩ := r.get he
  have q : SqL K H a xs := Same.sql e2 (Same.sql e1 s)
  refine ⟨⟨xs, v, q, hv⟩, fun x H' y => ?_⟩
  obtain ⟨T, z, rfl, hT, rfl, y⟩ := y
  have w := y xs q
  rw [hv] at w
  cases w
  exact PostV.newT e2 hT (.cons (.int _) (.cons (rv.mono e1) .nil))
theorem sv_enuT (s : SqT K Hf a xs) (r : RpA K Hf xs ds) : Serves K (IteT K a) none Hf ((List.range ds.length).zipWith (fun (i : Nat) y => .tuple [.int ((i : Nat) : Int), y]) ds) := by
  refine ⟨fun i d H Hf1 e1 e2 _ hd => ?_, fun H Hf1 e1 e2 _ => ⟨xs, Same.sqt e2 (Same.sqt e1 s), by rw [lenE, r.length]; exact Nat.le_refl _⟩⟩
  obtain ⟨e, he, rfl⟩ := getE0 hd
  obtain ⟨v, hv, rv⟩ := r.get he
  have q : SqT K H a xs := Same.sqt e2 (Same.sqt e1 s)
  refine ⟨⟨xs, v, q, hv⟩, fun x H' y => ?_⟩
  obtain ⟨T, z, rfl, hT, rfl, y⟩ := y
  have w := y xs q
  rw [hv] at w
  cases w
  exact PostV.newT e2 hT (.cons (.int _) (.cons (rv.mono e1) .nil))
theorem getZ {i : Nat} {d : PD} (h : (ds.zipWith (fun a b => PyData.tuple [a, b]) es)[i]? = some d) : ∃ x y, ds[i]? = some x ∧ es[i]? = some y ∧ d = .tuple [x, y] := by
  rw [List.getElem?_zipWith] at h
  cases e1 : ds[i]? with
  | none => simp [e1] at h
  | some x =>
    cases e2 : es[i]? with
    | none => simp [e1, e2] at h
    | some y =>
      simp [e1, e2] at h
      exact ⟨x, y, rfl, rfl, h.symm⟩
theorem lenZ (h1 : xs.length = ds.length) (h2 : ys.length = es.length) : xs.length ≤ (ds.zipWith (fun a b => PyData.tuple [a, b]) es).length ∨ ys.length ≤ (ds.zipWith (fun a b => PyData.tuple [a, b]) es).length := by
  rw [List.length_zipWith]
  omega
theorem sv_zipL (s : SqL K Hf a xs) (r : RpA K Hf xs ds) (s2 : SqL K Hf b ys) (r2 : RpA K Hf ys es) : Serves K (Itz K a b) none Hf (ds.zipWith (fun a b => .tuple [a, b]) es) := by
  refine ⟨fun i d H Hf1 e1 e2 _ hd => ?_, fun H Hf1 e1 e2 _ => ⟨xs, ys, Same.sql e2 (Same.sql e1 s), Same.sql e2 (Same.sql e1 s2), lenZ r.length r2.length⟩⟩
  obtain ⟨x, y, hx, hy, rfl⟩ := getZ hd
  obtain ⟨v, hv, rv⟩ := r.get hx
  obtain ⟨w, hw, rw'⟩ := r2.get hy
  have q1 : SqL K H a xs := Same.sql e2 (Same.sql e1 s)
  have q2 : SqL K H b ys := Same.sql e2 (Same.sql e1 s2)
  refine ⟨⟨xs, ys, v, w, q1, q2, hv, hw⟩, fun z H' p => ?_⟩
  obtain ⟨T, x', y', rfl, hT, rfl, p1, p2⟩ := p
  have z1 := p1 xs q1
  have z2 := p2 ys q2
  rw [hv] at z1
  rw [hw] at z2
  cases z1
  cases z2
  exact PostV.newT e2 hT (.cons (rv.mono e1) (.cons (rw'.mono e1) .nil))
theorem sv_zipT (s : SqT K Hf a xs) (r : RpA K Hf xs ds) (s2 : SqT K Hf b ys) (r2 : RpA K Hf ys es) : Serves K (RZ.ItzT K a b) none Hf (ds.zipWith (fun a b => .tuple [a, b]) es) := by
  refine ⟨fun i d H Hf1 e1 e2 _ hd => ?_, fun H Hf1 e1 e2 _ => ⟨xs, ys, Same.sqt e2 (Same.sqt e1 s), Same.sqt e2 (Same.sqt e1 s2), lenZ r.length r2.length⟩⟩
  obtain ⟨x, y, hx, hy, rfl⟩ := getZ hd
  obtain ⟨v, hv, rv⟩ := r.get hx
  obtain ⟨w, hw, rw'⟩ := r2.get hy
  have q1 : SqT K H a xs := Same.sqt e2 (Same.sqt e1 s)
  have q2 : SqT K H b ys := Same.sqt e2 (Same.sqt e1 s2)
  refine ⟨⟨xs, ys, v, w, q1, q2, hv, hw⟩, fun z H' p => ?_⟩
  obtain ⟨T, x', y', rfl, hT, rfl, p1, p2⟩ := p
  have z1 := p1 xs q1
  have z2 := p2 ys q2
  rw [hv] at z1
  rw [hw] at z2
  cases z1
  cases z2
  exact PostV.newT e2 hT (.cons (rv.mono e1) (.cons (rw'.mono e1) .nil))
end

/-! ### rules for a sequence of either kind -/
def iSeq (K : PySem.W.Frag) (tl : TE) : TI := fun σ H R => tl σ H fun x H1 => ∃ a xs, x = .ref a ∧ ((SqL K H1 a xs ∧ R (Itl K a) H1) ∨ (SqT K H1 a xs ∧ R (Itt K a) H1))
theorem pi_seq {X : Cx} {tg l : Expr} {tl : TE} (hl : PE X l tl) : PI X tg l (iSeq X.K tl) := by
  refine ⟨fun pins s σ H R I h => thn (hl.run pins s σ H _ I h) fun v s1 ⟨x, H1, I1, r1, a, xs, ex, q⟩ => ?_⟩
  subst ex
  cases r1
  have fp : ∀ b ∈ [s1.heap.objs.size], FpOk X pins H1 b := fun b hb => by
    cases List.mem_singleton.mp hb
    exact I1.fpOk (Nat.le_refl _) (I1.hok.fresh (Nat.le_refl _))
  rcases q with ⟨hs, q⟩ | ⟨hs, q⟩
  · obtain ⟨its, _, pl, _⟩ := I1.list hs
    refine wpAny_pyIter_list pl.isList ⟨s1.heap.objs.size, _, _, Itl X.K a, H1, rfl, ?_, turn_list a _, ⟨_, Heap.get?_push_size _ rfl, rfl, rfl⟩, fp, q⟩
    exact I1.kept (t' := s1.toks) fun b o eo => Heap.get?_push_of_some _ eo
  · obtain ⟨its, _, pt, _⟩ := I1.tuple hs
    have pt' : s1.heap.IsTuple a its.toArray := pt
    refine wpAny_pyIter_tuple pt' ⟨s1.heap.objs.size, _, _, Itt X.K a, H1, rfl, ?_, turn_tuple a _, ⟨_, Heap.get?_push_size _ rfl, rfl, rfl⟩, fp, q⟩
    exact I1.kept (t' := s1.toks) fun b o eo => Heap.get?_push_of_some _ eo
def iEnu (K : PySem.W.Frag) (ta : TA) : TI := fun σ H R => ta σ H fun vs H1 => ∃ a xs, vs = [.ref a] ∧ ((SqL K H1 a xs ∧ R (Ite K a) H1) ∨ (SqT K H1 a xs ∧ R (IteT K a) H1))
theorem pi_enu {X : Cx} {e : Expr} {ta : TA} {p pos tpos : Pos} {elts : List Expr} {kk : Nat} (hg : Gl X "enumerate") (hm : X.mg "enumerate" = none) (ha : PA X [e] ta) (hs : starEach [e] X.env = [(false, eval e X.env)]) :
    PI X (.Tuple elts kk tpos) (.Call (.Name "enumerate" p) [e] [] pos) (iEnu X.K ta) := by
  refine ⟨fun pins s σ H R I h => Call_ (ld_blt I hg hm boot_enumerate (PyProof.Rows.callWith_type1 (thn (ha.run pos pins s σ H _ I h) fun us s1 ⟨vs, H1, I1, r1, a, xs, ex, q⟩ => ?_) hs rfl))⟩
  subst ex
  cases r1 with
  | cons r rr =>
    cases rr
    cases r
    have fp : ∀ b ∈ [s1.heap.objs.size + 1, s1.heap.objs.size], FpOk X pins H1 b := fun b hb => by
      have hle : s1.heap.objs.size ≤ b := by
        rcases List.mem_cons.mp hb with z | z
        · omega
        · have := List.mem_singleton.mp z
          omega
      exact I1.fpOk hle (I1.hok.fresh hle)
    rcases q with ⟨hq, q⟩ | ⟨hq, q⟩
    · obtain ⟨its, _, pl, _⟩ := I1.list hq
      refine call_enumerate_list pl.isList fun h' he hit hsz hk => wpAny_pyIter_enum he ⟨s1.heap.objs.size + 1, _, _, Ite X.K a, H1, rfl, ?_, turn_enum a _ s1.heap.objs.size, ⟨⟨.none, he⟩, hit, Nat.succ_ne_self _⟩, fp, q⟩
      exact I1.kept (t' := s1.toks) hk
    · obtain ⟨its, _, pt, _⟩ := I1.tuple hq
      have pt' : s1.heap.IsTuple a its.toArray := pt
      have hlt : a < s1.heap.objs.size := by
        obtain ⟨o, ho, _⟩ := id pt'
        exact Heap.lt_size ho
      refine dd_call_enumT pt' fun h' he hit hk => wpAny_pyIter_enum he ⟨s1.heap.objs.size + 1, _, _, IteT X.K a, H1, rfl, ?_, turn_enumT a _ s1.heap.objs.size, ⟨⟨.none, he⟩, hit, Nat.succ_ne_self _, Nat.ne_of_lt hlt⟩, fp, q⟩
      exact I1.kept (t' := s1.toks) hk

/-! ### ranges -/
theorem cdiv_eq {d c : Int} (hd : 0 < d) (hc : 0 < c) : (d - 1) / c + 1 = (d + c - 1) / c := by
  have : d + c - 1 = (d - 1) + 1 * c := by omega
  rw [this, Int.add_mul_ediv_right _ _ (by omega)]

variable {S : Setg}
theorem bindAA_ok {r0 : Option AO} {k : List PD → Env → Option AO} {r : AO} (h : AO.binA r0 k = some r) : (∃ x, r0 = some (.ex x) ∧ r = .ex x) ∨ ∃ d ρ1, r0 = some (.ok d ρ1) ∧ k d ρ1 = some r := by
  cases r0 with
  | none => cases h
  | some r0 =>
    cases r0 with
    | ex x =>
      cases h
      exact .inl ⟨x, rfl, rfl⟩
    | ok d ρ1 => exact .inr ⟨d, ρ1, rfl, h⟩
theorem bindEA_ok {r0 : Option EO} {k : PD → Env → Option AO} {r : AO} (h : EO.binA r0 k = some r) : (∃ x, r0 = some (.ex x) ∧ r = .ex x) ∨ ∃ d fr ρ1, r0 = some (.ok d fr ρ1) ∧ k d ρ1 = some r := by
  cases r0 with
  | none => cases h
  | some r0 =>
    cases r0 with
    | ex x =>
      cases h
      exact .inl ⟨x, rfl, rfl⟩
    | ok d fr ρ1 => exact .inr ⟨d, fr, ρ1, rfl, h⟩
def OutI (K : PySem.W.Frag) (mg : Str → Option Value) (Ex : XK) (H0 : Hp) (B : Bor) (σ : L2.St) (ρ : Env) (it : It) (H Hf : Hp) (wi : TI) : AO → Prop
  | .ok ds ρ' => ∀ R : L2.It → Hp → Prop, (∀ J H' Hf' g, Step K H0 B σ (mutsI it) ρ H Hf ρ' H' Hf' → Serves K J g Hf' ds →
      (∀ a xs, g = some (a, xs) → H' a = some (.lst xs) ∧ ∃ v c, it = .hid v ∧ getC ρ' v = some c ∧ c.isMut = true ∧ σ[v]? = some (some (V.ref a))) → R J H') → wi σ H R
  | .ex x => ∀ R : L2.It → Hp → Prop, ExW mg H0 B Ex x → wi σ H R
theorem GoodI.of {K : PySem.W.Frag} {mg : Str → Option Value} {cs : List FSem} {Ex : XK} {it : It} {wi : TI} (h : ∀ H0 B σ H Hf ρ, BOk B → Rel K H0 B σ H Hf ρ → ∀ r, evalI cs it ρ = some r → OutI K mg Ex H0 B σ ρ it H Hf wi r) : GoodI K mg cs Ex it wi := by
  intro H0 B σ H Hf ρ hB R
  have := h H0 B σ H Hf ρ hB R
  cases e1 : evalI cs it ρ with
  | none => trivial
  | some r => cases r <;> exact this _ e1
theorem snd_seq {e : E} (he : SndE S e) : SndI S (.seq e) := by
  intro sc Ex F hF ex tg h
  obtain ⟨t, p, g⟩ := he sc Ex F hF ex h
  refine ⟨iSeq S.K t, fun X hX => ?_, ?_⟩
  · have := pi_seq (tg := tg) (p X hX)
    rw [(hF X hX).hK] at this
    exact this
  · refine GoodI.of fun H0 B σ H Hf ρ hB R r hr => ?_
    unfold evalI at hr
    rcases bindEA_ok hr with ⟨x, e1, rfl⟩ | ⟨d, f1, ρ1, e1, hr⟩
    · exact fun Q q => g.exc hB R e1 q
    · cases d with
      | list ds =>
        cases hr
        refine fun Q q => g.run hB R e1 fun v H1 Hf1 S1 rp => ?_
        obtain ⟨a, xs, rfl, s, rr⟩ := rp.lst_inv
        exact ⟨a, xs, rfl, .inl ⟨Same.sql S1.rel.ext s, q _ H1 Hf1 none S1 (sv_list s rr) fun _ _ z => nomatch z⟩⟩
      | tuple ds =>
        cases hr
        refine fun Q q => g.run hB R e1 fun v H1 Hf1 S1 rp => ?_
        obtain ⟨a, xs, rfl, s, rr⟩ := rp.tup_inv
        exact ⟨a, xs, rfl, .inr ⟨Same.sqt S1.rel.ext s, q _ H1 Hf1 none S1 (sv_tup s rr) fun _ _ z => nomatch z⟩⟩
      | _ => cases hr
theorem snd_hid (n : Nat) : SndI S (.hid n) := by
  intro sc Ex F hF ex tg h
  cases ex with
  | Name x px =>
    refine ⟨iSeq S.K (tVar n), fun X hX => ?_, ?_⟩
    · have := pi_seq (tg := tg) ((hF X hX).slot (i := n) (x := x) (pos := px) h)
      rw [(hF X hX).hK] at this
      exact this
    · refine GoodI.of fun H0 B σ H Hf ρ hB R r hr => ?_
      unfold evalI at hr
      cases hc : getC ρ n with
      | none => simp [hc] at hr
      | some c =>
        simp only [hc] at hr
        obtain ⟨w, hw, ok⟩ := R.get n c hc
        cases c with
        | sh d =>
          cases d with
          | list ds =>
            cases hr
            refine fun Q q => ⟨w, hw, ?_⟩
            obtain ⟨a, xs, rfl, s, rr⟩ := Rp.lst_inv ok
            exact ⟨a, xs, rfl, .inl ⟨Same.sql R.ext s, q _ H Hf none (Step.refl R) (sv_list s rr) fun _ _ z => nomatch z⟩⟩
          | _ => simp [Cell.dat] at hr
        | ow d =>
          cases d with
          | list ds =>
            cases hr
            refine fun Q q => ⟨w, hw, ?_⟩
            cases ok.1 with
            | lst hH hn rr =>
              rename_i a xs
              exact ⟨a, xs, rfl, .inl ⟨SqL.of hH, q _ H Hf (some (a, xs)) (Step.refl R) (sv_hid rr) fun a' xs' z => by
                cases z
                exact ⟨hH, n, _, rfl, hc, rfl, hw⟩⟩⟩
          | _ => simp [Cell.dat] at hr
        | bo d =>
          cases d with
          | list ds =>
            cases hr
            refine fun Q q => ⟨w, hw, ?_⟩
            cases ok.1 with
            | lst hH hn rr =>
              rename_i a xs
              exact ⟨a, xs, rfl, .inl ⟨SqL.of hH, q _ H Hf (some (a, xs)) (Step.refl R) (sv_hid rr) fun a' xs' z => by
                cases z
                exact ⟨hH, n, _, rfl, hc, rfl, hw⟩⟩⟩
          | _ => simp [Cell.dat] at hr
  | _ => exact no h
theorem snd_enu {e : E} (he : SndE S e) : SndI S (.enu e) := by
  intro sc Ex F hF ex tg h
  cases ex with
  | Call g es kw p =>
    cases g with
    | Name x px =>
      obtain ⟨a, us, k, tp, rfl, rfl, rfl⟩ : ∃ a us k tp, es = [a] ∧ kw = [] ∧ tg = .Tuple us k tp := by
        cases es with
        | nil => exact no h
        | cons a es =>
          cases es with
          | cons _ _ => cases kw <;> exact no h
          | nil =>
            cases kw with
            | cons _ _ => exact no h
            | nil =>
              cases tg with
              | Tuple us k tp => exact ⟨_, _, _, _, rfl, rfl, rfl⟩
              | _ => exact no h
      · have h' : (decide (x = ("enumerate" : Str)) && glB sc x && nostar a && isE S.tb sc e a) = true := h
        simp only [Bool.and_eq_true, decide_eq_true_eq] at h'
        obtain ⟨⟨⟨rfl, h2⟩, h3⟩, h4⟩ := h'
        obtain ⟨t, pp, g⟩ := he sc Ex F hF a h4
        refine ⟨iEnu S.K (tCons t tNil), fun X hX => ?_, ?_⟩
        · have C := hF X hX
          have := pi_enu (p := px) (pos := p) (tpos := tp) (elts := us) (kk := k) (C.gl h2) (C.nob (by decide)) (pa_cons (pp X hX) pa_nil (star_ok h3 _ _)) (star_ok h3 _ _)
          rw [C.hK] at this
          exact this
        · refine GoodI.of fun H0 B σ H Hf ρ hB R r hr => ?_
          unfold evalI at hr
          rcases bindEA_ok hr with ⟨x, e1, rfl⟩ | ⟨d, f1, ρ1, e1, hr⟩
          · exact fun Q q => g.exc hB R e1 q
          · cases d with
            | list ds =>
              cases hr
              refine fun Q q => g.run hB R e1 fun v H1 Hf1 S1 rp => ?_
              obtain ⟨a, xs, rfl, s, rr⟩ := rp.lst_inv
              exact ⟨a, xs, rfl, .inl ⟨Same.sql S1.rel.ext s, q _ H1 Hf1 none S1 (sv_enuL s rr) fun _ _ z => nomatch z⟩⟩
            | tuple ds =>
              cases hr
              refine fun Q q => g.run hB R e1 fun v H1 Hf1 S1 rp => ?_
              obtain ⟨a, xs, rfl, s, rr⟩ := rp.tup_inv
              exact ⟨a, xs, rfl, .inr ⟨Same.sqt S1.rel.ext s, q _ H1 Hf1 none S1 (sv_enuT s rr) fun _ _ z => nomatch z⟩⟩
            | _ => cases hr
    | _ => exact no h
  | _ => exact no h
theorem snd_zip {a b : E} (ha : SndE S a) (hb : SndE S b) : SndI S (.zip a b) := by
  intro sc Ex F hF ex tg h
  cases ex with
  | Call g es kw p =>
    cases g with
    | Name x px =>
      obtain ⟨u, w, us, k, tp, rfl, rfl, rfl⟩ : ∃ u w us k tp, es = [u, w] ∧ kw = [] ∧ tg = .Tuple us k tp := by
        cases es with
        | nil => exact no h
        | cons a es =>
          cases es with
          | nil => cases kw <;> exact no h
          | cons b es =>
            cases es with
            | cons _ _ => cases kw <;> exact no h
            | nil =>
              cases kw with
              | cons _ _ => exact no h
              | nil =>
                cases tg with
                | Tuple us k tp => exact ⟨_, _, _, _, _, rfl, rfl, rfl⟩
                | _ => exact no h
      · have h' : (decide (x = ("zip" : Str)) && glB sc x && nostar u && nostar w && isE S.tb sc a u && isE S.tb sc b w) = true := h
        simp only [Bool.and_eq_true, decide_eq_true_eq] at h'
        obtain ⟨⟨⟨⟨⟨rfl, h2⟩, h3⟩, h4⟩, h5⟩, h6⟩ := h'
        obtain ⟨ta, pa, ga⟩ := ha sc Ex F hF u h5
        obtain ⟨tb, pb, gb⟩ := hb sc Ex F hF w h6
        refine ⟨RZ.iZipA S.K (tCons ta (tCons tb tNil)), fun X hX => ?_, ?_⟩
        · have C := hF X hX
          have := RZ.pi_zipA (p := px) (pos := p) (tpos := tp) (elts := us) (kk := k) (C.gl h2) (C.nob (by decide)) (pa_cons (pa X hX) (pa_cons (pb X hX) pa_nil (star_ok h4 _ _)) (star_ok h3 _ _)) (star_ok h3 _ _) (by
            rw [star_ok h4]
            rfl)
          rw [C.hK] at this
          exact this
        · refine GoodI.of fun H0 B σ H Hf ρ hB R r hr => ?_
          unfold evalI at hr
          rcases bindEA_ok hr with ⟨x, e1, rfl⟩ | ⟨d, f1, ρ1, e1, hr⟩
          · exact fun Q q => ga.exc hB R e1 q
          · rcases bindEA_ok hr with ⟨x, e2, rfl⟩ | ⟨d2, f2, ρ2, e2, hr⟩
            · exact fun Q q => ga.run hB R e1 fun v H1 Hf1 S1 rp => gb.exc hB S1.rel e2 q
            · cases d with
              | list ds =>
                cases d2 with
                | list es =>
                  cases hr
                  refine fun Q q => ga.run hB R e1 fun v H1 Hf1 S1 rp => gb.run hB S1.rel e2 fun v2 H2 Hf2 S2 rp2 => ?_
                  obtain ⟨a, xs, rfl, s, rr⟩ := (rp.mono S2.ext).lst_inv
                  obtain ⟨b, ys, rfl, s2, rr2⟩ := rp2.lst_inv
                  exact ⟨a, b, xs, ys, rfl, .inl ⟨Same.sql S2.rel.ext s, Same.sql S2.rel.ext s2, q _ H2 Hf2 none (S1.trans S2 sub_l sub_r) (sv_zipL s rr s2 rr2) fun _ _ z => nomatch z⟩⟩
                | _ => cases hr
              | tuple ds =>
                cases d2 with
                | tuple es =>
                  cases hr
                  refine fun Q q => ga.run hB R e1 fun v H1 Hf1 S1 rp => gb.run hB S1.rel e2 fun v2 H2 Hf2 S2 rp2 => ?_
                  obtain ⟨a, xs, rfl, s, rr⟩ := (rp.mono S2.ext).tup_inv
                  obtain ⟨b, ys, rfl, s2, rr2⟩ := rp2.tup_inv
                  exact ⟨a, b, xs, ys, rfl, .inr ⟨Same.sqt S2.rel.ext s, Same.sqt S2.rel.ext s2, q _ H2 Hf2 none (S1.trans S2 sub_l sub_r) (sv_zipT s rr s2 rr2) fun _ _ z => nomatch z⟩⟩
                | _ => cases hr
              | _ => cases hr
    | _ => exact no h
  | _ => exact no h
theorem snd_rng {as : Es} (ha : SndA S as) : SndI S (.rng as) := by
  intro sc Ex F hF ex tg h
  cases ex with
  | Call g es kw p =>
    cases g with
    | Name x px =>
      match es, kw, h with
      | e :: es, [], h =>
        have h' : (decide (x = ("range" : Str)) && glB sc x && decide (lenEs as ≤ 2) && isEs S.tb sc as (e :: es)) = true := h
        simp only [Bool.and_eq_true, decide_eq_true_eq] at h'
        obtain ⟨⟨⟨rfl, h2⟩, h3⟩, h4⟩ := h'
        obtain ⟨t, pp, g⟩ := ha sc Ex F hF _ h4
        obtain ⟨hst, hln⟩ := isEs_star h4
        rw [List.all_cons, Bool.and_eq_true] at hst
        have lim : ∀ {z : Int}, -(LIM : Int) ≤ z ∧ z ≤ LIM → -(2 ^ 62) ≤ z ∧ z < 2 ^ 62 := fun {z} hz => by
          unfold LIM at hz
          omega
        cases es with
        | nil =>
          refine ⟨iRng1 t, fun X hX => ?_, ?_⟩
          · have C := hF X hX
            exact pi_range1 (C.gl h2) (C.nob (by decide)) (pp X hX) (star_ok hst.1 _ _)
          · refine GoodI.of fun H0 B σ H Hf ρ hB R r hr => ?_
            unfold evalI at hr
            rcases bindAA_ok hr with ⟨x, e1, rfl⟩ | ⟨ds, ρ1, e1, hr⟩
            · exact fun Q q => g.exc hB R e1 q
            · have hl := evalEs_len e1
              rw [← hln] at hl
              match ds, hl, hr with
              | [d], hl, hr =>
                cases d with
                | int n =>
                  unfold rngL at hr
                  by_cases hn : -(LIM : Int) ≤ n ∧ n ≤ LIM
                  · simp only [hn, and_self, if_true] at hr
                    cases hr
                    refine fun Q q => g.run hB R e1 fun vs H1 Hf1 S1 rp => ?_
                    cases rp with
                    | cons r1 rr =>
                      cases rr
                      cases r1
                      exact ⟨n, rfl, (lim hn).1, (lim hn).2, q _ H1 Hf1 none S1 (sv_rng 0 n.toNat) fun _ _ z => nomatch z⟩
                  · simp only [hn, if_false] at hr
                    cases hr
                | _ => cases hr
        | cons e2 es =>
          cases es with
          | nil =>
            rw [List.all_cons, Bool.and_eq_true] at hst
            refine ⟨iRng2 t, fun X hX => ?_, ?_⟩
            · have C := hF X hX
              exact pi_range2 (C.gl h2) (C.nob (by decide)) (pp X hX) (by rw [star_ok hst.1, star_ok hst.2.1]; rfl) (star_ok hst.2.1 _ _)
            · refine GoodI.of fun H0 B σ H Hf ρ hB R r hr => ?_
              unfold evalI at hr
              rcases bindAA_ok hr with ⟨x, e1, rfl⟩ | ⟨ds, ρ1, e1, hr⟩
              · exact fun Q q => g.exc hB R e1 q
              · have hl := evalEs_len e1
                rw [← hln] at hl
                match ds, hl, hr with
                | [d, d2], hl, hr =>
                  cases d with
                  | int n =>
                    cases d2 with
                    | int m =>
                      unfold rngL at hr
                      by_cases hn : (-(LIM : Int) ≤ n ∧ n ≤ LIM) ∧ (-(LIM : Int) ≤ m ∧ m ≤ LIM)
                      · simp only [hn, and_self, if_true] at hr
                        cases hr
                        refine fun Q q => g.run hB R e1 fun vs H1 Hf1 S1 rp => ?_
                        cases rp with
                        | cons r1 rr =>
                          cases rr with
                          | cons r2 rr =>
                            cases rr
                            cases r1
                            cases r2
                            exact ⟨n, m, rfl, ⟨(lim hn.1).1, (lim hn.1).2, (lim hn.2).1, (lim hn.2).2⟩, q _ H1 Hf1 none S1 (sv_rng n (m - n).toNat) fun _ _ z => nomatch z⟩
                      · simp only [hn, if_false] at hr
                        cases hr
                    | _ => cases hr
                  | _ => cases hr
          | cons e3 es =>
            cases es with
            | nil =>
              simp at hln
              omega
            | cons _ _ =>
              simp at hln
              omega
      | [], _, h => exact no h
      | _ :: _, _ :: _, h => exact no h
    | _ => exact no h
  | _ => exact no h
end DD

-- part DSnd9
set_option Elab.async false
set_option linter.all false
set_option maxRecDepth 100000
set_option maxHeartbeats 2000000
/-! Soundness: tests. -/
namespace DD
open PySem PySem.Spec PyProof.Rows L2
variable {S : Setg}
theorem SndX.e {e : E} (h : SndX S e) : SndE S e := fun sc Ex F hF ex hx => by
  obtain ⟨t, p, g⟩ := h sc Ex F hF ex hx
  exact ⟨t, fun X hX => (p X hX).1, g⟩
theorem GoodT.ofE {K : PySem.W.Frag} {mg : Str → Option Value} {cs : List FSem} {Ex : XK} {e : E} {t : TE} (g : GoodE K mg cs Ex e t) : GoodT K mg cs Ex e (tTest t) := by
  intro H0 B σ H Hf ρ hB R
  cases e1 : evalE cs e ρ with
  | none => trivial
  | some r =>
    cases r with
    | ex x => exact fun Q q => g.exc hB R e1 q
    | ok d fr ρ1 =>
      cases d with
      | bool b => exact fun Q q => g.run hB R e1 fun v H1 Hf1 S1 rp => ⟨b, rp.bl_inv, q H1 Hf1 S1⟩
      | _ => trivial
def isBO : Expr → Bool
  | .BoolOp _ _ _ => true
  | _ => false
/-- a test, as it stands alone and within and, or -/
def SndW (S : Setg) (e : E) : Prop := ∀ (sc : Scope) (Ex : XK) (F : Fam), (∀ X, F X → S.ctx sc Ex X) → ∀ ex, isE S.tb sc e ex = true → plainT ex = true ∨ (∃ t : TT, (∀ X, F X → PT X ex t ∧ (isBO ex = true → PW X ex t)) ∧ GoodT S.K S.mg S.cs Ex e t)
theorem SndW.t {e : E} (h : SndW S e) (he : SndE S e) : SndT S e := fun sc Ex F hF ex hx => by
  rcases h sc Ex F hF ex hx with pl | ⟨t, p, g⟩
  · obtain ⟨t, p, g⟩ := he sc Ex F hF ex hx
    exact ⟨tTest t, fun X hX => pt_val (p X hX) (plainT_ok pl _), GoodT.ofE g⟩
  · exact ⟨t, fun X hX => (p X hX).1, g⟩
/-- alone: any test -/
theorem SndW.any {e : E} (h : SndW S e) (he : SndE S e) {sc : Scope} {Ex : XK} {F : Fam} (hF : ∀ X, F X → S.ctx sc Ex X) {ex : Expr} (hx : isE S.tb sc e ex = true) : ∃ t : TT, (∀ X, F X → PT X ex t ∧ (isBO ex = true → PW X ex t)) ∧ GoodT S.K S.mg S.cs Ex e t := by
  rcases h sc Ex F hF ex hx with pl | r
  · obtain ⟨t, p, g⟩ := he sc Ex F hF ex hx
    refine ⟨tTest t, fun X hX => ⟨pt_val (p X hX) (plainT_ok pl _), fun z => ?_⟩, GoodT.ofE g⟩
    cases ex <;> first | exact no z | exact no pl
  · exact r
theorem SndX.w {e : E} (h : SndX S e) (hb : ∀ tb sc ex, isE tb sc e ex = true → isBO ex = false) : SndW S e := fun sc Ex F hF ex hx => by
  obtain ⟨t, p, g⟩ := h sc Ex F hF ex hx
  exact .inr ⟨tTest t, fun X hX => ⟨(p X hX).2, fun z => by rw [hb _ _ _ hx] at z; cases z⟩, GoodT.ofE g⟩
theorem wCmp (op : CmpOp) {a b : E} (h : SndX S (.cmp op a b)) : SndW S (.cmp op a b) := h.w fun tb sc ex hx => by
  cases ex <;> first | rfl | exact no hx
theorem wChain (op op2 : CmpOp) {a b c : E} (h : SndX S (.chain op op2 a b c)) : SndW S (.chain op op2 a b c) := h.w fun tb sc ex hx => by
  cases ex <;> first | rfl | exact no hx
theorem wNot {a : E} (ha : SndW S a) (he : SndE S a) : SndW S (.not a) := fun sc Ex F hF ex h => by
  cases ex with
  | UnaryOp o r p =>
    cases o with
    | Not =>
      obtain ⟨t, pt, g⟩ := ha.any he hF (ex := r) h
      refine .inr ⟨tNot t, fun X hX => ⟨pt_not (pt X hX).1, fun z => no z⟩, ?_⟩
      intro H0 B σ H Hf ρ hB R
      unfold evalE
      cases e1 : evalE S.cs a ρ with
      | none => trivial
      | some r1 =>
        cases r1 with
        | ex x => exact fun Q q => g.exc hB R e1 q
        | ok d fr ρ1 =>
          simp only [EO.bind]
          cases d with
          | bool b => exact fun Q q => g.run hB R e1 fun H1 Hf1 S1 => q H1 Hf1 S1
          | _ => trivial
    | _ => exact no h
  | _ => exact no h
theorem gtAnd {K : PySem.W.Frag} {mg : Str → Option Value} {cs : List FSem} {Ex : XK} {a b : E} {ta tb : TT} (ga : GoodT K mg cs Ex a ta) (gb : GoodT K mg cs Ex b tb) : GoodT K mg cs Ex (.and a b) (tAnd ta tb) := by
  intro H0 B σ H Hf ρ hB R
  unfold evalE
  cases e1 : evalE cs a ρ with
  | none => trivial
  | some r1 =>
    cases r1 with
    | ex x => exact fun Q q => ga.exc hB R e1 q
    | ok d fr ρ1 =>
      simp only [EO.bind]
      cases d with
      | bool k =>
        cases k with
        | false => exact fun Q q => ga.run hB R e1 fun H1 Hf1 S1 => iteF (q H1 Hf1 (S1.more sub_l))
        | true =>
          simp only [boolE, if_true]
          cases e2 : evalE cs b ρ1 with
          | none => trivial
          | some r2 =>
            cases r2 with
            | ex x => exact fun Q q => ga.run hB R e1 fun H1 Hf1 S1 => iteT (gb.exc hB S1.rel e2 q)
            | ok d2 fr2 ρ2 =>
              simp only
              cases d2 with
              | bool j => exact fun Q q => ga.run hB R e1 fun H1 Hf1 S1 => iteT (gb.run hB S1.rel e2 fun H2 Hf2 S2 => q H2 Hf2 (S1.trans S2 sub_l sub_r))
              | _ => trivial
      | _ => trivial
theorem gtOr {K : PySem.W.Frag} {mg : Str → Option Value} {cs : List FSem} {Ex : XK} {a b : E} {ta tb : TT} (ga : GoodT K mg cs Ex a ta) (gb : GoodT K mg cs Ex b tb) : GoodT K mg cs Ex (.or a b) (tOr ta tb) := by
  intro H0 B σ H Hf ρ hB R
  unfold evalE
  cases e1 : evalE cs a ρ with
  | none => trivial
  | some r1 =>
    cases r1 with
    | ex x => exact fun Q q => ga.exc hB R e1 q
    | ok d fr ρ1 =>
      simp only [EO.bind]
      cases d with
      | bool k =>
        cases k with
        | true => exact fun Q q => ga.run hB R e1 fun H1 Hf1 S1 => iteT (q H1 Hf1 (S1.more sub_l))
        | false =>
          simp only [boolE, Bool.false_eq_true, if_false]
          cases e2 : evalE cs b ρ1 with
          | none => trivial
          | some r2 =>
            cases r2 with
            | ex x => exact fun Q q => ga.run hB R e1 fun H1 Hf1 S1 => iteF (gb.exc hB S1.rel e2 q)
            | ok d2 fr2 ρ2 =>
              simp only
              cases d2 with
              | bool j => exact fun Q q => ga.run hB R e1 fun H1 Hf1 S1 => iteF (gb.run hB S1.rel e2 fun H2 Hf2 S2 => q H2 Hf2 (S1.trans S2 sub_l sub_r))
              | _ => trivial
      | _ => trivial
theorem wAnd {a b : E} (ha : SndW S a) (hae : SndE S a) (hb : SndW S b) (hbe : SndE S b) : SndW S (.and a b) := fun sc Ex F hF ex h => by
  cases ex with
  | BoolOp o vs p =>
    match o, vs, h with
    | .And, [x, y], h =>
      have h' : (isE S.tb sc a x && isE S.tb sc b y) = true := h
      rw [Bool.and_eq_true] at h'
      obtain ⟨ta, pa, ga⟩ := ha.any hae hF h'.1
      obtain ⟨tb, pb, gb⟩ := hb.any hbe hF h'.2
      refine .inr ⟨tAnd ta tb, fun X hX => ?_, gtAnd ga gb⟩
      have w : PW X (.BoolOp .And [x, y] p) (tAnd ta tb) := pw_and (pa X hX).1 (pw_and1 (pb X hX).1)
      exact ⟨w.pt, fun _ => w⟩
    | .And, x :: y :: z :: r, h =>
      have h' : (isE S.tb sc a x && isE S.tb sc b (.BoolOp .And (y :: z :: r) p)) = true := h
      rw [Bool.and_eq_true] at h'
      obtain ⟨ta, pa, ga⟩ := ha.any hae hF h'.1
      obtain ⟨tb, pb, gb⟩ := hb.any hbe hF h'.2
      refine .inr ⟨tAnd ta tb, fun X hX => ?_, gtAnd ga gb⟩
      have w : PW X (.BoolOp .And (x :: y :: z :: r) p) (tAnd ta tb) := pw_and (pa X hX).1 ((pb X hX).2 rfl)
      exact ⟨w.pt, fun _ => w⟩
    | .And, [], h => exact no h
    | .And, [_], h => exact no h
    | .Or, _, h => exact no h
  | _ => exact no h
theorem wOr {a b : E} (ha : SndW S a) (hae : SndE S a) (hb : SndW S b) (hbe : SndE S b) : SndW S (.or a b) := fun sc Ex F hF ex h => by
  cases ex with
  | BoolOp o vs p =>
    match o, vs, h with
    | .Or, [x, y], h =>
      have h' : (isE S.tb sc a x && isE S.tb sc b y) = true := h
      rw [Bool.and_eq_true] at h'
      obtain ⟨ta, pa, ga⟩ := ha.any hae hF h'.1
      obtain ⟨tb, pb, gb⟩ := hb.any hbe hF h'.2
      refine .inr ⟨tOr ta tb, fun X hX => ?_, gtOr ga gb⟩
      have w : PW X (.BoolOp .Or [x, y] p) (tOr ta tb) := pw_or (pa X hX).1 (pw_or1 (pb X hX).1)
      exact ⟨w.pt, fun _ => w⟩
    | .Or, x :: y :: z :: r, h =>
      have h' : (isE S.tb sc a x && isE S.tb sc b (.BoolOp .Or (y :: z :: r) p)) = true := h
      rw [Bool.and_eq_true] at h'
      obtain ⟨ta, pa, ga⟩ := ha.any hae hF h'.1
      obtain ⟨tb, pb, gb⟩ := hb.any hbe hF h'.2
      refine .inr ⟨tOr ta tb, fun X hX => ?_, gtOr ga gb⟩
      have w : PW X (.BoolOp .Or (x :: y :: z :: r) p) (tOr ta tb) := pw_or (pa X hX).1 ((pb X hX).2 rfl)
      exact ⟨w.pt, fun _ => w⟩
    | .Or, [], h => exact no h
    | .Or, [_], h => exact no h
    | .And, _, h => exact no h
  | _ => exact no h
theorem isE_sc (tb : Tb) (sc : Scope) (e : E) (ex : Expr) : isE tb sc (.sc e) ex = ((mutsE e).isEmpty && isE tb sc e ex) := by cases ex <;> rfl
theorem wSc {a : E} (ha : SndW S a) : SndW S (.sc a) := fun sc Ex F hF ex h => by
  rw [isE_sc, Bool.and_eq_true] at h
  have em : mutsE a = [] := List.isEmpty_iff.mp h.1
  rcases ha sc Ex F hF ex h.2 with pl | ⟨t, p, g⟩
  · exact .inl pl
  · refine .inr ⟨t, p, ?_⟩
    intro H0 B σ H Hf ρ hB R
    unfold evalE
    cases e1 : evalE S.cs a ρ with
    | none => trivial
    | some r1 =>
      cases r1 with
      | ex x => exact fun Q q => g.exc hB R e1 q
      | ok d fr ρ1 =>
        simp only
        by_cases hs : isScal d = true
        · rw [if_pos hs]
          cases d with
          | bool b =>
            refine fun Q q => g.run hB R e1 fun H1 Hf1 S1 => q H1 Hf ?_
            rw [em] at S1
            exact S1.pure R
          | _ => trivial
        · rw [if_neg hs]
          trivial
/-- of a plain kind -/
def plE : E → Bool
  | .sc _ => false
  | .cmp _ _ _ => false
  | .chain _ _ _ _ _ => false
  | .and _ _ => false
  | .or _ _ => false
  | .not _ => false
  | .ite _ _ _ => false
  | _ => true
theorem wPl {e : E} (h : plE e = true) : SndW S e := fun sc Ex F hF ex hx => .inl (by
  cases e <;> first
    | exact no h
    | (cases ex <;> first
      | rfl
      | exact no hx
      | (rename_i o _ _; cases o <;> first | rfl | exact no hx)
      | (rename_i o _ ; cases o <;> first | rfl | exact no hx)))
end DD

-- part DSndA
set_option Elab.async false
set_option linter.all false
set_option maxRecDepth 100000
set_option maxHeartbeats 2000000
/-! The environment stored to; targets. -/
namespace DD
open PySem PySem.Spec PyProof.Rows L2
section
variable {K : PySem.W.Frag} {mg : Str → Option Value} {cs : List FSem} {Ex : XK} {H0 : Hp} {B : Bor} {σ σ' : L2.St} {ms ms1 ms2 : List Nat} {ρ ρ' ρ1 ρ2 : Env} {H Hf H1 Hf1 H2 Hf2 : Hp} {d : PD} {fr : Bool} {v : V} {i : Nat} {c : Cell}
/-- fewer names are known -/
theorem Rel.sub (R : Rel K H0 B σ H Hf ρ) (hl : σ'.length = σ.length) (hl2 : ρ'.length = ρ.length) (h : ∀ j c, getC ρ' j = some c → getC ρ j = some c ∧ σ'[j]? = σ[j]?) (hb : ∀ j a, (j, a) ∈ B → σ'[j]? = σ[j]? ∧ getC ρ' j = getC ρ j) : Rel K H0 B σ' H Hf ρ' := by
  refine ⟨R.ext, by rw [hl, hl2, R.len], fun j c hc => ?_, fun j l c c' a hj hl mj ml ej el => ?_, R.ent, fun j a hj => ?_⟩
  · obtain ⟨h1, h2⟩ := h j c hc
    rw [h2]
    exact R.get j c h1
  · obtain ⟨h1, h2⟩ := h j c hj
    obtain ⟨h3, h4⟩ := h l c' hl
    rw [h2] at ej
    rw [h4] at el
    exact R.sep j l c c' a h1 h3 mj ml ej el
  · obtain ⟨h1, h2⟩ := hb j a hj
    rw [h1, h2]
    exact R.bor j a hj
theorem Rel.updD {D : Addr} {o : HO} (R : Rel K H0 B σ H Hf ρ) (hf : Hf D = none) (h0 : H0 D = none) (no : ∀ i c, getC ρ i = some c → c.isMut = true → σ[i]? ≠ some (some (.ref D))) : Rel K H0 B σ (upd H D o) Hf ρ := by
  have ne : ∀ {b : Addr} {u : HO}, Hf b = some u → b ≠ D := fun h e => by
    rw [e, hf] at h
    cases h
  refine ⟨fun b u h => by rw [upd_ne (ne h)]; exact R.ext b u h, R.len, fun j c hc => ?_, R.sep, fun b u h hb => ?_, R.bor⟩
  · obtain ⟨w, hw, ok⟩ := R.get j c hc
    refine ⟨w, hw, ?_⟩
    cases c with
    | sh x => exact ok
    | ow x => exact ⟨ok.1.keep (fun _ _ q => q) (fun b u eb q => by
        rw [upd_ne fun z => no j _ hc rfl (by rw [hw, eb, z])]
        exact q) fun b eb => by
          obtain ⟨b', eb', hb', _⟩ := R.own hc rfl
          rw [hw, eb] at eb'
          cases eb'
          exact hb', ok.2⟩
    | bo x => exact ⟨ok.1.keep (fun _ _ q => q) (fun b u eb q => by
        rw [upd_ne fun z => no j _ hc rfl (by rw [hw, eb, z])]
        exact q) fun b eb => by
          obtain ⟨b', eb', hb', _⟩ := R.own hc rfl
          rw [hw, eb] at eb'
          cases eb'
          exact hb', ok.2⟩
  · rw [upd_ne fun z => ?_]
    · exact R.ent b u h hb
    · rw [z, h0] at h
      cases h
theorem setC_some (h : setC ρ i c = some ρ') : ρ' = ρ.set i (some c) ∧ i < ρ.length ∧ ∀ x, getC ρ i ≠ some (.bo x) := by
  unfold setC at h
  unfold getC
  cases q : ρ[i]? with
  | none => simp [q] at h
  | some o =>
    have hl : i < ρ.length := by
      rw [List.getElem?_eq_some_iff] at q
      exact q.1
    cases o with
    | none =>
      simp only [q, Option.some.injEq] at h
      exact ⟨h.symm, hl, fun x => nofun⟩
    | some c0 =>
      cases c0 with
      | bo _ => simp [q] at h
      | sh x =>
        simp only [q, Option.some.injEq] at h
        exact ⟨h.symm, hl, fun x => nofun⟩
      | ow x =>
        simp only [q, Option.some.injEq] at h
        exact ⟨h.symm, hl, fun x => nofun⟩
/-- a name is stored -/
theorem Rel.put (R : Rel K H0 B σ H Hf ρ) (h : setC ρ i (mkC d fr) = some ρ') (r : if fr = true then Own K H Hf v d ∧ ∀ a, v = .ref a → H0 a = none ∧ ∀ j c, getC ρ j = some c → c.isMut = true → σ[j]? ≠ some (some (.ref a)) else Rp K Hf v d) : Rel K H0 B (σ.set i (some v)) H Hf ρ' := by
  obtain ⟨rfl, hl, nb⟩ := setC_some h
  have hls : i < σ.length := by
    rw [R.len]
    exact hl
  have gc : ∀ {l : Nat} {x : Cell}, getC (ρ.set i (some (mkC d fr))) l = some x → (l = i ∧ x = mkC d fr) ∨ (l ≠ i ∧ getC ρ l = some x) := fun {l x} hx => by
    by_cases e : i = l
    · subst e
      rw [getC_set_self hl] at hx
      cases hx
      exact .inl ⟨rfl, rfl⟩
    · rw [getC_set_ne e] at hx
      exact .inr ⟨fun z => e z.symm, hx⟩
  refine ⟨R.ext, by rw [List.length_set, List.length_set, R.len], fun j c hc => ?_, fun j l c c' a hj hl' mj ml ej el => ?_, R.ent, fun j a hb => ?_⟩
  · rcases gc hc with ⟨rfl, rfl⟩ | ⟨ne, hc⟩
    · refine ⟨v, by rw [List.getElem?_set_self hls], ?_⟩
      cases fr with
      | false => exact r
      | true => exact ⟨r.1, fun a ea => (r.2 a ea).1⟩
    · obtain ⟨w, hw, ok⟩ := R.get j c hc
      exact ⟨w, by rw [List.getElem?_set_ne (Ne.symm ne)]; exact hw, ok⟩
  · rcases gc hj with ⟨q1, q2⟩ | ⟨ne, hj2⟩
    · rcases gc hl' with ⟨q3, q4⟩ | ⟨ne', hl2⟩
      · rw [q1, q3]
      · rw [q1, List.getElem?_set_self hls] at ej
        rw [List.getElem?_set_ne (Ne.symm ne')] at el
        rw [q2] at mj
        cases fr with
        | false => simp [mkC, Cell.isMut] at mj
        | true => exact absurd el ((r.2 a (Option.some.inj (Option.some.inj ej))).2 l c' hl2 ml)
    · rcases gc hl' with ⟨q3, q4⟩ | ⟨ne', hl2⟩
      · rw [q3, List.getElem?_set_self hls] at el
        rw [List.getElem?_set_ne (Ne.symm ne)] at ej
        rw [q4] at ml
        cases fr with
        | false => simp [mkC, Cell.isMut] at ml
        | true => exact absurd ej ((r.2 a (Option.some.inj (Option.some.inj el))).2 j c hj2 mj)
      · rw [List.getElem?_set_ne (Ne.symm ne)] at ej
        rw [List.getElem?_set_ne (Ne.symm ne')] at el
        exact R.sep j l c c' a hj2 hl2 mj ml ej el
  · obtain ⟨e1, z, e2⟩ := R.bor j a hb
    have ne : i ≠ j := fun e => by
      subst e
      exact nb z e2
    rw [List.getElem?_set_ne ne, getC_set_ne ne]
    exact ⟨e1, z, e2⟩
theorem Rel.putSh (R : Rel K H0 B σ H Hf ρ) (h : setC ρ i (.sh d) = some ρ') (r : Rp K Hf v d) : Rel K H0 B (σ.set i (some v)) H Hf ρ' := R.put (d := d) (fr := false) h r

/-! ### targets -/
def gNs : List Nat → TGs
  | [] => gNil
  | i :: is => gCons (gName i) (gNs is)
def gTg (K : PySem.W.Frag) : Tg → TG
  | .nm i => gName i
  | .tp is => gTup K is.length (gNs is)
structure OffOk (vs : List Nat) (σ σ' : L2.St) (ρ ρ' : Env) : Prop where
  ls : σ'.length = σ.length
  lr : ρ'.length = ρ.length
  st : ∀ j, j ∉ vs → σ'[j]? = σ[j]?
  en : ∀ j, j ∉ vs → getC ρ' j = getC ρ j
  sh : ∀ j c, j ∈ vs → getC ρ' j = some c → c.isMut = false
theorem OffOk.le {vs : List Nat} (o : OffOk vs σ σ' ρ ρ') : Le ρ ρ' := ⟨o.lr, fun j c hc m => by
  by_cases hj : j ∈ vs
  · have := o.sh j c hj hc
    rw [this] at m
    cases m
  · rw [o.en j hj] at hc
    exact ⟨c, hc, m⟩⟩
theorem OffOk.mutAt {vs : List Nat} {a : Addr} (o : OffOk vs σ σ' ρ ρ') (h : MutAt σ' ρ' ms a) : MutAt σ ρ ms a := by
  obtain ⟨j, hj, c, hc, m, e⟩ := h
  by_cases hv : j ∈ vs
  · have := o.sh j c hv hc
    rw [this] at m
    cases m
  · exact ⟨j, hj, c, by rw [← o.en j hv]; exact hc, m, by rw [← o.st j hv]; exact e⟩
theorem setTs_ok : ∀ {is : List Nat} {ds : List PD} {vs : List V} {σ : L2.St} {ρ ρ' : Env}, Rel K H0 B σ H Hf ρ → setTs is ds ρ = some ρ' → RpA K Hf vs ds →
    ∀ Q : L2.St → Hp → Prop, (∀ σ', Rel K H0 B σ' H Hf ρ' → OffOk is σ σ' ρ ρ' → Q σ' H) → gNs is vs σ H Q
  | [], [], _, σ, ρ, ρ', R, h, .nil, Q, q => by
    cases h
    exact ⟨rfl, q σ R ⟨rfl, rfl, fun _ _ => rfl, fun _ _ => rfl, fun _ _ z => by cases z⟩⟩
  | [], _ :: _, _, _, _, _, _, h, _, _, _ => by cases h
  | _ :: _, [], _, _, _, _, _, h, _, _, _ => by cases h
  | i :: is, d :: ds, _, σ, ρ, ρ', R, h, .cons (v := v) (vs := vs) r rr, Q, q => by
    unfold setTs at h
    cases e1 : setC ρ i (.sh d) with
    | none => simp [e1] at h
    | some ρ1 =>
      rw [e1] at h
      have R1 := R.putSh e1 r
      obtain ⟨rfl, hl, nb⟩ := setC_some e1
      refine ⟨v, vs, rfl, ?_⟩
      refine setTs_ok R1 h rr Q fun σ' R' o => q σ' R' ⟨by rw [o.ls, List.length_set], by rw [o.lr, List.length_set], fun j hj => ?_, fun j hj => ?_, fun j c hj hc => ?_⟩
      · rw [o.st j fun z => hj (List.mem_cons_of_mem _ z), List.getElem?_set_ne fun z => hj (by rw [z]; exact List.mem_cons_self)]
      · rw [o.en j fun z => hj (List.mem_cons_of_mem _ z), getC_set_ne fun z => hj (by rw [z]; exact List.mem_cons_self)]
      · by_cases hj' : j ∈ is
        · exact o.sh j c hj' hc
        · rcases List.mem_cons.mp hj with e | hj
          · rw [o.en j hj', e, getC_set_self hl] at hc
            cases hc
            rfl
          · exact absurd hj hj'
theorem setTs_len : ∀ {is : List Nat} {ds : List PD} {ρ ρ' : Env}, setTs is ds ρ = some ρ' → ds.length = is.length
  | [], [], _, _, _ => rfl
  | [], _ :: _, _, _, h => by cases h
  | _ :: _, [], _, _, h => by cases h
  | i :: is, d :: ds, ρ, ρ', h => by
    unfold setTs at h
    cases e1 : setC ρ i (.sh d) with
    | none => simp [e1] at h
    | some ρ1 =>
      rw [e1] at h
      rw [List.length_cons, List.length_cons, setTs_len h]
/-- d's value goes to the target -/
theorem setT_ok {tg : Tg} (R : Rel K H0 B σ H Hf ρ) (h : setT tg d ρ = some ρ') (r : Rp K Hf v d) (Q : L2.St → Hp → Prop) (q : ∀ σ', Rel K H0 B σ' H Hf ρ' → OffOk tg.slots σ σ' ρ ρ' → Q σ' H) : gTg K tg v σ H Q := by
  cases tg with
  | nm i =>
    have R1 := R.putSh (i := i) h r
    obtain ⟨rfl, hl, nb⟩ := setC_some (show setC ρ i (.sh d) = some ρ' from h)
    refine q _ R1 ⟨by rw [List.length_set], by rw [List.length_set], fun j hj => ?_, fun j hj => ?_, fun j c hj hc => ?_⟩
    · rw [List.getElem?_set_ne fun z => hj (by rw [z]; exact List.mem_singleton.mpr rfl)]
    · rw [getC_set_ne fun z => hj (by rw [z]; exact List.mem_singleton.mpr rfl)]
    · rw [List.mem_singleton.mp hj, getC_set_self hl] at hc
      cases hc
      rfl
  | tp is =>
    cases d with
    | tuple ds =>
      have h' : setTs is ds ρ = some ρ' := h
      obtain ⟨a, xs, rfl, s, rr⟩ := r.tup_inv
      exact ⟨a, xs, rfl, Same.sqt R.ext s, by rw [rr.length, setTs_len h'], setTs_ok R h' rr Q q⟩
    | _ => cases h

/-! ### wiping -/
theorem getC_wipe {i : Nat} : ∀ {vs : List Nat}, i ∉ vs → getC (wipeC ρ vs) i = getC ρ i
  | [], _ => rfl
  | v :: vs, h => by
    rw [wipeC, getC_set_ne fun z => h (by rw [z]; exact List.mem_cons_self), getC_wipe fun z => h (List.mem_cons_of_mem _ z)]
theorem getC_wiped {i : Nat} {c : Cell} : ∀ {vs : List Nat}, getC (wipeC ρ vs) i = some c → i ∉ vs
  | [], _ => by simp
  | v :: vs, h => by
    rw [wipeC] at h
    by_cases e : v = i
    · subst e
      rw [getC_set_none] at h
      cases h
    · rw [getC_set_ne e] at h
      simp only [List.mem_cons, not_or]
      exact ⟨fun z => e z.symm, getC_wiped h⟩
theorem len_wipe : ∀ {vs : List Nat}, (wipeC ρ vs).length = ρ.length
  | [] => rfl
  | v :: vs => by rw [wipeC, List.length_set, len_wipe]
theorem getC_getD {i : Nat} : getC (ρ.set i (ρ2.getD i none)) i = if i < ρ.length then getC ρ2 i else none := by
  by_cases h : i < ρ.length
  · rw [if_pos h]
    unfold getC
    rw [List.getElem?_set_self h, List.getD_eq_getElem?_getD]
    cases ρ2[i]? with
    | none => rfl
    | some x => rfl
  · rw [if_neg h]
    unfold getC
    rw [List.getElem?_eq_none (by simpa using h)]
theorem getC_back {i : Nat} : ∀ {vs : List Nat}, i ∉ vs → getC (backC ρ ρ2 vs) i = getC ρ i
  | [], _ => rfl
  | v :: vs, h => by
    rw [backC, getC_set_ne fun z => h (by rw [z]; exact List.mem_cons_self), getC_back fun z => h (List.mem_cons_of_mem _ z)]
theorem len_back : ∀ {vs : List Nat}, (backC ρ ρ2 vs).length = ρ.length
  | [] => rfl
  | v :: vs => by rw [backC, List.length_set, len_back]
theorem getC_backed {i : Nat} : ∀ {vs : List Nat}, i ∈ vs → ρ.length = ρ2.length → getC (backC ρ ρ2 vs) i = getC ρ2 i
  | [], h, _ => by cases h
  | v :: vs, h, hl => by
    rw [backC]
    by_cases e : v = i
    · subst e
      rw [getC_getD, len_back]
      by_cases q : v < ρ.length
      · rw [if_pos q]
      · rw [if_neg q]
        unfold getC
        rw [List.getElem?_eq_none (by omega)]
    · rw [getC_set_ne e]
      rcases List.mem_cons.mp h with z | z
      · exact absurd z.symm e
      · exact getC_backed z hl
theorem wipe_ext : ∀ {vs : List Nat} {a b : L2.St}, a.length = b.length → (∀ j, j ∉ vs → a[j]? = b[j]?) → wipe a vs = wipe b vs
  | [], a, b, hl, h => List.ext_getElem? fun j => h j (by simp)
  | v :: vs, a, b, hl, h => by
    have key : ∀ (vs : List Nat) (a : L2.St) (j : Nat), (wipe a vs)[j]? = if j ∈ vs ∧ j < a.length then some none else a[j]? := fun vs => by
      induction vs with
      | nil =>
        intro a j
        simp [wipe]
      | cons v vs ih =>
        intro a j
        unfold wipe
        by_cases e : v = j
        · subst e
          by_cases hl : v < a.length
          · rw [List.getElem?_set_self (by rw [wipe_length]; exact hl), if_pos ⟨List.mem_cons_self, hl⟩]
          · rw [List.getElem?_eq_none (by rw [List.length_set, wipe_length]; omega), if_neg (fun z => hl z.2), List.getElem?_eq_none (by omega)]
        · rw [List.getElem?_set_ne e, ih a j]
          by_cases q : j ∈ vs
          · simp [q]
          · have e' : ¬ j = v := fun z => e z.symm
            simp [q, e']
    refine List.ext_getElem? fun j => ?_
    rw [key, key, hl]
    by_cases q : j ∈ v :: vs
    · by_cases hj : j < b.length
      · rw [if_pos ⟨q, hj⟩, if_pos ⟨q, hj⟩]
      · rw [if_neg (fun z => hj z.2), if_neg (fun z => hj z.2), List.getElem?_eq_none (by omega), List.getElem?_eq_none (by omega)]
    · rw [if_neg (fun z => q z.1), if_neg (fun z => q z.1), h j q]
end
end DD

-- part DSndB
set_option Elab.async false
set_option linter.all false
set_option maxRecDepth 100000
set_option maxHeartbeats 2000000
/-! Soundness: comprehensions. -/
namespace DD
open PySem PySem.Spec PyProof.Rows L2
section
variable {K : PySem.W.Frag} {mg : Str → Option Value} {cs : List FSem} {Ex : XK} {H0 : Hp} {B : Bor} {σ σ' σ2 : L2.St} {ms ms1 ms2 vs ws : List Nat} {ρ ρ' ρ1 ρ2 ρ3 : Env} {H Hf H1 Hf1 H2 Hf2 H3 Hf3 : Hp} {d : PD} {fr : Bool} {v : V} {i : Nat} {c : Cell} {D : Addr} {xs : List V} {acc : List PD}
/-- what stands through the turns, by the start (ρ1, H1, Hf1) -/
structure LcIn (K : PySem.W.Frag) (σ : L2.St) (ms vs : List Nat) (D : Addr) (ρ1 : Env) (H1 Hf1 : Hp) (ρ : Env) (H Hf : Hp) (xs : List V) (acc : List PD) : Prop where
  ext : Same Hf1 Hf
  fr : Fr σ ρ1 ms H1 H
  gr : Gr σ ρ1 H1 Hf1 Hf
  le : Le ρ1 ρ
  hid : ∀ j c a, j ∈ vs → getC ρ1 j = some c → c.isMut = true → σ[j]? = some (some (.ref a)) → Hf a = none ∧ H a = H1 a
  no : ∀ j c, j ∈ vs → getC ρ j = some c → c.isMut = false
  lst : H D = some (.lst xs)
  dat : RpA K Hf xs acc
  free : Hf D = none
theorem LcIn.step (R1 : Rel K H0 B σ H1 Hf1 ρ1) (hD : H1 D = none) (L : LcIn K σ ms vs D ρ1 H1 Hf1 ρ H Hf xs acc) (off : ∀ j c, getC ρ j = some c → c.isMut = true → σ2[j]? = σ[j]?) (S : Step K H0 B σ2 ms2 ρ H Hf ρ3 H3 Hf3) (hs : ∀ i ∈ ms2, i ∈ ms) : LcIn K σ ms vs D ρ1 H1 Hf1 ρ3 H3 Hf3 xs acc := by
  have up : ∀ {a : Addr} {j : Nat} {c : Cell}, getC ρ j = some c → c.isMut = true → σ2[j]? = some (some (V.ref a)) → ∃ c', getC ρ1 j = some c' ∧ c'.isMut = true ∧ σ[j]? = some (some (V.ref a)) := fun {a j c} hc m e => by
    obtain ⟨c', hc', m'⟩ := L.le.mu j c hc m
    exact ⟨c', hc', m', by rw [← off j c hc m]; exact e⟩
  have nD : ¬ ∃ j c, getC ρ j = some c ∧ c.isMut = true ∧ σ2[j]? = some (some (V.ref D)) := fun ⟨j, c, hc, m, e⟩ => by
    obtain ⟨c', hc', m', e'⟩ := up hc m e
    obtain ⟨b, eb, _, ⟨u, hu⟩, _⟩ := R1.own hc' m'
    rw [e'] at eb
    cases eb
    rw [hD] at hu
    cases hu
  have frA : ∀ a o, H a = some o → (¬ ∃ j c, getC ρ j = some c ∧ c.isMut = true ∧ σ2[j]? = some (some (V.ref a))) → H3 a = some o ∧ Hf3 a = Hf a := fun a o h n => ⟨S.fr a o h fun ⟨j, _, c, hc, m, e⟩ => n ⟨j, c, hc, m, e⟩, S.gr a o h n⟩
  refine ⟨Same.trans L.ext S.ext, fun a o h n => ?_, fun b u h n => ?_, L.le.trans S.le, fun j c a hj hc m e => ?_, fun j c hj hc => ?_, (frA D _ L.lst nD).1, L.dat.mono S.ext, ?_⟩
  · refine S.fr a o (L.fr a o h n) fun ⟨j, hj, c, hc, m, e⟩ => ?_
    obtain ⟨c', hc', m', e'⟩ := up hc m e
    exact n ⟨j, hs j hj, c', hc', m', e'⟩
  · have h2 := L.fr b u h fun ⟨j, _, c, hc, m, e⟩ => n ⟨j, c, hc, m, e⟩
    rw [(frA b u h2 fun ⟨j, c, hc, m, e⟩ => ?_).2]
    · exact L.gr b u h n
    · obtain ⟨c', hc', m', e'⟩ := up hc m e
      exact n ⟨j, c', hc', m', e'⟩
  · obtain ⟨h1, h2⟩ := L.hid j c a hj hc m e
    obtain ⟨b, eb, _, ⟨u, hu⟩, _⟩ := R1.own hc m
    rw [e] at eb
    cases eb
    rw [hu] at h2
    obtain ⟨q1, q2⟩ := frA a u h2 fun ⟨l, c2, hc2, m2, e2⟩ => by
      obtain ⟨c', hc', m', e'⟩ := up hc2 m2 e2
      have el : l = j := R1.sep l j c' c a hc' hc m' m e' e
      subst el
      have := L.no l c2 hj hc2
      rw [this] at m2
      cases m2
    rw [q2, h1, q1, hu]
    exact ⟨rfl, rfl⟩
  · cases m : c.isMut with
    | false => rfl
    | true =>
      obtain ⟨c', hc', m'⟩ := S.le.mu j c hc m
      rw [L.no j c' hj hc'] at m'
      cases m'
  · rw [(frA D _ L.lst nD).2]
    exact L.free
theorem LcIn.app (R1 : Rel K H0 B σ H1 Hf1 ρ1) (hD : H1 D = none) (L : LcIn K σ ms vs D ρ1 H1 Hf1 ρ H Hf xs acc) (r : Rp K Hf v d) : LcIn K σ ms vs D ρ1 H1 Hf1 ρ (upd H D (.lst (xs ++ [v]))) Hf (xs ++ [v]) (acc ++ [d]) := by
  have ne : ∀ {a : Addr} {u : HO}, H1 a = some u → a ≠ D := fun h e => by
    rw [e, hD] at h
    cases h
  refine ⟨L.ext, fun a o h n => by rw [upd_ne (ne h)]; exact L.fr a o h n, L.gr, L.le, fun j c a hj hc m e => ?_, L.no, upd_same, L.dat.snoc r, L.free⟩
  obtain ⟨b, eb, _, ⟨u, hu⟩, _⟩ := R1.own hc m
  rw [e] at eb
  cases eb
  rw [upd_ne (ne hu)]
  exact L.hid j c a hj hc m e
/-- other names known -/
theorem LcIn.names (L : LcIn K σ ms vs D ρ1 H1 Hf1 ρ H Hf xs acc) (h : Le ρ ρ') : LcIn K σ ms vs D ρ1 H1 Hf1 ρ' H Hf xs acc :=
  ⟨L.ext, L.fr, L.gr, L.le.trans h, L.hid, (fun j c hj hc => by
    cases m : c.isMut with
    | false => rfl
    | true =>
      obtain ⟨c', hc', m'⟩ := h.mu j c hc m
      rw [L.no j c' hj hc'] at m'
      cases m'), L.lst, L.dat, L.free⟩
theorem le_wipe : Le ρ (wipeC ρ vs) := ⟨len_wipe, fun j c hc m => ⟨c, by rw [← getC_wipe (getC_wiped hc)]; exact hc, m⟩⟩
/-- the names come back -/
theorem LcIn.back (hB : BOk B) (h0 : ∀ j ∈ vs, j ≠ 0) (R1 : Rel K H0 B σ H1 Hf1 ρ1) (L : LcIn K σ ms vs D ρ1 H1 Hf1 ρ H Hf xs acc) (hw : ∀ j ∈ ws, j ∈ vs) (R : Rel K H0 B (wipe σ ws) H Hf ρ) : Step K H0 B σ ms ρ1 H1 Hf1 (backC ρ ρ1 vs) H Hf := by
  have hl := L.le.len
  have le : Le ρ1 (backC ρ ρ1 vs) := ⟨by rw [len_back, hl], fun j c hc m => by
    by_cases hj : j ∈ vs
    · rw [getC_backed hj hl] at hc
      exact ⟨c, hc, m⟩
    · rw [getC_back hj] at hc
      exact L.le.mu j c hc m⟩
  refine ⟨L.ext, ⟨R.ext, by rw [len_back, hl, R1.len], fun j c hc => ?_, fun j l c c' a hj hl' mj ml ej el => ?_, R.ent, fun j a hb => ?_⟩, L.fr, L.gr, le⟩
  · by_cases hj : j ∈ vs
    · rw [getC_backed hj hl] at hc
      obtain ⟨w, hw', ok⟩ := R1.get j c hc
      refine ⟨w, hw', ?_⟩
      cases c with
      | sh x => exact Rp.mono L.ext ok
      | ow x =>
        refine ⟨ok.1.keep L.ext (fun b u eb q => ?_) fun b eb => ?_, ok.2⟩
        · rw [(L.hid j _ b hj hc rfl (by rw [hw', eb])).2]
          exact q
        · exact (L.hid j _ b hj hc rfl (by rw [hw', eb])).1
      | bo x =>
        refine ⟨ok.1.keep L.ext (fun b u eb q => ?_) fun b eb => ?_, ok.2⟩
        · rw [(L.hid j _ b hj hc rfl (by rw [hw', eb])).2]
          exact q
        · exact (L.hid j _ b hj hc rfl (by rw [hw', eb])).1
    · rw [getC_back hj] at hc
      obtain ⟨w, hw', ok⟩ := R.get j c hc
      exact ⟨w, (wipe_some hw').1, ok⟩
  · obtain ⟨x, hx, mx⟩ := le.mu j c hj mj
    obtain ⟨y, hy, my⟩ := le.mu l c' hl' ml
    exact R1.sep j l x y a hx hy mx my ej el
  · have e0 := hB j a hb
    have nv : j ∉ vs := fun z => h0 j z e0
    rw [getC_back nv]
    exact ⟨(R1.bor j a hb).1, (R.bor j a hb).2⟩
end

theorem drop_at {α : Type} : ∀ {l : List α} {i : Nat} {x : α} {r : List α}, l.drop i = x :: r → l[i]? = some x ∧ l.drop (i + 1) = r
  | [], i, _, _, h => by simp at h
  | a :: l, 0, _, _, h => by
    simp at h
    exact ⟨by simp [h.1], by simp [h.2]⟩
  | a :: l, i + 1, x, r, h => by
    obtain ⟨h1, h2⟩ := drop_at (l := l) (i := i) (by simpa using h)
    exact ⟨by simpa using h1, by simpa using h2⟩

variable {S : Setg}
def SndL (S : Setg) (elt : E) (tg : Tg) (it : It) (cond : E) : Prop := ∀ (sc : Scope) (Ex : XK) (F : Fam), (∀ X, F X → S.ctx sc Ex X) → ∀ ex, isE S.tb sc (.lc elt tg it cond) ex = true → ∃ t : TE, (∀ X, F X → PE X ex t ∧
    ∀ (y : Str) (py spos : Pos) (i : Nat), X.N[i]? = some y → X.env.scope.names.lookup y = some .local → swapsWith ex (some (.Name y py)) spos.line X.env = pure true → PS X (.Assign [.Name y py] ex spos) (tAsg t (gName i))) ∧ GoodE S.K S.mg S.cs Ex (.lc elt tg it cond) t
theorem pgTg {X : Cx} {sc scope : Scope} {N : List Str} (hc : X.calm = true) (hX : X.N = N) (nd : X.N.Nodup) (hs : X.env.scope = relS scope sc) (hf : ∀ x, X.fn x = (scope.names.lookup x == some .cell)) {tg : Tg} {t : Expr} {own : List (Str × Nat)} (ho : ownOf tg t = some own) (h1 : ∀ p ∈ own, N[p.2]? = some p.1) (h2 : ∀ p ∈ own, locB scope p.1 = true) : PG X t (gTg X.K tg) := by
  have one : ∀ {i : Nat} {x : Str} {pos : Pos}, N[i]? = some x → locB scope x = true → PG X (.Name x pos) (gName i) := fun {i x pos} hi hl => by
    unfold locB at hl
    have h3 : scope.names.lookup x = some .local ∨ scope.names.lookup x = some .cell := by
      split at hl
      · rename_i e
        exact .inl e
      · rename_i e
        exact .inr e
      · cases hl
    have keep : ∀ {k : NameKind}, k ≠ .free → scope.names.lookup x = some k → X.env.scope.names.lookup x = some k := fun {k} hk e => by
      rw [hs]
      exact lookup_relS_keep hk e
    rcases h3 with e | e
    · exact pg_name nd (by rw [hX]; exact hi) (.inl (keep (by decide) e)) (.inr (keep (by decide) e))
    · exact pg_name nd (by rw [hX]; exact hi) (.inr (keep (by decide) e)) (.inl (by rw [hf, e]; rfl))
  cases tg with
  | nm i =>
    cases t with
    | Name x p =>
      cases ho
      exact one (h1 _ (List.mem_singleton.mpr rfl)) (h2 _ (List.mem_singleton.mpr rfl))
    | _ => cases ho
  | tp is =>
    cases t with
    | Tuple es k p =>
      have go : ∀ {is : List Nat} {es : List Expr} {own : List (Str × Nat)}, ownNs is es = some own → (∀ p ∈ own, N[p.2]? = some p.1) → (∀ p ∈ own, locB scope p.1 = true) → PGs X es (gNs is) ∧ (assignEach es X.env).length = is.length ∧ (assignEach es X.env).findIdx? (·.1) = none := fun {is} => by
        induction is with
        | nil =>
          intro es own h _ _
          cases es with
          | nil => exact ⟨pgs_nil, rfl, rfl⟩
          | cons _ _ => cases h
        | cons i is ih =>
          intro es own h h1 h2
          cases es with
          | nil => cases h
          | cons e es =>
            cases e with
            | Name x p =>
              have h' : (ownNs is es).map ((x, i) :: ·) = some own := h
              cases hr : ownNs is es with
              | none => simp [hr] at h'
              | some own2 =>
                rw [hr] at h'
                cases h'
                obtain ⟨p1, p2, p3⟩ := ih hr (fun p hp => h1 p (List.mem_cons_of_mem _ hp)) fun p hp => h2 p (List.mem_cons_of_mem _ hp)
                refine ⟨pgs_cons (one (h1 _ List.mem_cons_self) (h2 _ List.mem_cons_self)) p1, ?_, ?_⟩
                · show (assignEach es X.env).length + 1 = is.length + 1
                  rw [p2]
                · show ((false, assign (.Name x p) X.env) :: assignEach es X.env).findIdx? (·.1) = none
                  rw [List.findIdx?_cons, p3]
                  rfl
            | _ => cases h
      obtain ⟨p1, p2, p3⟩ := go (show ownNs is es = some own from ho) h1 h2
      exact pg_tup hc p1 p2 p3
    | _ => cases ho
theorem own_slots {tg : Tg} {t : Expr} {own : List (Str × Nat)} (ho : ownOf tg t = some own) : own.map (·.2) = tg.slots := by
  cases tg with
  | nm i =>
    cases t with
    | Name x p =>
      cases ho
      rfl
    | _ => cases ho
  | tp is =>
    cases t with
    | Tuple es k p =>
      have go : ∀ {is : List Nat} {es : List Expr} {own : List (Str × Nat)}, ownNs is es = some own → own.map (·.2) = is := fun {is} => by
        induction is with
        | nil =>
          intro es own h
          cases es with
          | nil =>
            cases h
            rfl
          | cons _ _ => cases h
        | cons i is ih =>
          intro es own h
          cases es with
          | nil => cases h
          | cons e es =>
            cases e with
            | Name x p =>
              have h' : (ownNs is es).map ((x, i) :: ·) = some own := h
              cases hr : ownNs is es with
              | none => simp [hr] at h'
              | some own2 =>
                rw [hr] at h'
                cases h'
                rw [List.map_cons, ih hr]
            | _ => cases h
      exact go (show ownNs is es = some own from ho)
    | _ => cases ho
theorem goodYes {K : PySem.W.Frag} {mg : Str → Option Value} {cs : List FSem} {Ex : XK} : GoodT K mg cs Ex (.bl true) tYes := by
  intro H0 B σ H Hf ρ hB R
  exact fun Q q => q H Hf (Step.refl R)
theorem blkCtx {sc scope : Scope} {Ex : XK} {X : Cx} (C : S.ctx sc Ex X) (s : Shared) (H : Hp) (Ca : Addr) (cl : List (Str × Addr)) (fp : List Addr) : S.ctx (relS scope sc) (fun _ _ _ => False) (X.blk s H scope (compEnvC scope cl Ca X.env) fp) :=
  ⟨C.hK, C.hmg, C.hN, C.nd, by rw [← C.hsc]; rfl, C.calm, C.room, fun pins σ H s e s' I c => by
    obtain ⟨a, B, H', cls, d, h⟩ := c
    exact h.2.2.2.2.2.2.2.elim, C.fns, C.blt, C.gi, C.gt⟩
end DD

-- part DSndC
set_option Elab.async false
set_option linter.all false
set_option maxRecDepth 100000
set_option maxHeartbeats 2000000
/-! Soundness: comprehensions, joined. -/
namespace DD
open PySem PySem.Spec PyProof.Rows L2
variable {S : Setg}
theorem good_lc {K : PySem.W.Frag} {mg : Str → Option Value} {cs : List FSem} {Ex Ex2 : XK} {elt cond : E} {tg : Tg} {it : It} {wi : TI} {tt : TT} {te : TE} (gi : GoodI K mg cs Ex it wi) (gc : GoodT K mg cs Ex2 cond tt) (ge : GoodE K mg cs Ex2 elt te)
    (h0 : ∀ j ∈ tg.slots ++ hidI it, j ≠ 0) (hap : ∀ j ∈ tg.slots ++ hidI it, j ∉ mutsE cond ++ mutsE elt) : GoodE K mg cs Ex (.lc elt tg it cond) (tLc wi (gTg K tg) tt te tg.slots) := by
  refine GoodE.of fun H0 B σ H Hf ρ hB R r hr => ?_
  unfold evalE at hr
  have g := gi H0 B σ H Hf ρ hB R
  rcases bindA_ok hr with ⟨x, e1, rfl⟩ | ⟨ds, ρ1, e1, hr⟩
  · rw [e1] at g
    exact fun Q q => g _ q
  · rw [e1] at g
    unfold lcE at hr
    split at hr
    · rename_i hz
      generalize hvs : tg.slots ++ hidI it = vs at h0 hap hr
      have hsl : ∀ j ∈ tg.slots, j ∈ vs := fun j hj => by
        rw [← hvs]
        exact List.mem_append_left _ hj
      split at hr
      · rename_i acc ρf hL
        cases hr
        intro Q q
        refine g _ fun J H1 Hf1 gg S1 sv hg D hD => ?_
        have R1 := S1.rel
        have ow1 : ∀ {j : Nat} {c : Cell}, getC ρ1 j = some c → c.isMut = true → σ[j]? ≠ some (some (V.ref D)) := fun {j c} hc m e => by
          obtain ⟨b, eb, _, ⟨u, hu⟩, _⟩ := R1.own hc m
          rw [e] at eb
          cases eb
          rw [hD] at hu
          cases hu
        let Good : Nat → Hp → Prop := fun i H' => ∃ ρi Hfi xs acci, lcLoop tg (evalE cs cond) (evalE cs elt) tg.slots (ds.drop i) ρi acci = some (.ok acc ρf) ∧ Rel K H0 B (wipe σ tg.slots) H' Hfi ρi ∧
          LcIn K σ (mutsE cond ++ mutsE elt) vs D ρ1 H1 Hf1 ρi H' Hfi xs acci ∧ acci.length ≤ i
        have subR : ∀ {σ2 : L2.St} {Hx Hfx : Hp} {ρx : Env} {ws : List Nat}, Rel K H0 B σ2 Hx Hfx ρx → (∀ j, j ∉ tg.slots → σ2[j]? = (wipe σ tg.slots)[j]?) → σ2.length = σ.length → (∀ j ∈ tg.slots, j ∈ ws) → (∀ j ∈ ws, j ∈ vs) → Rel K H0 B (wipe σ tg.slots) Hx Hfx (wipeC ρx ws) :=
          fun {σ2 Hx Hfx ρx ws} Rx hst hlen hw1 hw2 => by
            refine Rx.sub (by rw [wipe_length, hlen]) len_wipe (fun j c hc => ?_) fun j a hj => ?_
            · have nj := getC_wiped hc
              rw [getC_wipe nj] at hc
              exact ⟨hc, (hst j fun z => nj (hw1 j z)).symm⟩
            · have e0 := hB j a hj
              have nw : j ∉ ws := fun z => h0 j (hw2 j z) e0
              exact ⟨(hst j fun z => nw (hw1 j z)).symm, getC_wipe nw⟩
        have out : ∀ j, j ∉ tg.slots → (wipe σ tg.slots)[j]? = σ[j]? := fun j hj => wipe_out hj
        refine ⟨fun i m H' => m = ds.length - i ∧ i ≤ ds.length ∧ Good i H', ⟨ds.length, rfl, Nat.zero_le _, wipeC ρ1 vs, Hf1, [], [], hL, ?_, ?_, Nat.le_refl _⟩, ?_⟩
        · exact subR (R1.grow hD).2 (fun j hj => (out j hj).symm) rfl hsl fun j hj => hj
        · refine ⟨fun _ _ z => z, Fr.same (R1.grow hD).1, fun _ _ _ _ => rfl, le_wipe, fun j c a hj hc m e => ?_, fun j c hj hc => absurd hj (getC_wiped hc), upd_same, .nil, Same.free R1.ext hD⟩
          obtain ⟨b, eb, hn, ⟨u, hu⟩, _⟩ := R1.own hc m
          rw [e] at eb
          cases eb
          exact ⟨hn, upd_ne (ne_of_none hu hD)⟩
        · rintro i m Hh ⟨rfl, hi, ρi, Hfi, xs, acci, hl, Ri, L, hacc⟩
          have hgi : ∀ a xs', gg = some (a, xs') → Hh a = some (.lst xs') := fun a xs' ea => by
            obtain ⟨q1, v, c, q2, q3, q4, q5⟩ := hg a xs' ea
            refine L.fr a _ q1 fun ⟨j, hj, c', hc', m', e'⟩ => ?_
            have ej : j = v := R1.sep j v c' c a hc' q3 m' q4 e' q5
            refine hap v ?_ (by rw [← ej]; exact hj)
            rw [← hvs, q2]
            exact List.mem_append_right _ (List.mem_singleton.mpr rfl)
          by_cases hlt : i < ds.length
          · have hdr : ds.drop i = ds[i] :: ds.drop (i + 1) := List.drop_eq_getElem_cons hlt
            have hd : ds[i]? = some ds[i] := List.getElem?_eq_getElem hlt
            rw [hdr] at hl
            unfold lcLoop at hl
            obtain ⟨go, yld⟩ := sv.1 i ds[i] Hh Hfi L.ext Ri.ext hgi hd
            cases hset : setT tg ds[i] ρi with
            | none => simp [hset] at hl
            | some ρ2 =>
              simp only [hset] at hl
              refine .inr ⟨go, Good (i + 1), fun H' p => ⟨ds.length - (i + 1), by omega, rfl, hlt, p⟩, fun x H' y => ?_⟩
              obtain ⟨Hf2, S2, rp, _⟩ := (yld x H' y).toE (ms := []) Ri
              have L2' := L.step (σ2 := wipe σ tg.slots) R1 hD (fun j c hc mm => out j fun z => by
                have := L.no j c (hsl j z) hc
                rw [this] at mm
                cases mm) S2 (fun _ z => by cases z)
              refine setT_ok S2.rel hset rp _ fun σ' R' o => ⟨?_, ?_⟩
              · refine (wipe_ext (by rw [o.ls, wipe_length]) fun j hj => ?_)
                rw [o.st j hj, out j hj]
              have L3 := L2'.names o.le
              have off' : ∀ j c, getC ρ2 j = some c → c.isMut = true → σ'[j]? = σ[j]? := fun j c hc mm => by
                have nj : j ∉ tg.slots := fun z => by
                  have := o.sh j c z hc
                  rw [this] at mm
                  cases mm
                rw [o.st j nj, out j nj]
              cases hc : evalE cs cond ρ2 with
              | none => simp [hc] at hl
              | some rc =>
                rw [hc] at hl
                cases rc with
                | ex _ => cases hl
                | ok dc fc ρ3 =>
                  cases dc with
                  | bool b =>
                    refine gc.run hB R' hc fun H3 Hf3 S3 => ?_
                    have L4 := L3.step R1 hD off' S3 (fun j hj => sub_l j hj)
                    have hlen : σ'.length = σ.length := by rw [o.ls, wipe_length]
                    cases b with
                    | false =>
                      refine iteF ⟨wipeC ρ3 tg.slots, Hf3, xs, acci, hl, subR S3.rel o.st hlen (fun _ z => z) hsl, L4.names le_wipe, by omega⟩
                    | true =>
                      simp only at hl
                      cases he : evalE cs elt ρ3 with
                      | none => simp [he] at hl
                      | some re =>
                        rw [he] at hl
                        cases re with
                        | ex _ => cases hl
                        | ok dy fy ρ4 =>
                          refine iteT (ge.run hB S3.rel he fun yv H4 Hf4 S4 rp4 => ?_)
                          have off3 : ∀ j c, getC ρ3 j = some c → c.isMut = true → σ'[j]? = σ[j]? := fun j c hc mm => by
                            obtain ⟨c', hc', m'⟩ := S3.le.mu j c hc mm
                            exact off' j c' hc' m'
                          have L5 := L4.step R1 hD off3 S4 (fun j hj => sub_r j hj)
                          have hx := L5.dat.length
                          refine ⟨xs, L5.lst, lim_lt ?_, wipeC ρ4 tg.slots, Hf4, xs ++ [yv], acci ++ [dy], hl, ?_, (L5.app R1 hD rp4).names le_wipe, by rw [List.length_append]; simp; omega⟩
                          · omega
                          · refine subR (S4.rel.updD L5.free (R1.h0 hD) fun j c hc mm e => ?_) o.st hlen (fun _ z => z) hsl
                            obtain ⟨c', hc', m'⟩ := S4.le.mu j c hc mm
                            obtain ⟨c2, hc2, m2⟩ := L4.le.mu j c' hc' m'
                            exact ow1 hc2 m2 (by rw [← off3 j c' hc' m']; exact e)
                  | _ => cases hl
          · have ei : i = ds.length := by omega
            subst ei
            rw [List.drop_length] at hl
            unfold lcLoop at hl
            cases hl
            refine .inl ⟨sv.2 Hh Hfi L.ext Ri.ext hgi, q _ _ (PostE.after S1 ⟨Hfi, L.back hB h0 R1 hsl Ri, ⟨.lst L.lst L.free L.dat, fun a ea => ?_⟩, fun _ a ea => ?_⟩ sub_l sub_r)⟩
            · cases ea
              refine ⟨R1.h0 hD, fun j c hc mm => ?_⟩
              obtain ⟨c', hc', m'⟩ := (L.back hB h0 R1 hsl Ri).le.mu j c hc mm
              exact ow1 hc' m'
            · cases ea
              exact .inl hD
      · cases hr
    · cases hr
theorem snd_lc {elt cond : E} {tg : Tg} {it : It} (he : SndE S elt) (hi : SndI S it) (hc : SndT S cond) : SndL S elt tg it cond := by
  intro sc Ex F hF ex h
  cases ex with
  | ListComp el gs scope pos =>
    match gs, h with
    | [⟨t, i, ifs, as⟩], h =>
      obtain ⟨h1, h2, h3, h4, h5, h6, h7, rfl⟩ : ownB S.tb sc scope tg t = true ∧ sub0 (tg.slots ++ hidI it) = true ∧ apart (tg.slots ++ hidI it) (mutsE cond ++ mutsE elt) = true ∧ noset i = true ∧ isI S.tb sc it i t = true ∧ isE S.tb (relS scope sc) elt el = true ∧
          ((ifs = [] ∧ isYes cond = true) ∨ ∃ c, ifs = [c] ∧ isE S.tb (relS scope sc) cond c = true) ∧ as = 0 := by
        match ifs, h with
        | [], h =>
          have h' : (decide (as = 0) && ownB S.tb sc scope tg t && sub0 (tg.slots ++ hidI it) && apart (tg.slots ++ hidI it) (mutsE cond ++ mutsE elt) && noset i && isI S.tb sc it i t && isE S.tb (relS scope sc) elt el && isYes cond) = true := h
          simp only [Bool.and_eq_true, decide_eq_true_eq] at h'
          obtain ⟨⟨⟨⟨⟨⟨⟨rfl, h1⟩, h2⟩, h3⟩, h4⟩, h5⟩, h6⟩, h7⟩ := h'
          exact ⟨h1, h2, h3, h4, h5, h6, .inl ⟨rfl, h7⟩, rfl⟩
        | [c], h =>
          have h' : (decide (as = 0) && ownB S.tb sc scope tg t && sub0 (tg.slots ++ hidI it) && apart (tg.slots ++ hidI it) (mutsE cond ++ mutsE elt) && noset i && isI S.tb sc it i t && isE S.tb (relS scope sc) elt el && isE S.tb (relS scope sc) cond c) = true := h
          simp only [Bool.and_eq_true, decide_eq_true_eq] at h'
          obtain ⟨⟨⟨⟨⟨⟨⟨rfl, h1⟩, h2⟩, h3⟩, h4⟩, h5⟩, h6⟩, h7⟩ := h'
          exact ⟨h1, h2, h3, h4, h5, h6, .inr ⟨c, rfl, h7⟩, rfl⟩
        | _ :: _ :: _, h =>
          have h' : (_ && false) = true := h
          rw [Bool.and_false] at h'
          cases h'
      cases ho : ownOf tg t with
      | none => simp [ownB, ho] at h1
      | some own =>
        simp only [ownB, ho, Bool.and_eq_true, decide_eq_true_eq, List.all_eq_true] at h1
        obtain ⟨⟨hb, hl⟩, _⟩ := h1
        have ok := blkOk_by hb
        obtain ⟨wi, pi, gi⟩ := hi sc Ex F hF i t h5
        let F2 : Fam := fun Y => ∃ X s H Ca cl fp, F X ∧ Y = X.blk s H scope (compEnvC scope cl Ca X.env) fp
        have hF2 : ∀ Y, F2 Y → S.ctx (relS scope sc) (fun _ _ _ => False) Y := fun Y ⟨X, s, H, Ca, cl, fp, hX, e⟩ => by
          rw [e]
          exact blkCtx (hF X hX) s H Ca cl fp
        obtain ⟨te, pe, ge⟩ := he _ _ F2 hF2 el h6
        obtain ⟨tt, pt, gc⟩ : ∃ tt : TT, (∀ Y, F2 Y → PTs Y ifs tt) ∧ GoodT S.K S.mg S.cs (fun _ _ _ => False) cond tt := by
          rcases h7 with ⟨rfl, h7⟩ | ⟨c, rfl, h7⟩
          · cases cond with
            | bl b =>
              cases b with
              | true => exact ⟨tYes, fun _ _ => pts_nil, goodYes⟩
              | false => exact no h7
            | _ => exact no h7
          · obtain ⟨tt, pt, gc⟩ := hc _ _ F2 hF2 c h7
            exact ⟨tt, fun Y hY => pts_one (pt Y hY), gc⟩
        have e0 : ∀ j ∈ tg.slots ++ hidI it, j ≠ 0 := fun j hj => by
          have := List.all_eq_true.mp h2 j hj
          exact of_decide_eq_true this
        have ap : ∀ j ∈ tg.slots ++ hidI it, j ∉ mutsE cond ++ mutsE elt := fun j hj => by
          have := List.all_eq_true.mp h3 j hj
          exact of_decide_eq_true this
        refine ⟨tLc wi (gTg S.K tg) tt te tg.slots, fun X hX => ?_, good_lc gi gc ge e0 ap⟩
        have C := hF X hX
        have okX : BlkOk X.N X.env.scope scope own := by
          rw [C.hN, C.hsc]
          exact ok
        have hg : ∀ (s : Shared) (H : Hp) (Ca : Addr) (cl : List (Str × Addr)) (fp : List Addr), PG (X.blk s H scope (compEnvC scope cl Ca X.env) fp) t (gTg S.K tg) := fun s H Ca cl fp => by
          have Cb := blkCtx (scope := scope) C s H Ca cl fp
          have := pgTg (X := X.blk s H scope (compEnvC scope cl Ca X.env) fp) Cb.calm Cb.hN Cb.nd Cb.hsc (fun x => rfl) ho (fun p hp => ok.ix p hp) hl
          rw [Cb.hK] at this
          exact this
        have hm : ∀ (s : Shared) (H : Hp) (Ca : Addr) (cl : List (Str × Addr)) (fp : List Addr), F2 (X.blk s H scope (compEnvC scope cl Ca X.env) fp) := fun s H Ca cl fp => ⟨X, s, H, Ca, cl, fp, hX, rfl⟩
        have es := own_slots ho
        refine ⟨?_, fun y py spos i hy hyl hsw => ?_⟩
        · have := pe_lc (pos := pos) C.calm C.nd (pi X hX) okX hg (fun s H Ca cl fp => pt _ (hm s H Ca cl fp)) (fun s H Ca cl fp => pe _ (hm s H Ca cl fp)) (fun x => fold_ok h4 X.env x)
          rw [es] at this
          exact this
        · have := ps_setLc (pos := pos) (spos := spos) (py := py) C.calm C.nd hy hyl hsw (pi X hX) okX hg (fun s H Ca cl fp => pt _ (hm s H Ca cl fp)) (fun s H Ca cl fp => pe _ (hm s H Ca cl fp)) (fun x => fold_ok h4 X.env x)
          rw [es] at this
          exact this
    | [], h => exact no h
    | ⟨_, _, _, _⟩ :: _ :: _, h => exact no h
  | _ => exact no h
end DD

-- part DSndD
set_option Elab.async false
set_option linter.all false
set_option maxRecDepth 100000
set_option maxHeartbeats 2000000
/-! Soundness: reversed, tuples and lists of ranges, tests by if-expressions. -/
namespace DD
open PySem PySem.Spec PyProof.Rows L2
variable {S : Setg}
theorem snd_rev {a : E} (ha : SndE S a) : SndE S (.rev a) := by
  intro sc Ex F hF ex h
  cases ex with
  | Subscript e s p =>
    obtain ⟨j, k, p1, p2, p3, rfl⟩ : ∃ j k p1 p2 p3, s = .Slice none none (some (.UnaryOp .USub (.Constant (.int j) k p1) p2)) p3 := by
      cases s with
      | Slice lo hi st p3 =>
        cases lo with
        | some _ => exact no h
        | none =>
          cases hi with
          | some _ => exact no h
          | none =>
            cases st with
            | none => exact no h
            | some st =>
              cases st with
              | UnaryOp o x p2 =>
                cases o with
                | USub =>
                  cases x with
                  | Constant c k p1 =>
                    cases c with
                    | int j => exact ⟨j, k, p1, p2, p3, rfl⟩
                    | _ => exact no h
                  | _ => exact no h
                | _ => exact no h
              | _ => exact no h
      | _ => exact no h
    have h' : (decide (j = 1) && isE S.tb sc a e) = true := h
    simp only [Bool.and_eq_true, decide_eq_true_eq] at h'
    obtain ⟨rfl, h1⟩ := h'
    obtain ⟨t, pe, g⟩ := ha sc Ex F hF e h1
    refine ⟨tRev S.K t, fun X hX => ?_, ?_⟩
    · have C := hF X hX
      have := pe_rev (k := k) (p1 := p1) (p2 := p2) (p3 := p3) (pos := p) (pe X hX)
      rw [C.hK] at this
      exact this
    · refine GoodE.of fun H0 B σ H Hf ρ hB R r hr => ?_
      unfold evalE at hr
      rcases bind_ok hr with ⟨x, e1, rfl⟩ | ⟨d1, f1, ρ1, e1, hr⟩
      · exact fun Q q => g.exc hB R e1 q
      · cases d1 with
        | list ds =>
          cases hr
          refine fun Q q => g.run hB R e1 fun v H1 Hf1 S1 rp => ?_
          obtain ⟨b, xs, rfl, s, rr⟩ := rp.lst_inv
          exact ⟨b, xs, rfl, .inl ⟨Same.sql S1.rel.ext s, fun p n => q _ _ (PostE.ofV S1 (PostV.newL S1.rel.ext n rr.reverse) sub_id)⟩⟩
        | tuple ds =>
          cases hr
          refine fun Q q => g.run hB R e1 fun v H1 Hf1 S1 rp => ?_
          obtain ⟨b, xs, rfl, s, rr⟩ := rp.tup_inv
          exact ⟨b, xs, rfl, .inr ⟨Same.sqt S1.rel.ext s, fun p n => q _ _ (PostE.ofV S1 (PostV.newT S1.rel.ext n rr.reverse) sub_id)⟩⟩
        | _ => cases hr
  | _ => exact no h
/-- what range's arguments tell -/
theorem rngL_ok {ds : List PD} {is : List PD} (h : rngL ds = some is) (hl : ds.length = 1 ∨ ds.length = 2) : ∃ a b : Int, (ds = [.int b] ∧ a = 0 ∨ ds = [.int a, .int b]) ∧ (-(LIM : Int) ≤ a ∧ a ≤ LIM) ∧ (-(LIM : Int) ≤ b ∧ b ≤ LIM) ∧ is = (List.range (b - a).toNat).map fun i => .int (a + (i : Nat)) := by
  match ds, h, hl with
  | [d], h, _ =>
    cases d with
    | int n =>
      unfold rngL at h
      by_cases hn : -(LIM : Int) ≤ n ∧ n ≤ LIM
      · simp only [hn, and_self, if_true, Option.some.injEq] at h
        refine ⟨0, n, .inl ⟨rfl, rfl⟩, by unfold LIM; omega, hn, ?_⟩
        rw [← h, Int.sub_zero]
      · simp only [hn, if_false] at h
        cases h
    | _ => cases h
  | [d, d2], h, _ =>
    cases d with
    | int n =>
      cases d2 with
      | int m =>
        unfold rngL at h
        by_cases hn : (-(LIM : Int) ≤ n ∧ n ≤ LIM) ∧ (-(LIM : Int) ≤ m ∧ m ≤ LIM)
        · simp only [hn, and_self, if_true, Option.some.injEq] at h
          exact ⟨n, m, .inr rfl, hn.1, hn.2, h.symm⟩
        · simp only [hn, if_false] at h
          cases h
      | _ => cases h
    | _ => cases h
  | [], _, hl => simp at hl
  | _ :: _ :: _ :: _, _, hl => simp at hl
theorem rg_ok {a b : Int} (h1 : -(LIM : Int) ≤ a ∧ a ≤ LIM) (h2 : -(LIM : Int) ≤ b ∧ b ≤ LIM) : RgOk a b := by
  unfold LIM at h1 h2
  exact ⟨by omega, by omega, by omega, by omega, by omega⟩
theorem rg_rp {K : PySem.W.Frag} {H : Hp} (a b : Int) : RpA K H (rgV a b) ((List.range (b - a).toNat).map fun i => .int (a + (i : Nat))) := by
  unfold rgV
  generalize (b - a).toNat = n
  have : ∀ l : List Nat, RpA K H (l.map fun i => V.int (a + (i : Nat))) (l.map fun i => .int (a + (i : Nat))) := fun l => by
    induction l with
    | nil => exact .nil
    | cons x r ih => exact .cons (.int _) ih
  exact this _
/-- the ends of a range, read as arguments -/
def tRg (t : TA) : L2.St → Hp → (Int → Int → Hp → Prop) → Prop := fun σ H Q => t σ H fun vs H1 => ∃ a b : Int, (vs = [.int b] ∧ a = 0 ∨ vs = [.int a, .int b]) ∧ Q a b H1
theorem prg_any {X : Cx} {es : List Expr} {t : TA} {p pos : Pos} (hg : Gl X "range") (hm : X.mg "range" = none) (ha : PA X es t) (hl : es.length = 1 ∨ es.length = 2) (hst : es.all nostar = true) : PRg X (.Call (.Name "range" p) es [] pos) (tRg t) := by
  intro pins s σ H Q I h
  match es, hl, hst, ha with
  | [e1], _, hst, ha =>
    rw [List.all_cons, Bool.and_eq_true] at hst
    refine Call_ (ld_blt I hg hm boot_range (PyProof.Rows.callWith_type1 (thn (ha.run pos pins s σ H _ I h) fun us s1 ⟨vs, H1, I1, r1, a, b, hv, q⟩ => ?_) (star_ok hst.1 _ _) rfl))
    rcases hv with ⟨rfl, rfl⟩ | rfl
    · cases r1 with
      | cons r rr =>
        cases rr
        obtain ⟨t, rfl⟩ := r
        exact call_range_1 ⟨_, 0, b, _, _, _, H1, rfl, IsRange.new _ _ _ _ _ _ _, I1.kept fun c u e => Heap.get?_push_of_some _ e, q⟩
    · cases r1 with
      | cons r rr =>
        cases rr with
        | cons r' rr =>
          cases rr
          obtain ⟨t, rfl⟩ := r
          obtain ⟨t', rfl⟩ := r'
          exact call_range_2 ⟨_, a, b, _, _, _, H1, rfl, IsRange.new _ _ _ _ _ _ _, I1.kept fun c u e => Heap.get?_push_of_some _ e, q⟩
  | [e1, e2], _, hst, ha =>
    rw [List.all_cons, Bool.and_eq_true, List.all_cons, Bool.and_eq_true] at hst
    refine Call_ (ld_blt I hg hm boot_range (PyProof.Rows.callWith_type1 (thn (ha.run pos pins s σ H _ I h) fun us s1 ⟨vs, H1, I1, r1, a, b, hv, q⟩ => ?_) (star_ok hst.1 _ _) (by
      rw [star_ok hst.2.1]
      rfl)))
    rcases hv with ⟨rfl, rfl⟩ | rfl
    · cases r1 with
      | cons r rr =>
        cases rr
        obtain ⟨t, rfl⟩ := r
        exact call_range_1 ⟨_, 0, b, _, _, _, H1, rfl, IsRange.new _ _ _ _ _ _ _, I1.kept fun c u e => Heap.get?_push_of_some _ e, q⟩
    · cases r1 with
      | cons r rr =>
        cases rr with
        | cons r' rr =>
          cases rr
          obtain ⟨t, rfl⟩ := r
          obtain ⟨t', rfl⟩ := r'
          exact call_range_2 ⟨_, a, b, _, _, _, H1, rfl, IsRange.new _ _ _ _ _ _ _, I1.kept fun c u e => Heap.get?_push_of_some _ e, q⟩
theorem snd_trng {f : Bt} {as : Es} (ha : SndA S as) : SndE S (.trng f as) := by
  intro sc Ex F hF ex h
  cases ex with
  | Call g es0 kw p =>
    obtain ⟨x, px, y, py, es, p2, rfl, rfl, rfl⟩ : ∃ x px y py es p2, g = .Name x px ∧ es0 = [.Call (.Name y py) es [] p2] ∧ kw = [] := by
      cases g with
      | Name x px =>
        cases es0 with
        | nil => exact no h
        | cons c es0 =>
          cases c with
          | Call g2 es k2 p2 =>
            cases g2 with
            | Name y py =>
              cases k2 with
              | cons _ _ => cases es0 <;> exact no h
              | nil =>
                cases es0 with
                | cons _ _ => exact no h
                | nil =>
                  cases kw with
                  | cons _ _ => exact no h
                  | nil => exact ⟨_, _, _, _, _, _, rfl, rfl, rfl⟩
            | _ => exact no h
          | _ => exact no h
      | _ => exact no h
    have h' : ((decide (f = .tuple) || decide (f = .list)) && decide (x = bltNm f) && glB sc x && decide (y = ("range" : Str)) && glB sc y && (decide (lenEs as = 1) || decide (lenEs as = 2)) && isEs S.tb sc as es) = true := h
    simp only [Bool.and_eq_true, Bool.or_eq_true, decide_eq_true_eq] at h'
    obtain ⟨⟨⟨⟨⟨⟨h1, rfl⟩, h3⟩, rfl⟩, h5⟩, h6⟩, h7⟩ := h'
    obtain ⟨t, pa, g⟩ := ha sc Ex F hF es h7
    obtain ⟨hst, hln⟩ := isEs_star h7
    have hgo : ∀ {X : Cx}, F X → PRg X (.Call (.Name "range" py) es [] p2) (tRg t) := fun {X} hX => prg_any ((hF X hX).gl h5) ((hF X hX).nob (by decide)) (pa X hX) (by rw [hln]; exact h6) hst
    have run : ∀ {H0 B σ H Hf ρ ds ρ1 is} {Q : Int → Int → Hp → Prop}, BOk B → Rel S.K H0 B σ H Hf ρ → evalEs S.cs as ρ = some (.ok ds ρ1) → rngL ds = some is →
        (∀ a b H1 Hf1, Step S.K H0 B σ (mutsEs as) ρ H Hf ρ1 H1 Hf1 → RgOk a b → is = (List.range (b - a).toNat).map (fun i => .int (a + (i : Nat))) → Q a b H1) → tRg t σ H Q := fun {H0 B σ H Hf ρ ds ρ1 is Q} hB R e1 e2 q => by
      obtain ⟨a, b, hd, h1, h2, rfl⟩ := rngL_ok e2 (by rw [evalEs_len e1]; exact h6)
      refine g.run hB R e1 fun vs H1 Hf1 S1 rp => ⟨a, b, ?_, q a b H1 Hf1 S1 (rg_ok h1 h2) rfl⟩
      rcases hd with ⟨rfl, rfl⟩ | rfl
      · obtain ⟨v, rfl, rv⟩ := rp.one
        exact .inl ⟨by rw [rv.int_inv], rfl⟩
      · obtain ⟨v, w, rfl, rv, rw'⟩ := rp.two
        exact .inr (by rw [rv.int_inv, rw'.int_inv])
    rcases h1 with rfl | rfl
    · refine ⟨tTupRg (tRg t), fun X hX => pe_tupRg (hF X hX).calm ((hF X hX).gl h3) ((hF X hX).nob (by decide)) (hgo hX), ?_⟩
      refine GoodE.of fun H0 B σ H Hf ρ hB R r hr => ?_
      unfold evalE at hr
      rcases bindA_ok hr with ⟨x, e1, rfl⟩ | ⟨ds, ρ1, e1, hr⟩
      · exact fun Q q => g.exc hB R e1 q
      · cases e2 : rngL ds with
        | none => simp [e2] at hr
        | some is =>
          simp only [e2, bltV, outE, Option.some.injEq] at hr
          subst hr
          refine fun Q q => run hB R e1 e2 fun a b H1 Hf1 S1 ok e => ⟨ok, fun p n => ?_⟩
          rw [e] at q
          exact q _ _ (PostE.ofV S1 (PostV.newT S1.rel.ext n (rg_rp a b)) sub_id)
    · refine ⟨tLstRg (tRg t), fun X hX => pe_listRg (hF X hX).calm ((hF X hX).gl h3) ((hF X hX).nob (by decide)) (hgo hX), ?_⟩
      refine GoodE.of fun H0 B σ H Hf ρ hB R r hr => ?_
      unfold evalE at hr
      rcases bindA_ok hr with ⟨x, e1, rfl⟩ | ⟨ds, ρ1, e1, hr⟩
      · exact fun Q q => g.exc hB R e1 q
      · cases e2 : rngL ds with
        | none => simp [e2] at hr
        | some is =>
          simp only [e2, bltV, outE, Option.some.injEq] at hr
          subst hr
          refine fun Q q => run hB R e1 e2 fun a b H1 Hf1 S1 ok e => ⟨ok, fun p n => ?_⟩
          rw [e] at q
          exact q _ _ (PostE.ofV S1 (PostV.newL S1.rel.ext n (rg_rp a b)) sub_id)
  | _ => exact no h
/-- a if t else b as a test -/
theorem wIte {c a b : E} (hc : SndT S c) (ha : SndT S a) (hb : SndT S b) : SndW S (.ite c a b) := fun sc Ex F hF ex h => by
  cases ex with
  | IfExp t x y p =>
    have h' : (isE S.tb sc c t && isE S.tb sc a x && isE S.tb sc b y) = true := h
    simp only [Bool.and_eq_true] at h'
    obtain ⟨⟨h1, h2⟩, h3⟩ := h'
    obtain ⟨tc, pc, gc⟩ := hc sc Ex F hF t h1
    obtain ⟨ta, pa, ga⟩ := ha sc Ex F hF x h2
    obtain ⟨tb, pb, gb⟩ := hb sc Ex F hF y h3
    refine .inr ⟨fun σ H Q => tc σ H fun k H1 => if k = true then ta σ H1 Q else tb σ H1 Q, fun X hX => ⟨⟨fun pins s σ H Q I hw => ?_⟩, fun z => no z⟩, ?_⟩
    · refine isTrue_IfExp (thn ((pc X hX).run pins s σ H _ I hw) fun k s1 ⟨H1, I1, q1⟩ => ?_)
      cases k with
      | true => exact (pa X hX).run pins s1 σ H1 Q I1 q1
      | false => exact (pb X hX).run pins s1 σ H1 Q I1 q1
    · intro H0 B σ H Hf ρ hB R
      unfold evalE
      cases e1 : evalE S.cs c ρ with
      | none => trivial
      | some r1 =>
        cases r1 with
        | ex x => exact fun Q q => gc.exc hB R e1 q
        | ok d fr ρ1 =>
          simp only [EO.bind]
          cases d with
          | bool k =>
            cases k with
            | true =>
              simp only [boolE, if_true]
              cases e2 : evalE S.cs a ρ1 with
              | none => trivial
              | some r2 =>
                cases r2 with
                | ex x => exact fun Q q => gc.run hB R e1 fun H1 Hf1 S1 => iteT (ga.exc hB S1.rel e2 q)
                | ok d2 fr2 ρ2 =>
                  simp only [retE]
                  cases d2 with
                  | bool j => exact fun Q q => gc.run hB R e1 fun H1 Hf1 S1 => iteT (ga.run hB S1.rel e2 fun H2 Hf2 S2 => q H2 Hf2 (S1.trans S2 sub_l fun i hi => sub_r i (sub_l i hi)))
                  | _ => trivial
            | false =>
              simp only [boolE, Bool.false_eq_true, if_false]
              cases e2 : evalE S.cs b ρ1 with
              | none => trivial
              | some r2 =>
                cases r2 with
                | ex x => exact fun Q q => gc.run hB R e1 fun H1 Hf1 S1 => iteF (gb.exc hB S1.rel e2 q)
                | ok d2 fr2 ρ2 =>
                  simp only [retE]
                  cases d2 with
                  | bool j => exact fun Q q => gc.run hB R e1 fun H1 Hf1 S1 => iteF (gb.run hB S1.rel e2 fun H2 Hf2 S2 => q H2 Hf2 (S1.trans S2 sub_l fun i hi => sub_r i (sub_r i hi)))
                  | _ => trivial
          | _ => trivial
  | _ => exact no h
end DD

-- part DStm
set_option Elab.async false
set_option linter.all false
set_option maxRecDepth 100000
set_option maxHeartbeats 2000000
/-! Statements: the match of texts. -/
namespace DD
open PySem PySem.Spec PyProof.Rows L2

/-- whether a, b = x, y stores from the right (its names): by the block's names alone -/
def swP (sc : Scope) (ts vs : List Expr) : Option (Option (List Str)) :=
  if (!(ts.length == 2 || ts.length == 3) || vs.length != ts.length || (if sc.kind.isAnnotationScope then ScopeKind.function else sc.kind) != .function) = true then some none else
  if (vs.any fun | .Starred .. => true | _ => false) = true then some none else
  let line := (ts.head?.map (·.pos.line)).getD 0
  let names := ts.filterMap fun
    | .Name id pos => if sc.names.lookup id == some .local && pos.line == line then some id else none
    | _ => none
  if (names.length != ts.length || names.eraseDups.length != names.length) = true then some none else
  if (vs.all (foldedForSure 8)) = true then some none else
  if (vs.all (constantsAlone 8)) = true then none else some (some names)
theorem five {c1 c2 c3 c4 c5 : Prop} [Decidable c1] [Decidable c2] [Decidable c3] [Decidable c4] [Decidable c5] {N : List Str} {U : Sem (Option (List Str))} {r : Option (List Str)}
    (h : (if c1 then some none else if c2 then some none else if c3 then some none else if c4 then some none else if c5 then none else some (some N)) = some r) :
    (if c1 then pure none else if c2 then pure none else if c3 then pure none else if c4 then pure none else if c5 then U else pure (some N)) = (pure r : Sem (Option (List Str))) := by
  by_cases h1 : c1
  · rw [if_pos h1] at h ⊢
    cases h
    rfl
  rw [if_neg h1] at h ⊢
  by_cases h2 : c2
  · rw [if_pos h2] at h ⊢
    cases h
    rfl
  rw [if_neg h2] at h ⊢
  by_cases h3 : c3
  · rw [if_pos h3] at h ⊢
    cases h
    rfl
  rw [if_neg h3] at h ⊢
  by_cases h4 : c4
  · rw [if_pos h4] at h ⊢
    cases h
    rfl
  rw [if_neg h4] at h ⊢
  by_cases h5 : c5
  · rw [if_pos h5] at h
    cases h
  rw [if_neg h5] at h ⊢
  cases h
  rfl
theorem swP_is {sc : Scope} {ts vs : List Expr} {env : PySem.Env} {k k2 : Nat} {p p2 : Pos} {r : Option (List Str)} (he : env.scope = sc) (h : swP sc ts vs = some r) : swappedStores [.Tuple ts k p] (.Tuple vs k2 p2) env = pure r := by
  subst he
  unfold swP at h
  unfold swappedStores Env.kindOf Env.blockKind
  dsimp only at h ⊢
  exact five h
/-- stored as a name of the block -/
def storeB (tb : Tb) (sc : Scope) (i : Nat) (x : Str) : Bool := decide (tb.N[i]? = some x) && locB sc x
def storesB (tb : Tb) (sc : Scope) : List Nat → List Expr → Bool
  | [], [] => true
  | i :: is, .Name x _ :: es => storeB tb sc i x && storesB tb sc is es
  | _, _ => false
def storeT (tb : Tb) (sc : Scope) : Tg → Expr → Bool
  | .nm i, .Name x _ => storeB tb sc i x
  | .tp is, .Tuple es _ _ => storesB tb sc is es
  | _, _ => false
def isLcE : E → Bool
  | .lc _ _ _ _ => true
  | _ => false
/-- name = [..]: the store stands within the block's end -/
def lcSw (sc : Scope) (x : Str) (px : Pos) : Expr → Bool
  | .ListComp _ _ cs cp => lcB sc x && (px.line == cp.line) && !(cs.names.any fun (n, k) => n == x && (k == .local || k == .cell))
  | _ => false
def cellB (sc : Scope) (x : Str) : Bool := match sc.names.lookup x with
  | some .cell => true
  | _ => false
def isTupE : Expr → Bool
  | .Tuple _ _ _ => true
  | _ => false
def isListE : Expr → Bool
  | .List _ _ => true
  | _ => false
def augB : Operator → Bool
  | .Add => true
  | .Sub => true
  | .Mult => true
  | _ => false
def nmLc (sc : Scope) : Expr → Bool
  | .Name x _ => lcB sc x
  | _ => false
mutual
def isS (tb : Tb) (sc : Scope) : S → Stmt → Bool
  | .set i e, .Assign [.Name x px] ex _ => storeB tb sc i x && isE tb sc e ex && (nocomp ex || cellB sc x || (isLcE e && lcSw sc x px ex))
  | .par is es, .Assign [.Tuple ts _ _] (.Tuple vs _ _) _ => storesB tb sc is ts && decide is.Nodup && decide (vs.length = is.length) && decide (is.length ≤ 8) && isEs tb sc es vs && (decide (swP sc ts vs = some none) || (decide (swP sc ts vs = some (some (is.filterMap fun i => tb.N[i]?))) && (decide (is.length = 2) || decide (is.length = 3)) && ts.all (nmLc sc)))
  | .unp is e, .Assign [.Tuple ts _ _] ex _ => storesB tb sc is ts && !isTupE ex && isE tb sc e ex
  | .stx v i e, .Assign [.Subscript (.Name x _) ix _] ex _ => slotB tb sc v x && noslice ix && isE tb sc e ex && isE tb sc i ix
  | .aug i op e, .AugAssign (.Name x _) o ex _ => storeB tb sc i x && decide (op = o) && augB op && isE tb sc e ex
  | .app v e, .Expr (.Call (.Attribute (.Name x _) m ap) [ex] [] cp) _ => slotB tb sc v x && decide (m = ("append" : Str)) && (ap.endLine == cp.line) && nostar ex && isE tb sc e ex
  | .exp e, .Expr ex _ => nocomp ex && isE tb sc e ex
  | .ret e, .Return (some ex) _ => isE tb sc e ex
  | .ret0, .Return none _ => true
  | .ite c a b, .If t x y _ => isE tb sc c t && isSs tb sc a x && isSs tb sc b y
  | .fr tg it b, .For t i body [] _ => storeT tb sc tg t && noset i && (hidI it).isEmpty && isI tb sc it i t && isSs tb sc b body
  | .whl c b, .While t body [] _ => isE tb sc c t && isSs tb sc b body
  | .rai x, .Raise (some (.Call (.Name y _) [.Constant (.str _) _ _] [] _)) none _ => decide (x = y) && decide (x ∈ tb.exn) && glB sc y && nmOk y
  | .pas, .Pass _ => true
  | .brk, .Break _ => true
  | .cnt, .Continue _ => true
  | _, _ => false
def isSs (tb : Tb) (sc : Scope) : Ss → List Stmt → Bool
  | .nil, [] => true
  | .cons s ss, st :: sts => isS tb sc s st && isSs tb sc ss sts
  | _, _ => false
end

/-! ### what is said of a statement -/
section
variable {K : PySem.W.Frag} {mg : Str → Option Value} {cs : List FSem} {Ex : XK} {H0 : Hp} {B : Bor} {σ σ' : L2.St} {ms ms1 ms2 : List Nat} {ρ ρ' ρ1 ρ2 : Env} {H Hf H1 Hf1 H2 Hf2 H' Hf' : Hp} {d : PD} {fr : Bool} {v : V} {i : Nat} {c : Cell}
structure PostS (K : PySem.W.Frag) (H0 : Hp) (B : Bor) (Hf : Hp) (ρ' : Env) (σ' : L2.St) (H' Hf' : Hp) : Prop where
  ext : Same Hf Hf'
  rel : Rel K H0 B σ' H' Hf' ρ'
  gr : ∀ b u, H0 b = some u → Hf' b = Hf b
theorem PostS.refl (R : Rel K H0 B σ H Hf ρ) : PostS K H0 B Hf ρ σ H Hf := ⟨fun _ _ h => h, R, fun _ _ _ => rfl⟩
theorem PostS.trans (a : PostS K H0 B Hf ρ1 σ H1 Hf1) (b : PostS K H0 B Hf1 ρ2 σ' H2 Hf2) : PostS K H0 B Hf ρ2 σ' H2 Hf2 := ⟨Same.trans a.ext b.ext, b.rel, fun x u h => (b.gr x u h).trans (a.gr x u h)⟩
theorem PostS.ofStep (R : Rel K H0 B σ H Hf ρ) (S : Step K H0 B σ ms ρ H Hf ρ1 H1 Hf1) : PostS K H0 B Hf ρ1 σ H1 Hf1 := by
  refine ⟨S.ext, S.rel, fun b u h => ?_⟩
  by_cases hb : ∃ i, (i, b) ∈ B
  · obtain ⟨i, hi⟩ := hb
    obtain ⟨e1, x, g1⟩ := R.bor i b hi
    obtain ⟨e2, y, g2⟩ := S.rel.bor i b hi
    obtain ⟨a1, q1, n1, _⟩ := R.own g1 rfl
    obtain ⟨a2, q2, n2, _⟩ := S.rel.own g2 rfl
    rw [e1] at q1 q2
    cases q1
    cases q2
    rw [n1, n2]
  · refine S.gr b u (R.ent b u h fun i hi => hb ⟨i, hi⟩) fun ⟨j, c, hc, m, e⟩ => ?_
    obtain ⟨a, q, _, _, _, hh⟩ := R.own hc m
    rw [e] at q
    cases q
    rcases hh with hh | hh
    · rw [h] at hh
      cases hh
    · exact hb ⟨j, hh⟩
/-- a value that leaves -/
def RetOk (K : PySem.W.Frag) (H0 : Hp) (H' Hf' : Hp) (v : V) (d : PD) (fr : Bool) : Prop := if fr = true then Own K H' Hf' v d ∧ ∀ a, v = .ref a → H0 a = none else Rp K Hf' v d
def EndOk (K : PySem.W.Frag) (mg : Str → Option Value) (H0 : Hp) (B : Bor) (Hf : Hp) (Ex : XK) (D : Ends) : SO → Prop
  | .nx ρ' => ∀ σ' H' Hf', PostS K H0 B Hf ρ' σ' H' Hf' → D.nx σ' H'
  | .ct ρ' => ∀ σ' H' Hf', PostS K H0 B Hf ρ' σ' H' Hf' → D.ct σ' H'
  | .bk ρ' => ∀ σ' H' Hf', PostS K H0 B Hf ρ' σ' H' Hf' → D.bk σ' H'
  | .rt d fr ρ' => ∀ v σ' H' Hf', PostS K H0 B Hf ρ' σ' H' Hf' → RetOk K H0 H' Hf' v d fr → D.rt v H'
  | .ex x => ExW mg H0 B Ex x
theorem EndOk.after {D : Ends} {o : SO} (p : PostS K H0 B Hf ρ σ H1 Hf1) (h : EndOk K mg H0 B Hf Ex D o) : EndOk K mg H0 B Hf1 Ex D o := by
  cases o with
  | nx ρ' => exact fun σ' H' Hf' q => h σ' H' Hf' (p.trans q)
  | ct ρ' => exact fun σ' H' Hf' q => h σ' H' Hf' (p.trans q)
  | bk ρ' => exact fun σ' H' Hf' q => h σ' H' Hf' (p.trans q)
  | rt d fr ρ' => exact fun v σ' H' Hf' q r => h v σ' H' Hf' (p.trans q) r
  | ex x => exact h
def GoodS (K : PySem.W.Frag) (mg : Str → Option Value) (cs : List FSem) (Ex : XK) (s : S) (t : TS) : Prop := ∀ H0 B σ H Hf ρ, BOk B → Rel K H0 B σ H Hf ρ → ∀ o, evalS cs s ρ = some o → ∀ D : Ends, EndOk K mg H0 B Hf Ex D o → t D σ H
def GoodSs (K : PySem.W.Frag) (mg : Str → Option Value) (cs : List FSem) (Ex : XK) (s : Ss) (t : TS) : Prop := ∀ H0 B σ H Hf ρ, BOk B → Rel K H0 B σ H Hf ρ → ∀ o, evalSs cs s ρ = some o → ∀ D : Ends, EndOk K mg H0 B Hf Ex D o → t D σ H
theorem bindS_ok {r0 : Option EO} {k : PD → Bool → Env → Option SO} {r : SO} (h : EO.binS r0 k = some r) : (∃ x, r0 = some (.ex x) ∧ r = .ex x) ∨ ∃ d fr ρ1, r0 = some (.ok d fr ρ1) ∧ k d fr ρ1 = some r := by
  cases r0 with
  | none => cases h
  | some r0 =>
    cases r0 with
    | ex x =>
      cases h
      exact .inl ⟨x, rfl, rfl⟩
    | ok d fr ρ1 => exact .inr ⟨d, fr, ρ1, rfl, h⟩
theorem bindAS_ok {r0 : Option AO} {k : List PD → Env → Option SO} {r : SO} (h : AO.binS r0 k = some r) : (∃ x, r0 = some (.ex x) ∧ r = .ex x) ∨ ∃ d ρ1, r0 = some (.ok d ρ1) ∧ k d ρ1 = some r := by
  cases r0 with
  | none => cases h
  | some r0 =>
    cases r0 with
    | ex x =>
      cases h
      exact .inl ⟨x, rfl, rfl⟩
    | ok d ρ1 => exact .inr ⟨d, ρ1, rfl, h⟩
theorem nxO_ok {r0 : Option Env} {r : SO} (h : nxO r0 = some r) : ∃ ρ', r0 = some ρ' ∧ r = .nx ρ' := by
  cases r0 with
  | none => cases h
  | some ρ' =>
    cases h
    exact ⟨ρ', rfl, rfl⟩
end
structure SCx (S : Setg) (sc : Scope) (Ex : XK) (X : Cx) : Prop where
  c : S.ctx sc Ex X
  fnc : ∀ x, sc.names.lookup x = some .cell → X.fn x = true
  kd : sc.kind = .function
  own : PassesOwn (model X.prog X.w) X.A X.env X.xe
  rai : ∀ x, x ∈ S.tb.exn → ∃ Ca, S.mg x = some (.ref Ca) ∧ ∀ (m : Str) (j : Nat) (p p2 pos : Pos), Gl X x → nmOk x = true → PMk X (.Call (.Name x p) [.Constant (.str m) j p2] [] pos) (fun _ H Q => Q (.ref Ca) none H)
  tk : Takes X (fun cls d _ H => Ex cls d H)
def SndS (S : Setg) (s : DD.S) : Prop := ∀ (sc : Scope) (Ex : XK) (F : Fam), (∀ X, F X → SCx S sc Ex X) → ∀ st, isS S.tb sc s st = true → ∃ t : TS, (∀ X, F X → PS X st t) ∧ GoodS S.K S.mg S.cs Ex s t
def SndSs (S : Setg) (s : Ss) : Prop := ∀ (sc : Scope) (Ex : XK) (F : Fam), (∀ X, F X → SCx S sc Ex X) → ∀ sts, isSs S.tb sc s sts = true → ∃ t : TS, (∀ X, F X → PSs X sts t) ∧ GoodSs S.K S.mg S.cs Ex s t
end DD

-- part DStm2
set_option Elab.async false
set_option linter.all false
set_option maxRecDepth 100000
set_option maxHeartbeats 2000000
/-! Statements: soundness, one by one. -/
namespace DD
open PySem PySem.Spec PyProof.Rows L2
variable {S : Setg}
theorem storeOk {sc : Scope} {Ex : XK} {X : Cx} (C : SCx S sc Ex X) {i : Nat} {x : Str} (h : storeB S.tb sc i x = true) : X.N[i]? = some x ∧ Loc X.env.scope x ∧ (X.fn x = true ∨ X.env.scope.names.lookup x = some .local) := by
  unfold storeB locB at h
  simp only [Bool.and_eq_true, decide_eq_true_eq] at h
  obtain ⟨h1, h2⟩ := h
  rw [C.c.hN]
  unfold L2.Loc
  rw [C.c.hsc]
  split at h2
  · rename_i e
    exact ⟨h1, .inl e, .inr e⟩
  · rename_i e
    exact ⟨h1, .inr e, .inl (C.fnc x e)⟩
  · cases h2
theorem pgD {sc : Scope} {Ex : XK} {X : Cx} (C : SCx S sc Ex X) {i : Nat} {x : Str} {pos : Pos} (h : storeB S.tb sc i x = true) : PG X (.Name x pos) (gName i) := by
  obtain ⟨h1, h2, h3⟩ := storeOk C h
  exact pg_name C.c.nd h1 h2 h3
theorem pgsD {sc : Scope} {Ex : XK} {X : Cx} (C : SCx S sc Ex X) : ∀ {is : List Nat} {ts : List Expr}, storesB S.tb sc is ts = true → PGs X ts (gNs is) ∧ (assignEach ts X.env).length = is.length ∧ (assignEach ts X.env).findIdx? (·.1) = none
  | [], [], _ => ⟨pgs_nil, rfl, rfl⟩
  | [], _ :: _, h => no h
  | _ :: _, [], h => no h
  | i :: is, e :: es, h => by
    cases e with
    | Name x p =>
      have h' : (storeB S.tb sc i x && storesB S.tb sc is es) = true := h
      rw [Bool.and_eq_true] at h'
      obtain ⟨p1, p2, p3⟩ := pgsD C h'.2
      refine ⟨pgs_cons (pgD C h'.1) p1, ?_, ?_⟩
      · show (assignEach es X.env).length + 1 = is.length + 1
        rw [p2]
      · show ((false, assign (.Name x p) X.env) :: assignEach es X.env).findIdx? (·.1) = none
        rw [List.findIdx?_cons, p3]
        rfl
    | _ => exact no h
theorem pgtD {sc : Scope} {Ex : XK} {X : Cx} (C : SCx S sc Ex X) {tg : Tg} {t : Expr} (h : storeT S.tb sc tg t = true) : PG X t (gTg S.K tg) := by
  cases tg with
  | nm i =>
    cases t with
    | Name x p => exact pgD C h
    | _ => exact no h
  | tp is =>
    cases t with
    | Tuple es k p =>
      obtain ⟨p1, p2, p3⟩ := pgsD C (show storesB S.tb sc is es = true from h)
      have := pg_tup (pos := p) (k := k) C.c.calm p1 p2 p3
      rw [C.c.hK] at this
      exact this
    | _ => exact no h
theorem good_set {K : PySem.W.Frag} {mg : Str → Option Value} {cs : List FSem} {Ex : XK} {i : Nat} {e : E} {t : TE} (g : GoodE K mg cs Ex e t) : GoodS K mg cs Ex (.set i e) (tAsg t (gName i)) := by
  intro H0 B σ H Hf ρ hB R o ho D hD
  unfold evalS at ho
  rcases bindS_ok ho with ⟨x, e1, rfl⟩ | ⟨d, fr, ρ1, e1, ho⟩
  · exact g.exc hB R e1 hD
  · obtain ⟨ρ', e2, rfl⟩ := nxO_ok ho
    refine g.full hB R e1 fun v H1 ⟨Hf1, S1, rs, nw⟩ => ?_
    exact hD _ H1 Hf1 ((PostS.ofStep R S1).trans (PostS.refl (S1.rel.put e2 rs)))
theorem swCell {sc : Scope} {env : PySem.Env} (hs : env.scope = sc) {ex : Expr} {x : Str} {px : Pos} {l : Nat} (h : nocomp ex = true ∨ cellB sc x = true) : swapsWith ex (some (.Name x px)) l env = pure false := by
  rcases h with h | h
  · exact swap_ok h _ _ _
  · have hk : (env.kindOf x == some .local) = false := by
      unfold cellB at h
      unfold Env.kindOf
      rw [hs]
      split at h
      · rename_i e
        rw [e]
        rfl
      · cases h
    cases hn : nocomp ex with
    | true => exact swap_ok hn _ _ _
    | false =>
      cases ex <;> first
        | (show (pure (_ && (env.kindOf x == some .local) && _ && _) : Sem Bool) = pure false
           rw [hk, Bool.and_false, Bool.false_and, Bool.false_and])
        | (simp [nocomp] at hn)
theorem snd_set {i : Nat} {e : E} (he : SndE S e) (hl : ∀ elt tg it cond, e = .lc elt tg it cond → SndL S elt tg it cond) : SndS S (.set i e) := by
  intro sc Ex F hF st h
  cases st with
  | Assign ts ex pos =>
    obtain ⟨x, px, rfl⟩ : ∃ x px, ts = [.Name x px] := by
      cases ts with
      | nil => exact no h
      | cons t ts =>
        cases ts with
        | cons _ _ => cases t <;> exact no h
        | nil =>
          cases t with
          | Name x px => exact ⟨x, px, rfl⟩
          | _ => exact no h
    · have h' : (storeB S.tb sc i x && isE S.tb sc e ex && (nocomp ex || cellB sc x || (isLcE e && lcSw sc x px ex))) = true := h
      simp only [Bool.and_eq_true, Bool.or_eq_true] at h'
      obtain ⟨⟨h1, h2⟩, h3⟩ := h'
      rcases h3 with h3 | ⟨h3, h4⟩
      · obtain ⟨t, p, g⟩ := he sc Ex F (fun X hX => (hF X hX).c) ex h2
        refine ⟨tAsg t (gName i), fun X hX => ?_, good_set g⟩
        have C := hF X hX
        obtain ⟨q1, q2, q3⟩ := storeOk C h1
        exact ps_set C.c.nd q1 q2 (p X hX) (swCell C.c.hsc h3) q3
      · cases e with
        | lc elt tg it cond =>
          obtain ⟨t, p, g⟩ := hl _ _ _ _ rfl sc Ex F (fun X hX => (hF X hX).c) ex h2
          refine ⟨tAsg t (gName i), fun X hX => ?_, good_set g⟩
          have C := hF X hX
          cases ex with
          | ListComp el gs cs cp =>
            have h5 : (lcB sc x && (px.line == cp.line) && !(cs.names.any fun (n, k) => n == x && (k == .local || k == .cell))) = true := h4
            simp only [Bool.and_eq_true, Bool.not_eq_true'] at h5
            obtain ⟨⟨h6, h7⟩, h8⟩ := h5
            have hx : X.env.scope.names.lookup x = some .local := by
              unfold lcB at h6
              rw [C.c.hsc]
              split at h6
              · assumption
              · cases h6
            exact (p X hX).2 x px pos i (storeOk C h1).1 hx (sw_true (by rw [C.c.hsc]; exact C.kd) hx h7 h8)
          | _ => exact no h4
        | _ => exact no h3
  | _ => exact no h
theorem snd_unp {is : List Nat} {e : E} (he : SndE S e) : SndS S (.unp is e) := by
  intro sc Ex F hF st h
  cases st with
  | Assign ts ex pos =>
    obtain ⟨us, k, p, rfl⟩ : ∃ us k p, ts = [.Tuple us k p] := by
      cases ts with
      | nil => exact no h
      | cons t ts =>
        cases ts with
        | cons _ _ => cases t <;> exact no h
        | nil =>
          cases t with
          | Tuple us k p => exact ⟨us, k, p, rfl⟩
          | _ => exact no h
    · have h' : (storesB S.tb sc is us && !isTupE ex && isE S.tb sc e ex) = true := h
      simp only [Bool.and_eq_true, Bool.not_eq_true'] at h'
      obtain ⟨⟨h1, h2⟩, h3⟩ := h'
      obtain ⟨t, pe, g⟩ := he sc Ex F (fun X hX => (hF X hX).c) ex h3
      refine ⟨tAsg t (gTg S.K (.tp is)), fun X hX => ?_, ?_⟩
      · have C := hF X hX
        refine ps_asg (pe X hX) (pgtD C (tg := .tp is) h1) ?_ ?_ rfl
        · show swapsWith ex (some (.Tuple us k p)) pos.line X.env = pure false
          cases ex <;> rfl
        · cases ex <;> first | rfl | (exact Bool.noConfusion h2)
      · intro H0 B σ H Hf ρ hB R o ho D hD
        unfold evalS at ho
        rcases bindS_ok ho with ⟨x, e1, rfl⟩ | ⟨d, fr, ρ1, e1, ho⟩
        · exact g.exc hB R e1 hD
        · cases d with
          | tuple ds =>
            obtain ⟨ρ', e2, rfl⟩ := nxO_ok ho
            refine g.run hB R e1 fun v H1 Hf1 S1 rp => ?_
            exact setT_ok (tg := .tp is) (d := .tuple ds) S1.rel e2 rp D.nx fun σ' R' _ => hD _ H1 Hf1 ((PostS.ofStep R S1).trans (PostS.refl R'))
          | _ => cases ho
  | _ => exact no h
theorem snd_ret {e : E} (he : SndE S e) : SndS S (.ret e) := by
  intro sc Ex F hF st h
  cases st with
  | Return v pos =>
    cases v with
    | none => exact no h
    | some ex =>
      obtain ⟨t, pe, g⟩ := he sc Ex F (fun X hX => (hF X hX).c) ex h
      refine ⟨tRet t, fun X hX => ps_ret (pe X hX), ?_⟩
      intro H0 B σ H Hf ρ hB R o ho D hD
      unfold evalS at ho
      rcases bindS_ok ho with ⟨x, e1, rfl⟩ | ⟨d, fr, ρ1, e1, ho⟩
      · exact g.exc hB R e1 hD
      · cases ho
        refine g.full hB R e1 fun v H1 ⟨Hf1, S1, rs, nw⟩ => hD v σ H1 Hf1 (PostS.ofStep R S1) ?_
        cases fr with
        | false => exact rs
        | true => exact ⟨rs.1, fun a ea => (rs.2 a ea).1⟩
  | _ => exact no h
theorem snd_ret0 : SndS S .ret0 := by
  intro sc Ex F hF st h
  cases st with
  | Return v pos =>
    cases v with
    | some _ => exact no h
    | none =>
      refine ⟨tRetN, fun X hX => ps_retN, ?_⟩
      intro H0 B σ H Hf ρ hB R o ho D hD
      unfold evalS at ho
      cases ho
      exact hD .non σ H Hf (PostS.refl R) Rp.non
  | _ => exact no h
theorem snd_exp {e : E} (he : SndE S e) : SndS S (.exp e) := by
  intro sc Ex F hF st h
  cases st with
  | Expr ex pos =>
    have h' : (nocomp ex && isE S.tb sc e ex) = true := by
      have : isS S.tb sc (.exp e) (.Expr ex pos) = (nocomp ex && isE S.tb sc e ex) := by cases ex <;> rfl
      rw [← this]
      exact h
    rw [Bool.and_eq_true] at h'
    obtain ⟨t, pe, g⟩ := he sc Ex F (fun X hX => (hF X hX).c) ex h'.2
    refine ⟨tDrop t, fun X hX => ps_expr (pe X hX) (swap_ok h'.1 _ _ _), ?_⟩
    intro H0 B σ H Hf ρ hB R o ho D hD
    unfold evalS at ho
    rcases bindS_ok ho with ⟨x, e1, rfl⟩ | ⟨d, fr, ρ1, e1, ho⟩
    · exact g.exc hB R e1 hD
    · cases ho
      exact g.run hB R e1 fun v H1 Hf1 S1 rp => hD σ H1 Hf1 (PostS.ofStep R S1)
  | _ => exact no h
theorem snd_pas : SndS S .pas := by
  intro sc Ex F hF st h
  cases st with
  | Pass pos =>
    refine ⟨tNext, fun X hX => ps_pass, ?_⟩
    intro H0 B σ H Hf ρ hB R o ho D hD
    unfold evalS at ho
    cases ho
    exact hD σ H Hf (PostS.refl R)
  | _ => exact no h
theorem snd_brk : SndS S .brk := by
  intro sc Ex F hF st h
  cases st with
  | Break pos =>
    refine ⟨tBreak, fun X hX => ps_break, ?_⟩
    intro H0 B σ H Hf ρ hB R o ho D hD
    unfold evalS at ho
    cases ho
    exact hD σ H Hf (PostS.refl R)
  | _ => exact no h
theorem snd_cnt : SndS S .cnt := by
  intro sc Ex F hF st h
  cases st with
  | Continue pos =>
    refine ⟨tCont, fun X hX => ps_continue, ?_⟩
    intro H0 B σ H Hf ρ hB R o ho D hD
    unfold evalS at ho
    cases ho
    exact hD σ H Hf (PostS.refl R)
  | _ => exact no h
theorem snd_rai {x : Str} : SndS S (.rai x) := by
  intro sc Ex F hF st h
  cases st with
  | Raise exc cause pos =>
    obtain ⟨y, p, m, j, p2, p3, rfl, rfl⟩ : ∃ y p m j p2 p3, exc = some (.Call (.Name y p) [.Constant (.str m) j p2] [] p3) ∧ cause = none := by
      cases exc with
      | none => exact no h
      | some e =>
        cases e with
        | Call f as ks p3 =>
          cases f with
          | Name y p =>
            cases as with
            | nil => exact no h
            | cons a as =>
              cases a with
              | Constant c j p2 =>
                cases c with
                | str m =>
                  cases as with
                  | cons _ _ => exact no h
                  | nil =>
                    cases ks with
                    | cons _ _ => exact no h
                    | nil =>
                      cases cause with
                      | some _ => exact no h
                      | none => exact ⟨y, p, m, j, p2, p3, rfl, rfl⟩
                | _ => exact no h
              | _ => exact no h
          | _ => exact no h
        | _ => exact no h
    · have h' : (decide (x = y) && decide (x ∈ S.tb.exn) && glB sc y && nmOk y) = true := h
      simp only [Bool.and_eq_true, decide_eq_true_eq] at h'
      obtain ⟨⟨⟨rfl, h1⟩, h2⟩, h3⟩ := h'
      refine ⟨fun _ _ H => ∀ Ca, S.mg x = some (.ref Ca) → Ex (.ref Ca) none H, fun X hX => ?_, ?_⟩
      · have C := hF X hX
        obtain ⟨Ca, e1, pm⟩ := C.rai x h1
        have := ps_raise (pos := pos) C.c.calm C.tk (pm m j p p2 p3 (C.c.gl h2) h3)
        exact ⟨fun pins s σ H D I q => this.run pins s σ H D I (q Ca e1)⟩
      · intro H0 B σ H Hf ρ hB R o ho D hD
        unfold evalS at ho
        cases ho
        exact fun Ca e => hD Ca H e R.ent
  | _ => exact no h
end DD

-- part DStm3
set_option Elab.async false
set_option linter.all false
set_option maxRecDepth 100000
set_option maxHeartbeats 2000000
/-! Statements: stores into lists and dicts, appends, in-place operators. -/
namespace PySem
open Sem (wp)
open AutoSeq1 (wpAny_loadPart')
theorem dd_iadd_tuple (l : Addr) (xs : Array Value) (n : Nat) (b : Addr) (ys : Array Value) (m : Nat) (dct : Option Addr) (sl : Array (Option Value)) (h0 : ¬(!xs.isEmpty && Builtin.List.listTooLong (xs.size + ys.size)) = true) (h1 : xs.size ≤ sizeLine) (h2 : xs.size + ys.size ≤ sizeLine + 1) :
    Meets (Builtin.«list.__iadd__» ⟨[.ref l, .ref b], []⟩) (fun _ R s => s.heap.get? l = some { cls := .type "list", data := .seq xs n } ∧ s.heap.get? b = some { cls := .type "tuple", dict := dct, data := .seq ys m, slots := sl } ∧
      R (.ok (.ret (Value.ref l))) { s with heap := s.heap.update l (Obj.mapSeq fun x => x ++ ys) }) :=
  .of_wp fun prog w A R s h => by
    obtain ⟨hp, g, d, tk, os⟩ := s
    obtain ⟨hl, hb, h⟩ := h
    have f1 := AutoSeq1.idx_int
    have f4 := AutoSeq1.sub_tuple_list
    have f5 := AutoSeq1.sub_list_tuple
    have f2 := AutoSeq1.sub_tuple_tuple
    have f3 := AutoSeq1.sub_list_list
    have hz' : (xs ++ ys).size ≤ sizeLine + 1 := by
      rw [Array.size_append]
      exact h2
    wp_walk using (wpAny_updateSeq hl rfl (hz := h1) (_hz' := hz')), wpAny_loadPart' hl, wpAny_loadPart' hb
    exact ⟨_, rfl, h⟩
theorem dd_iadd_list (l : Addr) (xs : Array Value) (n : Nat) (b : Addr) (ys : Array Value) (m : Nat) (dct : Option Addr) (sl : Array (Option Value)) (h0 : ¬(!xs.isEmpty && Builtin.List.listTooLong (xs.size + ys.size)) = true) (h1 : xs.size ≤ sizeLine) (h2 : xs.size + ys.size ≤ sizeLine + 1) :
    Meets (Builtin.«list.__iadd__» ⟨[.ref l, .ref b], []⟩) (fun _ R s => s.heap.get? l = some { cls := .type "list", data := .seq xs n } ∧ s.heap.get? b = some { cls := .type "list", dict := dct, data := .seq ys m, slots := sl } ∧
      R (.ok (.ret (Value.ref l))) { s with heap := s.heap.update l (Obj.mapSeq fun x => x ++ ys) }) :=
  .of_wp fun prog w A R s h => by
    obtain ⟨hp, g, d, tk, os⟩ := s
    obtain ⟨hl, hb, h⟩ := h
    have f1 := AutoSeq1.idx_int
    have f4 := AutoSeq1.sub_tuple_list
    have f5 := AutoSeq1.sub_list_tuple
    have f2 := AutoSeq1.sub_tuple_tuple
    have f3 := AutoSeq1.sub_list_list
    have hz' : (xs ++ ys).size ≤ sizeLine + 1 := by
      rw [Array.size_append]
      exact h2
    wp_walk using (wpAny_updateSeq hl rfl (hz := h1) (_hz' := hz')), wpAny_loadPart' hl, wpAny_loadPart' hb
    exact ⟨_, rfl, h⟩
section
variable {M : Model} {A : Around} {E : Value → Shared → Prop} {s : Shared} {a b : Value}
theorem dd_b1 {Q : Option Value → Shared → Prop} (ha : s.TypeIs a "list") (hb : s.TypeIs b "tuple") (h : Q none s) : wpAny M A (binaryOp1 "add" a b) Q E s := by
  unfold binaryOp1
  refine wpAny_bind (wpAny_typeOf ha (wpAny_bind (wpAny_typeOf hb (wpAny_bind (wpAny_of_eq noFill_list_add ?_)))))
  have e : (Value.type "list" == Value.type "tuple") = false := by decide
  simp only [e, Bool.false_eq_true, if_false, Bool.false_and, pure_bind]
  refine wpAny_bind (wpAny_of_eq noFill_tuple_add ?_)
  simp only [Bool.false_eq_true, if_false, Bool.false_and, pure_bind]
  exact wpAny_pure h
theorem dd_iadd_road {Q : Value → Shared → Prop} (ha : s.TypeIs a "list") (hb : s.TypeIs b "tuple") (hc : wpAny M A (call (.builtin "list.__iadd__") [a, b]) Q E s) : wpAny M A (inplaceOp .Add a b) Q E s := by
  have z1 : typeLookup (.type "list") (dunderI "add") = pure (some (.builtin "list.__iadd__")) := PySem.F.slot_list_iadd.lookup
  have z2 : isSeqSlot (some (.builtin "list.__iadd__")) = true := by decide +kernel
  have z3 : fillsInplaceSlot (.type "list") "add" (Operator.Add == .Add) = pure false := by
    unfold fillsInplaceSlot
    show (typeLookup (.type "list") (dunderI "add") >>= fun y => pure (y.isSome && !isSeqSlot y)) = pure false
    rw [z1]
    show (pure (true && !isSeqSlot (some (.builtin "list.__iadd__"))) : Sem Bool) = pure false
    rw [z2]
    rfl
  have z4 : seqSlot? (.type "list") (dunderI "add") = pure (some (.builtin "list.__iadd__")) := PySem.seqSlot_of z1 z2
  unfold inplaceOp
  refine wpAny_holding (wpAny_bind (wpAny_typeOf ha (wpAny_bind (wpAny_of_eq z3 ?_))))
  show wpAny M A (if false = true then _ else _) Q E s
  rw [if_neg Bool.false_ne_true]
  exact wpAny_bind (dd_b1 ha hb (wpAny_bind (wpAny_of_eq z4 (wpAny_bind (wpAny_rule hc)))))
end
end PySem
namespace DD
open PySem PySem.Spec PyProof.Rows L2
theorem iop_extL {X : Cx} : OpR X (inplaceOp .Add) (fun x y H Q => ∃ l b xs zs, x = .ref l ∧ y = .ref b ∧ H l = some (.lst xs) ∧ SqL X.K H b zs ∧ xs.length + zs.length ≤ sizeLine ∧ Q (.ref l) (upd H l (.lst (xs ++ zs)))) := by
  intro pins s σ H x y v u Q I rx ry h
  obtain ⟨l, b, xs, zs, rfl, rfl, hH, hB, hz, q⟩ := h
  cases rx
  cases ry
  obtain ⟨_, ia, n, r, hl, e⟩ := I.lstM hH
  obtain ⟨ib, n2, sl, r2, hl2, e2⟩ := rd_lst I hB
  have c1 : ia.toArray.size + ib.toArray.size ≤ sizeLine := by
    simp only [List.size_toArray]
    omega
  have c2 : ¬ (!ia.toArray.isEmpty && Builtin.List.listTooLong (ia.toArray.size + ib.toArray.size)) = true := by
    rw [notLongL c1, Bool.and_false]
    exact Bool.false_ne_true
  have c3 : ia.toArray.size ≤ sizeLine := by omega
  have go := dd_iadd_list l ia.toArray n b ib.toArray n2 none sl c2 c3 (by omega)
  refine iadd_road ⟨_, e, rfl⟩ ⟨_, e2, rfl⟩ (call_meets PySem.F.slot_list_iadd ⟨_, e, rfl⟩ PySem.F.entry_list_iadd (PySem.F.args_list_iadd_2 _ _) go ⟨e, e2, .ref l, _, ?_, rfl, q⟩)
  exact I.lset (its' := ia ++ ib) (t' := s.toks) hH e (by simp) (r.append r2) (by rw [List.length_append]; omega)
theorem iop_extT {X : Cx} : OpR X (inplaceOp .Add) (fun x y H Q => ∃ l b xs zs, x = .ref l ∧ y = .ref b ∧ H l = some (.lst xs) ∧ SqT X.K H b zs ∧ xs.length + zs.length ≤ sizeLine ∧ Q (.ref l) (upd H l (.lst (xs ++ zs)))) := by
  intro pins s σ H x y v u Q I rx ry h
  obtain ⟨l, b, xs, zs, rfl, rfl, hH, hB, hz, q⟩ := h
  cases rx
  cases ry
  obtain ⟨_, ia, n, r, hl, e⟩ := I.lstM hH
  obtain ⟨ib, r2, pt, _⟩ := I.tuple hB
  obtain ⟨⟨cc, dct, dt, sl⟩, e2, hc, m, hd⟩ := pt
  replace hc : cc = .type "tuple" := hc
  replace hd : dt = .seq ib.toArray m := hd
  subst hc hd
  have hl2 := r2.length
  have c1 : ia.toArray.size + ib.toArray.size ≤ sizeLine := by
    simp only [List.size_toArray]
    omega
  have c2 : ¬ (!ia.toArray.isEmpty && Builtin.List.listTooLong (ia.toArray.size + ib.toArray.size)) = true := by
    rw [notLongL c1, Bool.and_false]
    exact Bool.false_ne_true
  have go := dd_iadd_tuple l ia.toArray n b ib.toArray m dct sl c2 (by omega) (by omega)
  refine dd_iadd_road ⟨_, e, rfl⟩ ⟨_, e2, rfl⟩ (call_meets PySem.F.slot_list_iadd ⟨_, e, rfl⟩ PySem.F.entry_list_iadd (PySem.F.args_list_iadd_2 _ _) go ⟨e, e2, .ref l, _, ?_, rfl, q⟩)
  exact I.lset (its' := ia ++ ib) (t' := s.toks) hH e (by simp) (r.append r2) (by rw [List.length_append]; omega)
/-- op= by values -/
def rAug (K : PySem.W.Frag) : Operator → R2
  | .Add => fun x y H Q => rI0 (fun i j => .int (i + j)) x y H Q ∨ (∃ l b xs zs, x = .ref l ∧ y = .ref b ∧ H l = some (.lst xs) ∧ SqL K H b zs ∧ xs.length + zs.length ≤ sizeLine ∧ Q (.ref l) (upd H l (.lst (xs ++ zs)))) ∨
      (∃ l b xs zs, x = .ref l ∧ y = .ref b ∧ H l = some (.lst xs) ∧ SqT K H b zs ∧ xs.length + zs.length ≤ sizeLine ∧ Q (.ref l) (upd H l (.lst (xs ++ zs))))
  | .Sub => rI0 fun i j => .int (i - j)
  | .Mult => rI CMul fun i j => .int (i * j)
  | _ => rNo
theorem aug_ok {X : Cx} (op : Operator) : OpR X (inplaceOp op) (rAug X.K op) := by
  cases op with
  | Add => exact iop_add.or (iop_extL.or iop_extT)
  | Sub => exact iop_sub
  | Mult => exact iop_mul
  | _ => exact op_no
section
variable {K : PySem.W.Frag} {mg : Str → Option Value} {cs : List FSem} {Ex : XK} {H0 : Hp} {B : Bor} {σ σ' : L2.St} {ms ms1 ms2 : List Nat} {ρ ρ' ρ1 ρ2 : Env} {H Hf H1 Hf1 H2 Hf2 H' Hf' : Hp} {d : PD} {fr : Bool} {v : V} {i : Nat} {c : Cell} {a : Addr}
/-- an owned object is changed in place -/
theorem Rel.change (R : Rel K H0 B σ H Hf ρ) (hc : getC ρ i = some c) (m : c.isMut = true) (e : σ[i]? = some (some (.ref a))) {o : HO} {m' : PD} (ho : Own K (upd H a o) Hf (.ref a) m') : PostS K H0 B Hf (ρ.set i (some (c.put m'))) σ (upd H a o) Hf := by
  obtain ⟨b, eb, hn, _⟩ := R.own hc m
  rw [e] at eb
  cases eb
  have := R.called (mu := true) (j := i) (c := c) (a := a) (m := m') (Hf1 := Hf) (H1 := upd H a o) (fun _ => ⟨hc, m, e⟩) (fun _ _ z => z) (fun b u h => by
    rw [upd_ne fun z => by
      rw [z, hn] at h
      cases h]
    exact R.ext b u h) (fun b u h n => by
    rw [upd_ne fun z => n ⟨rfl, z⟩]
    exact h) (fun _ _ _ => rfl) (fun _ => ho)
  simp only [if_true] at this
  exact PostS.ofStep R this
theorem RpK.any {k : Int} : ∀ {kvs : List (Key × V)} {ds : List (PD × PD)}, RpK K Hf kvs ds → (kvs.any fun kv => decide (kv.1 = (Sum.inl k : Key))) = ds.any fun p => keyIs k p.1
  | _, _, .nil => rfl
  | _, _, .cons (k := j) a b => by
    rw [List.any_cons, List.any_cons, RpK.any b]
    congr 1
    show decide ((Sum.inl j : Key) = Sum.inl k) = decide (j = k)
    by_cases e : j = k
    · subst e
      rw [decide_eq_true rfl, decide_eq_true rfl]
    · rw [decide_eq_false e, decide_eq_false fun z => e (Sum.inl.inj z)]
theorem RpK.map {k : Int} (r : Rp K Hf v d) : ∀ {kvs : List (Key × V)} {ds : List (PD × PD)}, RpK K Hf kvs ds → RpK K Hf (kvs.map fun kv => if kv.1 = (Sum.inl k : Key) then (kv.1, v) else kv) (ds.map fun p => if keyIs k p.1 = true then (p.1, d) else p)
  | _, _, .nil => .nil
  | _, _, .cons (k := j) a b => by
    rw [List.map_cons, List.map_cons]
    by_cases e : j = k
    · subst e
      rw [if_pos rfl, if_pos (by simp [keyIs])]
      exact .cons r (RpK.map r b)
    · rw [if_neg fun z => e (Sum.inl.inj z), if_neg (by simp [keyIs, e])]
      exact .cons a (RpK.map r b)
theorem RpK.append : ∀ {kvs ls : List (Key × V)} {ds es : List (PD × PD)}, RpK K Hf kvs ds → RpK K Hf ls es → RpK K Hf (kvs ++ ls) (ds ++ es)
  | _, _, _, _, .nil, s => s
  | _, _, _, _, .cons a b, s => .cons a (RpK.append b s)
theorem RpK.put {k : Int} (r : Rp K Hf v d) {kvs : List (Key × V)} {ds : List (PD × PD)} (h : RpK K Hf kvs ds) : RpK K Hf (putK kvs (Sum.inl k : Key) v) (keyPut ds k d) := by
  unfold putK keyPut
  rw [h.any (k := k)]
  split
  · exact h.map r
  · exact h.append (.cons r .nil)
theorem RpK.length : ∀ {kvs : List (Key × V)} {ds : List (PD × PD)}, RpK K Hf kvs ds → kvs.length = ds.length
  | _, _, .nil => rfl
  | _, _, .cons a b => by rw [List.length_cons, List.length_cons, RpK.length b]
/-- o[i] = v -/
def rSet : TSet := fun o i v H Q => rSetL o i v H Q ∨ rSetD o i v H Q
theorem set_any {X : Cx} (hu : X.A.units + 1 < cLine) : PSet X rSet := by
  intro pins s σ H o i v ov iv u Q I ro ri rv h
  rcases h with h | h
  · exact set_list pins s σ H o i v ov iv u Q I ro ri rv h
  · exact set_dict hu pins s σ H o i v ov iv u Q I ro ri rv h
end
variable {S : Setg}
theorem snd_stx {n : Nat} {i e : E} (hi : SndE S i) (he : SndE S e) : SndS S (.stx n i e) := by
  intro sc Ex F hF st h
  cases st with
  | Assign ts ex pos =>
    obtain ⟨x, px, ix, p2, rfl⟩ : ∃ x px ix p2, ts = [.Subscript (.Name x px) ix p2] := by
      cases ts with
      | nil => exact no h
      | cons t ts =>
        cases ts with
        | cons _ _ =>
          cases t with
          | Subscript o _ _ => cases o <;> exact no h
          | _ => exact no h
        | nil =>
          cases t with
          | Subscript o ix p2 =>
            cases o with
            | Name x px => exact ⟨x, px, ix, p2, rfl⟩
            | _ => exact no h
          | _ => exact no h
    have h' : (slotB S.tb sc n x && noslice ix && isE S.tb sc e ex && isE S.tb sc i ix) = true := h
    simp only [Bool.and_eq_true] at h'
    obtain ⟨⟨⟨h1, h2⟩, h3⟩, h4⟩ := h'
    obtain ⟨te, pe, ge⟩ := he sc Ex F (fun X hX => (hF X hX).c) ex h3
    obtain ⟨ti, pi, gi⟩ := hi sc Ex F (fun X hX => (hF X hX).c) ix h4
    refine ⟨tAsg te (gSub (tVar n) ti rSet), fun X hX => ?_, ?_⟩
    · have C := hF X hX
      refine ps_asg (pe X hX) (pg_sub (C.c.slot h1) (pi X hX) (set_any (by have := C.c.units; omega)) fun v => ?_) ?_ ?_ rfl
      · cases ix <;> first | rfl | exact no h2
      · show swapsWith ex (some (.Subscript (.Name x px) ix p2)) pos.line X.env = pure false
        cases ex <;> rfl
      · cases ex <;> rfl
    · intro H0 B σ H Hf ρ hB R o ho D hD
      unfold evalS at ho
      rcases bindS_ok ho with ⟨x, e1, rfl⟩ | ⟨d, fr, ρ1, e1, ho⟩
      · exact ge.exc hB R e1 hD
      · cases h0 : getC ρ1 n with
        | none => simp [h0] at ho
        | some c0 =>
          simp only [h0] at ho
          rcases bindS_ok ho with ⟨y, e2, rfl⟩ | ⟨k, fr2, ρ2, e2, ho⟩
          · refine ge.run hB R e1 fun v H1 Hf1 S1 rp => ?_
            obtain ⟨w, hw, _⟩ := S1.rel.get n c0 h0
            exact ⟨w, hw, gi.exc hB S1.rel e2 hD⟩
          · cases hc : getC ρ2 n with
            | none => simp [hc] at ho
            | some c =>
              simp only [hc] at ho
              by_cases hm : c.isMut = true
              · rw [if_pos hm] at ho
                cases hs : stxV c.dat k d with
                | none => simp [hs] at ho
                | some m =>
                  simp only [hs, Option.some.injEq] at ho
                  subst ho
                  refine ge.run hB R e1 fun v H1 Hf1 S1 rp => ?_
                  obtain ⟨w, hw, _⟩ := S1.rel.get n c0 h0
                  refine ⟨w, hw, gi.run hB S1.rel e2 fun y H2 Hf2 S2 rp2 => ?_⟩
                  obtain ⟨a, ea, hn, _, ow, _⟩ := S2.rel.own hc hm
                  have ew : w = .ref a := by
                    rw [hw] at ea
                    cases ea
                    rfl
                  have P2 := (PostS.ofStep R S1).trans (PostS.ofStep S1.rel S2)
                  have rd := rp.mono S2.ext
                  unfold stxV at hs
                  cases hcd : c.dat with
                  | list xs =>
                    rw [hcd] at ow hs
                    cases k with
                    | int kk =>
                      simp only at hs
                      cases hix : ixOf xs.length kk with
                      | none => simp [hix] at hs
                      | some j =>
                        simp only [hix, Option.some.injEq] at hs
                        subst hs
                        cases ow with
                        | lst hH hn2 rr =>
                          rename_i vs
                          refine .inl ⟨a, vs, kk, j, ew, rp2.int_inv, hH, by rw [rr.length]; exact hix, ?_⟩
                          exact hD σ _ Hf2 (P2.trans (S2.rel.change hc hm ea (Own.lst upd_same hn (rr.set rd j))))
                    | _ => simp at hs
                  | dict kvs =>
                    rw [hcd] at ow hs
                    cases k with
                    | int kk =>
                      simp only at hs
                      by_cases hz : kvs.length < LIM
                      · rw [if_pos hz] at hs
                        cases hs
                        cases ow with
                        | dic hH hn2 rr =>
                          rename_i vs
                          have dp : DPut H2 a y v (upd H2 a (.dK (putK vs (Sum.inl kk : Key) v))) := by
                            rw [rp2.int_inv]
                            exact DPut.k (k := (Sum.inl kk : Key)) hH (lim_lt (by rw [rr.length]; omega))
                          exact .inr ⟨a, upd H2 a (.dK (putK vs (Sum.inl kk : Key) v)), ew, dp, hD σ _ Hf2 (P2.trans (S2.rel.change hc hm ea (Own.dic upd_same hn (rr.put rd))))⟩
                      · rw [if_neg hz] at hs
                        cases hs
                    | _ => simp at hs
                  | _ =>
                    rw [hcd] at hs
                    cases k <;> simp at hs
              · rw [if_neg hm] at ho
                cases ho
  | _ => exact no h
theorem snd_app {n : Nat} {e : E} (he : SndE S e) : SndS S (.app n e) := by
  intro sc Ex F hF st h
  cases st with
  | Expr ex pos =>
    obtain ⟨x, px, m, ap, ex, cp, rfl⟩ : ∃ x px m ap ex' cp, ex = .Call (.Attribute (.Name x px) m ap) [ex'] [] cp := by
      cases ex with
      | Call f as ks cp =>
        cases f with
        | Attribute o m ap =>
          cases o with
          | Name x px =>
            cases as with
            | nil => exact no h
            | cons a as =>
              cases as with
              | cons _ _ => exact no h
              | nil =>
                cases ks with
                | cons _ _ => exact no h
                | nil => exact ⟨x, px, m, ap, a, cp, rfl⟩
          | _ => exact no h
        | _ => exact no h
      | _ => exact no h
    have h' : (slotB S.tb sc n x && decide (m = ("append" : Str)) && (ap.endLine == cp.line) && nostar ex && isE S.tb sc e ex) = true := h
    simp only [Bool.and_eq_true, decide_eq_true_eq] at h'
    obtain ⟨⟨⟨⟨h1, rfl⟩, h2⟩, h3⟩, h4⟩ := h'
    obtain ⟨te, pe, ge⟩ := he sc Ex F (fun X hX => (hF X hX).c) ex h4
    refine ⟨tDrop (tBM S.K "list" rAppend (tVar n) (tCons te tNil)), fun X hX => ?_, ?_⟩
    · have C := hF X hX
      have pb := pe_bm (apos := ap) (cpos := cp) PySem.F.plainAttrs_list PySem.F.slot_list_append PySem.F.type_list_append mt_append (C.c.slot (pos := px) h1) (pa_cons (pe X hX) pa_nil (star_ok h3 _ _)) rfl (by
        rw [star_ok h3]
        rfl) h2 (star_ok h3 _ _) rfl
      rw [C.c.hK] at pb
      exact ps_expr pb rfl
    · intro H0 B σ H Hf ρ hB R o ho D hD
      unfold evalS at ho
      cases h0 : getC ρ n with
      | none => simp [h0] at ho
      | some c0 =>
        simp only [h0] at ho
        by_cases hl : isL c0.dat = true
        · rw [if_pos hl] at ho
          obtain ⟨w, hw, tp, _⟩ := cell_top R h0
          have ty : tyV S.K "list" w H := by
            cases hd : c0.dat with
            | list ds =>
              rw [hd] at tp
              obtain ⟨a, xs, rfl, s, _⟩ := tp
              exact .inl ⟨rfl, xs, s⟩
            | _ =>
              rw [hd] at hl
              cases hl
          rcases bindS_ok ho with ⟨y, e2, rfl⟩ | ⟨d, fr2, ρ2, e2, ho⟩
          · exact ⟨w, hw, ty, ge.exc hB R e2 hD⟩
          · cases hc : getC ρ2 n with
            | none => simp [hc] at ho
            | some c =>
              simp only [hc] at ho
              by_cases hm : c.isMut = true
              · rw [if_pos hm] at ho
                refine ⟨w, hw, ty, ge.run hB R e2 fun v H2 Hf2 S2 rp => ?_⟩
                obtain ⟨a, ea, hn, _, ow, _⟩ := S2.rel.own hc hm
                have ew : w = .ref a := by
                  rw [hw] at ea
                  cases ea
                  rfl
                cases hcd : c.dat with
                | list xs =>
                  rw [hcd] at ow ho
                  simp only at ho
                  by_cases hz : xs.length < LIM
                  · rw [if_pos hz] at ho
                    cases ho
                    cases ow with
                    | lst hH hn2 rr =>
                      rename_i vs
                      refine ⟨a, vs, v, ew, rfl, hH, lim_lt (by rw [rr.length]; omega), ?_⟩
                      exact hD σ _ Hf2 ((PostS.ofStep R S2).trans (S2.rel.change hc hm ea (Own.lst upd_same hn (rr.snoc rp))))
                  · rw [if_neg hz] at ho
                    cases ho
                | _ =>
                  rw [hcd] at ho
                  cases ho
              · rw [if_neg hm] at ho
                cases ho
        · rw [if_neg hl] at ho
          cases ho
  | _ => exact no h
end DD

-- part DStm4
set_option Elab.async false
set_option linter.all false
set_option maxRecDepth 100000
set_option maxHeartbeats 2000000
/-! Statements: in-place operators, several names at once, if, loops, blocks. -/
namespace DD
open PySem PySem.Spec PyProof.Rows L2
variable {S : Setg}
theorem augI_ok {op : Operator} {a b : PD} {k : Int → Option SO} {o : SO} (h : augI op a b k = some o) : ∃ i j z, a = .int i ∧ b = .int j ∧ k z = some o ∧ ∀ (K : PySem.W.Frag) (H : Hp) (Q : VK), Q (.int z) H → rAug K op (.int i) (.int j) H Q := by
  cases op with
  | Add =>
    cases a with
    | int i =>
      cases b with
      | int j => exact ⟨i, j, i + j, rfl, rfl, h, fun K H Q q => .inl ⟨i, j, rfl, rfl, q⟩⟩
      | _ => cases h
    | _ => cases h
  | Sub =>
    cases a with
    | int i =>
      cases b with
      | int j => exact ⟨i, j, i - j, rfl, rfl, h, fun K H Q q => ⟨i, j, rfl, rfl, q⟩⟩
      | _ => cases h
    | _ => cases h
  | Mult =>
    cases a with
    | int i =>
      cases b with
      | int j =>
        unfold augI at h
        simp only at h
        split at h
        · rename_i hz
          exact ⟨i, j, i * j, rfl, rfl, h, fun K H Q q => ⟨i, j, rfl, rfl, hz, q⟩⟩
        · cases h
      | _ => cases h
    | _ => cases h
  | _ => cases h
theorem snd_aug {n : Nat} {op : Operator} {e : E} (he : SndE S e) : SndS S (.aug n op e) := by
  intro sc Ex F hF st h
  cases st with
  | AugAssign t o ex pos =>
    cases t with
    | Name x px =>
      have h' : (storeB S.tb sc n x && decide (op = o) && augB op && isE S.tb sc e ex) = true := h
      simp only [Bool.and_eq_true, decide_eq_true_eq] at h'
      obtain ⟨⟨⟨h1, rfl⟩, h2⟩, h3⟩ := h'
      obtain ⟨te, pe, ge⟩ := he sc Ex F (fun X hX => (hF X hX).c) ex h3
      refine ⟨tAug n te (rAug S.K op), fun X hX => ?_, ?_⟩
      · have C := hF X hX
        obtain ⟨q1, q2, q3⟩ := storeOk C h1
        have := aug_ok (X := X) op
        rw [C.c.hK] at this
        exact ps_aug C.c.nd q1 q2 (pe X hX) this q3
      · intro H0 B σ H Hf ρ hB R o ho D hD
        unfold evalS at ho
        cases h0 : getC ρ n with
        | none => simp [h0] at ho
        | some c0 =>
          simp only [h0] at ho
          obtain ⟨w, hw, _⟩ := R.get n c0 h0
          rcases bindS_ok ho with ⟨y, e2, rfl⟩ | ⟨d, fr2, ρ2, e2, ho⟩
          · exact ⟨w, hw, ge.exc hB R e2 hD⟩
          · refine ⟨w, hw, ge.run hB R e2 fun y H2 Hf2 S2 rp => ?_⟩
            have P2 := PostS.ofStep R S2
            cases hc : getC ρ2 n with
            | none => simp [hc] at ho
            | some c =>
              simp only [hc] at ho
              obtain ⟨w', hw', ok⟩ := S2.rel.get n c hc
              rw [hw] at hw'
              cases hw'
              cases c with
              | sh x =>
                simp only at ho
                obtain ⟨i, j, z, rfl, rfl, ho, run⟩ := augI_ok ho
                obtain ⟨ρ', e3, rfl⟩ := nxO_ok ho
                have ew : w = .int i := Rp.int_inv ok
                rw [ew, rp.int_inv]
                exact run _ _ _ (hD _ H2 Hf2 (P2.trans (PostS.refl (S2.rel.putSh e3 (.int z)))))
              | bo _ => simp at ho
              | ow x =>
                cases x with
                | list xs =>
                  obtain ⟨a, ea, hn, _, ow, _⟩ := S2.rel.own hc rfl
                  have ew : w = .ref a := by
                    rw [hw] at ea
                    cases ea
                    rfl
                  have same : σ.set n (some (.ref a)) = σ := by
                    refine List.ext_getElem? fun j => ?_
                    by_cases ej : n = j
                    · subst ej
                      rw [List.getElem?_set_self (List.getElem?_eq_some_iff.mp ea).1, ea]
                    · rw [List.getElem?_set_ne ej]
                  simp only at ho
                  cases op with
                  | Add =>
                    cases d with
                    | list ys =>
                      simp only at ho
                      split at ho
                      · rename_i hz
                        cases ho
                        obtain ⟨b, zs, rfl, s, rr2⟩ := rp.lst_inv
                        cases ow with
                        | lst hH hn2 rr =>
                          rename_i vs
                          refine .inr (.inl ⟨a, b, vs, zs, ew, rfl, hH, Same.sql S2.rel.ext s, lim_line (by rw [rr.length, rr2.length]; exact hz), ?_⟩)
                          show D.nx (List.set σ n (some (V.ref a))) _
                          rw [same]
                          exact hD σ _ Hf2 (P2.trans (S2.rel.change hc rfl ea (Own.lst upd_same hn (rr.append rr2))))
                      · cases ho
                    | tuple ys =>
                      simp only at ho
                      split at ho
                      · rename_i hz
                        cases ho
                        obtain ⟨b, zs, rfl, s, rr2⟩ := rp.tup_inv
                        cases ow with
                        | lst hH hn2 rr =>
                          rename_i vs
                          refine .inr (.inr ⟨a, b, vs, zs, ew, rfl, hH, Same.sqt S2.rel.ext s, lim_line (by rw [rr.length, rr2.length]; exact hz), ?_⟩)
                          show D.nx (List.set σ n (some (V.ref a))) _
                          rw [same]
                          exact hD σ _ Hf2 (P2.trans (S2.rel.change hc rfl ea (Own.lst upd_same hn (rr.append rr2))))
                      · cases ho
                    | _ => simp at ho
                  | _ => simp at ho
                | _ => simp at ho
    | _ => exact no h
  | _ => exact no h
theorem snd_ite' {c : E} {a b : Ss} (hc : SndT S c) (ha : SndSs S a) (hb : SndSs S b) : SndS S (.ite c a b) := by
  intro sc Ex F hF st h
  cases st with
  | If t x y pos =>
    have h' : (isE S.tb sc c t && isSs S.tb sc a x && isSs S.tb sc b y) = true := h
    simp only [Bool.and_eq_true] at h'
    obtain ⟨⟨h1, h2⟩, h3⟩ := h'
    obtain ⟨tc, pc, gc⟩ := hc sc Ex F (fun X hX => (hF X hX).c) t h1
    obtain ⟨ta, pa, ga⟩ := ha sc Ex F hF x h2
    obtain ⟨tb, pb, gb⟩ := hb sc Ex F hF y h3
    refine ⟨tIfS tc ta tb, fun X hX => ps_if (pc X hX) (pa X hX) (pb X hX), ?_⟩
    intro H0 B σ H Hf ρ hB R o ho D hD
    unfold evalS at ho
    rcases bindS_ok ho with ⟨y, e2, rfl⟩ | ⟨d, fr2, ρ2, e2, ho⟩
    · exact gc.exc hB R e2 hD
    · cases d with
      | bool k =>
        cases k with
        | true =>
          refine gc.run hB R e2 fun H1 Hf1 S1 => iteT ?_
          have P1 := PostS.ofStep R S1
          exact ga H0 B σ H1 Hf1 ρ2 hB S1.rel o ho D (hD.after P1)
        | false =>
          refine gc.run hB R e2 fun H1 Hf1 S1 => iteF ?_
          have P1 := PostS.ofStep R S1
          exact gb H0 B σ H1 Hf1 ρ2 hB S1.rel o ho D (hD.after P1)
      | _ => cases ho
  | _ => exact no h
theorem snd_snil : SndSs S .nil := by
  intro sc Ex F hF sts h
  cases sts with
  | nil =>
    refine ⟨tNext, fun X hX => pss_nil, ?_⟩
    intro H0 B σ H Hf ρ hB R o ho D hD
    unfold evalSs at ho
    cases ho
    exact hD σ H Hf (PostS.refl R)
  | cons _ _ => exact no h
theorem snd_scons {s : DD.S} {ss : Ss} (hs : SndS S s) (hss : SndSs S ss) : SndSs S (.cons s ss) := by
  intro sc Ex F hF sts h
  cases sts with
  | nil => exact no h
  | cons st sts =>
    have h' : (isS S.tb sc s st && isSs S.tb sc ss sts) = true := h
    rw [Bool.and_eq_true] at h'
    obtain ⟨t, p, g⟩ := hs sc Ex F hF st h'.1
    obtain ⟨u, pu, gu⟩ := hss sc Ex F hF sts h'.2
    refine ⟨tSeq t u, fun X hX => pss_cons (p X hX) (pu X hX), ?_⟩
    intro H0 B σ H Hf ρ hB R o ho D hD
    unfold evalSs at ho
    cases e1 : evalS S.cs s ρ with
    | none => simp [e1] at ho
    | some o1 =>
      rw [e1] at ho
      refine g H0 B σ H Hf ρ hB R o1 e1 _ ?_
      cases o1 with
      | nx ρ1 => exact fun σ1 H1 Hf1 P1 => gu H0 B σ1 H1 Hf1 ρ1 hB P1.rel o ho D (hD.after P1)
      | rt d fr ρ1 =>
        cases ho
        exact hD
      | bk ρ1 =>
        cases ho
        exact hD
      | ct ρ1 =>
        cases ho
        exact hD
      | ex x =>
        cases ho
        exact hD
theorem snd_fr {tg : Tg} {it : It} {b : Ss} (hi : SndI S it) (hb : SndSs S b) : SndS S (.fr tg it b) := by
  intro sc Ex F hF st h
  cases st with
  | For t i body orelse pos =>
    cases orelse with
    | cons _ _ => exact no h
    | nil =>
      have h' : (storeT S.tb sc tg t && noset i && (hidI it).isEmpty && isI S.tb sc it i t && isSs S.tb sc b body) = true := h
      simp only [Bool.and_eq_true] at h'
      obtain ⟨⟨⟨⟨h1, h2⟩, h3⟩, h4⟩, h5⟩ := h'
      obtain ⟨wi, pi, gi⟩ := hi sc Ex F (fun X hX => (hF X hX).c) i t h4
      obtain ⟨tb, pb, gb⟩ := hb sc Ex F hF body h5
      refine ⟨tFor wi (gTg S.K tg) tb, fun X hX => ?_, ?_⟩
      · have C := hF X hX
        exact ps_for C.own C.c.calm (pi X hX) (pgtD C h1) (pb X hX) (fun x => fold_ok h2 X.env x)
      · intro H0 B σ H Hf ρ hB R o ho D hD
        unfold evalS at ho
        have g := gi H0 B σ H Hf ρ hB R
        rcases bindAS_ok ho with ⟨y, e2, rfl⟩ | ⟨ds, ρ1, e2, ho⟩
        · rw [e2] at g
          exact g _ hD
        · rw [e2] at g
          refine g _ fun J H1 Hf1 gg S1 sv hg => ?_
          have ng : ∀ a xs, gg = some (a, xs) → False := fun a xs e => by
            obtain ⟨_, v, _, q, _⟩ := hg a xs e
            rw [q] at h3
            cases h3
          have P1 := PostS.ofStep R S1
          let Good : Nat → L2.St → Hp → Prop := fun i σ' H' => ∃ ρi Hfi, PostS S.K H0 B Hf ρi σ' H' Hfi ∧ Same Hf1 Hfi ∧ forL tg (evalSs S.cs b) (ds.drop i) ρi = some o
          refine ⟨fun i m σ' H' => m = ds.length - i ∧ i ≤ ds.length ∧ Good i σ' H', ⟨ds.length, rfl, Nat.zero_le _, ρ1, Hf1, P1, fun _ _ z => z, ho⟩, ?_⟩
          rintro i m σ' Hh ⟨rfl, hi, ρi, Hfi, Pi, ext, hl⟩
          by_cases hlt : i < ds.length
          · have hdr : ds.drop i = ds[i] :: ds.drop (i + 1) := List.drop_eq_getElem_cons hlt
            have hd : ds[i]? = some ds[i] := List.getElem?_eq_getElem hlt
            rw [hdr] at hl
            unfold forL at hl
            obtain ⟨go, yld⟩ := sv.1 i ds[i] Hh Hfi ext Pi.rel.ext (fun a xs e => (ng a xs e).elim) hd
            cases hset : setT tg ds[i] ρi with
            | none => simp [hset] at hl
            | some ρ2 =>
              simp only [hset] at hl
              refine .inr ⟨go, Good (i + 1), fun σ2 H2 p => ⟨ds.length - (i + 1), by omega, rfl, hlt, p⟩, fun x H' y => ?_⟩
              obtain ⟨Hf2, S2, rp, _⟩ := (yld x H' y).toE (ms := []) Pi.rel
              have P2 := Pi.trans (PostS.ofStep Pi.rel S2)
              refine setT_ok S2.rel hset rp _ fun σ2 R2 _ => ?_
              have P3 := P2.trans (PostS.refl (Hf := Hf2) R2)
              have x3 : Same Hf1 Hf2 := Same.trans ext S2.ext
              cases hb' : evalSs S.cs b ρ2 with
              | none => simp [hb'] at hl
              | some ob =>
                rw [hb'] at hl
                refine gb H0 B σ2 H' Hf2 ρ2 hB R2 ob hb' _ ?_
                cases ob with
                | nx ρ3 => exact fun σ4 H4 Hf4 P4 => ⟨ρ3, Hf4, P3.trans P4, Same.trans x3 P4.ext, hl⟩
                | ct ρ3 => exact fun σ4 H4 Hf4 P4 => ⟨ρ3, Hf4, P3.trans P4, Same.trans x3 P4.ext, hl⟩
                | bk ρ3 =>
                  cases hl
                  exact hD.after P3
                | rt d fr ρ3 =>
                  cases hl
                  exact hD.after P3
                | ex x =>
                  cases hl
                  exact hD
          · have ei : i = ds.length := by omega
            subst ei
            rw [List.drop_length] at hl
            unfold forL at hl
            cases hl
            exact .inl ⟨sv.2 Hh Hfi ext Pi.rel.ext (fun a xs e => (ng a xs e).elim), hD σ' Hh Hfi Pi⟩
  | _ => exact no h
theorem snd_whl {c : E} {b : Ss} (hc : SndT S c) (hb : SndSs S b) : SndS S (.whl c b) := by
  intro sc Ex F hF st h
  cases st with
  | While t body orelse pos =>
    cases orelse with
    | cons _ _ => exact no h
    | nil =>
      have h' : (isE S.tb sc c t && isSs S.tb sc b body) = true := h
      rw [Bool.and_eq_true] at h'
      obtain ⟨tc, pc, gc⟩ := hc sc Ex F (fun X hX => (hF X hX).c) t h'.1
      obtain ⟨tb, pb, gb⟩ := hb sc Ex F hF body h'.2
      refine ⟨tWhile tc tb, fun X hX => ps_while (hF X hX).own (pc X hX) (pb X hX), ?_⟩
      intro H0 B σ H Hf ρ hB R o ho D hD
      unfold evalS at ho
      refine ⟨fun m σ' H' => ∃ ρi Hfi, PostS S.K H0 B Hf ρi σ' H' Hfi ∧ whlL (evalE S.cs c) (evalSs S.cs b) m ρi = some o, ⟨FUEL, ρ, Hf, PostS.refl R, ho⟩, ?_⟩
      rintro m σ' Hh ⟨ρi, Hfi, Pi, hl⟩
      cases m with
      | zero => cases hl
      | succ m =>
        unfold whlL at hl
        cases hc' : evalE S.cs c ρi with
        | none => simp [hc'] at hl
        | some rc =>
          rw [hc'] at hl
          cases rc with
          | ex x =>
            cases hl
            exact gc.exc hB Pi.rel hc' hD
          | ok d fr ρ2 =>
            cases d with
            | bool k =>
              refine gc.run hB Pi.rel hc' fun H1 Hf1 S1 => ?_
              have P1 := Pi.trans (PostS.ofStep Pi.rel S1)
              cases k with
              | false =>
                cases hl
                exact iteF (hD σ' H1 Hf1 P1)
              | true =>
                simp only at hl
                refine iteT ⟨fun σ2 H2 => ∃ ρi Hfi, PostS S.K H0 B Hf ρi σ2 H2 Hfi ∧ whlL (evalE S.cs c) (evalSs S.cs b) m ρi = some o, fun σ2 H2 p => ⟨m, Nat.lt_succ_self m, p⟩, ?_⟩
                cases hb' : evalSs S.cs b ρ2 with
                | none => simp [hb'] at hl
                | some ob =>
                  rw [hb'] at hl
                  refine gb H0 B σ' H1 Hf1 ρ2 hB S1.rel ob hb' _ ?_
                  cases ob with
                  | nx ρ3 => exact fun σ4 H4 Hf4 P4 => ⟨ρ3, Hf4, P1.trans P4, hl⟩
                  | ct ρ3 => exact fun σ4 H4 Hf4 P4 => ⟨ρ3, Hf4, P1.trans P4, hl⟩
                  | bk ρ3 =>
                    cases hl
                    exact hD.after P1
                  | rt d fr ρ3 =>
                    cases hl
                    exact hD.after P1
                  | ex x =>
                    cases hl
                    exact hD
            | _ => cases hl
  | _ => exact no h
end DD

-- part DStm5
set_option Elab.async false
set_option linter.all false
set_option maxRecDepth 100000
set_option maxHeartbeats 2000000
/-! Statements: several names at once; all together. -/
namespace DD
open PySem PySem.Spec PyProof.Rows L2
section
variable {K : PySem.W.Frag} {mg : Str → Option Value} {cs : List FSem} {Ex : XK} {H0 : Hp} {B : Bor} {σ σ' : L2.St} {ms ms1 ms2 : List Nat} {ρ ρ' ρ1 ρ2 : Env} {H Hf H1 Hf1 H2 Hf2 H' Hf' : Hp} {d : PD} {fr : Bool} {v : V} {i : Nat} {c : Cell} {a : Addr}
/-- values that stand beside: (value, datum, new) -/
abbrev Ent := V × PD × Bool
structure EntOk (K : PySem.W.Frag) (H0 : Hp) (σ : L2.St) (ρ : Env) (H Hf : Hp) (l : List Ent) : Prop where
  ok : ∀ e ∈ l, ResOk K H0 σ ρ H Hf e.1 e.2.1 e.2.2
  ap : l.Pairwise fun e e' => e.2.2 = true → e'.2.2 = true → e.1 ≠ e'.1
theorem EntOk.step (R : Rel K H0 B σ H Hf ρ) {l : List Ent} (h : EntOk K H0 σ ρ H Hf l) (S : Step K H0 B σ ms ρ H Hf ρ1 H1 Hf1) : EntOk K H0 σ ρ1 H1 Hf1 l := by
  refine ⟨fun e he => ?_, h.ap⟩
  have := h.ok e he
  unfold ResOk at this ⊢
  cases hfr : e.2.2 with
  | false =>
    rw [hfr] at this
    simp only [Bool.false_eq_true, if_false] at this ⊢
    exact this.mono S.ext
  | true =>
    rw [hfr] at this
    simp only [if_true] at this ⊢
    obtain ⟨o, q⟩ := this
    refine ⟨o.keep S.ext (fun a u ea hu => S.fr a u hu fun ⟨j, _, c, hc, m, ej⟩ => (q a ea).2 j c hc m ej) fun a ea => ?_, fun a ea => ⟨(q a ea).1, fun j c hc m ej => ?_⟩⟩
    · obtain ⟨b, eb, n, u, hu⟩ := o.ref
      rw [ea] at eb
      cases eb
      rw [S.gr a u hu fun ⟨j, c, hc, m, ej⟩ => (q a ea).2 j c hc m ej]
      exact n
    · obtain ⟨c', hc', m'⟩ := S.le.mu j c hc m
      exact (q a ea).2 j c' hc' m' ej
theorem EntOk.snoc {l : List Ent} (h : EntOk K H0 σ ρ H Hf l) (r : ResOk K H0 σ ρ H Hf v d fr) (n : fr = true → ∀ e ∈ l, e.2.2 = true → e.1 ≠ v) : EntOk K H0 σ ρ H Hf (l ++ [(v, d, fr)]) := by
  refine ⟨fun e he => ?_, ?_⟩
  · rcases List.mem_append.mp he with he | he
    · exact h.ok e he
    · cases List.mem_singleton.mp he
      exact r
  · rw [List.pairwise_append]
    refine ⟨h.ap, List.pairwise_singleton _ _, fun e he e' he' f f' => ?_⟩
    cases List.mem_singleton.mp he'
    exact n f' e he f
theorem EntOk.grow {p : Addr} {o : HO} (R : Rel K H0 B σ H Hf ρ) {l : List Ent} (h : EntOk K H0 σ ρ H Hf l) (n : H p = none) : EntOk K H0 σ ρ (upd H p o) Hf l :=
  h.step (ms := []) R ⟨fun _ _ z => z, (R.grow n).2, Fr.same (R.grow n).1, fun _ _ _ _ => rfl, Le.refl _⟩
theorem EntOk.put {l : List Ent} (h : EntOk K H0 σ ρ H Hf ((v, d, fr) :: l)) (hl : i < ρ.length) (hs : i < σ.length) : EntOk K H0 (σ.set i (some v)) (ρ.set i (some (mkC d fr))) H Hf l := by
  have hp := List.pairwise_cons.mp h.ap
  refine ⟨fun e he => ?_, hp.2⟩
  have := h.ok e (List.mem_cons_of_mem _ he)
  unfold ResOk at this ⊢
  cases hfr : e.2.2 with
  | false =>
    rw [hfr] at this
    exact this
  | true =>
    rw [hfr] at this
    simp only [if_true] at this ⊢
    refine ⟨this.1, fun a ea => ⟨(this.2 a ea).1, fun j c hc m ej => ?_⟩⟩
    by_cases hj : i = j
    · subst hj
      rw [getC_set_self hl] at hc
      rw [List.getElem?_set_self hs] at ej
      cases fr with
      | false =>
        cases hc
        simp [mkC, Cell.isMut] at m
      | true =>
        have ev : v = .ref a := Option.some.inj (Option.some.inj ej)
        exact hp.1 e he rfl hfr (by rw [ev, ea])
    · rw [getC_set_ne hj] at hc
      rw [List.getElem?_set_ne hj] at ej
      exact (this.2 a ea).2 j c hc m ej
def setsV : List Nat → List V → L2.St → L2.St
  | i :: is, v :: vs, σ => setsV is vs (σ.set i (some v))
  | _, _, σ => σ
theorem puts_ok : ∀ {is : List Nat} {l : List Ent} {σ : L2.St} {ρ ρ' : Env}, Rel K H0 B σ H Hf ρ → EntOk K H0 σ ρ H Hf l → setCs is (l.map fun e => mkC e.2.1 e.2.2) ρ = some ρ' → Rel K H0 B (setsV is (l.map (·.1)) σ) H Hf ρ' ∧ is.length = l.length
  | [], [], σ, ρ, ρ', R, _, h => by
    cases h
    exact ⟨R, rfl⟩
  | [], _ :: _, _, _, _, _, _, h => by cases h
  | _ :: _, [], _, _, _, _, _, h => by cases h
  | i :: is, (v, d, fr) :: l, σ, ρ, ρ', R, E, h => by
    have h' : (setC ρ i (mkC d fr)).bind (fun ρ => setCs is (l.map fun e => mkC e.2.1 e.2.2) ρ) = some ρ' := h
    cases e1 : setC ρ i (mkC d fr) with
    | none => simp [e1] at h'
    | some ρ1 =>
      rw [e1] at h'
      have R1 := R.put e1 (E.ok _ List.mem_cons_self)
      obtain ⟨rfl, hl, _⟩ := setC_some e1
      obtain ⟨q1, q2⟩ := puts_ok R1 (E.put hl (by rw [R.len]; exact hl)) h'
      exact ⟨q1, by rw [List.length_cons, List.length_cons, q2]⟩
theorem gNs_sets : ∀ {is : List Nat} {vs : List V} {σ : L2.St} {Q : L2.St → Hp → Prop}, is.length = vs.length → Q (setsV is vs σ) H → gNs is vs σ H Q
  | [], [], σ, Q, _, q => ⟨rfl, q⟩
  | [], _ :: _, _, _, h, _ => by cases h
  | _ :: _, [], _, _, h, _ => by cases h
  | i :: is, v :: vs, σ, Q, h, q => ⟨v, vs, rfl, gNs_sets (by simpa using h) q⟩
/-- the items, one after another -/
def FsOk (cs : List FSem) : Es → Env → List (PD × Bool) → Env → Prop
  | .nil, ρ, ds, ρ' => ds = [] ∧ ρ' = ρ
  | .cons e es, ρ, ds, ρ' => ∃ d fr ρ1 r, evalE cs e ρ = some (.ok d fr ρ1) ∧ ds = (d, fr) :: r ∧ FsOk cs es ρ1 r ρ'
def FsEx (cs : List FSem) : Es → Env → Str → Prop
  | .nil, _, _ => False
  | .cons e es, ρ, x => evalE cs e ρ = some (.ex x) ∨ ∃ d fr ρ1, evalE cs e ρ = some (.ok d fr ρ1) ∧ FsEx cs es ρ1 x
theorem fs_cases : ∀ {es : Es} {ρ : Env} {k : List Cell → Env → Option SO} {o : SO}, evalFs cs es ρ k = some o → (∃ x, o = .ex x ∧ FsEx cs es ρ x) ∨ ∃ ds ρ', k (ds.map fun p => mkC p.1 p.2) ρ' = some o ∧ FsOk cs es ρ ds ρ'
  | .nil, ρ, k, o, h => .inr ⟨[], ρ, h, rfl, rfl⟩
  | .cons e es, ρ, k, o, h => by
    unfold evalFs at h
    rcases bindS_ok h with ⟨x, e1, rfl⟩ | ⟨d, fr, ρ1, e1, h⟩
    · exact .inl ⟨x, rfl, .inl e1⟩
    · rcases fs_cases h with ⟨x, rfl, hx⟩ | ⟨ds, ρ', hk, hok⟩
      · exact .inl ⟨x, rfl, .inr ⟨d, fr, ρ1, e1, hx⟩⟩
      · exact .inr ⟨(d, fr) :: ds, ρ', hk, d, fr, ρ1, ds, e1, rfl, hok⟩
end
variable {S : Setg}
def AllE (S : Setg) : Es → Prop
  | .nil => True
  | .cons e es => SndE S e ∧ AllE S es
def GoodF (K : PySem.W.Frag) (mg : Str → Option Value) (cs : List FSem) (Ex : XK) (es : Es) (t : TA) : Prop := ∀ H0 B σ H Hf ρ, BOk B → Rel K H0 B σ H Hf ρ →
  (∀ x, FsEx cs es ρ x → ∀ Q : List V → Hp → Prop, ExW mg H0 B Ex x → t σ H Q) ∧
  (∀ ds ρ', FsOk cs es ρ ds ρ' → ∀ l : List Ent, EntOk K H0 σ ρ H Hf l → ∀ Q : List V → Hp → Prop, (∀ vs H' Hf', vs.length = ds.length → Step K H0 B σ (mutsEs es) ρ H Hf ρ' H' Hf' → EntOk K H0 σ ρ' H' Hf' (l ++ vs.zip ds) → Q vs H') → t σ H Q)
theorem snd_fs : ∀ {es : Es}, AllE S es → ∀ (sc : Scope) (Ex : XK) (F : Fam), (∀ X, F X → S.ctx sc Ex X) → ∀ exs, isEs S.tb sc es exs = true → ∃ t : TA, (∀ X, F X → PA X exs t) ∧ GoodF S.K S.mg S.cs Ex es t
  | .nil, _, sc, Ex, F, hF, exs, h => by
    cases exs with
    | nil =>
      refine ⟨tNil, fun X hX => pa_nil, ?_⟩
      intro H0 B σ H Hf ρ hB R
      refine ⟨fun x hx => hx.elim, fun ds ρ' hok l hl Q q => ?_⟩
      obtain ⟨rfl, rfl⟩ := hok
      exact q [] H Hf rfl (Step.refl R) (by simpa using hl)
    | cons _ _ => exact no h
  | .cons e es, ha, sc, Ex, F, hF, exs, h => by
    cases exs with
    | nil => exact no h
    | cons x xs =>
      have h' : (nostar x && isE S.tb sc e x && isEs S.tb sc es xs) = true := h
      simp only [Bool.and_eq_true] at h'
      obtain ⟨⟨h1, h2⟩, h3⟩ := h'
      obtain ⟨ta, pa, ga⟩ := ha.1 sc Ex F hF x h2
      obtain ⟨tb, pb, gb⟩ := snd_fs ha.2 sc Ex F hF xs h3
      refine ⟨tCons ta tb, fun X hX => pa_cons (pa X hX) (pb X hX) (star_ok h1 _ _), ?_⟩
      intro H0 B σ H Hf ρ hB R
      refine ⟨fun y hy Q q => ?_, fun ds ρ' hok l hl Q q => ?_⟩
      · rcases hy with hy | ⟨d, fr, ρ1, e1, hy⟩
        · exact ga.exc hB R hy q
        · exact ga.run hB R e1 fun v H1 Hf1 S1 rp => (gb H0 B σ H1 Hf1 ρ1 hB S1.rel).1 y hy _ q
      · obtain ⟨d, fr, ρ1, r, e1, rfl, hok⟩ := hok
        refine ga.full hB R e1 fun v H1 ⟨Hf1, S1, rs, nw⟩ => ?_
        have E1 := (hl.step R S1).snoc rs fun hfr e he hfe => by
          intro ev
          have o1 := (hl.ok e he)
          unfold ResOk at o1
          rw [hfe] at o1
          simp only [if_true] at o1
          obtain ⟨a, ea, _, u, hu⟩ := o1.1.ref
          rcases nw hfr a (by rw [← ev, ea]) with z | ⟨j, c, hc, m, ej⟩
          · rw [hu] at z
            cases z
          · exact (o1.2 a ea).2 j c hc m ej
        refine (gb H0 B σ H1 Hf1 ρ1 hB S1.rel).2 r ρ' hok _ E1 _ fun vs H2 Hf2 hl2 S2 E2 => ?_
        refine q (v :: vs) H2 Hf2 (by rw [List.length_cons, List.length_cons, hl2]) (S1.trans S2 sub_l sub_r) ?_
        rw [List.zip_cons_cons]
        rw [List.append_assoc] at E2
        exact E2
theorem storesN {tb : Tb} {sc : Scope} : ∀ {is : List Nat} {ts : List Expr}, storesB tb sc is ts = true → ts.length = is.length
  | [], [], _ => rfl
  | [], _ :: _, h => no h
  | _ :: _, [], h => no h
  | i :: is, e :: es, h => by
    cases e with
    | Name x p =>
      have h' : (storeB tb sc i x && storesB tb sc is es) = true := h
      rw [Bool.and_eq_true] at h'
      rw [List.length_cons, List.length_cons, storesN h'.2]
    | _ => exact no h
theorem lc_of {sc : Scope} {x : Str} (h : lcB sc x = true) : sc.names.lookup x = some .local := by
  unfold lcB at h
  split at h
  · assumption
  · cases h
theorem storeN {tb : Tb} {sc : Scope} {i : Nat} {x : Str} (h : storeB tb sc i x = true) : tb.N[i]? = some x := by
  unfold storeB at h
  rw [Bool.and_eq_true] at h
  exact of_decide_eq_true h.1
theorem fs_len {cs : List FSem} : ∀ {es : Es} {ρ : Env} {ds : List (PD × Bool)} {ρ' : Env}, FsOk cs es ρ ds ρ' → ds.length = lenEs es
  | .nil, _, _, _, h => by
    obtain ⟨rfl, _⟩ := h
    rfl
  | .cons e es, _, _, _, h => by
    obtain ⟨d, fr, ρ1, r, _, rfl, h⟩ := h
    rw [List.length_cons, fs_len h]
    rfl
theorem zip_fst {vs : List V} {ds : List (PD × Bool)} (h : vs.length = ds.length) : (vs.zip ds).map (·.1) = vs := by
  rw [List.map_fst_zip]
  omega
theorem zip_cells : ∀ {vs : List V} {ds : List (PD × Bool)}, vs.length = ds.length → (vs.zip ds).map (fun e : Ent => mkC e.2.1 e.2.2) = ds.map fun p => mkC p.1 p.2
  | [], [], _ => rfl
  | [], _ :: _, h => by cases h
  | _ :: _, [], h => by cases h
  | v :: vs, d :: ds, h => by
    rw [List.zip_cons_cons, List.map_cons, List.map_cons, zip_cells (by simpa using h)]
/-- the reading's use, whatever the road -/
theorem par_use {es : Es} {is : List Nat} {t : TA} {mg : Str → Option Value} {K : PySem.W.Frag} {cs : List FSem} {Ex : XK} (g : GoodF K mg cs Ex es t) {D : Ends} {H0 : Hp} {B : Bor} {σ : L2.St} {H Hf : Hp} {ρ : Env} (hB : BOk B) (R : Rel K H0 B σ H Hf ρ) {o : SO} (ho : evalS cs (.par is es) ρ = some o) (hD : EndOk K mg H0 B Hf Ex D o)
    {Q : List V → Hp → Prop} (q : ∀ vs H' Hf' ρ1 l ρ', vs.length = lenEs es → is.length = vs.length → l.map (·.1) = vs → PostS K H0 B Hf ρ1 σ H' Hf' → EntOk K H0 σ ρ1 H' Hf' l → setCs is (l.map fun e => mkC e.2.1 e.2.2) ρ1 = some ρ' → o = .nx ρ' → Q vs H') : t σ H Q := by
  unfold evalS at ho
  rcases fs_cases ho with ⟨x, rfl, hx⟩ | ⟨ds, ρ1, hk, hok⟩
  · exact (g H0 B σ H Hf ρ hB R).1 x hx _ hD
  · obtain ⟨ρ', e2, rfl⟩ := nxO_ok hk
    refine (g H0 B σ H Hf ρ hB R).2 ds ρ1 hok [] ⟨(fun _ h => by cases h), List.Pairwise.nil⟩ _ fun vs H1 Hf1 hl S1 E1 => ?_
    rw [List.nil_append] at E1
    have e3 : setCs is ((vs.zip ds).map fun e : Ent => mkC e.2.1 e.2.2) ρ1 = some ρ' := by
      rw [zip_cells hl]
      exact e2
    have hi := (puts_ok S1.rel E1 e3).2
    rw [List.length_zip] at hi
    exact q vs H1 Hf1 ρ1 (vs.zip ds) ρ' (by rw [hl, fs_len hok]) (by omega) (zip_fst hl) (PostS.ofStep R S1) E1 e3 rfl
theorem snd_par {is : List Nat} {es : Es} (ha : AllE S es) : SndS S (.par is es) := by
  intro sc Ex F hF st h
  cases st with
  | Assign tl ex pos =>
    obtain ⟨ts, k, p, vs, k2, p2, rfl, rfl⟩ : ∃ ts k p vs k2 p2, tl = [.Tuple ts k p] ∧ ex = .Tuple vs k2 p2 := by
      cases tl with
      | nil => exact no h
      | cons t tl =>
        cases tl with
        | cons _ _ => cases t <;> exact no h
        | nil =>
          cases t with
          | Tuple ts k p =>
            cases ex with
            | Tuple vs k2 p2 => exact ⟨_, _, _, _, _, _, rfl, rfl⟩
            | _ => exact no h
          | _ => exact no h
    have h' : (storesB S.tb sc is ts && decide is.Nodup && decide (vs.length = is.length) && decide (is.length ≤ 8) && isEs S.tb sc es vs && (decide (swP sc ts vs = some none) || (decide (swP sc ts vs = some (some (is.filterMap fun i => S.tb.N[i]?))) && (decide (is.length = 2) || decide (is.length = 3)) && ts.all (nmLc sc)))) = true := h
    simp only [Bool.and_eq_true, Bool.or_eq_true, decide_eq_true_eq] at h'
    obtain ⟨⟨⟨⟨⟨h1, h2⟩, h3⟩, h8⟩, h4⟩, h5⟩ := h'
    obtain ⟨t, pa, g⟩ := snd_fs ha sc Ex F (fun X hX => (hF X hX).c) vs h4
    rcases h5 with h5 | ⟨⟨h5, h6⟩, h7⟩
    · refine ⟨tAsg (tTup t) (gTg S.K (.tp is)), fun X hX => ?_, ?_⟩
      · have C := hF X hX
        exact ps_asg (pe_tup (pa X hX)) (pgtD C (tg := .tp is) h1) rfl (swP_is C.c.hsc h5) rfl
      · intro H0 B σ H Hf ρ hB R o ho D hD
        refine par_use g hB R ho hD fun ws H1 Hf1 ρ1 l ρ' hl hi hw P1 E1 e3 eo => ?_
        subst eo
        have hsz : ws.length ≤ sizeLine := lim_line (Nat.le_trans (by omega : ws.length ≤ 8) (by decide))
        refine ⟨hsz, fun q n => ⟨q, ws, rfl, SqT.of upd_same, hi.symm, gNs_sets hi ?_⟩⟩
        have R1 := (P1.rel.grow (o := .tup ws) n).2
        have := (puts_ok R1 (E1.grow P1.rel n) e3).1
        rw [hw] at this
        exact hD _ _ Hf1 (P1.trans ⟨fun _ _ z => z, this, fun _ _ _ => rfl⟩)
    · have lts := storesN h1
      rcases h6 with h6 | h6
      · match is, ts, vs, h6, lts, h3 with
        | [i, j], [tx, ty], [a, b], _, _, _ =>
          have g2 : (nmLc sc tx && (nmLc sc ty && true)) = true := h7
          simp only [Bool.and_eq_true, Bool.and_true] at g2
          obtain ⟨x, px, rfl⟩ : ∃ x px, tx = .Name x px := by
            cases tx with
            | Name x px => exact ⟨x, px, rfl⟩
            | _ => exact no g2.1
          obtain ⟨y, py, rfl⟩ : ∃ x px, ty = .Name x px := by
            cases ty with
            | Name x px => exact ⟨x, px, rfl⟩
            | _ => exact no g2.2
          have g1 : (storeB S.tb sc i x && (storeB S.tb sc j y && true)) = true := h1
          simp only [Bool.and_eq_true, Bool.and_true] at g1
          have n1 := storeN g1.1
          have n2 := storeN g1.2
          refine ⟨tPar i j t, fun X hX => ?_, fun H0 B σ H Hf ρ hB R o ho D hD => ?_⟩
          · have C := hF X hX
            have sw : swP sc [.Name x px, .Name y py] [a, b] = some (some [x, y]) := by
              rw [h5]
              simp [List.filterMap_cons, n1, n2]
            exact ps_par C.c.calm C.c.nd (by rw [C.c.hN]; exact n1) (by rw [C.c.hN]; exact n2) (fun e => by simp [e] at h2) (by rw [C.c.hsc]; exact lc_of g2.1) (by rw [C.c.hsc]; exact lc_of g2.2) (pa X hX) (swP_is C.c.hsc sw) rfl
          · refine par_use g hB R ho hD fun ws H1 Hf1 ρ1 l ρ' hl hi hw P1 E1 e3 eo => ?_
            subst eo
            have := (puts_ok P1.rel E1 e3).1
            rw [hw] at this
            match ws, hi, this with
            | [u, v], _, this => exact ⟨u, v, rfl, hD _ _ Hf1 (P1.trans ⟨fun _ _ z => z, this, fun _ _ _ => rfl⟩)⟩
      · match is, ts, vs, h6, lts, h3 with
        | [i, j, l3], [tx, ty, tz], [a, b, c], _, _, _ =>
          have g2 : (nmLc sc tx && (nmLc sc ty && (nmLc sc tz && true))) = true := h7
          simp only [Bool.and_eq_true, Bool.and_true] at g2
          obtain ⟨x, px, rfl⟩ : ∃ x px, tx = .Name x px := by
            cases tx with
            | Name x px => exact ⟨x, px, rfl⟩
            | _ => exact no g2.1
          obtain ⟨y, py, rfl⟩ : ∃ x px, ty = .Name x px := by
            cases ty with
            | Name x px => exact ⟨x, px, rfl⟩
            | _ => exact no g2.2.1
          obtain ⟨z, pz, rfl⟩ : ∃ x px, tz = .Name x px := by
            cases tz with
            | Name x px => exact ⟨x, px, rfl⟩
            | _ => exact no g2.2.2
          have g1 : (storeB S.tb sc i x && (storeB S.tb sc j y && (storeB S.tb sc l3 z && true))) = true := h1
          simp only [Bool.and_eq_true, Bool.and_true] at g1
          have n1 := storeN g1.1
          have n2 := storeN g1.2.1
          have n3 := storeN g1.2.2
          refine ⟨tPar3 i j l3 t, fun X hX => ?_, fun H0 B σ H Hf ρ hB R o ho D hD => ?_⟩
          · have C := hF X hX
            have sw : swP sc [.Name x px, .Name y py, .Name z pz] [a, b, c] = some (some [x, y, z]) := by
              rw [h5]
              simp [List.filterMap_cons, n1, n2, n3]
            exact ps_par3 C.c.calm C.c.nd (by rw [C.c.hN]; exact n1) (by rw [C.c.hN]; exact n2) (by rw [C.c.hN]; exact n3) (fun e => by simp [e] at h2) (fun e => by simp [e] at h2) (fun e => by simp [e] at h2)
              (by rw [C.c.hsc]; exact lc_of g2.1) (by rw [C.c.hsc]; exact lc_of g2.2.1) (by rw [C.c.hsc]; exact lc_of g2.2.2) (pa X hX) (swP_is C.c.hsc sw) rfl
          · refine par_use g hB R ho hD fun ws H1 Hf1 ρ1 l ρ' hl hi hw P1 E1 e3 eo => ?_
            subst eo
            have := (puts_ok P1.rel E1 e3).1
            rw [hw] at this
            match ws, hi, this with
            | [u, v, w], _, this => exact ⟨u, v, w, rfl, hD _ _ Hf1 (P1.trans ⟨fun _ _ z => z, this, fun _ _ _ => rfl⟩)⟩
  | _ => exact no h
end DD

-- part DAll
set_option Elab.async false
set_option linter.all false
set_option maxRecDepth 100000
set_option maxHeartbeats 2000000
/-! All constructs together; a def. -/
namespace DD
open PySem PySem.Spec PyProof.Rows L2
theorem snd_none {S : Setg} {e : E} (h : ∀ tb sc ex, isE tb sc e ex = false) : SndE S e := fun sc Ex F hF ex hx => by
  rw [h] at hx
  cases hx
mutual
theorem allE (S : Setg) : (e : E) → SndE S e ∧ SndW S e
  | .nop => ⟨snd_nop, wPl rfl⟩
  | .int i => ⟨snd_int i, wPl rfl⟩
  | .bl b => ⟨snd_bl b, wPl rfl⟩
  | .non => ⟨snd_non, wPl rfl⟩
  | .str s => ⟨snd_str s, wPl rfl⟩
  | .gint x i => ⟨snd_gint x i, wPl rfl⟩
  | .gtup x is => ⟨snd_gtup x is, wPl rfl⟩
  | .var i => ⟨snd_var i, wPl rfl⟩
  | .mv i => ⟨snd_mv i, wPl rfl⟩
  | .sc e => ⟨snd_sc (allE S e).1, wSc (allE S e).2⟩
  | .bin op a b => ⟨snd_bin op (allE S a).1 (allE S b).1, wPl rfl⟩
  | .neg a => ⟨snd_neg (allE S a).1, wPl rfl⟩
  | .cmp op a b => ⟨(snd_cmp op (allE S a).1 (allE S b).1).e, wCmp op (snd_cmp op (allE S a).1 (allE S b).1)⟩
  | .chain op op2 a b c => ⟨(snd_chain op op2 (allE S a).1 (allE S b).1 (allE S c).1).e, wChain op op2 (snd_chain op op2 (allE S a).1 (allE S b).1 (allE S c).1)⟩
  | .and a b => ⟨snd_and (allE S a).1 (allE S b).1, wAnd (allE S a).2 (allE S a).1 (allE S b).2 (allE S b).1⟩
  | .or a b => ⟨snd_or (allE S a).1 (allE S b).1, wOr (allE S a).2 (allE S a).1 (allE S b).2 (allE S b).1⟩
  | .not a => ⟨snd_not (allE S a).1, wNot (allE S a).2 (allE S a).1⟩
  | .ite c a b => ⟨snd_ite ((allE S c).2.t (allE S c).1) (allE S a).1 (allE S b).1, wIte ((allE S c).2.t (allE S c).1) ((allE S a).2.t (allE S a).1) ((allE S b).2.t (allE S b).1)⟩
  | .call k as => ⟨snd_call k (allEs S as).1, wPl rfl⟩
  | .callm k v as => ⟨snd_callm k v (allEs S as).1, wPl rfl⟩
  | .blt f as => ⟨snd_blt f (allEs S as).1, wPl rfl⟩
  | .trng f as => ⟨snd_trng (allEs S as).1, wPl rfl⟩
  | .isi a ts => ⟨snd_isi ts (allE S a).1, wPl rfl⟩
  | .ix a i => ⟨snd_ix (allE S a).1 (allE S i).1, wPl rfl⟩
  | .ixv v i => ⟨snd_ixv v (allE S i).1, wPl rfl⟩
  | .slc a lo hi => ⟨snd_slc (allE S a).1 (allE S lo).1 (allE S hi).1, wPl rfl⟩
  | .slv v lo hi => ⟨snd_slv v (allE S lo).1 (allE S hi).1, wPl rfl⟩
  | .rev a => ⟨snd_rev (allE S a).1, wPl rfl⟩
  | .tup as => ⟨snd_tup (allEs S as).1, wPl rfl⟩
  | .lst as => ⟨snd_lst (allEs S as).1, wPl rfl⟩
  | .dic0 => ⟨snd_dic0, wPl rfl⟩
  | .dic1 k v => ⟨snd_dic1 (allE S k).1 (allE S v).1, wPl rfl⟩
  | .lc elt tg it cond => ⟨fun sc Ex F hF ex hx => by
      obtain ⟨t, p, g⟩ := snd_lc (tg := tg) (allE S elt).1 (allI S it) ((allE S cond).2.t (allE S cond).1) sc Ex F hF ex hx
      exact ⟨t, fun X hX => (p X hX).1, g⟩, wPl rfl⟩
  | .idx a x => ⟨snd_idx (allE S a).1 (allE S x).1, wPl rfl⟩
theorem allEs (S : Setg) : (es : Es) → SndA S es ∧ AllE S es
  | .nil => ⟨snd_nil, trivial⟩
  | .cons e es => ⟨snd_cons (allE S e).1 (allEs S es).1, (allE S e).1, (allEs S es).2⟩
theorem allI (S : Setg) : (it : It) → SndI S it
  | .seq e => snd_seq (allE S e).1
  | .hid v => snd_hid v
  | .rng as => snd_rng (allEs S as).1
  | .enu e => snd_enu (allE S e).1
  | .zip a b => snd_zip (allE S a).1 (allE S b).1
end
theorem allT (S : Setg) (e : E) : SndT S e := (allE S e).2.t (allE S e).1
theorem allL (S : Setg) (elt : E) (tg : Tg) (it : It) (cond : E) : SndL S elt tg it cond := snd_lc (allE S elt).1 (allI S it) (allT S cond)
mutual
theorem allS (S : Setg) : (s : DD.S) → SndS S s
  | .set i e => snd_set (allE S e).1 fun elt tg it cond _ => allL S elt tg it cond
  | .par is es => snd_par (allEs S es).2
  | .unp is e => snd_unp (allE S e).1
  | .stx v i e => snd_stx (allE S i).1 (allE S e).1
  | .aug i op e => snd_aug (allE S e).1
  | .app v e => snd_app (allE S e).1
  | .exp e => snd_exp (allE S e).1
  | .ret e => snd_ret (allE S e).1
  | .ret0 => snd_ret0
  | .ite c a b => snd_ite' (allT S c) (allSs S a) (allSs S b)
  | .fr tg it b => snd_fr (allI S it) (allSs S b)
  | .whl c b => snd_whl (allT S c) (allSs S b)
  | .rai x => snd_rai
  | .pas => snd_pas
  | .brk => snd_brk
  | .cnt => snd_cnt
theorem allSs (S : Setg) : (ss : Ss) → SndSs S ss
  | .nil => snd_snil
  | .cons s ss => snd_scons (allS S s) (allSs S ss)
end
end DD

-- part DDef
set_option Elab.async false
set_option linter.all false
set_option maxRecDepth 100000
set_option maxHeartbeats 2000000
/-! A def keeps its promise. -/
namespace DD
open PySem PySem.Spec PyProof.Rows L2
theorem getC_app1 {a b : Env} {i : Nat} (h : i < a.length) : getC (a ++ b) i = getC a i := by
  unfold getC
  rw [List.getElem?_append_left h]
theorem getC_rep {n i : Nat} : getC (List.replicate n none) i = none := by
  unfold getC
  rw [List.getElem?_replicate]
  by_cases h : i < n
  · rw [if_pos h]
  · rw [if_neg h]
theorem getC_app2 {a : Env} {n i : Nat} (h : a.length ≤ i) : getC (a ++ List.replicate n none) i = none := by
  unfold getC
  rw [List.getElem?_append_right h, List.getElem?_replicate]
  by_cases h : i - a.length < n
  · rw [if_pos h]
  · rw [if_neg h]
theorem getC_map {ds : List PD} {i : Nat} {c : Cell} (h : getC (ds.map fun d => some (.sh d)) i = some c) : ∃ d, ds[i]? = some d ∧ c = .sh d := by
  unfold getC at h
  rw [List.getElem?_map] at h
  cases e : ds[i]? with
  | none => simp [e] at h
  | some d =>
    simp only [e, Option.map_some, Option.some.injEq] at h
    exact ⟨d, rfl, h.symm⟩
theorem start_get {N : List Str} {vs : List V} {i : Nat} {v : V} (h : vs[i]? = some v) : (start N vs)[i]? = some (some v) := by
  unfold L2.start
  have hl : i < (vs.map some).length := by
    rw [List.length_map]
    exact (List.getElem?_eq_some_iff.mp h).1
  rw [List.getElem?_append_left hl, List.getElem?_map, h]
  rfl
/-- all parameters shared -/
theorem rel_sh {K : PySem.W.Frag} {H Hf : Hp} {N : List Str} {vs : List V} {ds : List PD} (e : Same Hf H) (r : RpA K Hf vs ds) : Rel K H [] (start N vs) H Hf ((ds.map fun d => some (.sh d)) ++ List.replicate (N.length - ds.length) none) := by
  have key : ∀ {i : Nat} {c : Cell}, getC ((ds.map fun d => some (.sh d)) ++ List.replicate (N.length - ds.length) none) i = some c → ∃ d, ds[i]? = some d ∧ c = .sh d := fun {i c} h => by
    by_cases hi : i < (ds.map fun d => some (Cell.sh d)).length
    · rw [getC_app1 hi] at h
      exact getC_map h
    · rw [getC_app2 (by omega)] at h
      cases h
  refine ⟨e, ?_, fun i c hc => ?_, fun i j c c' a hi hj m => ?_, fun a o h _ => h, fun i a h => by cases h⟩
  · unfold L2.start
    rw [List.length_append, List.length_append, List.length_map, List.length_map, List.length_replicate, List.length_replicate, r.length]
  · obtain ⟨d, hd, rfl⟩ := key hc
    obtain ⟨v, hv, rv⟩ := r.get hd
    exact ⟨v, start_get hv, rv⟩
  · obtain ⟨d, _, rfl⟩ := key hi
    cases m
/-- the first one borrowed -/
theorem rel_bo {K : PySem.W.Frag} {H Hf : Hp} {N : List Str} {a : Addr} {d : PD} {vs : List V} {ds : List PD} {k : Nat} (e : Same Hf H) (o : Own K H Hf (.ref a) d) (r : RpA K Hf vs ds) (hk : k = N.length - (ds.length + 1)) : Rel K H [(0, a)] (start N (.ref a :: vs)) H Hf (some (.bo d) :: (ds.map fun d => some (.sh d)) ++ List.replicate k none) := by
  have key : ∀ {i : Nat} {c : Cell}, getC (some (.bo d) :: (ds.map fun d => some (.sh d)) ++ List.replicate k none) i = some c → (i = 0 ∧ c = .bo d) ∨ ∃ j x, i = j + 1 ∧ ds[j]? = some x ∧ c = .sh x := fun {i c} h => by
    cases i with
    | zero =>
      cases h
      exact .inl ⟨rfl, rfl⟩
    | succ j =>
      right
      have h' : getC ((ds.map fun d => some (.sh d)) ++ List.replicate k none) j = some c := h
      by_cases hi : j < (ds.map fun d => some (Cell.sh d)).length
      · rw [getC_app1 hi] at h'
        obtain ⟨x, h1, h2⟩ := getC_map h'
        exact ⟨j, x, rfl, h1, h2⟩
      · rw [getC_app2 (by omega)] at h'
        cases h'
  have g0 : (start N (.ref a :: vs))[0]? = some (some (.ref a)) := start_get rfl
  refine ⟨e, ?_, fun i c hc => ?_, fun i j c c' b hi hj m m' ei ej => ?_, fun a o h _ => h, fun i b h => ?_⟩
  · unfold L2.start
    rw [hk, List.length_append, List.length_append, List.length_map, List.length_cons, List.length_cons, List.length_map, List.length_replicate, List.length_replicate, r.length]
  · rcases key hc with ⟨rfl, rfl⟩ | ⟨j, x, rfl, hx, rfl⟩
    · exact ⟨_, g0, o, fun b eb => by
        cases eb
        exact List.mem_singleton.mpr rfl⟩
    · obtain ⟨v, hv, rv⟩ := r.get hx
      exact ⟨v, start_get (by simpa using hv), rv⟩
  · rcases key hi with ⟨rfl, rfl⟩ | ⟨_, x, _, _, rfl⟩
    · rcases key hj with ⟨rfl, rfl⟩ | ⟨_, x, _, _, rfl⟩
      · rfl
      · cases m'
    · cases m
  · cases List.mem_singleton.mp h
    exact ⟨g0, d, rfl⟩
section
variable {P : Program} {w : World} {K : PySem.W.Frag} {mg : Str → Option Value} {base : Heap}
/-- facts of the exceptions -/
structure ExnOk (K : PySem.W.Frag) (mg : Str → Option Value) (x : Str) : Prop where
  ok : ∃ C : Addr, mg x = some (.ref C) ∧ PySem.W.excIn K C [.type "ValueError", .type "Exception", .type "BaseException", .type "object"] "ValueError.__new__" = true ∧ PySem.W.keepIn K (.ref C) = true ∧
    PySem.W.subIn K (.ref C) (.type "BaseException") = some true ∧ PySem.W.typeIn K (.ref C) = some (.type "type")
structure TabOk (P : Program) (w : World) (K : PySem.W.Frag) (mg : Str → Option Value) (base : Heap) (k : Nat) (tb : Tb) (cs : List FSem) (fa : List FInfo) : Prop where
  fns : ∀ (i : Nat) (nm : Str) (mu : Bool) (ar : Nat), tb.cn[i]? = some (nm, mu, ar) → ∃ (s : FSem) (g : FInfo), cs[i]? = some s ∧ fa[i]? = some g ∧ s.mu = mu ∧ mg nm = some (.ref g.f) ∧ PySem.W.keepIn K (.ref g.f) = true ∧ Binds K g.fd g.ps [] ∧ g.ps.length = ar ∧
    FnOk P w K mg base (L2.CX P w) k g.f g.fd g.ps (spF K mg s ar)
  blt : ∀ x ∈ bltNames, mg x = none
  gi : ∀ x i, (x, i) ∈ tb.gi → ∃ t, mg x = some (.int i t)
  gt : ∀ x is, (x, is) ∈ tb.gt → ∃ a, mg x = some (.ref a) ∧ ∀ H, SqT K H a (is.map V.int)
  exn : ∀ x ∈ tb.exn, ExnOk K mg x
theorem nmOk_dbg {x : Str} (h : nmOk x = true) : (x == ("__debug__" : Str)) = false := nmOk1 h
theorem def_ok {x qual : Str} {st : Stmt} {f : Addr} {fd : FuncData} {ps : List Str} {k : Nat} {tb : Tb} {cs : List FSem} {fa : List FInfo} {mu : Bool} {b : Ss} (F : Fun K x qual st f fd) (Sc : FnScope tb.N ps (defScope st)) (T : TabOk P w K mg base k tb cs fa)
    (hb : isSs tb (defScope st) b (defBody st) = true) : FnOk P w K mg base (L2.CX P w) (k + 1) f fd ps (spF K mg (defSem mu ps.length tb.N.length cs b) ps.length) := by
  refine F.okX Sc (fun vs H Q E h => h.1) fun cdv A outer s H vs Q E hr h => ?_
  let S : Setg := ⟨tb, cs, fa, K, mg, k⟩
  let X0 := cxOf (L2.CX P w) P w K mg base tb.N qual (defScope st) f cdv A outer s H E
  have tk : Takes X0 (fun cls d _ H => E cls d H) := takes_of rfl rfl rfl rfl
  have C : SCx S (defScope st) E X0 :=
    { c := ⟨rfl, rfl, rfl, Sc.nd, rfl, rfl, hr, passes_call tk fun _ _ _ _ h => h, T.fns, T.blt, T.gi, T.gt⟩
      fnc := fun _ _ => rfl
      kd := Sc.kind
      own := passes_of rfl
      rai := fun x hx => by
        obtain ⟨Ca, e1, e2, e3, e4, e5⟩ := (T.exn x hx).ok
        exact ⟨Ca, e1, fun m j p p2 pos hg hn => pmk_own PySem.F.excBase_ValueError e2 e1 e3 (raises_own e4 e5) hg (nmOk_dbg hn)⟩
      tk := tk }
  obtain ⟨t, p, g⟩ := allSs S b (defScope st) E (fun X => X = X0) (fun X hX => by rw [hX]; exact C) (defBody st) hb
  refine ⟨t, p X0 rfl, ?_⟩
  obtain ⟨hl, ds, Hf, e, ha, hm⟩ := h
  have hld : ds.length = ps.length := by
    unfold ArgsOk at ha
    split at ha
    · obtain ⟨v, r, d, s2, rfl, rfl, _, rr⟩ := ha
      rw [← hl, List.length_cons, List.length_cons, rr.length]
    · rw [← hl, ha.length]
  have hm' : match outF mu (evalSs cs b (envOf mu ds tb.N.length)) with
    | none => False
    | some (.ret d fr m) => ∀ v H' Hf', Same Hf Hf' → Same Hf' H' → (∀ a o, H a = some o → ¬ MuAt mu vs a → H' a = some o) → (∀ b u, H b = some u → Hf' b = Hf b) →
      (mu = true → ∀ w, vs.head? = some w → Own K H' Hf' w m) → (if fr = true then Own K H' Hf' v d ∧ ∀ a, v = .ref a → H a = none else Rp K Hf' v d) → Q v H'
    | some (.ex x) => ∀ C H', mg x = some (.ref C) → (∀ a o, H a = some o → ¬ MuAt mu vs a → H' a = some o) → E (.ref C) none H' := by
    have e2 : (defSem mu ps.length tb.N.length cs b).run ds = outF mu (evalSs cs b (envOf mu ds tb.N.length)) := if_pos hld
    rw [e2] at hm
    exact hm
  cases ev : evalSs cs b (envOf mu ds tb.N.length) with
  | none =>
    rw [ev] at hm'
    exact hm'.elim
  | some o =>
    rw [ev] at hm'
    cases mu with
    | false =>
      have ha' : RpA K Hf vs ds := ha
      have R := rel_sh (N := tb.N) e ha'
      have ev' : evalSs cs b ((ds.map fun d => some (.sh d)) ++ List.replicate (tb.N.length - ds.length) none) = some o := by
        have : envOf false ds tb.N.length = (ds.map fun d => some (.sh d)) ++ List.replicate (tb.N.length - ds.length) none := by
          cases ds <;> rfl
        rw [← this]
        exact ev
      have fr0 : ∀ {σ' H' Hf' ρ'}, PostS K H [] Hf ρ' σ' H' Hf' → ∀ a o, H a = some o → ¬ MuAt false vs a → H' a = some o := fun P a o h _ => P.rel.ent a o h fun i hi => by cases hi
      refine g H [] _ H Hf _ (fun i a h => by cases h) R o ev' _ ?_
      cases o with
      | nx ρ' => exact fun σ' H' Hf' P => hm' .non H' Hf' P.ext P.rel.ext (fr0 P) P.gr (fun z => nomatch z) Rp.non
      | rt d fr ρ' => exact fun v σ' H' Hf' P r => hm' v H' Hf' P.ext P.rel.ext (fr0 P) P.gr (fun z => nomatch z) r
      | bk ρ' => exact hm'.elim
      | ct ρ' => exact hm'.elim
      | ex x => exact fun C H' hC hE => hm' C H' hC fun a o h _ => hE a o h fun i hi => by cases hi
    | true =>
      obtain ⟨v0, vr, d0, dr, rfl, rfl, ow, rr⟩ := (show ∃ v r d s, vs = v :: r ∧ ds = d :: s ∧ Own K H Hf v d ∧ RpA K Hf r s from ha)
      obtain ⟨a0, rfl, _, _⟩ := ow.ref
      have R := rel_bo (N := tb.N) e ow rr rfl
      have fr0 : ∀ {H'}, EFr H [(0, a0)] H' → ∀ a o, H a = some o → ¬ MuAt true (.ref a0 :: vr) a → H' a = some o := fun hE a o h hn => hE a o h fun i hi => by
        cases List.mem_singleton.mp hi
        exact hn ⟨rfl, rfl⟩
      have mown : ∀ {σ' H' Hf' ρ' m}, PostS K H [(0, a0)] Hf ρ' σ' H' Hf' → getC ρ' 0 = some (.bo m) → ∀ w, (V.ref a0 :: vr).head? = some w → Own K H' Hf' w m := fun {σ' H' Hf' ρ' m} P hc w hw => by
        cases hw
        obtain ⟨v, hv, ok⟩ := P.rel.get 0 _ hc
        obtain ⟨e1, _⟩ := P.rel.bor 0 a0 (List.mem_singleton.mpr rfl)
        rw [hv] at e1
        cases e1
        exact ok.1
      have ev' : evalSs cs b (some (.bo d0) :: (dr.map fun d => some (.sh d)) ++ List.replicate (tb.N.length - (dr.length + 1)) none) = some o := ev
      refine g H [(0, a0)] _ H Hf _ (fun i a h => by
        cases List.mem_singleton.mp h
        rfl) R o ev' _ ?_
      cases o with
      | nx ρ' =>
        intro σ' H' Hf' P
        obtain ⟨_, m, hc⟩ := P.rel.bor 0 a0 (List.mem_singleton.mpr rfl)
        simp only [outF, if_true, hc] at hm'
        exact hm' .non H' Hf' P.ext P.rel.ext (fr0 P.rel.ent) P.gr (fun _ => mown P hc) Rp.non
      | rt d fr ρ' =>
        intro v σ' H' Hf' P r
        obtain ⟨_, m, hc⟩ := P.rel.bor 0 a0 (List.mem_singleton.mpr rfl)
        simp only [outF, if_true, hc] at hm'
        exact hm' v H' Hf' P.ext P.rel.ext (fr0 P.rel.ent) P.gr (fun _ => mown P hc) r
      | bk ρ' => exact hm'.elim
      | ct ρ' => exact hm'.elim
      | ex x => exact fun C H' hC hE => hm' C H' hC (fr0 hE)
/-- never used: a def of no promise -/
def noSem (mu : Bool) : FSem := ⟨mu, fun _ => none⟩
theorem no_ok {f : Addr} {fd : FuncData} {ps : List Str} {k n : Nat} {mu : Bool} : FnOk P w K mg base (L2.CX P w) k f fd ps (spF K mg (noSem mu) n) :=
  ⟨fun vs H Q E h => by
    obtain ⟨_, _, _, _, _, z⟩ := h
    exact z.elim, fun A outer s H args us vs Q E _ _ _ _ h => by
    obtain ⟨_, _, _, _, _, z⟩ := h
    exact z.elim⟩
structure Callee (P : Program) (w : World) (K : PySem.W.Frag) (mg : Str → Option Value) (base : Heap) (k : Nat) (c : Str × Bool × Nat) (s : FSem) (g : FInfo) : Prop where
  mu : s.mu = c.2.1
  here : mg c.1 = some (.ref g.f)
  kp : PySem.W.keepIn K (.ref g.f) = true
  bd : Binds K g.fd g.ps []
  ln : g.ps.length = c.2.2
  ok : FnOk P w K mg base (L2.CX P w) k g.f g.fd g.ps (spF K mg s c.2.2)
inductive Tabs (P : Program) (w : World) (K : PySem.W.Frag) (mg : Str → Option Value) (base : Heap) (k : Nat) : List (Str × Bool × Nat) → List FSem → List FInfo → Prop where
  | nil : Tabs P w K mg base k [] [] []
  | cons {c : Str × Bool × Nat} {cn : List (Str × Bool × Nat)} {s : FSem} {cs : List FSem} {g : FInfo} {fa : List FInfo} : Callee P w K mg base k c s g → Tabs P w K mg base k cn cs fa → Tabs P w K mg base k (c :: cn) (s :: cs) (g :: fa)
theorem Tabs.fns {k : Nat} : ∀ {cn : List (Str × Bool × Nat)} {cs : List FSem} {fa : List FInfo}, Tabs P w K mg base k cn cs fa → ∀ (i : Nat) (nm : Str) (mu : Bool) (ar : Nat), cn[i]? = some (nm, mu, ar) →
    ∃ (s : FSem) (g : FInfo), cs[i]? = some s ∧ fa[i]? = some g ∧ s.mu = mu ∧ mg nm = some (.ref g.f) ∧ PySem.W.keepIn K (.ref g.f) = true ∧ Binds K g.fd g.ps [] ∧ g.ps.length = ar ∧ FnOk P w K mg base (L2.CX P w) k g.f g.fd g.ps (spF K mg s ar)
  | _, _, _, .nil, i, _, _, _, h => by simp at h
  | _, _, _, .cons (s := s) (g := g) c t, 0, nm, mu, ar, h => by
    simp at h
    subst h
    exact ⟨s, g, rfl, rfl, c.mu, c.here, c.kp, c.bd, c.ln, c.ok⟩
  | _, _, _, .cons c t, i + 1, nm, mu, ar, h => by
    obtain ⟨s, g, h1, h2, h3⟩ := Tabs.fns t i nm mu ar (by simpa using h)
    exact ⟨s, g, by simpa using h1, by simpa using h2, h3⟩
theorem Callee.up {j k : Nat} {c : Str × Bool × Nat} {s : FSem} {g : FInfo} (h : Callee P w K mg base j c s g) (le : j ≤ k) : Callee P w K mg base k c s g := ⟨h.mu, h.here, h.kp, h.bd, h.ln, h.ok.mono le⟩
def GiOk (mg : Str → Option Value) : List (Str × Int) → Prop
  | [] => True
  | (x, i) :: r => (∃ t, mg x = some (.int i t)) ∧ GiOk mg r
theorem giOk : ∀ {l : List (Str × Int)}, GiOk mg l → ∀ x i, (x, i) ∈ l → ∃ t, mg x = some (.int i t)
  | [], _, _, _, h => by cases h
  | (y, j) :: r, g, x, i, h => by
    rcases List.mem_cons.mp h with e | h
    · cases e
      exact g.1
    · exact giOk g.2 x i h
def GtOk (K : PySem.W.Frag) (mg : Str → Option Value) : List (Str × List Int) → Prop
  | [] => True
  | (x, is) :: r => (∃ a, mg x = some (.ref a) ∧ ∀ H, SqT K H a (is.map V.int)) ∧ GtOk K mg r
theorem gtOk : ∀ {l : List (Str × List Int)}, GtOk K mg l → ∀ x is, (x, is) ∈ l → ∃ a, mg x = some (.ref a) ∧ ∀ H, SqT K H a (is.map V.int)
  | [], _, _, _, h => by cases h
  | (y, j) :: r, g, x, i, h => by
    rcases List.mem_cons.mp h with e | h
    · cases e
      exact g.1
    · exact gtOk g.2 x i h
def ExOk (K : PySem.W.Frag) (mg : Str → Option Value) : List Str → Prop
  | [] => True
  | x :: r => ExnOk K mg x ∧ ExOk K mg r
theorem exOk : ∀ {l : List Str}, ExOk K mg l → ∀ x ∈ l, ExnOk K mg x
  | [], _, _, h => by cases h
  | y :: r, g, x, h => by
    rcases List.mem_cons.mp h with e | h
    · rw [e]
      exact g.1
    · exact exOk g.2 x h
/-- a def at its place -/
structure Def (K : PySem.W.Frag) (mg : Str → Option Value) (x : Str) (st : Stmt) (f : Addr) (fd : FuncData) (ps : List Str) : Prop where
  fn : Fun K x x st f fd
  here : mg x = some (.ref f)
  bd : Binds K fd ps []
theorem Def.call {x : Str} {st : Stmt} {f : Addr} {fd : FuncData} {ps : List Str} {k ar : Nat} {mu : Bool} {s : FSem} (D : Def K mg x st f fd ps) (o : FnOk P w K mg base (L2.CX P w) k f fd ps (spF K mg s ar)) (hm : s.mu = mu) (hl : ps.length = ar) : Callee P w K mg base k (x, mu, ar) s ⟨f, fd, ps⟩ :=
  ⟨hm, D.here, D.fn.kp, D.bd, hl, o⟩
theorem mk_ok {x : Str} {st : Stmt} {f : Addr} {fd : FuncData} {ps : List Str} {k ar : Nat} {tb : Tb} {cs : List FSem} {fa : List FInfo} {mu : Bool} {b : Ss} (D : Def K mg x st f fd ps) (har : ps.length = ar) (Sc : FnScope tb.N ps (defScope st)) (hb : isSs tb (defScope st) b (defBody st) = true)
    (hz : ∀ x ∈ bltNames, mg x = none) (T : Tabs P w K mg base k tb.cn cs fa) (gi : GiOk mg tb.gi) (gt : GtOk K mg tb.gt) (ex : ExOk K mg tb.exn) : FnOk P w K mg base (L2.CX P w) (k + 1) f fd ps (spF K mg (defSem mu ar tb.N.length cs b) ar) := by
  rw [← har]
  exact def_ok D.fn Sc ⟨T.fns, hz, giOk gi, gtOk gt, exOk ex⟩ hb
end
theorem cx_false {P : Program} {w : World} {l : List PySem.Env} {H : Hp} {s s' : Shared} {e : Value} (h : L2.CX P w l H s (fun _ _ _ => False) e s') : False := by
  obtain ⟨_, _, _, _, _, h⟩ := h
  exact h.2.2.2.2.2.2.2
/-- the law's promise -/
def spL (K : PySem.W.Frag) : Sp := fun vs H Q _ => ∃ (a : Addr) (ns : List Int), vs = [.ref a] ∧ ns.length ≤ 63 ∧ SqL K H a (ns.map V.int) ∧ ∀ H', Q (.bl true) H'
/-- what is wanted of a law in plain Lean -/
def Plain (s : FSem) : Prop := ∀ ns : List Int, ns.length ≤ 63 → ∃ fr m, s.run [.list (ofInts ns)] = some (.ret (.bool true) fr m)
theorem spL_imp {K : PySem.W.Frag} {mg : Str → Option Value} {s : FSem} (hm : s.mu = false) (h : Plain s) (vs : List V) (H : Hp) (Q : VK) (E : XK) (hs : spL K vs H Q E) : spF K mg s 1 vs H Q E := by
  obtain ⟨a, ns, rfl, hl, hS, q⟩ := hs
  obtain ⟨fr, m, e⟩ := h ns hl
  refine ⟨rfl, [.list (ofInts ns)], H, fun _ _ z => z, ?_, ?_⟩
  · unfold ArgsOk
    rw [hm]
    exact .cons (.lst hS (RpA.ofInts ns)) .nil
  · rw [e]
    intro v H' Hf' _ _ _ _ _ r
    cases fr with
    | false =>
      rw [r.bl_inv]
      exact q H'
    | true => cases r.1
end DD

-- part DLib
set_option Elab.async false
set_option linter.all false
set_option maxRecDepth 100000
/-! The defs of the laws as texts of the small language (printed by wip/gen/gen.py). -/
namespace DD.P
open DD
def t_is_between : Tb := ⟨["value", "low", "high"], [], [], [], []⟩
def b_is_between : Ss := (.cons (.ret (.sc (.and (.isi (.var 0) [.int]) (.and (.not (.isi (.var 0) [.bool])) (.chain .LtE .LtE (.var 1) (.var 0) (.var 2))))))
  .nil)
/-- is_between: value, low, high -/
def s_is_between (cs : List FSem) : FSem := defSem false 3 3 cs b_is_between
def t_is_basket : Tb := ⟨["value", "price"], [("is_between", false, 3)], [("MAX_ITEMS", 12), ("MAX_PRICE", 10000)], [], []⟩
def c1_is_basket : E := .lc (.call 0 (.cons (.var 1) (.cons (.int 1) (.cons (.gint "MAX_PRICE" 10000) .nil)))) (.nm 1) (.seq (.var 0)) (.bl true)
def b_is_basket : Ss := (.cons (.ite (.sc (.or (.not (.isi (.var 0) [.tuple])) (.not (.chain .LtE .LtE (.int 1) (.blt .len (.cons (.var 0) .nil)) (.gint "MAX_ITEMS" 12)))))
  (.cons (.ret (.bl false))
  .nil)
  .nil)
  (.cons (.ret (.sc (.blt .all (.cons c1_is_basket .nil))))
  .nil))
/-- is_basket: value -/
def s_is_basket (cs : List FSem) : FSem := defSem false 1 2 cs b_is_basket
def t_check_basket : Tb := ⟨["basket"], [("is_basket", false, 1)], [], [], ["InvalidBasket"]⟩
def b_check_basket : Ss := (.cons (.ite (.sc (.not (.call 0 (.cons (.var 0) .nil))))
  (.cons (.rai "InvalidBasket")
  .nil)
  .nil)
  .nil)
/-- check_basket: basket -/
def s_check_basket (cs : List FSem) : FSem := defSem false 1 1 cs b_check_basket
def t_row_of : Tb := ⟨["basket", "cost", "item", "price"], [], [], [], []⟩
def c1_row_of : E := .lc (.tup (.cons (.neg (.var 3)) (.cons (.var 2) .nil))) (.tp [2, 3]) (.enu (.var 0)) (.bl true)
def c2_row_of : E := .lc (.var 2) (.tp [1, 2]) (.seq (.blt .sorted (.cons c1_row_of .nil))) (.bl true)
def b_row_of : Ss := (.cons (.ret (.blt .tuple (.cons c2_row_of .nil)))
  .nil)
/-- row_of: basket -/
def s_row_of (cs : List FSem) : FSem := defSem false 1 4 cs b_row_of
def t_row : Tb := ⟨["basket"], [("check_basket", false, 1), ("row_of", false, 1)], [], [], []⟩
def b_row : Ss := (.cons (.exp (.call 0 (.cons (.var 0) .nil)))
  (.cons (.ret (.call 1 (.cons (.var 0) .nil)))
  .nil))
/-- row: basket -/
def s_row (cs : List FSem) : FSem := defSem false 1 1 cs b_row
def t_law_source : Tb := ⟨["_law_cell", "_law_turn"], [], [], [], []⟩
def b_law_source : Ss := (.cons (.ite (.sc (.cmp .GtE (.var 0) (.bin .Pow (.int 10) (.int 18))))
  (.cons (.ret (.lst (.cons (.bin .Sub (.var 0) (.bin .Pow (.int 10) (.int 18))) (.cons (.bin .Mod (.var 0) (.int 2147483579)) (.cons (.var 1) .nil)))))
  .nil)
  .nil)
  (.cons (.ret (.lst (.cons (.int 0) (.cons (.bin .Mod (.var 0) (.int 2147483579)) (.cons (.var 1) .nil)))))
  .nil))
/-- _law_source: _law_cell, _law_turn -/
def s_law_source (cs : List FSem) : FSem := defSem false 2 2 cs b_law_source
def t_law_draw : Tb := ⟨["_law_source_here", "_law_size", "_law_number", "_law_drawn"], [], [], [], []⟩
def b_law_draw : Ss := (.cons (.ite (.sc (.cmp .Gt (.ixv 0 (.int 0)) (.int 1)))
  (.cons (.set 3 (.bin .Mod (.ixv 0 (.int 0)) (.var 1)))
  (.cons (.stx 0 (.int 0) (.bin .FloorDiv (.ixv 0 (.int 0)) (.var 1)))
  (.cons (.ret (.mv 3))
  .nil)))
  .nil)
  (.cons (.stx 0 (.int 2) (.bin .Add (.ixv 0 (.int 2)) (.int 1)))
  (.cons (.set 2 (.bin .Mod (.bin .Pow (.bin .Add (.ixv 0 (.int 1)) (.bin .Mult (.int 15485867) (.ixv 0 (.int 2)))) (.int 5)) (.int 2147483647)))
  (.cons (.set 3 (.bin .FloorDiv (.bin .Mod (.bin .Pow (.bin .Add (.var 2) (.bin .Mult (.int 7919) (.ixv 0 (.int 2)))) (.int 3)) (.int 2147483629)) (.int 32)))
  (.cons (.ret (.bin .Mod (.var 3) (.var 1)))
  .nil)))))
/-- _law_draw: _law_source_here, _law_size -/
def s_law_draw (cs : List FSem) : FSem := defSem true 2 4 cs b_law_draw
def t_law_is_int : Tb := ⟨["_law_value"], [], [], [], []⟩
def b_law_is_int : Ss := (.cons (.ret (.sc (.and (.isi (.var 0) [.int]) (.not (.isi (.var 0) [.bool])))))
  .nil)
/-- _law_is_int: _law_value -/
def s_law_is_int (cs : List FSem) : FSem := defSem false 1 1 cs b_law_is_int
def t_law_choice : Tb := ⟨["_law_source_here", "_law_items"], [("_law_draw", true, 2)], [], [], []⟩
def b_law_choice : Ss := (.cons (.ret (.ixv 1 (.callm 0 0 (.cons (.sc (.blt .len (.cons (.var 1) .nil))) .nil))))
  .nil)
/-- _law_choice: _law_source_here, _law_items -/
def s_law_choice (cs : List FSem) : FSem := defSem true 2 2 cs b_law_choice
def t_law_kind : Tb := ⟨["_law_value"], [], [], [], []⟩
def b_law_kind : Ss := (.cons (.ite (.sc (.isi (.var 0) [.bool]))
  (.cons (.ret (.int 1))
  .nil)
  .nil)
  (.cons (.ite (.sc (.isi (.var 0) [.int]))
  (.cons (.ret (.int 2))
  .nil)
  .nil)
  (.cons (.ite (.sc (.isi (.var 0) [.str]))
  (.cons (.ret (.int 3))
  .nil)
  .nil)
  (.cons (.ite (.sc (.isi (.var 0) [.list]))
  (.cons (.ret (.int 4))
  .nil)
  .nil)
  (.cons (.ret (.ite (.sc (.isi (.var 0) [.tuple])) (.int 5) (.int 6)))
  .nil)))))
/-- _law_kind: _law_value -/
def s_law_kind (cs : List FSem) : FSem := defSem false 1 1 cs b_law_kind
def t_law_equal : Tb := ⟨["_law_value", "_law_expected", "_law_k", "_law_part"], [("_law_kind", false, 1), ("_law_equal", false, 2)], [], [], []⟩
def c1_law_equal : E := .lc (.var 2) (.tp [2, 3]) (.enu (.var 0)) (.sc (.not (.call 1 (.cons (.var 3) (.cons (.ixv 1 (.var 2)) .nil)))))
def b_law_equal : Ss := (.cons (.ite (.sc (.cmp .NotEq (.call 0 (.cons (.var 0) .nil)) (.call 0 (.cons (.var 1) .nil))))
  (.cons (.ret (.bl false))
  .nil)
  .nil)
  (.cons (.ite (.sc (.and (.cmp .Gt (.call 0 (.cons (.var 0) .nil)) (.int 3)) (.cmp .Lt (.call 0 (.cons (.var 0) .nil)) (.int 6))))
  (.cons (.ite (.sc (.cmp .NotEq (.blt .len (.cons (.var 0) .nil)) (.blt .len (.cons (.var 1) .nil))))
  (.cons (.ret (.bl false))
  .nil)
  .nil)
  (.cons (.ret (.sc (.cmp .Eq c1_law_equal (.lst .nil))))
  .nil))
  .nil)
  (.cons (.ret (.sc (.cmp .Eq (.var 0) (.var 1))))
  .nil)))
/-- _law_equal: _law_value, _law_expected -/
def s_law_equal (cs : List FSem) : FSem := defSem false 2 4 cs b_law_equal
def t_law_any_value : Tb := ⟨["_law_source_here", "_law_values"], [("_law_choice", true, 2)], [], [], []⟩
def b_law_any_value : Ss := (.cons (.set 1 (.lst (.cons .non (.cons (.bl true) (.cons (.str "") (.cons (.str "x") (.cons (.tup .nil) (.cons (.lst .nil) (.cons (.tup (.cons (.tup .nil) .nil)) (.cons (.int 7) (.cons (.neg (.int 1)) (.cons (.bin .Pow (.int 10) (.int 30)) (.cons (.tup (.cons (.int 1) (.cons (.int 2) .nil))) (.cons (.tup (.cons (.tup (.cons (.int 0) .nil)) (.cons (.tup (.cons (.int 1) .nil)) .nil))) (.cons (.tup (.cons (.tup (.cons (.int 0) (.cons (.int 1) .nil))) .nil)) (.cons (.tup (.cons (.int 0) (.cons (.int 0) .nil))) .nil))))))))))))))))
  (.cons (.ret (.callm 0 0 (.cons (.var 1) .nil)))
  .nil))
/-- _law_any_value: _law_source_here -/
def s_law_any_value (cs : List FSem) : FSem := defSem true 1 2 cs b_law_any_value
def t_law_corrupt : Tb := ⟨["_law_source_here", "_law_value", "_law_items", "_law_at", "_law_other"], [("_law_draw", true, 2), ("_law_corrupt", true, 2)], [], [], []⟩
def b_law_corrupt : Ss := (.cons (.ite (.and (.sc (.isi (.var 1) [.tuple, .list])) (.and (.sc (.cmp .Gt (.blt .len (.cons (.var 1) .nil)) (.int 0))) (.cmp .Gt (.callm 0 0 (.cons (.int 5) .nil)) (.int 0))))
  (.cons (.set 2 (.blt .list (.cons (.var 1) .nil)))
  (.cons (.set 3 (.callm 0 0 (.cons (.sc (.blt .len (.cons (.var 2) .nil))) .nil)))
  (.cons (.stx 2 (.var 3) (.callm 1 0 (.cons (.ixv 2 (.var 3)) .nil)))
  (.cons (.ret (.ite (.sc (.isi (.var 1) [.tuple])) (.blt .tuple (.cons (.var 2) .nil)) (.var 2)))
  .nil))))
  .nil)
  (.cons (.ite (.sc (.isi (.var 1) [.tuple, .list]))
  (.cons (.set 4 (.ite (.sc (.isi (.var 1) [.tuple])) (.blt .list (.cons (.var 1) .nil)) (.blt .tuple (.cons (.var 1) .nil))))
  (.cons (.ret (.ix (.lst (.cons (.var 4) (.cons (.bin .Add (.var 1) (.slv 1 .nop (.int 1))) (.cons (.slv 1 (.int 1) .nop) (.cons (.rev (.var 1)) (.cons .non .nil)))))) (.callm 0 0 (.cons (.int 5) .nil))))
  .nil))
  .nil)
  (.cons (.ite (.sc (.isi (.var 1) [.int]))
  (.cons (.ret (.ix (.lst (.cons (.bin .Add (.var 1) (.int 1)) (.cons (.bin .Sub (.var 1) (.int 1)) (.cons (.bl true) (.cons .non (.cons (.int 0) (.cons (.int 10001) (.cons (.blt .str (.cons (.var 1) .nil)) .nil)))))))) (.callm 0 0 (.cons (.int 7) .nil))))
  .nil)
  .nil)
  (.cons (.ret (.ix (.lst (.cons .non (.cons (.int 7) (.cons (.str "a") (.cons (.str "b") (.cons (.str "x") (.cons (.str "y") (.cons (.str "z") (.cons (.str "") .nil))))))))) (.callm 0 0 (.cons (.int 8) .nil))))
  .nil))))
/-- _law_corrupt: _law_source_here, _law_value -/
def s_law_corrupt (cs : List FSem) : FSem := defSem true 2 5 cs b_law_corrupt
def t_law_basket : Tb := ⟨["_law_source_here", "_law_most", "_law_wide", "_law_turn"], [("_law_choice", true, 2), ("_law_draw", true, 2)], [], [], []⟩
def c1_law_basket : E := .lc (.bin .Add (.int 1) (.callm 1 0 (.cons (.var 2) .nil))) (.nm 3) (.rng (.cons (.bin .Add (.int 1) (.callm 1 0 (.cons (.var 1) .nil))) .nil)) (.bl true)
def b_law_basket : Ss := (.cons (.set 2 (.callm 0 0 (.cons (.lst (.cons (.int 3) (.cons (.int 9) (.cons (.int 60) (.cons (.int 10000) .nil))))) .nil)))
  (.cons (.ret (.blt .tuple (.cons c1_law_basket .nil)))
  .nil))
/-- _law_basket: _law_source_here, _law_most -/
def s_law_basket (cs : List FSem) : FSem := defSem true 2 4 cs b_law_basket
def t_law_is_basket : Tb := ⟨["_law_value", "_law_price"], [("_law_is_int", false, 1)], [], [], []⟩
def c1_law_is_basket : E := .lc (.var 1) (.nm 1) (.seq (.var 0)) (.sc (.or (.not (.call 0 (.cons (.var 1) .nil))) (.not (.chain .LtE .LtE (.int 1) (.var 1) (.int 10000)))))
def b_law_is_basket : Ss := (.cons (.ite (.sc (.or (.not (.isi (.var 0) [.tuple])) (.not (.chain .LtE .LtE (.int 1) (.blt .len (.cons (.var 0) .nil)) (.int 12)))))
  (.cons (.ret (.bl false))
  .nil)
  .nil)
  (.cons (.ret (.sc (.cmp .Eq c1_law_is_basket (.lst .nil))))
  .nil))
/-- _law_is_basket: _law_value -/
def s_law_is_basket (cs : List FSem) : FSem := defSem false 1 2 cs b_law_is_basket
def t_law_k01 : Tb := ⟨["_law_script", "_law_cell", "_law_source_here", "_law_basket_here", "_law_wrong", "_law_some", "_law_value", "_law_result", "_law_one", "_law_other", "_law_k"], [("_law_source", false, 2), ("_law_basket", true, 2), ("_law_corrupt", true, 2), ("_law_any_value", true, 1), ("_law_equal", false, 2), ("is_basket", false, 1), ("_law_is_basket", false, 1), ("row", false, 1)], [], [], []⟩
def c1_law_k01 : E := .lc (.callm 2 2 (.cons (.var 3) .nil)) (.nm 10) (.rng (.cons (.int 10) .nil)) (.bl true)
def l1_law_k01 : Ss := (.cons (.ite (.sc (.not (.call 4 (.cons (.call 5 (.cons (.var 6) .nil)) (.cons (.call 6 (.cons (.var 6) .nil)) .nil)))))
  (.cons (.ret (.bl false))
  .nil)
  .nil)
  .nil)
def l2_law_k01 : Ss := (.cons (.ite (.sc (.or (.cmp .Lt (.ixv 3 (.var 8)) (.ixv 3 (.var 9))) (.and (.cmp .Eq (.ixv 3 (.var 8)) (.ixv 3 (.var 9))) (.cmp .Gt (.var 8) (.var 9)))))
  (.cons (.ret (.bl false))
  .nil)
  .nil)
  .nil)
def l3_law_k01 : Ss := (.cons (.set 2 (.call 0 (.cons (.var 1) (.cons (.int 1) .nil))))
  (.cons (.set 3 (.callm 1 2 (.cons (.int 12) .nil)))
  (.cons (.set 4 (.callm 2 2 (.cons (.var 3) .nil)))
  (.cons (.set 5 (.lst (.cons (.var 3) (.cons (.var 4) (.cons (.callm 2 2 (.cons (.var 4) .nil)) (.cons (.blt .list (.cons (.var 3) .nil)) (.cons (.tup .nil) (.cons .non (.cons (.bin .Mult (.tup (.cons (.int 1) .nil)) (.int 12)) (.cons (.bin .Mult (.tup (.cons (.int 1) .nil)) (.int 13)) (.cons (.tup (.cons (.int 10000) .nil)) .nil)))))))))))
  (.cons (.set 5 (.bin .Add (.var 5) (.lst (.cons (.tup (.cons (.int 10001) .nil)) (.cons (.tup (.cons (.int 0) .nil)) (.cons (.tup (.cons (.bl true) .nil)) (.cons (.tup (.cons (.neg (.int 1)) .nil)) (.cons (.int 5) (.cons (.callm 3 2 .nil) .nil)))))))))
  (.cons (.fr (.nm 6) (.seq (.bin .Add (.var 5) c1_law_k01)) l1_law_k01)
  (.cons (.set 7 (.call 7 (.cons (.var 3) .nil)))
  (.cons (.ite (.sc (.or (.not (.isi (.var 7) [.tuple])) (.cmp .NotEq (.blt .sorted (.cons (.var 7) .nil)) (.trng .list (.cons (.sc (.blt .len (.cons (.var 3) .nil))) .nil)))))
  (.cons (.ret (.bl false))
  .nil)
  .nil)
  (.cons (.fr (.tp [8, 9]) (.zip (.var 7) (.slv 7 (.int 1) .nop)) l2_law_k01)
  .nil)))))))))
def b_law_k01 : Ss := (.cons (.fr (.nm 1) (.seq (.slc (.bin .Add (.lst (.cons (.int 0) .nil)) (.var 0)) .nop (.int 10))) l3_law_k01)
  (.cons (.ret (.sc (.cmp .Eq (.call 7 (.cons (.tup (.cons (.int 5) (.cons (.int 7) (.cons (.int 5) .nil)))) .nil)) (.tup (.cons (.int 1) (.cons (.int 0) (.cons (.int 2) .nil)))))))
  .nil))
/-- law: _law_script -/
def s_law_k01 (cs : List FSem) : FSem := defSem false 1 11 cs b_law_k01
def t_is_ascending : Tb := ⟨["basket", "value", "first", "second", "item"], [("is_between", false, 3)], [], [], []⟩
def c1_is_ascending : E := .lc (.call 0 (.cons (.var 4) (.cons (.int 0) (.cons (.bin .Sub (.sc (.blt .len (.cons (.var 0) .nil))) (.int 1)) .nil)))) (.nm 4) (.seq (.var 1)) (.bl true)
def c2_is_ascending : E := .lc (.sc (.cmp .Lt (.var 2) (.var 3))) (.tp [2, 3]) (.zip (.var 1) (.slv 1 (.int 1) .nop)) (.bl true)
def b_is_ascending : Ss := (.cons (.ite (.sc (.or (.not (.isi (.var 1) [.tuple])) (.not (.blt .all (.cons c1_is_ascending .nil)))))
  (.cons (.ret (.bl false))
  .nil)
  .nil)
  (.cons (.ret (.sc (.blt .all (.cons c2_is_ascending .nil))))
  .nil))
/-- is_ascending: basket, value -/
def s_is_ascending (cs : List FSem) : FSem := defSem false 2 5 cs b_is_ascending
def t_splits : Tb := ⟨["basket", "value", "items", "receipt"], [("is_ascending", false, 2)], [], [], []⟩
def c1_splits : E := .lc (.call 0 (.cons (.var 0) (.cons (.var 3) .nil))) (.nm 3) (.seq (.var 1)) (.bl true)
def l1_splits : Ss := (.cons (.aug 2 .Add (.var 3))
  .nil)
def b_splits : Ss := (.cons (.ite (.sc (.or (.not (.isi (.var 1) [.tuple])) (.not (.blt .all (.cons c1_splits .nil)))))
  (.cons (.ret (.bl false))
  .nil)
  .nil)
  (.cons (.ite (.sc (.cmp .In (.tup .nil) (.var 1)))
  (.cons (.ret (.bl false))
  .nil)
  .nil)
  (.cons (.set 2 (.lst .nil))
  (.cons (.fr (.nm 3) (.seq (.var 1)) l1_splits)
  (.cons (.ret (.sc (.cmp .Eq (.blt .sorted (.cons (.var 2) .nil)) (.trng .list (.cons (.sc (.blt .len (.cons (.var 0) .nil))) .nil)))))
  .nil)))))
/-- splits: basket, value -/
def s_splits (cs : List FSem) : FSem := defSem false 2 4 cs b_splits
def t_is_splitting : Tb := ⟨["basket", "value"], [("check_basket", false, 1), ("splits", false, 2)], [], [], []⟩
def b_is_splitting : Ss := (.cons (.exp (.call 0 (.cons (.var 0) .nil)))
  (.cons (.ret (.call 1 (.cons (.var 0) (.cons (.var 1) .nil))))
  .nil))
/-- is_splitting: basket, value -/
def s_is_splitting (cs : List FSem) : FSem := defSem false 2 2 cs b_is_splitting
def t_law_random_splitting : Tb := ⟨["_law_source_here", "_law_basket_here", "_law_many", "_law_parts", "_law_item", "_law_part", "_law_turn"], [("_law_draw", true, 2)], [], [], []⟩
def c1_law_random_splitting : E := .lc (.lst .nil) (.nm 6) (.rng (.cons (.var 2) .nil)) (.bl true)
def l1_law_random_splitting : Ss := (.cons (.set 5 (.ixv 3 (.callm 0 0 (.cons (.var 2) .nil))))
  (.cons (.app 5 (.var 4))
  .nil))
def c2_law_random_splitting : E := .lc (.blt .tuple (.cons (.var 5) .nil)) (.nm 5) (.seq (.var 3)) (.sc (.cmp .NotEq (.var 5) (.lst .nil)))
def b_law_random_splitting : Ss := (.cons (.set 2 (.bin .Add (.int 1) (.callm 0 0 (.cons (.sc (.blt .len (.cons (.var 1) .nil))) .nil))))
  (.cons (.set 3 c1_law_random_splitting)
  (.cons (.fr (.nm 4) (.rng (.cons (.sc (.blt .len (.cons (.var 1) .nil))) .nil)) l1_law_random_splitting)
  (.cons (.ret (.blt .tuple (.cons c2_law_random_splitting .nil)))
  .nil))))
/-- _law_random_splitting: _law_source_here, _law_basket_here -/
def s_law_random_splitting (cs : List FSem) : FSem := defSem true 2 7 cs b_law_random_splitting
def t_law_is_splitting : Tb := ⟨["_law_basket_here", "_law_value", "_law_items", "_law_receipt", "_law_item"], [("_law_is_int", false, 1)], [], [], []⟩
def c1_law_is_splitting : E := .lc (.var 4) (.nm 4) (.seq (.var 3)) (.sc (.or (.not (.call 0 (.cons (.var 4) .nil))) (.not (.chain .LtE .Lt (.int 0) (.var 4) (.blt .len (.cons (.var 0) .nil))))))
def l1_law_is_splitting : Ss := (.cons (.ite (.sc (.or (.not (.isi (.var 3) [.tuple])) (.cmp .Eq (.var 3) (.tup .nil))))
  (.cons (.ret (.bl false))
  .nil)
  .nil)
  (.cons (.ite (.sc (.cmp .NotEq c1_law_is_splitting (.lst .nil)))
  (.cons (.ret (.bl false))
  .nil)
  .nil)
  (.cons (.ite (.sc (.cmp .NotEq (.blt .list (.cons (.var 3) .nil)) (.blt .sset (.cons (.var 3) .nil))))
  (.cons (.ret (.bl false))
  .nil)
  .nil)
  (.cons (.set 2 (.bin .Add (.var 2) (.blt .list (.cons (.var 3) .nil))))
  .nil))))
def b_law_is_splitting : Ss := (.cons (.ite (.sc (.not (.isi (.var 1) [.tuple])))
  (.cons (.ret (.bl false))
  .nil)
  .nil)
  (.cons (.set 2 (.lst .nil))
  (.cons (.fr (.nm 3) (.seq (.var 1)) l1_law_is_splitting)
  (.cons (.ret (.sc (.cmp .Eq (.blt .sorted (.cons (.var 2) .nil)) (.trng .list (.cons (.sc (.blt .len (.cons (.var 0) .nil))) .nil)))))
  .nil))))
/-- _law_is_splitting: _law_basket_here, _law_value -/
def s_law_is_splitting (cs : List FSem) : FSem := defSem false 2 5 cs b_law_is_splitting
def t_law_k02 : Tb := ⟨["_law_script", "_law_cell", "_law_source_here", "_law_basket_here", "_law_good", "_law_wrong", "_law_every", "_law_some", "_law_value", "_law_k", "_law_item", "_law_part"], [("_law_source", false, 2), ("_law_basket", true, 2), ("_law_random_splitting", true, 2), ("_law_corrupt", true, 2), ("_law_any_value", true, 1), ("_law_equal", false, 2), ("is_splitting", false, 2), ("_law_is_splitting", false, 2)], [], [], []⟩
def c1_law_k02 : E := .lc (.tup (.cons (.var 10) .nil)) (.nm 10) (.seq (.var 6)) (.bl true)
def c2_law_k02 : E := .lc (.blt .list (.cons (.var 11) .nil)) (.nm 11) (.seq (.var 4)) (.bl true)
def c3_law_k02 : E := .lc (.callm 3 2 (.cons (.var 4) .nil)) (.nm 9) (.rng (.cons (.int 12) .nil)) (.bl true)
def l1_law_k02 : Ss := (.cons (.ite (.sc (.not (.call 5 (.cons (.call 6 (.cons (.var 3) (.cons (.var 8) .nil))) (.cons (.call 7 (.cons (.var 3) (.cons (.var 8) .nil))) .nil)))))
  (.cons (.ret (.bl false))
  .nil)
  .nil)
  .nil)
def l2_law_k02 : Ss := (.cons (.set 2 (.call 0 (.cons (.var 1) (.cons (.int 2) .nil))))
  (.cons (.set 3 (.callm 1 2 (.cons (.int 12) .nil)))
  (.cons (.set 4 (.callm 2 2 (.cons (.var 3) .nil)))
  (.cons (.set 5 (.callm 3 2 (.cons (.var 4) .nil)))
  (.cons (.set 6 (.trng .tuple (.cons (.sc (.blt .len (.cons (.var 3) .nil))) .nil)))
  (.cons (.set 7 (.lst (.cons (.var 4) (.cons (.rev (.var 4)) (.cons (.var 5) (.cons (.callm 3 2 (.cons (.var 5) .nil)) (.cons (.blt .list (.cons (.var 4) .nil)) (.cons (.slv 4 (.int 1) .nop) (.cons (.bin .Add (.var 4) (.slv 4 .nop (.int 1))) (.cons .non (.cons (.tup .nil) .nil)))))))))))
  (.cons (.set 7 (.bin .Add (.var 7) (.lst (.cons (.tup (.cons (.var 6) .nil)) (.cons (.tup (.cons (.rev (.var 6)) .nil)) (.cons (.var 6) (.cons (.blt .tuple (.cons c1_law_k02 .nil)) (.cons (.bin .Add (.var 4) (.tup (.cons (.tup .nil) .nil))) .nil))))))))
  (.cons (.set 7 (.bin .Add (.var 7) (.lst (.cons (.blt .tuple (.cons c2_law_k02 .nil)) (.cons (.tup (.cons (.bin .Add (.var 6) (.tup (.cons (.sc (.blt .len (.cons (.var 3) .nil))) .nil))) .nil)) (.cons (.callm 4 2 .nil) .nil))))))
  (.cons (.fr (.nm 8) (.seq (.bin .Add (.var 7) c3_law_k02)) l1_law_k02)
  .nil)))))))))
def b_law_k02 : Ss := (.cons (.fr (.nm 1) (.seq (.slc (.bin .Add (.lst (.cons (.int 0) .nil)) (.var 0)) .nop (.int 10))) l2_law_k02)
  (.cons (.ret (.sc (.cmp .Is (.call 6 (.cons (.tup (.cons (.int 5) (.cons (.int 5) .nil))) (.cons (.tup (.cons (.tup (.cons (.int 0) .nil)) (.cons (.tup (.cons (.bl true) .nil)) .nil))) .nil))) (.bl false))))
  .nil))
/-- law: _law_script -/
def s_law_k02 (cs : List FSem) : FSem := defSem false 1 12 cs b_law_k02
def t_is_size : Tb := ⟨["value"], [("is_between", false, 3)], [], [], []⟩
def b_is_size : Ss := (.cons (.ret (.call 0 (.cons (.var 0) (.cons (.int 2) (.cons (.int 6) .nil)))))
  .nil)
/-- is_size: value -/
def s_is_size (cs : List FSem) : FSem := defSem false 1 1 cs b_is_size
def t_check_offer : Tb := ⟨["basket", "size"], [("check_basket", false, 1), ("is_size", false, 1)], [], [], ["InvalidSize"]⟩
def b_check_offer : Ss := (.cons (.exp (.call 0 (.cons (.var 0) .nil)))
  (.cons (.ite (.sc (.not (.call 1 (.cons (.var 1) .nil))))
  (.cons (.rai "InvalidSize")
  .nil)
  .nil)
  .nil))
/-- check_offer: basket, size -/
def s_check_offer (cs : List FSem) : FSem := defSem false 2 2 cs b_check_offer
def t_free_of : Tb := ⟨["basket", "size", "splitting", "order", "found", "receipt", "items", "item"], [("row_of", false, 1)], [], [], []⟩
def c1_free_of : E := .lc (.var 7) (.nm 7) (.seq (.var 3)) (.sc (.cmp .In (.var 7) (.var 5)))
def l1_free_of : Ss := (.cons (.set 6 c1_free_of)
  (.cons (.aug 4 .Add (.slv 6 (.bin .Sub (.sc (.blt .len (.cons (.var 6) .nil))) (.bin .FloorDiv (.sc (.blt .len (.cons (.var 6) .nil))) (.var 1))) .nop))
  .nil))
def b_free_of : Ss := (.cons (.set 3 (.call 0 (.cons (.var 0) .nil)))
  (.cons (.set 4 (.lst .nil))
  (.cons (.fr (.nm 5) (.seq (.var 2)) l1_free_of)
  (.cons (.ret (.blt .tuple (.cons (.blt .sorted (.cons (.var 4) .nil)) .nil)))
  .nil))))
/-- free_of: basket, size, splitting -/
def s_free_of (cs : List FSem) : FSem := defSem false 3 8 cs b_free_of
def t_check_splitting : Tb := ⟨["basket", "size", "splitting"], [("check_offer", false, 2), ("splits", false, 2)], [], [], ["InvalidSplitting"]⟩
def b_check_splitting : Ss := (.cons (.exp (.call 0 (.cons (.var 0) (.cons (.var 1) .nil))))
  (.cons (.ite (.sc (.not (.call 1 (.cons (.var 0) (.cons (.var 2) .nil)))))
  (.cons (.rai "InvalidSplitting")
  .nil)
  .nil)
  .nil))
/-- check_splitting: basket, size, splitting -/
def s_check_splitting (cs : List FSem) : FSem := defSem false 3 3 cs b_check_splitting
def t_free_items : Tb := ⟨["basket", "size", "splitting"], [("check_splitting", false, 3), ("free_of", false, 3)], [], [], []⟩
def b_free_items : Ss := (.cons (.exp (.call 0 (.cons (.var 0) (.cons (.var 1) (.cons (.var 2) .nil)))))
  (.cons (.ret (.call 1 (.cons (.var 0) (.cons (.var 1) (.cons (.var 2) .nil)))))
  .nil))
/-- free_items: basket, size, splitting -/
def s_free_items (cs : List FSem) : FSem := defSem false 3 3 cs b_free_items
def t_value_of : Tb := ⟨["basket", "items", "item"], [], [], [], []⟩
def c1_value_of : E := .lc (.ixv 0 (.var 2)) (.nm 2) (.seq (.var 1)) (.bl true)
def b_value_of : Ss := (.cons (.ret (.sc (.blt .sum (.cons c1_value_of .nil))))
  .nil)
/-- value_of: basket, items -/
def s_value_of (cs : List FSem) : FSem := defSem false 2 3 cs b_value_of
def t_saving : Tb := ⟨["basket", "size", "splitting"], [("check_splitting", false, 3), ("value_of", false, 2), ("free_of", false, 3)], [], [], []⟩
def b_saving : Ss := (.cons (.exp (.call 0 (.cons (.var 0) (.cons (.var 1) (.cons (.var 2) .nil)))))
  (.cons (.ret (.call 1 (.cons (.var 0) (.cons (.call 2 (.cons (.var 0) (.cons (.var 1) (.cons (.var 2) .nil)))) .nil))))
  .nil))
/-- saving: basket, size, splitting -/
def s_saving (cs : List FSem) : FSem := defSem false 3 3 cs b_saving
def t_law_sum : Tb := ⟨["_law_basket_here", "_law_items", "_law_item"], [], [], [], []⟩
def c1_law_sum : E := .lc (.ixv 0 (.var 2)) (.nm 2) (.seq (.var 1)) (.bl true)
def b_law_sum : Ss := (.cons (.ret (.sc (.blt .sum (.cons c1_law_sum .nil))))
  .nil)
/-- _law_sum: _law_basket_here, _law_items -/
def s_law_sum (cs : List FSem) : FSem := defSem false 2 3 cs b_law_sum
def t_law_k03 : Tb := ⟨["_law_script", "_law_cell", "_law_source_here", "_law_turn", "_law_basket_here", "_law_size", "_law_parts", "_law_result", "_law_part", "_law_free", "_law_item", "_law_other", "_law_one"], [("_law_source", false, 2), ("_law_basket", true, 2), ("_law_draw", true, 2), ("_law_random_splitting", true, 2), ("free_items", false, 3), ("_law_equal", false, 2), ("saving", false, 3), ("_law_sum", false, 2)], [], [], []⟩
def c1_law_k03 : E := .lc (.var 10) (.nm 10) (.seq (.var 8)) (.sc (.cmp .In (.var 10) (.var 7)))
def c2_law_k03 : E := .lc (.var 12) (.nm 12) (.seq (.var 8)) (.sc (.cmp .NotIn (.var 12) (.var 9)))
def l1_law_k03 : Ss := (.cons (.ite (.sc (.or (.cmp .Lt (.ixv 4 (.var 11)) (.ixv 4 (.var 10))) (.and (.cmp .Eq (.ixv 4 (.var 11)) (.ixv 4 (.var 10))) (.cmp .Gt (.var 11) (.var 10)))))
  (.cons (.ret (.bl false))
  .nil)
  .nil)
  .nil)
def l2_law_k03 : Ss := (.cons (.fr (.nm 11) (.seq c2_law_k03) l1_law_k03)
  .nil)
def l3_law_k03 : Ss := (.cons (.set 9 c1_law_k03)
  (.cons (.ite (.sc (.cmp .NotEq (.blt .len (.cons (.var 9) .nil)) (.bin .FloorDiv (.sc (.blt .len (.cons (.var 8) .nil))) (.var 5))))
  (.cons (.ret (.bl false))
  .nil)
  .nil)
  (.cons (.fr (.nm 10) (.seq (.var 9)) l2_law_k03)
  .nil)))
def l4_law_k03 : Ss := (.cons (.set 6 (.callm 3 2 (.cons (.var 4) .nil)))
  (.cons (.set 7 (.call 4 (.cons (.var 4) (.cons (.var 5) (.cons (.var 6) .nil)))))
  (.cons (.ite (.sc (.or (.not (.isi (.var 7) [.tuple])) (.cmp .NotEq (.blt .list (.cons (.var 7) .nil)) (.blt .sset (.cons (.var 7) .nil)))))
  (.cons (.ret (.bl false))
  .nil)
  .nil)
  (.cons (.fr (.nm 8) (.seq (.var 6)) l3_law_k03)
  (.cons (.ite (.sc (.not (.call 5 (.cons (.call 6 (.cons (.var 4) (.cons (.var 5) (.cons (.var 6) .nil)))) (.cons (.call 7 (.cons (.var 4) (.cons (.var 7) .nil))) .nil)))))
  (.cons (.ret (.bl false))
  .nil)
  .nil)
  (.cons (.ite (.sc (.cmp .NotEq (.call 4 (.cons (.var 4) (.cons (.var 5) (.cons (.rev (.var 6)) .nil)))) (.var 7)))
  (.cons (.ret (.bl false))
  .nil)
  .nil)
  .nil))))))
def l5_law_k03 : Ss := (.cons (.set 2 (.call 0 (.cons (.var 1) (.cons (.int 3) .nil))))
  (.cons (.par [4, 5] (.cons (.callm 1 2 (.cons (.int 12) .nil)) (.cons (.bin .Add (.int 2) (.callm 2 2 (.cons (.int 5) .nil))) .nil)))
  (.cons (.fr (.nm 3) (.rng (.cons (.int 4) .nil)) l4_law_k03)
  .nil)))
def b_law_k03 : Ss := (.cons (.fr (.nm 1) (.seq (.slc (.bin .Add (.lst (.cons (.int 0) .nil)) (.var 0)) .nop (.int 10))) l5_law_k03)
  (.cons (.ret (.sc (.and (.cmp .Eq (.call 6 (.cons (.tup (.cons (.int 5) (.cons (.int 5) (.cons (.int 5) .nil)))) (.cons (.int 2) (.cons (.tup (.cons (.tup (.cons (.int 0) (.cons (.int 1) (.cons (.int 2) .nil)))) .nil)) .nil)))) (.int 5)) (.cmp .Eq (.call 4 (.cons (.tup (.cons (.int 5) (.cons (.int 5) (.cons (.int 5) .nil)))) (.cons (.int 2) (.cons (.tup (.cons (.tup (.cons (.int 0) (.cons (.int 1) (.cons (.int 2) .nil)))) .nil)) .nil)))) (.tup (.cons (.int 2) .nil))))))
  .nil))
/-- law: _law_script -/
def s_law_k03 (cs : List FSem) : FSem := defSem false 1 13 cs b_law_k03
def t_check_receipts : Tb := ⟨["receipts"], [("is_between", false, 3)], [("MAX_RECEIPTS", 12)], [], ["InvalidReceipts"]⟩
def b_check_receipts : Ss := (.cons (.ite (.sc (.not (.call 0 (.cons (.var 0) (.cons (.int 1) (.cons (.gint "MAX_RECEIPTS" 12) .nil))))))
  (.cons (.rai "InvalidReceipts")
  .nil)
  .nil)
  .nil)
/-- check_receipts: receipts -/
def s_check_receipts (cs : List FSem) : FSem := defSem false 1 1 cs b_check_receipts
def t_block_saving : Tb := ⟨["prices", "size", "first", "last"], [], [], [], []⟩
def b_block_saving : Ss := (.cons (.ret (.sc (.blt .sum (.cons (.slv 0 (.bin .Sub (.var 3) (.bin .FloorDiv (.bin .Sub (.var 3) (.var 2)) (.var 1))) (.var 3)) .nil))))
  .nil)
/-- block_saving: prices, size, first, last -/
def s_block_saving (cs : List FSem) : FSem := defSem false 4 4 cs b_block_saving
def t_table_for : Tb := ⟨["basket", "size", "receipts", "prices", "tables", "turn", "last", "item", "before", "now", "options", "first"], [("row_of", false, 1), ("block_saving", false, 4)], [], [], []⟩
def c1_table_for : E := .lc (.ixv 0 (.var 7)) (.nm 7) (.seq (.call 0 (.cons (.var 0) .nil))) (.bl true)
def l1_table_for : Ss := (.cons (.ite (.sc (.cmp .In (.var 11) (.var 8)))
  (.cons (.app 10 (.tup (.cons (.bin .Add (.ix (.ixv 8 (.var 11)) (.int 0)) (.call 1 (.cons (.var 3) (.cons (.var 1) (.cons (.var 11) (.cons (.var 6) .nil)))))) (.cons (.var 11) .nil))))
  .nil)
  .nil)
  .nil)
def l2_table_for : Ss := (.cons (.set 10 (.lst .nil))
  (.cons (.fr (.nm 11) (.rng (.cons (.var 6) .nil)) l1_table_for)
  (.cons (.stx 9 (.var 6) (.blt .max (.cons (.var 10) .nil)))
  .nil)))
def l3_table_for : Ss := (.cons (.par [8, 9] (.cons (.ixv 4 (.neg (.int 1))) (.cons (.dic1 (.int 0) (.tup (.cons (.int 0) (.cons (.int 0) .nil)))) .nil)))
  (.cons (.fr (.nm 6) (.rng (.cons (.int 1) (.cons (.bin .Add (.sc (.blt .len (.cons (.var 3) .nil))) (.int 1)) .nil))) l2_table_for)
  (.cons (.app 4 (.var 9))
  .nil)))
def b_table_for : Ss := (.cons (.set 3 c1_table_for)
  (.cons (.set 4 (.lst (.cons (.dic1 (.int 0) (.tup (.cons (.int 0) (.cons (.int 0) .nil)))) .nil)))
  (.cons (.fr (.nm 5) (.rng (.cons (.var 2) .nil)) l3_table_for)
  (.cons (.ret (.mv 4))
  .nil))))
/-- table_for: basket, size, receipts -/
def s_table_for (cs : List FSem) : FSem := defSem false 3 12 cs b_table_for
def t_best_value : Tb := ⟨["basket", "size", "receipts"], [("table_for", false, 3)], [], [], []⟩
def b_best_value : Ss := (.cons (.ret (.ix (.ix (.ix (.call 0 (.cons (.var 0) (.cons (.var 1) (.cons (.blt .min (.cons (.var 2) (.cons (.sc (.blt .len (.cons (.var 0) .nil))) .nil))) .nil)))) (.neg (.int 1))) (.sc (.blt .len (.cons (.var 0) .nil)))) (.int 0)))
  .nil)
/-- best_value: basket, size, receipts -/
def s_best_value (cs : List FSem) : FSem := defSem false 3 3 cs b_best_value
def t_greatest_saving : Tb := ⟨["basket", "size", "receipts"], [("check_offer", false, 2), ("check_receipts", false, 1), ("best_value", false, 3)], [], [], []⟩
def b_greatest_saving : Ss := (.cons (.exp (.call 0 (.cons (.var 0) (.cons (.var 1) .nil))))
  (.cons (.exp (.call 1 (.cons (.var 2) .nil)))
  (.cons (.ret (.call 2 (.cons (.var 0) (.cons (.var 1) (.cons (.var 2) .nil)))))
  .nil)))
/-- greatest_saving: basket, size, receipts -/
def s_greatest_saving (cs : List FSem) : FSem := defSem false 3 3 cs b_greatest_saving
def t_law_row : Tb := ⟨["_law_basket_here", "_law_pairs", "_law_pair", "_law_item", "_law_price"], [], [], [], []⟩
def c1_law_row : E := .lc (.tup (.cons (.bin .Sub (.bin .Pow (.int 10) (.int 6)) (.var 4)) (.cons (.var 3) .nil))) (.tp [3, 4]) (.enu (.var 0)) (.bl true)
def c2_law_row : E := .lc (.ixv 2 (.int 1)) (.nm 2) (.seq (.var 1)) (.bl true)
def b_law_row : Ss := (.cons (.set 1 (.blt .sorted (.cons c1_law_row .nil)))
  (.cons (.ret c2_law_row)
  .nil))
/-- _law_row: _law_basket_here -/
def s_law_row (cs : List FSem) : FSem := defSem false 1 5 cs b_law_row
def t_law_free : Tb := ⟨["_law_basket_here", "_law_size", "_law_splitting", "_law_receipt", "_law_places", "_law_found", "_law_there", "_law_item"], [("_law_row", false, 1)], [], [], []⟩
def c1_law_free : E := .lc (.var 7) (.nm 7) (.seq (.var 4)) (.sc (.cmp .In (.var 7) (.var 3)))
def l1_law_free : Ss := (.cons (.set 6 c1_law_free)
  (.cons (.set 5 (.bin .Add (.var 5) (.slv 6 (.bin .Sub (.sc (.blt .len (.cons (.var 6) .nil))) (.bin .FloorDiv (.sc (.blt .len (.cons (.var 6) .nil))) (.var 1))) .nop)))
  .nil))
def b_law_free : Ss := (.cons (.par [4, 5] (.cons (.call 0 (.cons (.var 0) .nil)) (.cons (.lst .nil) .nil)))
  (.cons (.fr (.nm 3) (.seq (.var 2)) l1_law_free)
  (.cons (.ret (.blt .tuple (.cons (.blt .sorted (.cons (.var 5) .nil)) .nil)))
  .nil)))
/-- _law_free: _law_basket_here, _law_size, _law_splitting -/
def s_law_free (cs : List FSem) : FSem := defSem false 3 8 cs b_law_free
def t_law_all_splittings : Tb := ⟨["_law_count", "_law_rows", "_law_item", "_law_longer", "_law_parts", "_law_at"], [], [], [], []⟩
def l1_law_all_splittings : Ss := (.cons (.app 3 (.bin .Add (.bin .Add (.slv 4 .nop (.var 5)) (.tup (.cons (.bin .Add (.ixv 4 (.var 5)) (.tup (.cons (.var 2) .nil))) .nil))) (.slv 4 (.bin .Add (.var 5) (.int 1)) .nop)))
  .nil)
def l2_law_all_splittings : Ss := (.cons (.app 3 (.bin .Add (.var 4) (.tup (.cons (.tup (.cons (.var 2) .nil)) .nil))))
  (.cons (.fr (.nm 5) (.rng (.cons (.sc (.blt .len (.cons (.var 4) .nil))) .nil)) l1_law_all_splittings)
  .nil))
def l3_law_all_splittings : Ss := (.cons (.set 3 (.lst .nil))
  (.cons (.fr (.nm 4) (.seq (.var 1)) l2_law_all_splittings)
  (.cons (.set 1 (.var 3))
  .nil)))
def b_law_all_splittings : Ss := (.cons (.set 1 (.lst (.cons (.tup .nil) .nil)))
  (.cons (.fr (.nm 2) (.rng (.cons (.var 0) .nil)) l3_law_all_splittings)
  (.cons (.ret (.mv 1))
  .nil)))
/-- _law_all_splittings: _law_count -/
def s_law_all_splittings (cs : List FSem) : FSem := defSem false 1 6 cs b_law_all_splittings
def t_law_k04 : Tb := ⟨["_law_script", "_law_cell", "_law_source_here", "_law_turn", "_law_best", "_law_parts", "_law_receipts", "_law_basket_here", "_law_size", "_law_value"], [("_law_source", false, 2), ("_law_basket", true, 2), ("_law_draw", true, 2), ("_law_all_splittings", false, 1), ("_law_sum", false, 2), ("_law_free", false, 3), ("_law_equal", false, 2), ("greatest_saving", false, 3)], [], [], []⟩
def l1_law_k04 : Ss := (.cons (.set 9 (.call 4 (.cons (.var 7) (.cons (.call 5 (.cons (.var 7) (.cons (.var 8) (.cons (.var 5) .nil)))) .nil))))
  (.cons (.stx 4 (.sc (.blt .len (.cons (.var 5) .nil))) (.blt .max (.cons (.ixv 4 (.sc (.blt .len (.cons (.var 5) .nil)))) (.cons (.var 9) .nil))))
  .nil))
def l2_law_k04 : Ss := (.cons (.ite (.sc (.not (.call 6 (.cons (.call 7 (.cons (.var 7) (.cons (.var 8) (.cons (.var 6) .nil)))) (.cons (.blt .max (.cons (.slv 4 .nop (.bin .Add (.var 6) (.int 1))) .nil)) .nil)))))
  (.cons (.ret (.bl false))
  .nil)
  .nil)
  .nil)
def l3_law_k04 : Ss := (.cons (.par [7, 8] (.cons (.callm 1 2 (.cons (.int 6) .nil)) (.cons (.bin .Add (.int 2) (.callm 2 2 (.cons (.int 3) .nil))) .nil)))
  (.cons (.set 4 (.bin .Mult (.lst (.cons (.int 0) .nil)) (.int 13)))
  (.cons (.fr (.nm 5) (.seq (.call 3 (.cons (.sc (.blt .len (.cons (.var 7) .nil))) .nil))) l1_law_k04)
  (.cons (.fr (.nm 6) (.rng (.cons (.int 1) (.cons (.int 13) .nil))) l2_law_k04)
  .nil))))
def l4_law_k04 : Ss := (.cons (.set 2 (.call 0 (.cons (.var 1) (.cons (.int 4) .nil))))
  (.cons (.fr (.nm 3) (.rng (.cons (.int 2) .nil)) l3_law_k04)
  .nil))
def b_law_k04 : Ss := (.cons (.fr (.nm 1) (.seq (.slc (.bin .Add (.lst (.cons (.int 0) .nil)) (.var 0)) .nop (.int 6))) l4_law_k04)
  (.cons (.ret (.sc (.cmp .Eq (.call 7 (.cons (.tup (.cons (.int 9) (.cons (.int 4) (.cons (.int 7) (.cons (.int 2) (.cons (.int 7) (.cons (.int 5) .nil))))))) (.cons (.int 3) (.cons (.int 1) .nil)))) (.int 6))))
  .nil))
/-- law: _law_script -/
def s_law_k04 (cs : List FSem) : FSem := defSem false 1 10 cs b_law_k04
def t_best_splitting : Tb := ⟨["basket", "size", "receipts"], [("check_offer", false, 2), ("check_receipts", false, 1), ("best_parts", false, 3)], [], [], []⟩
def b_best_splitting : Ss := (.cons (.exp (.call 0 (.cons (.var 0) (.cons (.var 1) .nil))))
  (.cons (.exp (.call 1 (.cons (.var 2) .nil)))
  (.cons (.ret (.call 2 (.cons (.var 0) (.cons (.var 1) (.cons (.var 2) .nil)))))
  .nil)))
/-- best_splitting: basket, size, receipts -/
def s_best_splitting (cs : List FSem) : FSem := defSem false 3 3 cs b_best_splitting
def t_law_block : Tb := ⟨["_law_prices", "_law_size", "_law_first", "_law_last", "_law_many"], [], [], [], []⟩
def b_law_block : Ss := (.cons (.set 4 (.bin .FloorDiv (.bin .Sub (.var 3) (.var 2)) (.var 1)))
  (.cons (.ret (.sc (.blt .sum (.cons (.slv 0 (.bin .Sub (.var 3) (.var 4)) (.var 3)) .nil))))
  .nil))
/-- _law_block: _law_prices, _law_size, _law_first, _law_last -/
def s_law_block (cs : List FSem) : FSem := defSem false 4 5 cs b_law_block
def t_law_best : Tb := ⟨["_law_basket_here", "_law_size", "_law_prices", "_law_count", "_law_best_here", "_law_found", "_law_turn", "_law_later", "_law_last", "_law_item", "_law_some", "_law_first"], [("_law_row", false, 1), ("_law_block", false, 4)], [], [], []⟩
def c1_law_best : E := .lc (.ixv 0 (.var 9)) (.nm 9) (.seq (.call 0 (.cons (.var 0) .nil))) (.bl true)
def c2_law_best : E := .lc (.call 1 (.cons (.var 2) (.cons (.var 1) (.cons (.int 0) (.cons (.var 8) .nil))))) (.nm 8) (.rng (.cons (.bin .Add (.var 3) (.int 1)) .nil)) (.bl true)
def c3_law_best : E := .lc (.bin .Add (.ixv 4 (.var 11)) (.call 1 (.cons (.var 2) (.cons (.var 1) (.cons (.var 11) (.cons (.var 8) .nil)))))) (.nm 11) (.rng (.cons (.bin .Add (.var 8) (.int 1)) .nil)) (.bl true)
def l1_law_best : Ss := (.cons (.set 10 c3_law_best)
  (.cons (.app 7 (.blt .max (.cons (.var 10) .nil)))
  .nil))
def l2_law_best : Ss := (.cons (.set 7 (.lst .nil))
  (.cons (.fr (.nm 8) (.rng (.cons (.bin .Add (.var 3) (.int 1)) .nil)) l1_law_best)
  (.cons (.set 4 (.var 7))
  (.cons (.app 5 (.ixv 4 (.var 3)))
  .nil))))
def b_law_best : Ss := (.cons (.set 2 c1_law_best)
  (.cons (.set 3 (.sc (.blt .len (.cons (.var 2) .nil))))
  (.cons (.set 4 c2_law_best)
  (.cons (.set 5 (.lst (.cons (.ixv 4 (.var 3)) .nil)))
  (.cons (.fr (.nm 6) (.rng (.cons (.bin .Sub (.var 3) (.int 1)) .nil)) l2_law_best)
  (.cons (.ret (.mv 5))
  .nil))))))
/-- _law_best: _law_basket_here, _law_size -/
def s_law_best (cs : List FSem) : FSem := defSem false 2 12 cs b_law_best
def t_law_k05 : Tb := ⟨["_law_script", "_law_cell", "_law_source_here", "_law_best_here", "_law_receipts", "_law_turn", "_law_basket_here", "_law_size", "_law_expected", "_law_parts"], [("_law_source", false, 2), ("_law_basket", true, 2), ("_law_draw", true, 2), ("_law_best", false, 2), ("_law_equal", false, 2), ("greatest_saving", false, 3), ("best_splitting", false, 3), ("is_splitting", false, 2), ("_law_sum", false, 2), ("_law_free", false, 3), ("_law_random_splitting", true, 2)], [], [], []⟩
def l1_law_k05 : Ss := (.cons (.set 8 (.ixv 3 (.bin .Sub (.blt .min (.cons (.var 4) (.cons (.sc (.blt .len (.cons (.var 6) .nil))) .nil))) (.int 1))))
  (.cons (.ite (.sc (.not (.call 4 (.cons (.call 5 (.cons (.var 6) (.cons (.var 7) (.cons (.var 4) .nil)))) (.cons (.var 8) .nil)))))
  (.cons (.ret (.bl false))
  .nil)
  .nil)
  (.cons (.set 9 (.call 6 (.cons (.var 6) (.cons (.var 7) (.cons (.var 4) .nil)))))
  (.cons (.ite (.sc (.or (.cmp .IsNot (.call 7 (.cons (.var 6) (.cons (.var 9) .nil))) (.bl true)) (.cmp .Gt (.blt .len (.cons (.var 9) .nil)) (.var 4))))
  (.cons (.ret (.bl false))
  .nil)
  .nil)
  (.cons (.ite (.sc (.cmp .NotEq (.call 8 (.cons (.var 6) (.cons (.call 9 (.cons (.var 6) (.cons (.var 7) (.cons (.var 9) .nil)))) .nil))) (.var 8)))
  (.cons (.ret (.bl false))
  .nil)
  .nil)
  .nil)))))
def l2_law_k05 : Ss := (.cons (.set 9 (.callm 10 2 (.cons (.var 6) .nil)))
  (.cons (.ite (.sc (.cmp .Gt (.call 8 (.cons (.var 6) (.cons (.call 9 (.cons (.var 6) (.cons (.var 7) (.cons (.var 9) .nil)))) .nil))) (.ixv 3 (.bin .Sub (.sc (.blt .len (.cons (.var 9) .nil))) (.int 1)))))
  (.cons (.ret (.bl false))
  .nil)
  .nil)
  .nil))
def l3_law_k05 : Ss := (.cons (.set 2 (.call 0 (.cons (.var 1) (.cons (.int 5) .nil))))
  (.cons (.par [6, 7] (.cons (.callm 1 2 (.cons (.int 12) .nil)) (.cons (.bin .Add (.int 2) (.callm 2 2 (.cons (.int 5) .nil))) .nil)))
  (.cons (.set 3 (.call 3 (.cons (.var 6) (.cons (.var 7) .nil))))
  (.cons (.fr (.nm 4) (.rng (.cons (.int 1) (.cons (.int 13) .nil))) l1_law_k05)
  (.cons (.fr (.nm 5) (.rng (.cons (.int 30) .nil)) l2_law_k05)
  .nil)))))
def b_law_k05 : Ss := (.cons (.fr (.nm 1) (.seq (.slc (.bin .Add (.lst (.cons (.int 0) .nil)) (.var 0)) .nop (.int 10))) l3_law_k05)
  (.cons (.ret (.sc (.cmp .Eq (.call 5 (.cons (.tup (.cons (.int 10) (.cons (.int 9) (.cons (.int 8) (.cons (.int 1) .nil))))) (.cons (.int 3) (.cons (.int 2) .nil)))) (.int 8))))
  .nil))
/-- law: _law_script -/
def s_law_k05 (cs : List FSem) : FSem := defSem false 1 10 cs b_law_k05
def t_all_values : Tb := ⟨["basket", "size", "tables", "table"], [("table_for", false, 3)], [], [], []⟩
def c1_all_values : E := .lc (.ix (.ixv 3 (.sc (.blt .len (.cons (.var 0) .nil)))) (.int 0)) (.nm 3) (.seq (.slv 2 (.int 1) .nop)) (.bl true)
def b_all_values : Ss := (.cons (.set 2 (.call 0 (.cons (.var 0) (.cons (.var 1) (.cons (.sc (.blt .len (.cons (.var 0) .nil))) .nil)))))
  (.cons (.ret c1_all_values)
  .nil))
/-- all_values: basket, size -/
def s_all_values (cs : List FSem) : FSem := defSem false 2 4 cs b_all_values
def t_trade_off : Tb := ⟨["basket", "size", "values"], [("check_offer", false, 2), ("all_values", false, 2)], [], [], []⟩
def b_trade_off : Ss := (.cons (.exp (.call 0 (.cons (.var 0) (.cons (.var 1) .nil))))
  (.cons (.set 2 (.call 1 (.cons (.var 0) (.cons (.var 1) .nil))))
  (.cons (.ret (.slv 2 .nop (.bin .Add (.idx (.var 2) (.ixv 2 (.neg (.int 1)))) (.int 1))))
  .nil)))
/-- trade_off: basket, size -/
def s_trade_off (cs : List FSem) : FSem := defSem false 2 3 cs b_trade_off
def t_check_saving : Tb := ⟨["wished"], [("is_between", false, 3)], [("MAX_SAVING", 1000000)], [], ["InvalidSaving"]⟩
def b_check_saving : Ss := (.cons (.ite (.sc (.not (.call 0 (.cons (.var 0) (.cons (.int 0) (.cons (.gint "MAX_SAVING" 1000000) .nil))))))
  (.cons (.rai "InvalidSaving")
  .nil)
  .nil)
  .nil)
/-- check_saving: wished -/
def s_check_saving (cs : List FSem) : FSem := defSem false 1 1 cs b_check_saving
def t_fewest_receipts : Tb := ⟨["basket", "size", "wished", "good", "at", "value"], [("check_offer", false, 2), ("check_saving", false, 1), ("all_values", false, 2)], [], [], []⟩
def c1_fewest_receipts : E := .lc (.bin .Add (.var 4) (.int 1)) (.tp [4, 5]) (.enu (.call 2 (.cons (.var 0) (.cons (.var 1) .nil)))) (.sc (.cmp .GtE (.var 5) (.var 2)))
def b_fewest_receipts : Ss := (.cons (.exp (.call 0 (.cons (.var 0) (.cons (.var 1) .nil))))
  (.cons (.exp (.call 1 (.cons (.var 2) .nil)))
  (.cons (.set 3 c1_fewest_receipts)
  (.cons (.ret (.ite (.sc (.cmp .NotEq (.var 3) (.lst .nil))) (.ixv 3 (.int 0)) .non))
  .nil))))
/-- fewest_receipts: basket, size, wished -/
def s_fewest_receipts (cs : List FSem) : FSem := defSem false 3 6 cs b_fewest_receipts
def t_law_k07 : Tb := ⟨["_law_script", "_law_cell", "_law_source_here", "_law_best_here", "_law_expected", "_law_result", "_law_wished", "_law_basket_here", "_law_size", "_law_good", "_law_at", "_law_value"], [("_law_source", false, 2), ("_law_basket", true, 2), ("_law_draw", true, 2), ("_law_best", false, 2), ("trade_off", false, 2), ("_law_equal", false, 2), ("fewest_receipts", false, 3)], [], [], []⟩
def c1_law_k07 : E := .lc (.var 11) (.tp [10, 11]) (.enu (.var 3)) (.sc (.or (.cmp .Eq (.var 10) (.int 0)) (.cmp .Lt (.ixv 3 (.bin .Sub (.var 10) (.int 1))) (.ixv 3 (.neg (.int 1))))))
def c2_law_k07 : E := .lc (.bin .Add (.var 11) (.int 1)) (.nm 11) (.seq (.var 3)) (.bl true)
def c3_law_k07 : E := .lc (.bin .Add (.var 10) (.int 1)) (.tp [10, 11]) (.enu (.var 3)) (.sc (.cmp .GtE (.var 11) (.var 6)))
def l1_law_k07 : Ss := (.cons (.set 9 c3_law_k07)
  (.cons (.ite (.sc (.not (.call 5 (.cons (.call 6 (.cons (.var 7) (.cons (.var 8) (.cons (.var 6) .nil)))) (.cons (.ite (.sc (.cmp .NotEq (.var 9) (.lst .nil))) (.ixv 9 (.int 0)) .non) .nil)))))
  (.cons (.ret (.bl false))
  .nil)
  .nil)
  .nil))
def l2_law_k07 : Ss := (.cons (.set 2 (.call 0 (.cons (.var 1) (.cons (.int 7) .nil))))
  (.cons (.par [7, 8] (.cons (.callm 1 2 (.cons (.int 12) .nil)) (.cons (.bin .Add (.int 2) (.callm 2 2 (.cons (.int 5) .nil))) .nil)))
  (.cons (.set 3 (.call 3 (.cons (.var 7) (.cons (.var 8) .nil))))
  (.cons (.set 4 c1_law_k07)
  (.cons (.set 5 (.call 4 (.cons (.var 7) (.cons (.var 8) .nil))))
  (.cons (.ite (.sc (.or (.not (.call 5 (.cons (.var 5) (.cons (.var 4) .nil)))) (.cmp .NotEq (.var 5) (.blt .sorted (.cons (.var 5) .nil)))))
  (.cons (.ret (.bl false))
  .nil)
  .nil)
  (.cons (.app 5 (.int 0))
  (.cons (.ite (.sc (.cmp .NotEq (.call 4 (.cons (.var 7) (.cons (.var 8) .nil))) (.var 4)))
  (.cons (.ret (.bl false))
  .nil)
  .nil)
  (.cons (.fr (.nm 6) (.seq (.bin .Add (.bin .Add (.var 3) c2_law_k07) (.lst (.cons (.int 0) (.cons (.bin .Pow (.int 10) (.int 6)) (.cons (.callm 2 2 (.cons (.bin .Add (.ixv 3 (.neg (.int 1))) (.int 1)) .nil)) .nil)))))) l1_law_k07)
  .nil)))))))))
def b_law_k07 : Ss := (.cons (.fr (.nm 1) (.seq (.slc (.bin .Add (.lst (.cons (.int 0) .nil)) (.var 0)) .nop (.int 10))) l2_law_k07)
  (.cons (.ret (.sc (.and (.cmp .Eq (.call 6 (.cons (.tup (.cons (.int 7) .nil)) (.cons (.int 2) (.cons (.int 0) .nil)))) (.int 1)) (.cmp .Eq (.call 4 (.cons (.tup (.cons (.int 7) .nil)) (.cons (.int 2) .nil))) (.lst (.cons (.int 0) .nil))))))
  .nil))
/-- law: _law_script -/
def s_law_k07 (cs : List FSem) : FSem := defSem false 1 12 cs b_law_k07
def t_least_total : Tb := ⟨["basket", "size", "fee", "at", "value"], [("check_offer", false, 2), ("is_between", false, 3), ("all_values", false, 2)], [("MAX_FEE", 10000)], [], ["InvalidFee"]⟩
def c1_least_total : E := .lc (.bin .Add (.bin .Sub (.sc (.blt .sum (.cons (.var 0) .nil))) (.var 4)) (.bin .Mult (.var 2) (.bin .Add (.var 3) (.int 1)))) (.tp [3, 4]) (.enu (.call 2 (.cons (.var 0) (.cons (.var 1) .nil)))) (.bl true)
def b_least_total : Ss := (.cons (.exp (.call 0 (.cons (.var 0) (.cons (.var 1) .nil))))
  (.cons (.ite (.sc (.not (.call 1 (.cons (.var 2) (.cons (.int 0) (.cons (.gint "MAX_FEE" 10000) .nil))))))
  (.cons (.rai "InvalidFee")
  .nil)
  .nil)
  (.cons (.ret (.blt .min (.cons c1_least_total .nil)))
  .nil)))
/-- least_total: basket, size, fee -/
def s_least_total (cs : List FSem) : FSem := defSem false 3 5 cs b_least_total
def t_law_k08 : Tb := ⟨["_law_script", "_law_cell", "_law_source_here", "_law_rows", "_law_parts", "_law_fee", "_law_basket_here", "_law_best_here", "_law_size", "_law_expected", "_law_paid", "_law_many", "_law_at", "_law_value"], [("_law_source", false, 2), ("_law_basket", true, 2), ("_law_draw", true, 2), ("_law_all_splittings", false, 1), ("_law_sum", false, 2), ("_law_free", false, 3), ("_law_equal", false, 2), ("least_total", false, 3), ("_law_best", false, 2), ("_law_random_splitting", true, 2)], [], [], []⟩
def l1_law_k08 : Ss := (.cons (.app 3 (.tup (.cons (.sc (.blt .len (.cons (.var 4) .nil))) (.cons (.bin .Sub (.sc (.blt .sum (.cons (.var 6) .nil))) (.call 4 (.cons (.var 6) (.cons (.call 5 (.cons (.var 6) (.cons (.var 8) (.cons (.var 4) .nil)))) .nil)))) .nil))))
  .nil)
def c1_law_k08 : E := .lc (.bin .Add (.var 10) (.bin .Mult (.var 5) (.var 11))) (.tp [11, 10]) (.seq (.var 3)) (.bl true)
def l2_law_k08 : Ss := (.cons (.set 9 (.blt .min (.cons c1_law_k08 .nil)))
  (.cons (.ite (.sc (.not (.call 6 (.cons (.call 7 (.cons (.var 6) (.cons (.var 8) (.cons (.var 5) .nil)))) (.cons (.var 9) .nil)))))
  (.cons (.ret (.bl false))
  .nil)
  .nil)
  .nil))
def c2_law_k08 : E := .lc (.bin .Add (.bin .Sub (.sc (.blt .sum (.cons (.var 6) .nil))) (.var 13)) (.bin .Mult (.var 5) (.bin .Add (.var 12) (.int 1)))) (.tp [12, 13]) (.enu (.var 7)) (.bl true)
def l3_law_k08 : Ss := (.cons (.set 9 (.blt .min (.cons c2_law_k08 .nil)))
  (.cons (.ite (.sc (.not (.call 6 (.cons (.call 7 (.cons (.var 6) (.cons (.var 8) (.cons (.var 5) .nil)))) (.cons (.var 9) .nil)))))
  (.cons (.ret (.bl false))
  .nil)
  .nil)
  (.cons (.set 4 (.callm 9 2 (.cons (.var 6) .nil)))
  (.cons (.set 10 (.bin .Sub (.sc (.blt .sum (.cons (.var 6) .nil))) (.call 4 (.cons (.var 6) (.cons (.call 5 (.cons (.var 6) (.cons (.var 8) (.cons (.var 4) .nil)))) .nil)))))
  (.cons (.ite (.sc (.cmp .Lt (.bin .Add (.var 10) (.bin .Mult (.var 5) (.sc (.blt .len (.cons (.var 4) .nil))))) (.var 9)))
  (.cons (.ret (.bl false))
  .nil)
  .nil)
  .nil)))))
def l4_law_k08 : Ss := (.cons (.set 2 (.call 0 (.cons (.var 1) (.cons (.int 8) .nil))))
  (.cons (.par [6, 8] (.cons (.callm 1 2 (.cons (.int 6) .nil)) (.cons (.bin .Add (.int 2) (.callm 2 2 (.cons (.int 3) .nil))) .nil)))
  (.cons (.set 3 (.lst .nil))
  (.cons (.fr (.nm 4) (.seq (.call 3 (.cons (.sc (.blt .len (.cons (.var 6) .nil))) .nil))) l1_law_k08)
  (.cons (.fr (.nm 5) (.seq (.lst (.cons (.int 0) (.cons (.int 1) (.cons (.int 10000) (.cons (.callm 2 2 (.cons (.int 20) .nil)) (.cons (.callm 2 2 (.cons (.int 10001) .nil)) .nil))))))) l2_law_k08)
  (.cons (.set 6 (.callm 1 2 (.cons (.int 12) .nil)))
  (.cons (.set 7 (.call 8 (.cons (.var 6) (.cons (.var 8) .nil))))
  (.cons (.fr (.nm 5) (.seq (.lst (.cons (.int 0) (.cons (.int 1) (.cons (.int 10000) (.cons (.callm 2 2 (.cons (.int 20) .nil)) (.cons (.callm 2 2 (.cons (.int 10001) .nil)) .nil))))))) l3_law_k08)
  .nil))))))))
def b_law_k08 : Ss := (.cons (.fr (.nm 1) (.seq (.slc (.bin .Add (.lst (.cons (.int 0) .nil)) (.var 0)) .nop (.int 8))) l4_law_k08)
  (.cons (.ret (.sc (.cmp .Eq (.call 7 (.cons (.tup (.cons (.int 9) (.cons (.int 4) (.cons (.int 7) (.cons (.int 2) (.cons (.int 7) (.cons (.int 5) .nil))))))) (.cons (.int 3) (.cons (.int 4) .nil)))) (.int 32))))
  .nil))
/-- law: _law_script -/
def s_law_k08 (cs : List FSem) : FSem := defSem false 1 14 cs b_law_k08
def t_can_be_free : Tb := ⟨["basket", "size", "items", "count", "at", "item"], [("row_of", false, 1)], [], [], []⟩
def l1_can_be_free : Ss := (.cons (.aug 3 .Add (.ite (.sc (.cmp .In (.var 5) (.var 2))) (.int 1) (.int 0)))
  (.cons (.ite (.sc (.cmp .Gt (.var 3) (.bin .FloorDiv (.bin .Add (.var 4) (.int 1)) (.var 1))))
  (.cons (.ret (.bl false))
  .nil)
  .nil)
  .nil))
def b_can_be_free : Ss := (.cons (.set 3 (.int 0))
  (.cons (.fr (.tp [4, 5]) (.enu (.call 0 (.cons (.var 0) .nil))) l1_can_be_free)
  (.cons (.ret (.bl true))
  .nil)))
/-- can_be_free: basket, size, items -/
def s_can_be_free (cs : List FSem) : FSem := defSem false 3 6 cs b_can_be_free
def t_is_free : Tb := ⟨["basket", "size", "value"], [("is_ascending", false, 2), ("can_be_free", false, 3)], [], [], []⟩
def b_is_free : Ss := (.cons (.ret (.sc (.and (.call 0 (.cons (.var 0) (.cons (.var 2) .nil))) (.call 1 (.cons (.var 0) (.cons (.var 1) (.cons (.var 2) .nil)))))))
  .nil)
/-- is_free: basket, size, value -/
def s_is_free (cs : List FSem) : FSem := defSem false 3 3 cs b_is_free
def t_is_free_set : Tb := ⟨["basket", "size", "value"], [("check_offer", false, 2), ("is_free", false, 3)], [], [], []⟩
def b_is_free_set : Ss := (.cons (.exp (.call 0 (.cons (.var 0) (.cons (.var 1) .nil))))
  (.cons (.ret (.call 1 (.cons (.var 0) (.cons (.var 1) (.cons (.var 2) .nil)))))
  .nil))
/-- is_free_set: basket, size, value -/
def s_is_free_set (cs : List FSem) : FSem := defSem false 3 3 cs b_is_free_set
def t_law_is_free : Tb := ⟨["_law_basket_here", "_law_size", "_law_value", "_law_places", "_law_many", "_law_item"], [("_law_is_int", false, 1), ("_law_row", false, 1)], [], [], []⟩
def c1_law_is_free : E := .lc (.var 5) (.nm 5) (.seq (.var 2)) (.sc (.or (.not (.call 0 (.cons (.var 5) .nil))) (.not (.chain .LtE .Lt (.int 0) (.var 5) (.blt .len (.cons (.var 0) .nil))))))
def c2_law_is_free : E := .lc (.var 5) (.nm 5) (.seq (.slv 3 .nop (.var 4))) (.sc (.cmp .In (.var 5) (.var 2)))
def l1_law_is_free : Ss := (.cons (.ite (.sc (.cmp .Gt (.blt .len (.cons c2_law_is_free .nil)) (.bin .FloorDiv (.var 4) (.var 1))))
  (.cons (.ret (.bl false))
  .nil)
  .nil)
  .nil)
def b_law_is_free : Ss := (.cons (.ite (.sc (.not (.isi (.var 2) [.tuple])))
  (.cons (.ret (.bl false))
  .nil)
  .nil)
  (.cons (.ite (.sc (.cmp .NotEq c1_law_is_free (.lst .nil)))
  (.cons (.ret (.bl false))
  .nil)
  .nil)
  (.cons (.ite (.sc (.cmp .NotEq (.blt .list (.cons (.var 2) .nil)) (.blt .sset (.cons (.var 2) .nil))))
  (.cons (.ret (.bl false))
  .nil)
  .nil)
  (.cons (.set 3 (.call 1 (.cons (.var 0) .nil)))
  (.cons (.fr (.nm 4) (.rng (.cons (.int 1) (.cons (.bin .Add (.sc (.blt .len (.cons (.var 0) .nil))) (.int 1)) .nil))) l1_law_is_free)
  (.cons (.ret (.bl true))
  .nil))))))
/-- _law_is_free: _law_basket_here, _law_size, _law_value -/
def s_law_is_free (cs : List FSem) : FSem := defSem false 3 6 cs b_law_is_free
def t_law_k09 : Tb := ⟨["_law_script", "_law_cell", "_law_source_here", "_law_known", "_law_sets", "_law_item", "_law_chosen", "_law_turn", "_law_basket_here", "_law_size", "_law_good", "_law_drawn", "_law_some", "_law_value", "_law_parts", "_law_k"], [("_law_source", false, 2), ("_law_basket", true, 2), ("_law_draw", true, 2), ("_law_all_splittings", false, 1), ("_law_free", false, 3), ("_law_equal", false, 2), ("is_free_set", false, 3), ("_law_is_free", false, 3), ("_law_random_splitting", true, 2), ("_law_any_value", true, 1), ("_law_corrupt", true, 2)], [], [], []⟩
def c1_law_k09 : E := .lc (.call 4 (.cons (.var 8) (.cons (.var 9) (.cons (.var 14) .nil)))) (.nm 14) (.seq (.call 3 (.cons (.sc (.blt .len (.cons (.var 8) .nil))) .nil))) (.bl true)
def c2_law_k09 : E := .lc (.bin .Add (.var 6) (.tup (.cons (.var 5) .nil))) (.nm 6) (.seq (.var 4)) (.bl true)
def l1_law_k09 : Ss := (.cons (.set 4 (.bin .Add (.var 4) c2_law_k09))
  .nil)
def l2_law_k09 : Ss := (.cons (.ite (.sc (.not (.call 5 (.cons (.call 6 (.cons (.var 8) (.cons (.var 9) (.cons (.var 6) .nil)))) (.cons (.sc (.cmp .In (.var 6) (.var 3))) .nil)))))
  (.cons (.ret (.bl false))
  .nil)
  .nil)
  (.cons (.ite (.sc (.cmp .NotEq (.call 7 (.cons (.var 8) (.cons (.var 9) (.cons (.var 6) .nil)))) (.cmp .In (.var 6) (.var 3))))
  (.cons (.ret (.bl false))
  .nil)
  .nil)
  .nil))
def c3_law_k09 : E := .lc (.var 5) (.nm 5) (.rng (.cons (.sc (.blt .len (.cons (.var 8) .nil))) .nil)) (.cmp .Eq (.callm 2 2 (.cons (.int 4) .nil)) (.int 0))
def c4_law_k09 : E := .lc (.callm 10 2 (.cons (.var 10) .nil)) (.nm 15) (.rng (.cons (.int 5) .nil)) (.bl true)
def l3_law_k09 : Ss := (.cons (.ite (.sc (.not (.call 5 (.cons (.call 6 (.cons (.var 8) (.cons (.var 9) (.cons (.var 13) .nil)))) (.cons (.call 7 (.cons (.var 8) (.cons (.var 9) (.cons (.var 13) .nil)))) .nil)))))
  (.cons (.ret (.bl false))
  .nil)
  .nil)
  .nil)
def l4_law_k09 : Ss := (.cons (.set 10 (.call 4 (.cons (.var 8) (.cons (.var 9) (.cons (.callm 8 2 (.cons (.var 8) .nil)) .nil)))))
  (.cons (.set 11 (.blt .tuple (.cons c3_law_k09 .nil)))
  (.cons (.set 12 (.lst (.cons (.var 10) (.cons (.var 11) (.cons (.rev (.var 10)) (.cons (.blt .list (.cons (.var 10) .nil)) (.cons (.bin .Add (.var 10) (.slv 10 .nop (.int 1))) (.cons .non (.cons (.tup (.cons (.sc (.blt .len (.cons (.var 8) .nil))) .nil)) (.cons (.callm 9 2 .nil) .nil))))))))))
  (.cons (.fr (.nm 13) (.seq (.bin .Add (.var 12) c4_law_k09)) l3_law_k09)
  .nil))))
def l5_law_k09 : Ss := (.cons (.set 2 (.call 0 (.cons (.var 1) (.cons (.int 9) .nil))))
  (.cons (.par [8, 9] (.cons (.callm 1 2 (.cons (.int 6) .nil)) (.cons (.bin .Add (.int 2) (.callm 2 2 (.cons (.int 3) .nil))) .nil)))
  (.cons (.set 3 (.blt .sset (.cons c1_law_k09 .nil)))
  (.cons (.set 4 (.lst (.cons (.tup .nil) .nil)))
  (.cons (.fr (.nm 5) (.rng (.cons (.sc (.blt .len (.cons (.var 8) .nil))) .nil)) l1_law_k09)
  (.cons (.fr (.nm 6) (.seq (.var 4)) l2_law_k09)
  (.cons (.par [8, 9] (.cons (.callm 1 2 (.cons (.int 12) .nil)) (.cons (.bin .Add (.int 2) (.callm 2 2 (.cons (.int 5) .nil))) .nil)))
  (.cons (.fr (.nm 7) (.rng (.cons (.int 6) .nil)) l4_law_k09)
  .nil))))))))
def b_law_k09 : Ss := (.cons (.fr (.nm 1) (.seq (.slc (.bin .Add (.lst (.cons (.int 0) .nil)) (.var 0)) .nop (.int 8))) l5_law_k09)
  (.cons (.ret (.sc (.cmp .Is (.call 6 (.cons (.tup (.cons (.int 9) (.cons (.int 4) (.cons (.int 7) (.cons (.int 2) (.cons (.int 7) (.cons (.int 5) .nil))))))) (.cons (.int 3) (.cons (.tup (.cons (.int 2) .nil)) .nil)))) (.bl false))))
  .nil))
/-- law: _law_script -/
def s_law_k09 (cs : List FSem) : FSem := defSem false 1 16 cs b_law_k09
def t_all_sets : Tb := ⟨["basket", "size", "rows", "at", "item", "chosen"], [("row_of", false, 1)], [], [], []⟩
def c1_all_sets : E := .lc (.bin .Add (.var 5) (.tup (.cons (.var 4) .nil))) (.nm 5) (.hid 2) (.sc (.cmp .Lt (.blt .len (.cons (.var 5) .nil)) (.bin .FloorDiv (.bin .Add (.var 3) (.int 1)) (.var 1))))
def l1_all_sets : Ss := (.cons (.aug 2 .Add c1_all_sets)
  .nil)
def c2_all_sets : E := .lc (.blt .tuple (.cons (.blt .sorted (.cons (.var 5) .nil)) .nil)) (.nm 5) (.seq (.var 2)) (.bl true)
def b_all_sets : Ss := (.cons (.set 2 (.lst (.cons (.tup .nil) .nil)))
  (.cons (.fr (.tp [3, 4]) (.enu (.call 0 (.cons (.var 0) .nil))) l1_all_sets)
  (.cons (.ret (.blt .sorted (.cons c2_all_sets .nil)))
  .nil)))
/-- all_sets: basket, size -/
def s_all_sets (cs : List FSem) : FSem := defSem false 2 6 cs b_all_sets
def t_count_sets : Tb := ⟨["basket", "size"], [("check_offer", false, 2), ("all_sets", false, 2)], [], [], []⟩
def b_count_sets : Ss := (.cons (.exp (.call 0 (.cons (.var 0) (.cons (.var 1) .nil))))
  (.cons (.ret (.sc (.blt .len (.cons (.call 1 (.cons (.var 0) (.cons (.var 1) .nil))) .nil))))
  .nil))
/-- count_sets: basket, size -/
def s_count_sets (cs : List FSem) : FSem := defSem false 2 2 cs b_count_sets
def t_set_at : Tb := ⟨["basket", "size", "place", "rows"], [("check_offer", false, 2), ("all_sets", false, 2), ("is_between", false, 3)], [], [], ["InvalidPlace"]⟩
def b_set_at : Ss := (.cons (.exp (.call 0 (.cons (.var 0) (.cons (.var 1) .nil))))
  (.cons (.set 3 (.call 1 (.cons (.var 0) (.cons (.var 1) .nil))))
  (.cons (.ite (.sc (.not (.call 2 (.cons (.var 2) (.cons (.int 0) (.cons (.bin .Sub (.sc (.blt .len (.cons (.var 3) .nil))) (.int 1)) .nil))))))
  (.cons (.rai "InvalidPlace")
  .nil)
  .nil)
  (.cons (.ret (.ixv 3 (.var 2)))
  .nil))))
/-- set_at: basket, size, place -/
def s_set_at (cs : List FSem) : FSem := defSem false 3 4 cs b_set_at
def t_check_set : Tb := ⟨["basket", "size", "free"], [("check_offer", false, 2), ("is_free", false, 3)], [], [], ["InvalidSet"]⟩
def b_check_set : Ss := (.cons (.exp (.call 0 (.cons (.var 0) (.cons (.var 1) .nil))))
  (.cons (.ite (.sc (.not (.call 1 (.cons (.var 0) (.cons (.var 1) (.cons (.var 2) .nil))))))
  (.cons (.rai "InvalidSet")
  .nil)
  .nil)
  .nil))
/-- check_set: basket, size, free -/
def s_check_set (cs : List FSem) : FSem := defSem false 3 3 cs b_check_set
def t_set_number : Tb := ⟨["basket", "size", "free"], [("check_set", false, 3), ("all_sets", false, 2)], [], [], []⟩
def b_set_number : Ss := (.cons (.exp (.call 0 (.cons (.var 0) (.cons (.var 1) (.cons (.var 2) .nil)))))
  (.cons (.ret (.idx (.call 1 (.cons (.var 0) (.cons (.var 1) .nil))) (.var 2)))
  .nil))
/-- set_number: basket, size, free -/
def s_set_number (cs : List FSem) : FSem := defSem false 3 3 cs b_set_number
def t_law_random_splitting_k10 : Tb := ⟨["_law_source_here", "_law_basket_here", "_law_many_here", "_law_parts", "_law_item", "_law_part", "_law_turn"], [("_law_draw", true, 2)], [], [], []⟩
def c1_law_random_splitting_k10 : E := .lc (.lst .nil) (.nm 6) (.rng (.cons (.var 2) .nil)) (.bl true)
def l1_law_random_splitting_k10 : Ss := (.cons (.set 5 (.ixv 3 (.callm 0 0 (.cons (.var 2) .nil))))
  (.cons (.app 5 (.var 4))
  .nil))
def c2_law_random_splitting_k10 : E := .lc (.blt .tuple (.cons (.var 5) .nil)) (.nm 5) (.seq (.var 3)) (.sc (.cmp .NotEq (.var 5) (.lst .nil)))
def b_law_random_splitting_k10 : Ss := (.cons (.set 2 (.bin .Add (.int 1) (.callm 0 0 (.cons (.sc (.blt .len (.cons (.var 1) .nil))) .nil))))
  (.cons (.set 3 c1_law_random_splitting_k10)
  (.cons (.fr (.nm 4) (.rng (.cons (.sc (.blt .len (.cons (.var 1) .nil))) .nil)) l1_law_random_splitting_k10)
  (.cons (.ret (.blt .tuple (.cons c2_law_random_splitting_k10 .nil)))
  .nil))))
/-- _law_random_splitting: _law_source_here, _law_basket_here -/
def s_law_random_splitting_k10 (cs : List FSem) : FSem := defSem true 2 7 cs b_law_random_splitting_k10
def t_all_splittings : Tb := ⟨["count", "rows", "item", "longer", "parts", "at", "part"], [], [], [], []⟩
def l1_all_splittings : Ss := (.cons (.app 3 (.bin .Add (.bin .Add (.slv 4 .nop (.var 5)) (.tup (.cons (.bin .Add (.var 6) (.tup (.cons (.var 2) .nil))) .nil))) (.slv 4 (.bin .Add (.var 5) (.int 1)) .nop)))
  .nil)
def l2_all_splittings : Ss := (.cons (.app 3 (.bin .Add (.var 4) (.tup (.cons (.tup (.cons (.var 2) .nil)) .nil))))
  (.cons (.fr (.tp [5, 6]) (.enu (.var 4)) l1_all_splittings)
  .nil))
def l3_all_splittings : Ss := (.cons (.set 3 (.lst .nil))
  (.cons (.fr (.nm 4) (.seq (.var 1)) l2_all_splittings)
  (.cons (.set 1 (.var 3))
  .nil)))
def b_all_splittings : Ss := (.cons (.set 1 (.lst (.cons (.tup .nil) .nil)))
  (.cons (.fr (.nm 2) (.rng (.cons (.var 0) .nil)) l3_all_splittings)
  (.cons (.ret (.mv 1))
  .nil)))
/-- all_splittings: count -/
def s_all_splittings (cs : List FSem) : FSem := defSem false 1 7 cs b_all_splittings
def t_check_small : Tb := ⟨["basket"], [], [("MAX_SMALL", 7)], [], ["TooMany"]⟩
def b_check_small : Ss := (.cons (.ite (.sc (.cmp .Gt (.blt .len (.cons (.var 0) .nil)) (.gint "MAX_SMALL" 7)))
  (.cons (.rai "TooMany")
  .nil)
  .nil)
  .nil)
/-- check_small: basket -/
def s_check_small (cs : List FSem) : FSem := defSem false 1 1 cs b_check_small
def t_fewest_for_set : Tb := ⟨["basket", "size", "free", "parts"], [("check_set", false, 3), ("check_small", false, 1), ("free_of", false, 3), ("all_splittings", false, 1)], [], [], []⟩
def c1_fewest_for_set : E := .lc (.sc (.blt .len (.cons (.var 3) .nil))) (.nm 3) (.seq (.call 3 (.cons (.sc (.blt .len (.cons (.var 0) .nil))) .nil))) (.sc (.cmp .Eq (.call 2 (.cons (.var 0) (.cons (.var 1) (.cons (.var 3) .nil)))) (.var 2)))
def b_fewest_for_set : Ss := (.cons (.exp (.call 0 (.cons (.var 0) (.cons (.var 1) (.cons (.var 2) .nil)))))
  (.cons (.exp (.call 1 (.cons (.var 0) .nil)))
  (.cons (.ret (.blt .min (.cons c1_fewest_for_set .nil)))
  .nil)))
/-- fewest_for_set: basket, size, free -/
def s_fewest_for_set (cs : List FSem) : FSem := defSem false 3 4 cs b_fewest_for_set
def t_roles : Tb := ⟨["basket", "size", "receipts", "best", "rows", "parts", "always", "some", "free", "item"], [("check_offer", false, 2), ("check_receipts", false, 1), ("check_small", false, 1), ("best_value", false, 3), ("all_splittings", false, 1), ("free_of", false, 3), ("value_of", false, 2)], [], [], []⟩
def l1_roles : Ss := (.cons (.set 8 (.call 5 (.cons (.var 0) (.cons (.var 1) (.cons (.var 5) .nil)))))
  (.cons (.ite (.sc (.and (.cmp .LtE (.blt .len (.cons (.var 5) .nil)) (.var 2)) (.cmp .Eq (.call 6 (.cons (.var 0) (.cons (.var 8) .nil))) (.var 3))))
  (.cons (.app 4 (.var 8))
  .nil)
  .nil)
  .nil))
def c1_roles : E := .lc (.sc (.cmp .In (.var 9) (.var 8))) (.nm 8) (.seq (.var 4)) (.bl true)
def c2_roles : E := .lc (.var 9) (.nm 9) (.rng (.cons (.sc (.blt .len (.cons (.var 0) .nil))) .nil)) (.sc (.blt .all (.cons c1_roles .nil)))
def c3_roles : E := .lc (.sc (.cmp .In (.var 9) (.var 8))) (.nm 8) (.seq (.var 4)) (.bl true)
def c4_roles : E := .lc (.var 9) (.nm 9) (.rng (.cons (.sc (.blt .len (.cons (.var 0) .nil))) .nil)) (.sc (.blt .any (.cons c3_roles .nil)))
def b_roles : Ss := (.cons (.exp (.call 0 (.cons (.var 0) (.cons (.var 1) .nil))))
  (.cons (.exp (.call 1 (.cons (.var 2) .nil)))
  (.cons (.exp (.call 2 (.cons (.var 0) .nil)))
  (.cons (.set 3 (.call 3 (.cons (.var 0) (.cons (.var 1) (.cons (.var 2) .nil)))))
  (.cons (.set 4 (.lst .nil))
  (.cons (.fr (.nm 5) (.seq (.call 4 (.cons (.sc (.blt .len (.cons (.var 0) .nil))) .nil))) l1_roles)
  (.cons (.set 6 c2_roles)
  (.cons (.set 7 c4_roles)
  (.cons (.ret (.tup (.cons (.blt .tuple (.cons (.var 6) .nil)) (.cons (.blt .tuple (.cons (.var 7) .nil)) .nil))))
  .nil)))))))))
/-- roles: basket, size, receipts -/
def s_roles (cs : List FSem) : FSem := defSem false 3 10 cs b_roles
def t_scanned_saving : Tb := ⟨["basket", "size", "order", "good", "places", "total", "start", "item"], [("check_offer", false, 2), ("is_between", false, 3), ("row_of", false, 1)], [], [], ["InvalidOrder"]⟩
def c1_scanned_saving : E := .lc (.call 1 (.cons (.var 7) (.cons (.int 0) (.cons (.bin .Sub (.sc (.blt .len (.cons (.var 0) .nil))) (.int 1)) .nil)))) (.nm 7) (.seq (.var 2)) (.bl true)
def c2_scanned_saving : E := .lc (.idx (.var 4) (.var 7)) (.nm 7) (.seq (.slv 2 (.var 6) (.bin .Add (.var 6) (.var 1)))) (.bl true)
def l1_scanned_saving : Ss := (.cons (.aug 5 .Add (.ixv 0 (.ixv 4 (.blt .max (.cons c2_scanned_saving .nil)))))
  .nil)
def b_scanned_saving : Ss := (.cons (.exp (.call 0 (.cons (.var 0) (.cons (.var 1) .nil))))
  (.cons (.set 3 (.sc (.and (.isi (.var 2) [.tuple]) (.blt .all (.cons c1_scanned_saving .nil)))))
  (.cons (.ite (.sc (.or (.not (.var 3)) (.cmp .NotEq (.blt .sorted (.cons (.var 2) .nil)) (.trng .list (.cons (.sc (.blt .len (.cons (.var 0) .nil))) .nil)))))
  (.cons (.rai "InvalidOrder")
  .nil)
  .nil)
  (.cons (.set 4 (.call 2 (.cons (.var 0) .nil)))
  (.cons (.set 5 (.int 0))
  (.cons (.fr (.nm 6) (.rng (.cons (.int 0) (.cons (.bin .Add (.bin .Sub (.sc (.blt .len (.cons (.var 2) .nil))) (.var 1)) (.int 1)) (.cons (.var 1) .nil)))) l1_scanned_saving)
  (.cons (.ret (.mv 5))
  .nil)))))))
/-- scanned_saving: basket, size, order -/
def s_scanned_saving (cs : List FSem) : FSem := defSem false 3 8 cs b_scanned_saving
def t_full_sets : Tb := ⟨["basket", "size", "free"], [("all_sets", false, 2)], [], [], []⟩
def c1_full_sets : E := .lc (.var 2) (.nm 2) (.seq (.call 0 (.cons (.var 0) (.cons (.var 1) .nil)))) (.sc (.cmp .Eq (.blt .len (.cons (.var 2) .nil)) (.bin .FloorDiv (.sc (.blt .len (.cons (.var 0) .nil))) (.var 1))))
def b_full_sets : Ss := (.cons (.ret c1_full_sets)
  .nil)
/-- full_sets: basket, size -/
def s_full_sets (cs : List FSem) : FSem := defSem false 2 3 cs b_full_sets
def t_possible_scans : Tb := ⟨["basket", "size", "free"], [("check_offer", false, 2), ("full_sets", false, 2), ("value_of", false, 2)], [], [], []⟩
def c1_possible_scans : E := .lc (.call 2 (.cons (.var 0) (.cons (.var 2) .nil))) (.nm 2) (.seq (.call 1 (.cons (.var 0) (.cons (.var 1) .nil)))) (.bl true)
def b_possible_scans : Ss := (.cons (.exp (.call 0 (.cons (.var 0) (.cons (.var 1) .nil))))
  (.cons (.ret (.blt .sset (.cons c1_possible_scans .nil)))
  .nil))
/-- possible_scans: basket, size -/
def s_possible_scans (cs : List FSem) : FSem := defSem false 2 3 cs b_possible_scans
def t_order_with : Tb := ⟨["basket", "size", "free", "places", "paid", "found", "item"], [("row_of", false, 1)], [], [], []⟩
def c1_order_with : E := .lc (.var 6) (.nm 6) (.seq (.var 3)) (.sc (.cmp .NotIn (.var 6) (.var 2)))
def c2_order_with : E := .lc (.var 6) (.nm 6) (.seq (.var 3)) (.sc (.cmp .In (.var 6) (.var 2)))
def l1_order_with : Ss := (.cons (.aug 5 .Add (.bin .Add (.slv 4 .nop (.bin .Sub (.var 1) (.int 1))) (.lst (.cons (.var 6) .nil))))
  (.cons (.set 4 (.slv 4 (.bin .Sub (.var 1) (.int 1)) .nop))
  .nil))
def b_order_with : Ss := (.cons (.set 3 (.call 0 (.cons (.var 0) .nil)))
  (.cons (.set 4 c1_order_with)
  (.cons (.set 5 (.lst .nil))
  (.cons (.fr (.nm 6) (.seq c2_order_with) l1_order_with)
  (.cons (.ret (.blt .tuple (.cons (.bin .Add (.var 5) (.var 4)) .nil)))
  .nil)))))
/-- order_with: basket, size, free -/
def s_order_with (cs : List FSem) : FSem := defSem false 3 7 cs b_order_with
def t_order_for : Tb := ⟨["basket", "size", "wished", "free"], [("check_offer", false, 2), ("check_saving", false, 1), ("full_sets", false, 2), ("value_of", false, 2), ("order_with", false, 3)], [], [], []⟩
def l1_order_for : Ss := (.cons (.ite (.sc (.cmp .Eq (.call 3 (.cons (.var 0) (.cons (.var 3) .nil))) (.var 2)))
  (.cons (.ret (.call 4 (.cons (.var 0) (.cons (.var 1) (.cons (.var 3) .nil)))))
  .nil)
  .nil)
  .nil)
def b_order_for : Ss := (.cons (.exp (.call 0 (.cons (.var 0) (.cons (.var 1) .nil))))
  (.cons (.exp (.call 1 (.cons (.var 2) .nil)))
  (.cons (.fr (.nm 3) (.seq (.call 2 (.cons (.var 0) (.cons (.var 1) .nil)))) l1_order_for)
  (.cons (.ret .non)
  .nil))))
/-- order_for: basket, size, wished -/
def s_order_for (cs : List FSem) : FSem := defSem false 3 4 cs b_order_for
def t_law_orders : Tb := ⟨["_law_count", "_law_found", "_law_item", "_law_longer", "_law_order", "_law_at"], [], [], [], []⟩
def c1_law_orders : E := .lc (.bin .Add (.bin .Add (.slv 4 .nop (.var 5)) (.tup (.cons (.var 2) .nil))) (.slv 4 (.var 5) .nop)) (.nm 5) (.rng (.cons (.bin .Add (.sc (.blt .len (.cons (.var 4) .nil))) (.int 1)) .nil)) (.bl true)
def l1_law_orders : Ss := (.cons (.set 3 (.bin .Add (.var 3) c1_law_orders))
  .nil)
def l2_law_orders : Ss := (.cons (.set 3 (.lst .nil))
  (.cons (.fr (.nm 4) (.seq (.var 1)) l1_law_orders)
  (.cons (.set 1 (.var 3))
  .nil)))
def b_law_orders : Ss := (.cons (.set 1 (.lst (.cons (.tup .nil) .nil)))
  (.cons (.fr (.nm 2) (.rng (.cons (.var 0) .nil)) l2_law_orders)
  (.cons (.ret (.mv 1))
  .nil)))
/-- _law_orders: _law_count -/
def s_law_orders (cs : List FSem) : FSem := defSem false 1 6 cs b_law_orders
def t_law_scanned : Tb := ⟨["_law_basket_here", "_law_size", "_law_order", "_law_found", "_law_start", "_law_group", "_law_item"], [], [], [], []⟩
def c1_law_scanned : E := .lc (.ixv 0 (.var 6)) (.nm 6) (.seq (.var 5)) (.bl true)
def l1_law_scanned : Ss := (.cons (.set 5 (.slv 2 (.var 4) (.bin .Add (.var 4) (.var 1))))
  (.cons (.ite (.sc (.cmp .Eq (.blt .len (.cons (.var 5) .nil)) (.var 1)))
  (.cons (.set 3 (.bin .Add (.var 3) (.blt .min (.cons c1_law_scanned .nil))))
  .nil)
  .nil)
  .nil))
def b_law_scanned : Ss := (.cons (.set 3 (.int 0))
  (.cons (.fr (.nm 4) (.rng (.cons (.int 0) (.cons (.sc (.blt .len (.cons (.var 2) .nil))) (.cons (.var 1) .nil)))) l1_law_scanned)
  (.cons (.ret (.mv 3))
  .nil)))
/-- _law_scanned: _law_basket_here, _law_size, _law_order -/
def s_law_scanned (cs : List FSem) : FSem := defSem false 3 7 cs b_law_scanned
def t_law_k12 : Tb := ⟨["_law_script", "_law_cell", "_law_source_here", "_law_savings", "_law_order", "_law_expected", "_law_result", "_law_wished", "_law_basket_here", "_law_size", "_law_value"], [("_law_source", false, 2), ("_law_basket", true, 2), ("_law_draw", true, 2), ("_law_orders", false, 1), ("_law_scanned", false, 3), ("_law_equal", false, 2), ("scanned_saving", false, 3), ("possible_scans", false, 2), ("order_for", false, 3)], [], [], []⟩
def l1_law_k12 : Ss := (.cons (.set 10 (.call 4 (.cons (.var 8) (.cons (.var 9) (.cons (.var 4) .nil)))))
  (.cons (.ite (.sc (.not (.call 5 (.cons (.call 6 (.cons (.var 8) (.cons (.var 9) (.cons (.var 4) .nil)))) (.cons (.var 10) .nil)))))
  (.cons (.ret (.bl false))
  .nil)
  .nil)
  (.cons (.app 3 (.var 10))
  .nil)))
def c1_law_k12 : E := .lc (.bin .Add (.var 10) (.int 1)) (.nm 10) (.seq (.var 5)) (.bl true)
def l2_law_k12 : Ss := (.cons (.set 4 (.call 8 (.cons (.var 8) (.cons (.var 9) (.cons (.var 7) .nil)))))
  (.cons (.ite (.sc (.cmp .NotEq (.cmp .Is (.var 4) .non) (.cmp .NotIn (.var 7) (.var 5))))
  (.cons (.ret (.bl false))
  .nil)
  .nil)
  (.cons (.ite (.sc (.and (.cmp .IsNot (.var 4) .non) (.cmp .NotEq (.call 4 (.cons (.var 8) (.cons (.var 9) (.cons (.var 4) .nil)))) (.var 7))))
  (.cons (.ret (.bl false))
  .nil)
  .nil)
  .nil)))
def l3_law_k12 : Ss := (.cons (.set 2 (.call 0 (.cons (.var 1) (.cons (.int 12) .nil))))
  (.cons (.par [8, 9] (.cons (.callm 1 2 (.cons (.int 6) .nil)) (.cons (.bin .Add (.int 2) (.callm 2 2 (.cons (.int 3) .nil))) .nil)))
  (.cons (.set 3 (.lst .nil))
  (.cons (.fr (.nm 4) (.seq (.call 3 (.cons (.sc (.blt .len (.cons (.var 8) .nil))) .nil))) l1_law_k12)
  (.cons (.set 5 (.blt .sset (.cons (.var 3) .nil)))
  (.cons (.set 6 (.call 7 (.cons (.var 8) (.cons (.var 9) .nil))))
  (.cons (.ite (.sc (.not (.call 5 (.cons (.var 6) (.cons (.var 5) .nil)))))
  (.cons (.ret (.bl false))
  .nil)
  .nil)
  (.cons (.fr (.nm 7) (.seq (.bin .Add (.bin .Add (.var 5) c1_law_k12) (.lst (.cons (.int 0) .nil)))) l2_law_k12)
  (.cons (.app 6 (.int 0))
  (.cons (.ite (.sc (.cmp .NotEq (.call 7 (.cons (.var 8) (.cons (.var 9) .nil))) (.var 5)))
  (.cons (.ret (.bl false))
  .nil)
  .nil)
  .nil))))))))))
def b_law_k12 : Ss := (.cons (.fr (.nm 1) (.seq (.slc (.bin .Add (.lst (.cons (.int 0) .nil)) (.var 0)) .nop (.int 5))) l3_law_k12)
  (.cons (.ret (.sc (.and (.cmp .Eq (.call 6 (.cons (.tup (.cons (.int 3) (.cons (.int 1) (.cons (.int 2) .nil)))) (.cons (.int 2) (.cons (.tup (.cons (.int 0) (.cons (.int 1) (.cons (.int 2) .nil)))) .nil)))) (.int 1)) (.cmp .Eq (.call 7 (.cons (.tup (.cons (.int 7) .nil)) (.cons (.int 2) .nil))) (.lst (.cons (.int 0) .nil))))))
  .nil))
/-- law: _law_script -/
def s_law_k12 (cs : List FSem) : FSem := defSem false 1 11 cs b_law_k12
def t_are_sightings : Tb := ⟨["value", "seen"], [("is_between", false, 3)], [("MAX_RECEIPTS", 12), ("MAX_SAVING", 1000000)], [], []⟩
def l1_are_sightings : Ss := (.cons (.ite (.sc (.or (.not (.isi (.var 1) [.tuple])) (.cmp .NotEq (.blt .len (.cons (.var 1) .nil)) (.int 2))))
  (.cons (.ret (.bl false))
  .nil)
  .nil)
  (.cons (.ite (.sc (.or (.not (.call 0 (.cons (.ixv 1 (.int 0)) (.cons (.int 1) (.cons (.gint "MAX_RECEIPTS" 12) .nil))))) (.not (.call 0 (.cons (.ixv 1 (.int 1)) (.cons (.int 0) (.cons (.gint "MAX_SAVING" 1000000) .nil)))))))
  (.cons (.ret (.bl false))
  .nil)
  .nil)
  .nil))
def b_are_sightings : Ss := (.cons (.ite (.sc (.or (.not (.isi (.var 0) [.tuple])) (.not (.chain .LtE .LtE (.int 1) (.blt .len (.cons (.var 0) .nil)) (.int 6)))))
  (.cons (.ret (.bl false))
  .nil)
  .nil)
  (.cons (.fr (.nm 1) (.seq (.var 0)) l1_are_sightings)
  (.cons (.ret (.bl true))
  .nil)))
/-- are_sightings: value -/
def s_are_sightings (cs : List FSem) : FSem := defSem false 1 2 cs b_are_sightings
def t_first_price : Tb := ⟨["basket", "size", "index", "receipts", "least", "low", "high", "middle"], [("best_value", false, 3)], [("MAX_PRICE", 10000)], [], []⟩
def l1_first_price : Ss := (.cons (.set 7 (.bin .FloorDiv (.bin .Add (.var 5) (.var 6)) (.int 2)))
  (.cons (.ite (.sc (.cmp .GtE (.call 0 (.cons (.bin .Add (.bin .Add (.slv 0 .nop (.var 2)) (.tup (.cons (.var 7) .nil))) (.slv 0 (.bin .Add (.var 2) (.int 1)) .nop)) (.cons (.var 1) (.cons (.var 3) .nil)))) (.var 4)))
  (.cons (.set 6 (.var 7))
  .nil)
  (.cons (.set 5 (.bin .Add (.var 7) (.int 1)))
  .nil))
  .nil))
def b_first_price : Ss := (.cons (.par [5, 6] (.cons (.int 1) (.cons (.bin .Add (.gint "MAX_PRICE" 10000) (.int 1)) .nil)))
  (.cons (.whl (.sc (.cmp .Lt (.var 5) (.var 6))) l1_first_price)
  (.cons (.ret (.mv 5))
  .nil)))
/-- first_price: basket, size, index, receipts, least -/
def s_first_price (cs : List FSem) : FSem := defSem false 5 8 cs b_first_price
def t_possible_prices : Tb := ⟨["basket", "size", "index", "sightings", "low", "high", "receipts", "value"], [("check_offer", false, 2), ("is_between", false, 3), ("are_sightings", false, 1), ("first_price", false, 5)], [("MAX_PRICE", 10000)], [], ["InvalidIndex", "InvalidSightings"]⟩
def l1_possible_prices : Ss := (.cons (.set 4 (.blt .max (.cons (.var 4) (.cons (.call 3 (.cons (.var 0) (.cons (.var 1) (.cons (.var 2) (.cons (.var 6) (.cons (.var 7) .nil)))))) .nil))))
  (.cons (.set 5 (.blt .min (.cons (.var 5) (.cons (.bin .Sub (.call 3 (.cons (.var 0) (.cons (.var 1) (.cons (.var 2) (.cons (.var 6) (.cons (.bin .Add (.var 7) (.int 1)) .nil)))))) (.int 1)) .nil))))
  .nil))
def b_possible_prices : Ss := (.cons (.exp (.call 0 (.cons (.var 0) (.cons (.var 1) .nil))))
  (.cons (.ite (.sc (.not (.call 1 (.cons (.var 2) (.cons (.int 0) (.cons (.bin .Sub (.sc (.blt .len (.cons (.var 0) .nil))) (.int 1)) .nil))))))
  (.cons (.rai "InvalidIndex")
  .nil)
  .nil)
  (.cons (.ite (.sc (.not (.call 2 (.cons (.var 3) .nil))))
  (.cons (.rai "InvalidSightings")
  .nil)
  .nil)
  (.cons (.par [4, 5] (.cons (.int 1) (.cons (.gint "MAX_PRICE" 10000) .nil)))
  (.cons (.fr (.tp [6, 7]) (.seq (.var 3)) l1_possible_prices)
  (.cons (.ret (.ite (.sc (.cmp .LtE (.var 4) (.var 5))) (.tup (.cons (.var 4) (.cons (.var 5) .nil))) .non))
  .nil))))))
/-- possible_prices: basket, size, index, sightings -/
def s_possible_prices (cs : List FSem) : FSem := defSem false 4 8 cs b_possible_prices
def t_law_with : Tb := ⟨["_law_basket_here", "_law_index", "_law_price"], [], [], [], []⟩
def b_law_with : Ss := (.cons (.ret (.bin .Add (.bin .Add (.slv 0 .nop (.var 1)) (.tup (.cons (.var 2) .nil))) (.slv 0 (.bin .Add (.var 1) (.int 1)) .nop)))
  .nil)
/-- _law_with: _law_basket_here, _law_index, _law_price -/
def s_law_with (cs : List FSem) : FSem := defSem false 3 3 cs b_law_with
def t_law_true : Tb := ⟨["_law_basket_here", "_law_size", "_law_index", "_law_price", "_law_seen_here", "_law_best_here", "_law_receipts", "_law_value"], [("_law_best", false, 2), ("_law_with", false, 3)], [], [], []⟩
def c1_law_true : E := .lc (.int 1) (.tp [6, 7]) (.seq (.var 4)) (.sc (.cmp .NotEq (.ixv 5 (.bin .Sub (.blt .min (.cons (.var 6) (.cons (.sc (.blt .len (.cons (.var 5) .nil))) .nil))) (.int 1))) (.var 7)))
def b_law_true : Ss := (.cons (.ite (.sc (.not (.chain .LtE .LtE (.int 1) (.var 3) (.int 10000))))
  (.cons (.ret (.bl false))
  .nil)
  .nil)
  (.cons (.set 5 (.call 0 (.cons (.call 1 (.cons (.var 0) (.cons (.var 2) (.cons (.var 3) .nil)))) (.cons (.var 1) .nil))))
  (.cons (.ret (.sc (.cmp .Eq c1_law_true (.lst .nil))))
  .nil)))
/-- _law_true: _law_basket_here, _law_size, _law_index, _law_price, _law_seen_here -/
def s_law_true (cs : List FSem) : FSem := defSem false 5 8 cs b_law_true
def t_law_seen : Tb := ⟨["_law_source_here", "_law_basket_here", "_law_size", "_law_turn", "_law_best_here", "_law_seen_here", "_law_receipts", "_law_value"], [("_law_best", false, 2), ("_law_draw", true, 2)], [], [], []⟩
def l1_law_seen : Ss := (.cons (.set 6 (.bin .Add (.int 1) (.callm 1 0 (.cons (.int 12) .nil))))
  (.cons (.set 7 (.ixv 4 (.bin .Sub (.blt .min (.cons (.var 6) (.cons (.sc (.blt .len (.cons (.var 4) .nil))) .nil))) (.int 1))))
  (.cons (.ite (.cmp .Eq (.callm 1 0 (.cons (.int 5) .nil)) (.int 0))
  (.cons (.set 7 (.blt .max (.cons (.int 0) (.cons (.bin .Sub (.bin .Add (.var 7) (.callm 1 0 (.cons (.int 5) .nil))) (.int 2)) .nil))))
  .nil)
  .nil)
  (.cons (.set 5 (.bin .Add (.var 5) (.tup (.cons (.tup (.cons (.var 6) (.cons (.var 7) .nil))) .nil))))
  .nil))))
def b_law_seen : Ss := (.cons (.par [4, 5] (.cons (.call 0 (.cons (.var 1) (.cons (.var 2) .nil))) (.cons (.tup .nil) .nil)))
  (.cons (.fr (.nm 3) (.rng (.cons (.bin .Add (.int 1) (.callm 1 0 (.cons (.int 3) .nil))) .nil)) l1_law_seen)
  (.cons (.ret (.mv 5))
  .nil)))
/-- _law_seen: _law_source_here, _law_basket_here, _law_size -/
def s_law_seen (cs : List FSem) : FSem := defSem true 3 8 cs b_law_seen
def t_law_k14 : Tb := ⟨["_law_script", "_law_cell", "_law_source_here", "_law_turn", "_law_result", "_law_samples", "_law_outside", "_law_other", "_law_price", "_law_basket_here", "_law_size", "_law_index", "_law_seen_here", "_law_inside", "_law_one", "_law_two", "_law_before", "_law_after"], [("_law_source", false, 2), ("_law_basket", true, 2), ("_law_draw", true, 2), ("_law_seen", true, 3), ("possible_prices", false, 4), ("_law_is_int", false, 1), ("_law_true", false, 5), ("_law_with", false, 3), ("_law_equal", false, 2), ("_law_best", false, 2)], [], [], []⟩
def c1_law_k14 : E := .lc (.var 8) (.nm 8) (.seq (.var 5)) (.sc (.chain .LtE .LtE (.ixv 4 (.int 0)) (.var 8) (.ixv 4 (.int 1))))
def c2_law_k14 : E := .lc (.var 8) (.nm 8) (.seq (.var 13)) (.sc (.not (.call 6 (.cons (.var 9) (.cons (.var 10) (.cons (.var 11) (.cons (.var 8) (.cons (.var 12) .nil))))))))
def c3_law_k14 : E := .lc (.var 8) (.nm 8) (.seq (.var 5)) (.sc (.cmp .NotIn (.var 8) (.var 13)))
def c4_law_k14 : E := .lc (.var 8) (.nm 8) (.seq (.var 6)) (.call 6 (.cons (.var 9) (.cons (.var 10) (.cons (.var 11) (.cons (.var 8) (.cons (.var 12) .nil))))))
def c5_law_k14 : E := .lc (.int 1) (.tp [16, 17]) (.zip (.var 14) (.var 15)) (.sc (.cmp .NotIn (.bin .Sub (.var 17) (.var 16)) (.tup (.cons (.int 0) (.cons (.int 1) .nil)))))
def l1_law_k14 : Ss := (.cons (.set 14 (.call 9 (.cons (.call 7 (.cons (.var 9) (.cons (.var 11) (.cons (.blt .min (.cons (.int 9999) (.cons (.var 8) .nil))) .nil)))) (.cons (.var 10) .nil))))
  (.cons (.set 15 (.call 9 (.cons (.call 7 (.cons (.var 9) (.cons (.var 11) (.cons (.bin .Add (.blt .min (.cons (.int 9999) (.cons (.var 8) .nil))) (.int 1)) .nil)))) (.cons (.var 10) .nil))))
  (.cons (.ite (.sc (.cmp .NotEq c5_law_k14 (.lst .nil)))
  (.cons (.ret (.bl false))
  .nil)
  .nil)
  .nil)))
def l2_law_k14 : Ss := (.cons (.par [9, 10] (.cons (.callm 1 2 (.cons (.int 12) .nil)) (.cons (.bin .Add (.int 2) (.callm 2 2 (.cons (.int 5) .nil))) .nil)))
  (.cons (.par [11, 12] (.cons (.callm 2 2 (.cons (.sc (.blt .len (.cons (.var 9) .nil))) .nil)) (.cons (.callm 3 2 (.cons (.var 9) (.cons (.var 10) .nil))) .nil)))
  (.cons (.set 4 (.call 4 (.cons (.var 9) (.cons (.var 10) (.cons (.var 11) (.cons (.var 12) .nil))))))
  (.cons (.set 5 (.bin .Add (.lst (.cons (.int 1) (.cons (.int 10000) (.cons (.ixv 9 (.var 11)) (.cons (.bin .Add (.int 1) (.callm 2 2 (.cons (.int 10000) .nil))) .nil))))) (.blt .list (.cons (.slv 9 .nop (.int 4)) .nil))))
  (.cons (.ite (.sc (.cmp .Is (.var 4) .non))
  (.cons (.set 13 (.lst .nil))
  .nil)
  (.cons (.ite (.sc (.or (.not (.isi (.var 4) [.tuple])) (.or (.cmp .NotEq (.blt .len (.cons (.var 4) .nil)) (.int 2)) (.not (.call 5 (.cons (.ixv 4 (.int 0)) .nil))))))
  (.cons (.ret (.bl false))
  .nil)
  .nil)
  (.cons (.set 13 (.lst (.cons (.ixv 4 (.int 0)) (.cons (.ixv 4 (.int 1)) (.cons (.bin .FloorDiv (.bin .Add (.ixv 4 (.int 0)) (.ixv 4 (.int 1))) (.int 2)) .nil)))))
  (.cons (.set 13 (.bin .Add (.var 13) c1_law_k14))
  (.cons (.set 5 (.bin .Add (.var 5) (.lst (.cons (.bin .Sub (.ixv 4 (.int 0)) (.int 1)) (.cons (.bin .Add (.ixv 4 (.int 1)) (.int 1)) .nil)))))
  .nil)))))
  (.cons (.ite (.sc (.cmp .NotEq c2_law_k14 (.lst .nil)))
  (.cons (.ret (.bl false))
  .nil)
  .nil)
  (.cons (.set 6 c3_law_k14)
  (.cons (.ite (.sc (.cmp .NotEq c4_law_k14 (.lst .nil)))
  (.cons (.ret (.bl false))
  .nil)
  .nil)
  (.cons (.set 7 (.call 7 (.cons (.var 9) (.cons (.var 11) (.cons (.bin .Add (.int 1) (.callm 2 2 (.cons (.int 10000) .nil))) .nil)))))
  (.cons (.ite (.sc (.not (.call 8 (.cons (.call 4 (.cons (.var 7) (.cons (.var 10) (.cons (.var 11) (.cons (.var 12) .nil))))) (.cons (.var 4) .nil)))))
  (.cons (.ret (.bl false))
  .nil)
  .nil)
  (.cons (.fr (.nm 8) (.seq (.lst (.cons (.ixv 9 (.var 11)) (.cons (.bin .Add (.int 1) (.callm 2 2 (.cons (.int 9999) .nil))) .nil)))) l1_law_k14)
  .nil)))))))))))
def l3_law_k14 : Ss := (.cons (.set 2 (.call 0 (.cons (.var 1) (.cons (.int 14) .nil))))
  (.cons (.fr (.nm 3) (.rng (.cons (.int 3) .nil)) l2_law_k14)
  .nil))
def b_law_k14 : Ss := (.cons (.fr (.nm 1) (.seq (.slc (.bin .Add (.lst (.cons (.int 0) .nil)) (.var 0)) .nop (.int 6))) l3_law_k14)
  (.cons (.ret (.sc (.cmp .Eq (.call 4 (.cons (.tup (.cons (.int 9) (.cons (.int 4) (.cons (.int 7) (.cons (.int 2) (.cons (.int 7) (.cons (.int 5) .nil))))))) (.cons (.int 3) (.cons (.int 4) (.cons (.tup (.cons (.tup (.cons (.int 2) (.cons (.int 8) .nil))) .nil)) .nil))))) (.tup (.cons (.int 6) (.cons (.int 6) .nil))))))
  .nil))
/-- law: _law_script -/
def s_law_k14 (cs : List FSem) : FSem := defSem false 1 18 cs b_law_k14
def t_gain : Tb := ⟨["first", "second", "size", "own", "other", "apart"], [("check_basket", false, 1), ("is_size", false, 1), ("check_receipts", false, 1), ("best_value", false, 3)], [("MAX_ITEMS", 12)], [], ["TooMany", "InvalidSize"]⟩
def b_gain : Ss := (.cons (.exp (.call 0 (.cons (.var 0) .nil)))
  (.cons (.exp (.call 0 (.cons (.var 1) .nil)))
  (.cons (.ite (.sc (.cmp .Gt (.bin .Add (.sc (.blt .len (.cons (.var 0) .nil))) (.sc (.blt .len (.cons (.var 1) .nil)))) (.gint "MAX_ITEMS" 12)))
  (.cons (.rai "TooMany")
  .nil)
  .nil)
  (.cons (.ite (.sc (.not (.call 1 (.cons (.var 2) .nil))))
  (.cons (.rai "InvalidSize")
  .nil)
  .nil)
  (.cons (.exp (.call 2 (.cons (.var 3) .nil)))
  (.cons (.exp (.call 2 (.cons (.var 4) .nil)))
  (.cons (.set 5 (.bin .Add (.call 3 (.cons (.var 0) (.cons (.var 2) (.cons (.var 3) .nil)))) (.call 3 (.cons (.var 1) (.cons (.var 2) (.cons (.var 4) .nil))))))
  (.cons (.ret (.bin .Sub (.call 3 (.cons (.bin .Add (.var 0) (.var 1)) (.cons (.var 2) (.cons (.bin .Add (.var 3) (.var 4)) .nil)))) (.var 5)))
  .nil))))))))
/-- gain: first, second, size, own, other -/
def s_gain (cs : List FSem) : FSem := defSem false 5 6 cs b_gain
def t_check_families : Tb := ⟨["basket", "families", "sizes", "receipts", "good", "family", "size"], [("check_basket", false, 1), ("is_between", false, 3), ("is_size", false, 1), ("check_receipts", false, 1)], [("FAMILIES", 4)], [], ["InvalidFamilies", "InvalidSizes"]⟩
def c1_check_families : E := .lc (.call 1 (.cons (.var 5) (.cons (.int 0) (.cons (.bin .Sub (.gint "FAMILIES" 4) (.int 1)) .nil)))) (.nm 5) (.seq (.var 1)) (.bl true)
def c2_check_families : E := .lc (.call 2 (.cons (.var 6) .nil)) (.nm 6) (.seq (.var 2)) (.bl true)
def b_check_families : Ss := (.cons (.exp (.call 0 (.cons (.var 0) .nil)))
  (.cons (.set 4 (.sc (.and (.isi (.var 1) [.tuple]) (.cmp .Eq (.blt .len (.cons (.var 1) .nil)) (.blt .len (.cons (.var 0) .nil))))))
  (.cons (.ite (.sc (.or (.not (.var 4)) (.not (.blt .all (.cons c1_check_families .nil)))))
  (.cons (.rai "InvalidFamilies")
  .nil)
  .nil)
  (.cons (.ite (.sc (.or (.not (.isi (.var 2) [.tuple])) (.or (.cmp .NotEq (.blt .len (.cons (.var 2) .nil)) (.gint "FAMILIES" 4)) (.not (.blt .all (.cons c2_check_families .nil))))))
  (.cons (.rai "InvalidSizes")
  .nil)
  .nil)
  (.cons (.exp (.call 3 (.cons (.var 3) .nil)))
  .nil)))))
/-- check_families: basket, families, sizes, receipts -/
def s_check_families (cs : List FSem) : FSem := defSem false 4 7 cs b_check_families
def t_members : Tb := ⟨["families", "family", "item", "other"], [], [], [], []⟩
def c1_members : E := .lc (.var 2) (.tp [2, 3]) (.enu (.var 0)) (.sc (.cmp .Eq (.var 3) (.var 1)))
def b_members : Ss := (.cons (.ret c1_members)
  .nil)
/-- members: families, family -/
def s_members (cs : List FSem) : FSem := defSem false 2 4 cs b_members
def t_family_saving : Tb := ⟨["basket", "families", "sizes", "receipts", "total", "family", "items", "item"], [("check_families", false, 4), ("members", false, 2), ("best_value", false, 3)], [("FAMILIES", 4)], [], []⟩
def c1_family_saving : E := .lc (.ixv 0 (.var 7)) (.nm 7) (.seq (.var 6)) (.bl true)
def l1_family_saving : Ss := (.cons (.set 6 (.call 1 (.cons (.var 1) (.cons (.var 5) .nil))))
  (.cons (.ite (.sc (.cmp .NotEq (.var 6) (.lst .nil)))
  (.cons (.aug 4 .Add (.call 2 (.cons (.blt .tuple (.cons c1_family_saving .nil)) (.cons (.ixv 2 (.var 5)) (.cons (.var 3) .nil)))))
  .nil)
  .nil)
  .nil))
def b_family_saving : Ss := (.cons (.exp (.call 0 (.cons (.var 0) (.cons (.var 1) (.cons (.var 2) (.cons (.var 3) .nil))))))
  (.cons (.set 4 (.int 0))
  (.cons (.fr (.nm 5) (.rng (.cons (.gint "FAMILIES" 4) .nil)) l1_family_saving)
  (.cons (.ret (.mv 4))
  .nil))))
/-- family_saving: basket, families, sizes, receipts -/
def s_family_saving (cs : List FSem) : FSem := defSem false 4 8 cs b_family_saving
def t_law_family_free : Tb := ⟨["_law_basket_here", "_law_families", "_law_sizes", "_law_splitting", "_law_receipt", "_law_places", "_law_found", "_law_family", "_law_there", "_law_item"], [("_law_row", false, 1)], [], [], []⟩
def c1_law_family_free : E := .lc (.var 9) (.nm 9) (.seq (.var 5)) (.sc (.and (.cmp .In (.var 9) (.var 4)) (.cmp .Eq (.ixv 1 (.var 9)) (.var 7))))
def l1_law_family_free : Ss := (.cons (.set 8 c1_law_family_free)
  (.cons (.set 6 (.bin .Add (.var 6) (.slv 8 (.bin .Sub (.sc (.blt .len (.cons (.var 8) .nil))) (.bin .FloorDiv (.sc (.blt .len (.cons (.var 8) .nil))) (.ixv 2 (.var 7)))) .nop)))
  .nil))
def l2_law_family_free : Ss := (.cons (.fr (.nm 7) (.rng (.cons (.int 4) .nil)) l1_law_family_free)
  .nil)
def b_law_family_free : Ss := (.cons (.par [5, 6] (.cons (.call 0 (.cons (.var 0) .nil)) (.cons (.lst .nil) .nil)))
  (.cons (.fr (.nm 4) (.seq (.var 3)) l2_law_family_free)
  (.cons (.ret (.blt .tuple (.cons (.blt .sorted (.cons (.var 6) .nil)) .nil)))
  .nil)))
/-- _law_family_free: _law_basket_here, _law_families, _law_sizes, _law_splitting -/
def s_law_family_free (cs : List FSem) : FSem := defSem false 4 10 cs b_law_family_free
def t_law_k16 : Tb := ⟨["_law_script", "_law_cell", "_law_source_here", "_law_basket_here", "_law_many", "_law_families", "_law_sizes", "_law_best", "_law_parts", "_law_receipts", "_law_value", "_law_item", "_law_family"], [("_law_source", false, 2), ("_law_basket", true, 2), ("_law_draw", true, 2), ("_law_choice", true, 2), ("_law_all_splittings", false, 1), ("_law_sum", false, 2), ("_law_family_free", false, 4), ("_law_equal", false, 2), ("family_saving", false, 4), ("family_splitting", false, 4), ("is_splitting", false, 2)], [], [], []⟩
def c1_law_k16 : E := .lc (.callm 2 2 (.cons (.var 4) .nil)) (.nm 11) (.seq (.var 3)) (.bl true)
def c2_law_k16 : E := .lc (.bin .Add (.int 2) (.callm 2 2 (.cons (.callm 3 2 (.cons (.lst (.cons (.int 1) (.cons (.int 2) (.cons (.int 5) .nil)))) .nil)) .nil))) (.nm 12) (.rng (.cons (.int 4) .nil)) (.bl true)
def l1_law_k16 : Ss := (.cons (.set 10 (.call 5 (.cons (.var 3) (.cons (.call 6 (.cons (.var 3) (.cons (.var 5) (.cons (.var 6) (.cons (.var 8) .nil))))) .nil))))
  (.cons (.stx 7 (.sc (.blt .len (.cons (.var 8) .nil))) (.blt .max (.cons (.ixv 7 (.sc (.blt .len (.cons (.var 8) .nil)))) (.cons (.var 10) .nil))))
  .nil))
def l2_law_k16 : Ss := (.cons (.ite (.sc (.not (.call 7 (.cons (.call 8 (.cons (.var 3) (.cons (.var 5) (.cons (.var 6) (.cons (.var 9) .nil))))) (.cons (.blt .max (.cons (.slv 7 .nop (.bin .Add (.var 9) (.int 1))) .nil)) .nil)))))
  (.cons (.ret (.bl false))
  .nil)
  .nil)
  (.cons (.set 8 (.call 9 (.cons (.var 3) (.cons (.var 5) (.cons (.var 6) (.cons (.var 9) .nil))))))
  (.cons (.ite (.sc (.or (.cmp .IsNot (.call 10 (.cons (.var 3) (.cons (.var 8) .nil))) (.bl true)) (.cmp .Gt (.blt .len (.cons (.var 8) .nil)) (.var 9))))
  (.cons (.ret (.bl false))
  .nil)
  .nil)
  (.cons (.ite (.sc (.cmp .NotEq (.call 5 (.cons (.var 3) (.cons (.call 6 (.cons (.var 3) (.cons (.var 5) (.cons (.var 6) (.cons (.var 8) .nil))))) .nil))) (.blt .max (.cons (.slv 7 .nop (.bin .Add (.var 9) (.int 1))) .nil))))
  (.cons (.ret (.bl false))
  .nil)
  .nil)
  .nil))))
def l3_law_k16 : Ss := (.cons (.set 2 (.call 0 (.cons (.var 1) (.cons (.int 16) .nil))))
  (.cons (.set 3 (.callm 1 2 (.cons (.int 6) .nil)))
  (.cons (.set 4 (.bin .Add (.int 1) (.callm 2 2 (.cons (.int 4) .nil))))
  (.cons (.set 5 (.blt .tuple (.cons c1_law_k16 .nil)))
  (.cons (.set 6 (.blt .tuple (.cons c2_law_k16 .nil)))
  (.cons (.set 7 (.bin .Mult (.lst (.cons (.int 0) .nil)) (.int 13)))
  (.cons (.fr (.nm 8) (.seq (.call 4 (.cons (.sc (.blt .len (.cons (.var 3) .nil))) .nil))) l1_law_k16)
  (.cons (.fr (.nm 9) (.seq (.lst (.cons (.int 1) (.cons (.int 2) (.cons (.int 3) (.cons (.int 4) (.cons (.int 5) (.cons (.int 6) (.cons (.int 12) .nil))))))))) l2_law_k16)
  .nil))))))))
def b_law_k16 : Ss := (.cons (.fr (.nm 1) (.seq (.slc (.bin .Add (.lst (.cons (.int 0) .nil)) (.var 0)) .nop (.int 5))) l3_law_k16)
  (.cons (.ret (.sc (.cmp .Eq (.call 8 (.cons (.tup (.cons (.int 9) (.cons (.int 4) (.cons (.int 7) (.cons (.int 2) (.cons (.int 7) (.cons (.int 5) .nil))))))) (.cons (.tup (.cons (.int 0) (.cons (.int 0) (.cons (.int 1) (.cons (.int 0) (.cons (.int 1) (.cons (.int 1) .nil))))))) (.cons (.tup (.cons (.int 2) (.cons (.int 3) (.cons (.int 2) (.cons (.int 2) .nil))))) (.cons (.int 2) .nil))))) (.int 9))))
  .nil))
/-- law: _law_script -/
def s_law_k16 (cs : List FSem) : FSem := defSem false 1 13 cs b_law_k16
def t_law_k17 : Tb := ⟨["_law_script", "_law_cell", "_law_source_here", "_law_basket_here", "_law_many", "_law_families", "_law_sizes", "_law_receipts", "_law_expected", "_law_family", "_law_parts", "_law_alone", "_law_some", "_law_item", "_law_best_here", "_law_price", "_law_other"], [("_law_source", false, 2), ("_law_basket", true, 2), ("_law_draw", true, 2), ("_law_best", false, 2), ("_law_equal", false, 2), ("family_saving", false, 4), ("family_splitting", false, 4), ("is_splitting", false, 2), ("_law_sum", false, 2), ("_law_family_free", false, 4), ("greatest_saving", false, 3)], [], [], []⟩
def c1_law_k17 : E := .lc (.callm 2 2 (.cons (.var 4) .nil)) (.nm 13) (.seq (.var 3)) (.bl true)
def c2_law_k17 : E := .lc (.bin .Add (.int 2) (.callm 2 2 (.cons (.int 5) .nil))) (.nm 9) (.rng (.cons (.int 4) .nil)) (.bl true)
def c3_law_k17 : E := .lc (.var 15) (.tp [15, 16]) (.zip (.var 3) (.var 5)) (.sc (.cmp .Eq (.var 16) (.var 9)))
def l1_law_k17 : Ss := (.cons (.set 12 (.blt .tuple (.cons c3_law_k17 .nil)))
  (.cons (.ite (.sc (.cmp .NotEq (.var 12) (.tup .nil)))
  (.cons (.set 14 (.call 3 (.cons (.var 12) (.cons (.ixv 6 (.var 9)) .nil))))
  (.cons (.set 8 (.bin .Add (.var 8) (.ixv 14 (.bin .Sub (.blt .min (.cons (.var 7) (.cons (.sc (.blt .len (.cons (.var 12) .nil))) .nil))) (.int 1)))))
  .nil))
  .nil)
  .nil))
def l2_law_k17 : Ss := (.cons (.set 8 (.int 0))
  (.cons (.fr (.nm 9) (.rng (.cons (.int 4) .nil)) l1_law_k17)
  (.cons (.ite (.sc (.not (.call 4 (.cons (.call 5 (.cons (.var 3) (.cons (.var 5) (.cons (.var 6) (.cons (.var 7) .nil))))) (.cons (.var 8) .nil)))))
  (.cons (.ret (.bl false))
  .nil)
  .nil)
  (.cons (.set 10 (.call 6 (.cons (.var 3) (.cons (.var 5) (.cons (.var 6) (.cons (.var 7) .nil))))))
  (.cons (.ite (.sc (.or (.cmp .IsNot (.call 7 (.cons (.var 3) (.cons (.var 10) .nil))) (.bl true)) (.cmp .Gt (.blt .len (.cons (.var 10) .nil)) (.var 7))))
  (.cons (.ret (.bl false))
  .nil)
  .nil)
  (.cons (.ite (.sc (.cmp .NotEq (.call 8 (.cons (.var 3) (.cons (.call 9 (.cons (.var 3) (.cons (.var 5) (.cons (.var 6) (.cons (.var 10) .nil))))) .nil))) (.var 8)))
  (.cons (.ret (.bl false))
  .nil)
  .nil)
  (.cons (.set 11 (.bin .Mult (.tup (.cons (.int 3) .nil)) (.sc (.blt .len (.cons (.var 3) .nil)))))
  (.cons (.ite (.sc (.cmp .NotEq (.call 5 (.cons (.var 3) (.cons (.var 11) (.cons (.var 6) (.cons (.var 7) .nil))))) (.call 10 (.cons (.var 3) (.cons (.ixv 6 (.int 3)) (.cons (.var 7) .nil))))))
  (.cons (.ret (.bl false))
  .nil)
  .nil)
  .nil))))))))
def l3_law_k17 : Ss := (.cons (.set 2 (.call 0 (.cons (.var 1) (.cons (.int 17) .nil))))
  (.cons (.set 3 (.callm 1 2 (.cons (.int 12) .nil)))
  (.cons (.set 4 (.bin .Add (.int 1) (.callm 2 2 (.cons (.int 4) .nil))))
  (.cons (.set 5 (.blt .tuple (.cons c1_law_k17 .nil)))
  (.cons (.set 6 (.blt .tuple (.cons c2_law_k17 .nil)))
  (.cons (.fr (.nm 7) (.seq (.lst (.cons (.int 1) (.cons (.int 2) (.cons (.int 3) (.cons (.bin .Add (.int 1) (.callm 2 2 (.cons (.int 12) .nil))) (.cons (.int 12) .nil))))))) l2_law_k17)
  .nil))))))
def b_law_k17 : Ss := (.cons (.fr (.nm 1) (.seq (.slc (.bin .Add (.lst (.cons (.int 0) .nil)) (.var 0)) .nop (.int 10))) l3_law_k17)
  (.cons (.ret (.bl true))
  .nil))
/-- law: _law_script -/
def s_law_k17 (cs : List FSem) : FSem := defSem false 1 17 cs b_law_k17
def t_law_k18 : Tb := ⟨["_law_script", "_law_cell", "_law_source_here", "_law_factor", "_law_mixed_here", "_law_larger", "_law_rows", "_law_fee", "_law_some", "_law_receipts", "_law_basket_here", "_law_size", "_law_value", "_law_more", "_law_price"], [("_law_source", false, 2), ("_law_basket", true, 2), ("_law_draw", true, 2), ("_law_mixed", true, 2), ("trade_off", false, 2), ("least_total", false, 3), ("count_sets", false, 2), ("possible_scans", false, 2), ("greatest_saving", false, 3)], [], [], []⟩
def c1_law_k18 : E := .lc (.bin .Mult (.var 14) (.var 3)) (.nm 14) (.seq (.var 10)) (.bl true)
def c2_law_k18 : E := .lc (.bin .Mult (.var 12) (.var 3)) (.nm 12) (.seq (.var 6)) (.bl true)
def c3_law_k18 : E := .lc (.bin .Mult (.var 12) (.var 3)) (.nm 12) (.seq (.var 8)) (.bl true)
def l1_law_k18 : Ss := (.cons (.set 12 (.call 8 (.cons (.var 10) (.cons (.var 11) (.cons (.var 9) .nil)))))
  (.cons (.ite (.sc (.cmp .NotEq (.call 8 (.cons (.var 4) (.cons (.var 11) (.cons (.var 9) .nil)))) (.var 12)))
  (.cons (.ret (.bl false))
  .nil)
  .nil)
  (.cons (.ite (.sc (.cmp .NotEq (.call 8 (.cons (.var 5) (.cons (.var 11) (.cons (.var 9) .nil)))) (.bin .Mult (.var 12) (.var 3))))
  (.cons (.ret (.bl false))
  .nil)
  .nil)
  (.cons (.ite (.sc (.cmp .Lt (.blt .len (.cons (.var 10) .nil)) (.int 12)))
  (.cons (.set 13 (.call 8 (.cons (.bin .Add (.var 10) (.tup (.cons (.bin .Add (.int 1) (.callm 2 2 (.cons (.int 10000) .nil))) .nil))) (.cons (.var 11) (.cons (.int 12) .nil)))))
  (.cons (.ite (.sc (.cmp .Lt (.var 13) (.call 8 (.cons (.var 10) (.cons (.var 11) (.cons (.int 12) .nil))))))
  (.cons (.ret (.bl false))
  .nil)
  .nil)
  .nil))
  .nil)
  .nil))))
def l2_law_k18 : Ss := (.cons (.set 2 (.call 0 (.cons (.var 1) (.cons (.int 18) .nil))))
  (.cons (.par [10, 11] (.cons (.callm 1 2 (.cons (.int 12) .nil)) (.cons (.bin .Add (.int 2) (.callm 2 2 (.cons (.int 5) .nil))) .nil)))
  (.cons (.set 3 (.bin .Add (.int 1) (.callm 2 2 (.cons (.bin .FloorDiv (.int 10000) (.blt .max (.cons (.var 10) .nil))) .nil))))
  (.cons (.set 4 (.callm 3 2 (.cons (.var 10) .nil)))
  (.cons (.set 5 (.blt .tuple (.cons c1_law_k18 .nil)))
  (.cons (.set 6 (.call 4 (.cons (.var 10) (.cons (.var 11) .nil))))
  (.cons (.ite (.sc (.or (.cmp .NotEq (.call 4 (.cons (.var 4) (.cons (.var 11) .nil))) (.var 6)) (.cmp .NotEq (.call 4 (.cons (.var 5) (.cons (.var 11) .nil))) c2_law_k18)))
  (.cons (.ret (.bl false))
  .nil)
  .nil)
  (.cons (.set 7 (.callm 2 2 (.cons (.bin .Add (.bin .FloorDiv (.int 10000) (.var 3)) (.int 1)) .nil)))
  (.cons (.ite (.sc (.cmp .NotEq (.call 5 (.cons (.var 4) (.cons (.var 11) (.cons (.var 7) .nil)))) (.call 5 (.cons (.var 10) (.cons (.var 11) (.cons (.var 7) .nil))))))
  (.cons (.ret (.bl false))
  .nil)
  .nil)
  (.cons (.ite (.sc (.cmp .NotEq (.call 5 (.cons (.var 5) (.cons (.var 11) (.cons (.bin .Mult (.var 7) (.var 3)) .nil)))) (.bin .Mult (.call 5 (.cons (.var 10) (.cons (.var 11) (.cons (.var 7) .nil)))) (.var 3))))
  (.cons (.ret (.bl false))
  .nil)
  .nil)
  (.cons (.ite (.sc (.cmp .NotEq (.call 6 (.cons (.var 4) (.cons (.var 11) .nil))) (.call 6 (.cons (.var 10) (.cons (.var 11) .nil)))))
  (.cons (.ret (.bl false))
  .nil)
  .nil)
  (.cons (.set 8 (.call 7 (.cons (.var 10) (.cons (.var 11) .nil))))
  (.cons (.ite (.sc (.cmp .NotEq (.call 7 (.cons (.var 4) (.cons (.var 11) .nil))) (.var 8)))
  (.cons (.ret (.bl false))
  .nil)
  .nil)
  (.cons (.ite (.sc (.cmp .NotEq (.call 7 (.cons (.var 5) (.cons (.var 11) .nil))) c3_law_k18))
  (.cons (.ret (.bl false))
  .nil)
  .nil)
  (.cons (.fr (.nm 9) (.seq (.tup (.cons (.int 1) (.cons (.int 2) (.cons (.int 12) .nil))))) l1_law_k18)
  .nil)))))))))))))))
def b_law_k18 : Ss := (.cons (.fr (.nm 1) (.seq (.slc (.bin .Add (.lst (.cons (.int 0) .nil)) (.var 0)) .nop (.int 10))) l2_law_k18)
  (.cons (.ret (.bl true))
  .nil))
/-- law: _law_script -/
def s_law_k18 (cs : List FSem) : FSem := defSem false 1 15 cs b_law_k18
def t_law_row_k19 : Tb := ⟨["_law_basket", "_law_pairs", "_law_pair", "_law_item", "_law_price"], [], [], [], []⟩
def c1_law_row_k19 : E := .lc (.tup (.cons (.bin .Sub (.bin .Pow (.int 10) (.int 6)) (.var 4)) (.cons (.var 3) .nil))) (.tp [3, 4]) (.enu (.var 0)) (.bl true)
def c2_law_row_k19 : E := .lc (.ixv 2 (.int 1)) (.nm 2) (.seq (.var 1)) (.bl true)
def b_law_row_k19 : Ss := (.cons (.set 1 (.blt .sorted (.cons c1_law_row_k19 .nil)))
  (.cons (.ret c2_law_row_k19)
  .nil))
/-- _law_row: _law_basket -/
def s_law_row_k19 (cs : List FSem) : FSem := defSem false 1 5 cs b_law_row_k19
def t_law_best_k19 : Tb := ⟨["_law_basket", "_law_size", "_law_prices", "_law_count", "_law_best_here", "_law_found", "_law_turn", "_law_later", "_law_last", "_law_item", "_law_some", "_law_first"], [("_law_row", false, 1), ("_law_block", false, 4)], [], [], []⟩
def c1_law_best_k19 : E := .lc (.ixv 0 (.var 9)) (.nm 9) (.seq (.call 0 (.cons (.var 0) .nil))) (.bl true)
def c2_law_best_k19 : E := .lc (.call 1 (.cons (.var 2) (.cons (.var 1) (.cons (.int 0) (.cons (.var 8) .nil))))) (.nm 8) (.rng (.cons (.bin .Add (.var 3) (.int 1)) .nil)) (.bl true)
def c3_law_best_k19 : E := .lc (.bin .Add (.ixv 4 (.var 11)) (.call 1 (.cons (.var 2) (.cons (.var 1) (.cons (.var 11) (.cons (.var 8) .nil)))))) (.nm 11) (.rng (.cons (.bin .Add (.var 8) (.int 1)) .nil)) (.bl true)
def l1_law_best_k19 : Ss := (.cons (.set 10 c3_law_best_k19)
  (.cons (.app 7 (.blt .max (.cons (.var 10) .nil)))
  .nil))
def l2_law_best_k19 : Ss := (.cons (.set 7 (.lst .nil))
  (.cons (.fr (.nm 8) (.rng (.cons (.bin .Add (.var 3) (.int 1)) .nil)) l1_law_best_k19)
  (.cons (.set 4 (.var 7))
  (.cons (.app 5 (.ixv 4 (.var 3)))
  .nil))))
def b_law_best_k19 : Ss := (.cons (.set 2 c1_law_best_k19)
  (.cons (.set 3 (.sc (.blt .len (.cons (.var 2) .nil))))
  (.cons (.set 4 c2_law_best_k19)
  (.cons (.set 5 (.lst (.cons (.ixv 4 (.var 3)) .nil)))
  (.cons (.fr (.nm 6) (.rng (.cons (.bin .Sub (.var 3) (.int 1)) .nil)) l2_law_best_k19)
  (.cons (.ret (.mv 5))
  .nil))))))
/-- _law_best: _law_basket, _law_size -/
def s_law_best_k19 (cs : List FSem) : FSem := defSem false 2 12 cs b_law_best_k19
def t_law_call : Tb := ⟨["_law_source_here", "_law_prices", "_law_word", "_law_odd"], [("_law_choice", true, 2), ("_law_draw", true, 2)], [], [], []⟩
def b_law_call : Ss := (.cons (.set 2 (.callm 0 0 (.cons (.lst (.cons (.str "add") (.cons (.str "add") (.cons (.str "add") (.cons (.str "remove") (.cons (.str "undo") .nil)))))) .nil)))
  (.cons (.set 3 (.callm 0 0 (.cons (.lst (.cons .non (.cons (.bl true) (.cons (.int 0) (.cons (.neg (.int 1)) (.cons (.int 10001) (.cons (.str "1") (.cons (.bin .Add (.sc (.blt .len (.cons (.var 1) .nil))) (.int 1)) .nil)))))))) .nil)))
  (.cons (.ite (.sc (.cmp .Eq (.var 2) (.str "add")))
  (.cons (.ret (.tup (.cons (.var 2) (.cons (.ite (.cmp .Eq (.callm 1 0 (.cons (.int 7) .nil)) (.int 0)) (.var 3) (.bin .Add (.int 1) (.callm 1 0 (.cons (.callm 0 0 (.cons (.lst (.cons (.int 5) (.cons (.int 10000) .nil))) .nil)) .nil)))) .nil))))
  .nil)
  .nil)
  (.cons (.ret (.tup (.cons (.var 2) (.cons (.ite (.cmp .Eq (.callm 1 0 (.cons (.int 5) .nil)) (.int 0)) (.var 3) (.callm 1 0 (.cons (.bin .Add (.sc (.blt .len (.cons (.var 1) .nil))) (.int 1)) .nil))) .nil))))
  .nil))))
/-- _law_call: _law_source_here, _law_prices -/
def s_law_call (cs : List FSem) : FSem := defSem true 2 4 cs b_law_call
def t_law_error : Tb := ⟨["_law_states", "_law_call_here", "_law_word", "_law_value"], [("_law_is_int", false, 1)], [], [], []⟩
def b_law_error : Ss := (.cons (.unp [2, 3] (.var 1))
  (.cons (.ite (.sc (.cmp .Eq (.var 2) (.str "undo")))
  (.cons (.ret (.ite (.sc (.cmp .Eq (.blt .len (.cons (.var 0) .nil)) (.int 1))) (.str "NothingToUndo+") (.str "")))
  .nil)
  .nil)
  (.cons (.ite (.sc (.cmp .Eq (.var 2) (.str "remove")))
  (.cons (.ret (.ite (.sc (.and (.call 0 (.cons (.var 3) .nil)) (.chain .LtE .Lt (.int 0) (.var 3) (.blt .len (.cons (.ixv 0 (.neg (.int 1))) .nil))))) (.str "") (.str "InvalidIndex+")))
  .nil)
  .nil)
  (.cons (.ite (.sc (.or (.not (.call 0 (.cons (.var 3) .nil))) (.not (.chain .LtE .LtE (.int 1) (.var 3) (.int 10000)))))
  (.cons (.ret (.str "InvalidPrice+"))
  .nil)
  .nil)
  (.cons (.ret (.ite (.sc (.cmp .Eq (.blt .len (.cons (.ixv 0 (.neg (.int 1))) .nil)) (.int 12))) (.str "TooMany+") (.str "")))
  .nil)))))
/-- _law_error: _law_states, _law_call_here -/
def s_law_error (cs : List FSem) : FSem := defSem false 2 4 cs b_law_error
def t_law_next : Tb := ⟨["_law_states", "_law_call_here", "_law_prices", "_law_word", "_law_value"], [], [], [], []⟩
def b_law_next : Ss := (.cons (.unp [3, 4] (.var 1))
  (.cons (.set 2 (.ixv 0 (.neg (.int 1))))
  (.cons (.ite (.sc (.cmp .Eq (.var 3) (.str "undo")))
  (.cons (.ret (.tup (.cons (.slv 0 .nop (.neg (.int 1))) (.cons .non .nil))))
  .nil)
  .nil)
  (.cons (.ite (.sc (.cmp .Eq (.var 3) (.str "remove")))
  (.cons (.ret (.tup (.cons (.bin .Add (.var 0) (.lst (.cons (.bin .Add (.slv 2 .nop (.var 4)) (.slv 2 (.bin .Add (.var 4) (.int 1)) .nop)) .nil))) (.cons (.ixv 2 (.var 4)) .nil))))
  .nil)
  .nil)
  (.cons (.ret (.tup (.cons (.bin .Add (.var 0) (.lst (.cons (.bin .Add (.var 2) (.tup (.cons (.var 4) .nil))) .nil))) (.cons (.sc (.blt .len (.cons (.var 2) .nil))) .nil))))
  .nil)))))
/-- _law_next: _law_states, _law_call_here -/
def s_law_next (cs : List FSem) : FSem := defSem false 2 5 cs b_law_next
def t_wall : Tb := ⟨["k"], [], [], [], []⟩
def l1_wall : Ss := (.cons .pas
  .nil)
def b_wall : Ss := (.cons (.whl (.bl true) l1_wall)
  .nil)
/-- _wall: k -/
def s_wall (cs : List FSem) : FSem := defSem false 1 1 cs b_wall
def t_law_all_raise : Tb := ⟨["_law_calls", "_law_name", "_law_call"], [("_law_outcome", false, 1)], [], [], []⟩
def c1_law_all_raise : E := .lc (.var 2) (.nm 2) (.seq (.var 0)) (.sc (.cmp .NotEq (.call 0 (.cons (.var 2) .nil)) (.var 1)))
def b_law_all_raise : Ss := (.cons (.ret (.sc (.cmp .Eq c1_law_all_raise (.lst .nil))))
  .nil)
/-- _law_all_raise: _law_calls, _law_name -/
def s_law_all_raise (cs : List FSem) : FSem := defSem false 2 3 cs b_law_all_raise
def t_law_equal_right : Tb := ⟨["_law_many", "_law_size", "_law_price", "_law_basket", "_law_full"], [("trade_off", false, 2), ("possible_scans", false, 2), ("least_total", false, 3), ("row", false, 1), ("fewest_receipts", false, 3)], [], [], []⟩
def b_law_equal_right : Ss := (.cons (.par [3, 4] (.cons (.bin .Mult (.tup (.cons (.var 2) .nil)) (.var 0)) (.cons (.bin .FloorDiv (.var 0) (.var 1)) .nil)))
  (.cons (.ite (.sc (.or (.cmp .NotEq (.call 0 (.cons (.var 3) (.cons (.var 1) .nil))) (.lst (.cons (.bin .Mult (.var 4) (.var 2)) .nil))) (.cmp .NotEq (.call 1 (.cons (.var 3) (.cons (.var 1) .nil))) (.lst (.cons (.bin .Mult (.var 4) (.var 2)) .nil)))))
  (.cons (.ret (.bl false))
  .nil)
  .nil)
  (.cons (.ite (.sc (.or (.cmp .NotEq (.call 2 (.cons (.var 3) (.cons (.var 1) (.cons (.int 5) .nil)))) (.bin .Add (.bin .Mult (.bin .Sub (.var 0) (.var 4)) (.var 2)) (.int 5))) (.cmp .NotEq (.call 3 (.cons (.var 3) .nil)) (.trng .tuple (.cons (.var 0) .nil)))))
  (.cons (.ret (.bl false))
  .nil)
  .nil)
  (.cons (.ret (.sc (.cmp .Is (.call 4 (.cons (.var 3) (.cons (.var 1) (.cons (.bin .Add (.bin .Mult (.var 4) (.var 2)) (.int 1)) .nil)))) .non)))
  .nil))))
/-- _law_equal_right: _law_many, _law_size, _law_price -/
def s_law_equal_right (cs : List FSem) : FSem := defSem false 3 5 cs b_law_equal_right
def t_law_k22 : Tb := ⟨["_law_script", "_law_cell", "_law_source_here", "_law_size"], [("_law_source", false, 2), ("_law_draw", true, 2), ("_law_equal_right", false, 3), ("_law_stairs_right", false, 2), ("_law_document_right", false, 0)], [], [], []⟩
def l1_law_k22 : Ss := (.cons (.set 2 (.call 0 (.cons (.var 1) (.cons (.int 22) .nil))))
  (.cons (.set 3 (.bin .Add (.int 2) (.callm 1 2 (.cons (.int 5) .nil))))
  (.cons (.ite (.not (.call 2 (.cons (.bin .Add (.int 1) (.callm 1 2 (.cons (.int 12) .nil))) (.cons (.var 3) (.cons (.bin .Add (.int 1) (.callm 1 2 (.cons (.int 10000) .nil))) .nil)))))
  (.cons (.ret (.bl false))
  .nil)
  .nil)
  (.cons (.ite (.not (.call 3 (.cons (.bin .Add (.int 1) (.callm 1 2 (.cons (.bin .FloorDiv (.int 12) (.var 3)) .nil))) (.cons (.var 3) .nil))))
  (.cons (.ret (.bl false))
  .nil)
  .nil)
  .nil))))
def b_law_k22 : Ss := (.cons (.fr (.nm 1) (.seq (.slc (.bin .Add (.lst (.cons (.int 0) .nil)) (.var 0)) .nop (.int 4))) l1_law_k22)
  (.cons (.ret (.call 4 .nil))
  .nil))
/-- law: _law_script -/
def s_law_k22 (cs : List FSem) : FSem := defSem false 1 4 cs b_law_k22
def t_choose : Tb := ⟨["total", "chosen", "found", "at"], [], [], [], []⟩
def l1_choose : Ss := (.cons (.set 2 (.bin .FloorDiv (.bin .Mult (.var 2) (.bin .Sub (.var 0) (.var 3))) (.bin .Add (.var 3) (.int 1))))
  .nil)
def b_choose : Ss := (.cons (.set 2 (.ite (.sc (.cmp .LtE (.var 1) (.var 0))) (.int 1) (.int 0)))
  (.cons (.fr (.nm 3) (.rng (.cons (.var 1) .nil)) l1_choose)
  (.cons (.ret (.mv 2))
  .nil)))
/-- choose: total, chosen -/
def s_choose (cs : List FSem) : FSem := defSem false 2 4 cs b_choose
def t_reduced : Tb := ⟨["top", "bottom", "first", "second"], [], [], [], []⟩
def l1_reduced : Ss := (.cons (.par [2, 3] (.cons (.var 3) (.cons (.bin .Mod (.var 2) (.var 3)) .nil)))
  .nil)
def b_reduced : Ss := (.cons (.par [2, 3] (.cons (.var 0) (.cons (.var 1) .nil)))
  (.cons (.whl (.sc (.cmp .Gt (.var 3) (.int 0))) l1_reduced)
  (.cons (.ret (.tup (.cons (.bin .FloorDiv (.var 0) (.var 2)) (.cons (.bin .FloorDiv (.var 1) (.var 2)) .nil))))
  .nil)))
/-- reduced: top, bottom -/
def s_reduced (cs : List FSem) : FSem := defSem false 2 4 cs b_reduced
def t_weight_of : Tb := ⟨["count", "size", "place"], [("choose", false, 2)], [], [], []⟩
def b_weight_of : Ss := (.cons (.ret (.bin .Mult (.bin .FloorDiv (.var 0) (.var 1)) (.call 0 (.cons (.var 2) (.cons (.bin .Sub (.var 1) (.int 1)) .nil)))))
  .nil)
/-- weight_of: count, size, place -/
def s_weight_of (cs : List FSem) : FSem := defSem false 3 3 cs b_weight_of
def t_chance_free : Tb := ⟨["basket", "size", "index", "place"], [("check_offer", false, 2), ("is_between", false, 3), ("row_of", false, 1), ("reduced", false, 2), ("weight_of", false, 3), ("choose", false, 2)], [], [], ["InvalidIndex"]⟩
def b_chance_free : Ss := (.cons (.exp (.call 0 (.cons (.var 0) (.cons (.var 1) .nil))))
  (.cons (.ite (.sc (.not (.call 1 (.cons (.var 2) (.cons (.int 0) (.cons (.bin .Sub (.sc (.blt .len (.cons (.var 0) .nil))) (.int 1)) .nil))))))
  (.cons (.rai "InvalidIndex")
  .nil)
  .nil)
  (.cons (.set 3 (.idx (.call 2 (.cons (.var 0) .nil)) (.var 2)))
  (.cons (.ite (.sc (.cmp .Lt (.blt .len (.cons (.var 0) .nil)) (.var 1)))
  (.cons (.ret (.tup (.cons (.int 0) (.cons (.int 1) .nil))))
  .nil)
  .nil)
  (.cons (.ret (.call 3 (.cons (.call 4 (.cons (.sc (.blt .len (.cons (.var 0) .nil))) (.cons (.var 1) (.cons (.var 3) .nil)))) (.cons (.call 5 (.cons (.sc (.blt .len (.cons (.var 0) .nil))) (.cons (.var 1) .nil))) .nil))))
  .nil)))))
/-- chance_free: basket, size, index -/
def s_chance_free (cs : List FSem) : FSem := defSem false 3 4 cs b_chance_free
def t_law_source_k23 : Tb := ⟨["_law_cell", "_law_turn"], [], [], [], []⟩
def b_law_source_k23 : Ss := (.cons (.ite (.sc (.cmp .GtE (.var 0) (.bin .Pow (.int 10) (.int 18))))
  (.cons (.ret (.lst (.cons (.bin .Sub (.var 0) (.bin .Pow (.int 10) (.int 18))) (.cons (.bin .Mod (.blt .int (.cons (.var 0) .nil)) (.int 2147483579)) (.cons (.var 1) .nil)))))
  .nil)
  .nil)
  (.cons (.ret (.lst (.cons (.int 0) (.cons (.bin .Mod (.blt .int (.cons (.var 0) .nil)) (.int 2147483579)) (.cons (.var 1) .nil)))))
  .nil))
/-- _law_source: _law_cell, _law_turn -/
def s_law_source_k23 (cs : List FSem) : FSem := defSem false 2 2 cs b_law_source_k23
def t_law_draw_k23 : Tb := ⟨["_law_source_here", "_law_size", "_law_number", "_law_drawn"], [], [], [], []⟩
def b_law_draw_k23 : Ss := (.cons (.ite (.sc (.cmp .Gt (.ixv 0 (.int 0)) (.int 1)))
  (.cons (.set 3 (.bin .Mod (.blt .int (.cons (.ixv 0 (.int 0)) .nil)) (.var 1)))
  (.cons (.stx 0 (.int 0) (.bin .FloorDiv (.ixv 0 (.int 0)) (.var 1)))
  (.cons (.ret (.mv 3))
  .nil)))
  .nil)
  (.cons (.stx 0 (.int 2) (.bin .Add (.ixv 0 (.int 2)) (.int 1)))
  (.cons (.set 2 (.bin .Mod (.blt .int (.cons (.bin .Pow (.bin .Add (.ixv 0 (.int 1)) (.bin .Mult (.int 15485867) (.ixv 0 (.int 2)))) (.int 5)) .nil)) (.int 2147483647)))
  (.cons (.set 3 (.bin .FloorDiv (.bin .Mod (.blt .int (.cons (.bin .Pow (.bin .Add (.var 2) (.bin .Mult (.int 7919) (.ixv 0 (.int 2)))) (.int 3)) .nil)) (.int 2147483629)) (.int 32)))
  (.cons (.ret (.bin .Mod (.blt .int (.cons (.var 3) .nil)) (.var 1)))
  .nil)))))
/-- _law_draw: _law_source_here, _law_size -/
def s_law_draw_k23 (cs : List FSem) : FSem := defSem true 2 4 cs b_law_draw_k23
def t_law_gcd : Tb := ⟨["_law_one", "_law_other", "_law_first", "_law_second"], [], [], [], []⟩
def l1_law_gcd : Ss := (.cons (.par [2, 3] (.cons (.var 3) (.cons (.bin .Mod (.blt .int (.cons (.var 2) .nil)) (.var 3)) .nil)))
  .nil)
def b_law_gcd : Ss := (.cons (.par [2, 3] (.cons (.var 0) (.cons (.var 1) .nil)))
  (.cons (.whl (.sc (.cmp .Gt (.var 3) (.int 0))) l1_law_gcd)
  (.cons (.ret (.mv 2))
  .nil)))
/-- _law_gcd: _law_one, _law_other -/
def s_law_gcd (cs : List FSem) : FSem := defSem false 2 4 cs b_law_gcd
def t_law_low : Tb := ⟨["_law_top", "_law_bottom", "_law_divide"], [("_law_gcd", false, 2)], [], [], []⟩
def b_law_low : Ss := (.cons (.set 2 (.call 0 (.cons (.var 0) (.cons (.var 1) .nil))))
  (.cons (.ret (.tup (.cons (.bin .FloorDiv (.var 0) (.var 2)) (.cons (.bin .FloorDiv (.var 1) (.var 2)) .nil))))
  .nil))
/-- _law_low: _law_top, _law_bottom -/
def s_law_low (cs : List FSem) : FSem := defSem false 2 3 cs b_law_low
def t_law_free_scan : Tb := ⟨["_law_basket_here", "_law_size", "_law_order", "_law_start", "_law_places", "_law_found", "_law_item"], [("_law_row", false, 1)], [], [], []⟩
def c1_law_free_scan : E := .lc (.idx (.var 4) (.var 6)) (.nm 6) (.seq (.slv 2 (.var 3) (.bin .Add (.var 3) (.var 1)))) (.bl true)
def l1_law_free_scan : Ss := (.cons (.app 5 (.ixv 4 (.blt .max (.cons c1_law_free_scan .nil))))
  .nil)
def b_law_free_scan : Ss := (.cons (.par [4, 5] (.cons (.call 0 (.cons (.var 0) .nil)) (.cons (.lst .nil) .nil)))
  (.cons (.fr (.nm 3) (.rng (.cons (.int 0) (.cons (.bin .Add (.bin .Sub (.sc (.blt .len (.cons (.var 2) .nil))) (.var 1)) (.int 1)) (.cons (.var 1) .nil)))) l1_law_free_scan)
  (.cons (.ret (.mv 5))
  .nil)))
/-- _law_free_scan: _law_basket_here, _law_size, _law_order -/
def s_law_free_scan (cs : List FSem) : FSem := defSem false 3 7 cs b_law_free_scan
def t_law_binomial : Tb := ⟨["_law_total", "_law_chosen", "_law_found", "_law_at"], [], [], [], []⟩
def l1_law_binomial : Ss := (.cons (.set 2 (.bin .FloorDiv (.bin .Mult (.var 2) (.bin .Sub (.var 0) (.var 3))) (.bin .Add (.var 3) (.int 1))))
  .nil)
def b_law_binomial : Ss := (.cons (.ite (.sc (.not (.chain .LtE .LtE (.int 0) (.var 1) (.var 0))))
  (.cons (.ret (.int 0))
  .nil)
  .nil)
  (.cons (.set 2 (.int 1))
  (.cons (.fr (.nm 3) (.rng (.cons (.var 1) .nil)) l1_law_binomial)
  (.cons (.ret (.mv 2))
  .nil))))
/-- _law_binomial: _law_total, _law_chosen -/
def s_law_binomial (cs : List FSem) : FSem := defSem false 2 4 cs b_law_binomial
def t_law_k23 : Tb := ⟨["_law_script", "_law_cell", "_law_basket_here", "_law_source_here", "_law_every", "_law_order", "_law_item", "_law_size", "_law_count", "_law_times", "_law_before", "_law_total", "_law_place", "_law_found", "_law_top", "_law_bottom"], [("_law_source", false, 2), ("_law_basket", true, 2), ("_law_draw", true, 2), ("_law_orders", false, 1), ("_law_free_scan", false, 3), ("_law_equal", false, 2), ("chance_free", false, 3), ("_law_low", false, 2), ("row", false, 1), ("_law_binomial", false, 2)], [], [], []⟩
def l1_law_k23 : Ss := (.cons (.stx 9 (.var 6) (.bin .Add (.ixv 9 (.var 6)) (.int 1)))
  .nil)
def l2_law_k23 : Ss := (.cons (.fr (.nm 6) (.seq (.call 4 (.cons (.var 2) (.cons (.var 7) (.cons (.var 5) .nil))))) l1_law_k23)
  .nil)
def l3_law_k23 : Ss := (.cons (.ite (.sc (.not (.call 5 (.cons (.call 6 (.cons (.var 2) (.cons (.var 7) (.cons (.var 6) .nil)))) (.cons (.call 7 (.cons (.ixv 9 (.var 6)) (.cons (.sc (.blt .len (.cons (.var 4) .nil))) .nil))) .nil)))))
  (.cons (.ret (.bl false))
  .nil)
  .nil)
  .nil)
def l4_law_k23 : Ss := (.cons (.set 13 (.call 6 (.cons (.var 2) (.cons (.var 7) (.cons (.var 6) .nil)))))
  (.cons (.set 14 (.bin .Mult (.bin .FloorDiv (.var 8) (.var 7)) (.call 9 (.cons (.var 12) (.cons (.bin .Sub (.var 7) (.int 1)) .nil)))))
  (.cons (.set 15 (.blt .max (.cons (.int 1) (.cons (.call 9 (.cons (.var 8) (.cons (.var 7) .nil))) .nil))))
  (.cons (.ite (.sc (.or (.cmp .NotEq (.var 13) (.call 7 (.cons (.var 14) (.cons (.var 15) .nil)))) (.cmp .Lt (.bin .Mult (.ixv 13 (.int 0)) (.ixv 10 (.int 1))) (.bin .Mult (.ixv 10 (.int 0)) (.ixv 13 (.int 1))))))
  (.cons (.ret (.bl false))
  .nil)
  .nil)
  (.cons (.par [10, 11] (.cons (.var 13) (.cons (.bin .Add (.var 11) (.var 14)) .nil)))
  .nil)))))
def l5_law_k23 : Ss := (.cons (.set 3 (.call 0 (.cons (.var 1) (.cons (.int 23) .nil))))
  (.cons (.par [2, 7] (.cons (.callm 1 3 (.cons (.int 6) .nil)) (.cons (.bin .Add (.int 2) (.callm 2 3 (.cons (.int 5) .nil))) .nil)))
  (.cons (.par [8, 9] (.cons (.sc (.blt .len (.cons (.var 2) .nil))) (.cons (.bin .Mult (.lst (.cons (.int 0) .nil)) (.sc (.blt .len (.cons (.var 2) .nil)))) .nil)))
  (.cons (.set 4 (.call 3 (.cons (.var 8) .nil)))
  (.cons (.fr (.nm 5) (.seq (.var 4)) l2_law_k23)
  (.cons (.fr (.nm 6) (.rng (.cons (.var 8) .nil)) l3_law_k23)
  (.cons (.par [2, 7] (.cons (.callm 1 3 (.cons (.int 12) .nil)) (.cons (.bin .Add (.int 2) (.callm 2 3 (.cons (.int 5) .nil))) .nil)))
  (.cons (.par [8, 10, 11] (.cons (.sc (.blt .len (.cons (.var 2) .nil))) (.cons (.tup (.cons (.int 0) (.cons (.int 1) .nil))) (.cons (.int 0) .nil))))
  (.cons (.fr (.tp [12, 6]) (.enu (.call 8 (.cons (.var 2) .nil))) l4_law_k23)
  (.cons (.ite (.sc (.cmp .NotEq (.var 11) (.bin .Mult (.bin .FloorDiv (.var 8) (.var 7)) (.call 9 (.cons (.var 8) (.cons (.var 7) .nil))))))
  (.cons (.ret (.bl false))
  .nil)
  .nil)
  .nil))))))))))
def c1_law_k23 : E := .lc (.call 6 (.cons (.var 2) (.cons (.int 3) (.cons (.var 6) .nil)))) (.nm 6) (.seq (.tup (.cons (.int 4) (.cons (.int 0) (.cons (.int 3) .nil))))) (.bl true)
def b_law_k23 : Ss := (.cons (.fr (.nm 1) (.seq (.slc (.bin .Add (.lst (.cons (.int 0) .nil)) (.var 0)) .nop (.int 8))) l5_law_k23)
  (.cons (.set 2 (.tup (.cons (.int 9) (.cons (.int 4) (.cons (.int 7) (.cons (.int 2) (.cons (.int 7) (.cons (.int 5) .nil))))))))
  (.cons (.ret (.sc (.cmp .Eq c1_law_k23 (.lst (.cons (.tup (.cons (.int 1) (.cons (.int 10) .nil))) (.cons (.tup (.cons (.int 0) (.cons (.int 1) .nil))) (.cons (.tup (.cons (.int 1) (.cons (.int 1) .nil))) .nil)))))))
  .nil)))
/-- law: _law_script -/
def s_law_k23 (cs : List FSem) : FSem := defSem false 1 16 cs b_law_k23
def t_mean_scan : Tb := ⟨["basket", "size", "count", "total", "place", "item"], [("check_offer", false, 2), ("row_of", false, 1), ("weight_of", false, 3), ("reduced", false, 2), ("choose", false, 2)], [], [], []⟩
def c1_mean_scan : E := .lc (.bin .Mult (.ixv 0 (.var 5)) (.call 2 (.cons (.var 2) (.cons (.var 1) (.cons (.var 4) .nil))))) (.tp [4, 5]) (.enu (.call 1 (.cons (.var 0) .nil))) (.bl true)
def b_mean_scan : Ss := (.cons (.exp (.call 0 (.cons (.var 0) (.cons (.var 1) .nil))))
  (.cons (.set 2 (.sc (.blt .len (.cons (.var 0) .nil))))
  (.cons (.ite (.sc (.cmp .Lt (.var 2) (.var 1)))
  (.cons (.ret (.tup (.cons (.int 0) (.cons (.int 1) .nil))))
  .nil)
  .nil)
  (.cons (.set 3 (.sc (.blt .sum (.cons c1_mean_scan .nil))))
  (.cons (.ret (.call 3 (.cons (.var 3) (.cons (.call 4 (.cons (.var 2) (.cons (.var 1) .nil))) .nil))))
  .nil)))))
/-- mean_scan: basket, size -/
def s_mean_scan (cs : List FSem) : FSem := defSem false 2 6 cs b_mean_scan
def t_law_total : Tb := ⟨["_law_rows", "_law_upper", "_law_lower", "_law_top", "_law_bottom"], [("_law_low", false, 2)], [], [], []⟩
def l1_law_total : Ss := (.cons (.set 1 (.bin .Add (.bin .Mult (.var 1) (.var 4)) (.bin .Mult (.var 3) (.var 2))))
  (.cons (.set 2 (.bin .Mult (.var 2) (.var 4)))
  .nil))
def b_law_total : Ss := (.cons (.par [1, 2] (.cons (.int 0) (.cons (.int 1) .nil)))
  (.cons (.fr (.tp [3, 4]) (.seq (.var 0)) l1_law_total)
  (.cons (.ret (.call 0 (.cons (.var 1) (.cons (.var 2) .nil))))
  .nil)))
/-- _law_total: _law_rows -/
def s_law_total (cs : List FSem) : FSem := defSem false 1 5 cs b_law_total
def t_law_k24 : Tb := ⟨["_law_script", "_law_cell", "_law_source_here", "_law_every", "_law_total_here", "_law_basket_here", "_law_factor", "_law_some", "_law_size", "_law_mean", "_law_rows", "_law_item", "_law_price", "_law_top", "_law_bottom", "_law_order"], [("_law_source", false, 2), ("_law_basket", true, 2), ("_law_draw", true, 2), ("_law_orders", false, 1), ("_law_scanned", false, 3), ("_law_equal", false, 2), ("mean_scan", false, 2), ("_law_low", false, 2), ("chance_free", false, 3), ("_law_total", false, 1), ("possible_scans", false, 2)], [], [], []⟩
def c1_law_k24 : E := .lc (.call 4 (.cons (.var 5) (.cons (.var 8) (.cons (.var 15) .nil)))) (.nm 15) (.seq (.var 3)) (.bl true)
def c2_law_k24 : E := .lc (.bin .Add (.int 1) (.callm 2 2 (.cons (.int 900) .nil))) (.nm 11) (.rng (.cons (.bin .Add (.int 1) (.callm 2 2 (.cons (.int 12) .nil))) .nil)) (.bl true)
def l1_law_k24 : Ss := (.cons (.unp [13, 14] (.call 8 (.cons (.var 5) (.cons (.var 8) (.cons (.var 11) .nil)))))
  (.cons (.app 10 (.tup (.cons (.bin .Mult (.var 13) (.var 12)) (.cons (.var 14) .nil))))
  .nil))
def c3_law_k24 : E := .lc (.bin .Mult (.var 12) (.var 6)) (.nm 12) (.seq (.var 5)) (.bl true)
def l2_law_k24 : Ss := (.cons (.set 2 (.call 0 (.cons (.var 1) (.cons (.int 24) .nil))))
  (.cons (.par [5, 8] (.cons (.callm 1 2 (.cons (.int 6) .nil)) (.cons (.bin .Add (.int 2) (.callm 2 2 (.cons (.int 5) .nil))) .nil)))
  (.cons (.set 3 (.call 3 (.cons (.sc (.blt .len (.cons (.var 5) .nil))) .nil)))
  (.cons (.set 4 (.sc (.blt .sum (.cons c1_law_k24 .nil))))
  (.cons (.ite (.sc (.not (.call 5 (.cons (.call 6 (.cons (.var 5) (.cons (.var 8) .nil))) (.cons (.call 7 (.cons (.var 4) (.cons (.sc (.blt .len (.cons (.var 3) .nil))) .nil))) .nil)))))
  (.cons (.ret (.bl false))
  .nil)
  .nil)
  (.cons (.set 5 (.blt .tuple (.cons c2_law_k24 .nil)))
  (.cons (.par [9, 10] (.cons (.call 6 (.cons (.var 5) (.cons (.var 8) .nil))) (.cons (.lst .nil) .nil)))
  (.cons (.fr (.tp [11, 12]) (.enu (.var 5)) l1_law_k24)
  (.cons (.ite (.sc (.not (.call 5 (.cons (.var 9) (.cons (.call 9 (.cons (.var 10) .nil)) .nil)))))
  (.cons (.ret (.bl false))
  .nil)
  .nil)
  (.cons (.set 6 (.bin .Add (.int 1) (.callm 2 2 (.cons (.int 10) .nil))))
  (.cons (.ite (.sc (.cmp .NotEq (.call 6 (.cons (.blt .tuple (.cons c3_law_k24 .nil)) (.cons (.var 8) .nil))) (.call 7 (.cons (.bin .Mult (.ixv 9 (.int 0)) (.var 6)) (.cons (.ixv 9 (.int 1)) .nil)))))
  (.cons (.ret (.bl false))
  .nil)
  .nil)
  (.cons (.set 7 (.call 10 (.cons (.var 5) (.cons (.var 8) .nil))))
  (.cons (.ite (.sc (.not (.chain .LtE .LtE (.bin .Mult (.ixv 7 (.int 0)) (.ixv 9 (.int 1))) (.ixv 9 (.int 0)) (.bin .Mult (.ixv 7 (.neg (.int 1))) (.ixv 9 (.int 1))))))
  (.cons (.ret (.bl false))
  .nil)
  .nil)
  .nil)))))))))))))
def b_law_k24 : Ss := (.cons (.fr (.nm 1) (.seq (.slc (.bin .Add (.lst (.cons (.int 0) .nil)) (.var 0)) .nop (.int 8))) l2_law_k24)
  (.cons (.ret (.sc (.and (.cmp .Eq (.call 6 (.cons (.tup (.cons (.int 9) (.cons (.int 4) (.cons (.int 7) (.cons (.int 2) (.cons (.int 7) (.cons (.int 5) .nil))))))) (.cons (.int 3) .nil))) (.tup (.cons (.int 33) (.cons (.int 5) .nil)))) (.cmp .Eq (.call 6 (.cons (.tup (.cons (.int 9) (.cons (.int 4) .nil))) (.cons (.int 3) .nil))) (.tup (.cons (.int 0) (.cons (.int 1) .nil)))))))
  .nil))
/-- law: _law_script -/
def s_law_k24 (cs : List FSem) : FSem := defSem false 1 16 cs b_law_k24
def t_groups_of : Tb := ⟨["items", "size", "found", "item", "chosen"], [], [], [], []⟩
def c1_groups_of : E := .lc (.bin .Add (.var 4) (.tup (.cons (.var 3) .nil))) (.nm 4) (.hid 2) (.sc (.cmp .Lt (.blt .len (.cons (.var 4) .nil)) (.var 1)))
def l1_groups_of : Ss := (.cons (.aug 2 .Add c1_groups_of)
  .nil)
def c2_groups_of : E := .lc (.var 4) (.nm 4) (.seq (.var 2)) (.sc (.cmp .Eq (.blt .len (.cons (.var 4) .nil)) (.var 1)))
def b_groups_of : Ss := (.cons (.set 2 (.lst (.cons (.tup .nil) .nil)))
  (.cons (.fr (.nm 3) (.seq (.var 0)) l1_groups_of)
  (.cons (.ret c2_groups_of)
  .nil)))
/-- groups_of: items, size -/
def s_groups_of (cs : List FSem) : FSem := defSem false 2 5 cs b_groups_of
def t_factorial : Tb := ⟨["number", "found", "one"], [], [], [], []⟩
def l1_factorial : Ss := (.cons (.aug 1 .Mult (.bin .Add (.var 2) (.int 1)))
  .nil)
def b_factorial : Ss := (.cons (.set 1 (.int 1))
  (.cons (.fr (.nm 2) (.rng (.cons (.var 0) .nil)) l1_factorial)
  (.cons (.ret (.mv 1))
  .nil)))
/-- factorial: number -/
def s_factorial (cs : List FSem) : FSem := defSem false 1 3 cs b_factorial
def t_law_product : Tb := ⟨["_law_number", "_law_found", "_law_one"], [], [], [], []⟩
def l1_law_product : Ss := (.cons (.set 1 (.bin .Mult (.var 1) (.bin .Add (.var 2) (.int 1))))
  .nil)
def b_law_product : Ss := (.cons (.set 1 (.int 1))
  (.cons (.fr (.nm 2) (.rng (.cons (.var 0) .nil)) l1_law_product)
  (.cons (.ret (.mv 1))
  .nil)))
/-- _law_product: _law_number -/
def s_law_product (cs : List FSem) : FSem := defSem false 1 3 cs b_law_product
def t_paid_with : Tb := ⟨["basket", "size", "receipts"], [("best_value", false, 3)], [], [], []⟩
def b_paid_with : Ss := (.cons (.ret (.bin .Sub (.sc (.blt .sum (.cons (.var 0) .nil))) (.call 0 (.cons (.var 0) (.cons (.var 1) (.cons (.var 2) .nil))))))
  .nil)
/-- paid_with: basket, size, receipts -/
def s_paid_with (cs : List FSem) : FSem := defSem false 3 3 cs b_paid_with
def t_least_paid : Tb := ⟨["basket", "size", "receipts"], [("check_offer", false, 2), ("check_receipts", false, 1), ("paid_with", false, 3)], [], [], []⟩
def b_least_paid : Ss := (.cons (.exp (.call 0 (.cons (.var 0) (.cons (.var 1) .nil))))
  (.cons (.exp (.call 1 (.cons (.var 2) .nil)))
  (.cons (.ret (.call 2 (.cons (.var 0) (.cons (.var 1) (.cons (.var 2) .nil)))))
  .nil)))
/-- least_paid: basket, size, receipts -/
def s_least_paid (cs : List FSem) : FSem := defSem false 3 3 cs b_least_paid
def t_growth : Tb := ⟨["basket", "size", "receipts", "price"], [("paid_with", false, 3)], [], [], []⟩
def b_growth : Ss := (.cons (.ret (.bin .Sub (.call 0 (.cons (.bin .Add (.var 0) (.tup (.cons (.var 3) .nil))) (.cons (.var 1) (.cons (.var 2) .nil)))) (.call 0 (.cons (.var 0) (.cons (.var 1) (.cons (.var 2) .nil))))))
  .nil)
/-- growth: basket, size, receipts, price -/
def s_growth (cs : List FSem) : FSem := defSem false 4 4 cs b_growth
def t_check_room : Tb := ⟨["basket"], [], [("MAX_ITEMS", 12)], [], ["TooMany"]⟩
def b_check_room : Ss := (.cons (.ite (.sc (.cmp .GtE (.blt .len (.cons (.var 0) .nil)) (.gint "MAX_ITEMS" 12)))
  (.cons (.rai "TooMany")
  .nil)
  .nil)
  .nil)
/-- check_room: basket -/
def s_check_room (cs : List FSem) : FSem := defSem false 1 1 cs b_check_room
def t_extra_paid : Tb := ⟨["basket", "size", "receipts", "price"], [("check_offer", false, 2), ("check_receipts", false, 1), ("is_between", false, 3), ("check_room", false, 1), ("growth", false, 4)], [("MAX_PRICE", 10000)], [], ["InvalidPrice"]⟩
def b_extra_paid : Ss := (.cons (.exp (.call 0 (.cons (.var 0) (.cons (.var 1) .nil))))
  (.cons (.exp (.call 1 (.cons (.var 2) .nil)))
  (.cons (.ite (.sc (.not (.call 2 (.cons (.var 3) (.cons (.int 1) (.cons (.gint "MAX_PRICE" 10000) .nil))))))
  (.cons (.rai "InvalidPrice")
  .nil)
  .nil)
  (.cons (.exp (.call 3 (.cons (.var 0) .nil)))
  (.cons (.ret (.call 4 (.cons (.var 0) (.cons (.var 1) (.cons (.var 2) (.cons (.var 3) .nil))))))
  .nil)))))
/-- extra_paid: basket, size, receipts, price -/
def s_extra_paid (cs : List FSem) : FSem := defSem false 4 4 cs b_extra_paid
def t_law_paid : Tb := ⟨["_law_basket_here", "_law_size", "_law_receipts"], [("_law_best", false, 2)], [], [], []⟩
def b_law_paid : Ss := (.cons (.ret (.bin .Sub (.sc (.blt .sum (.cons (.var 0) .nil))) (.ix (.call 0 (.cons (.var 0) (.cons (.var 1) .nil))) (.bin .Sub (.blt .min (.cons (.var 2) (.cons (.sc (.blt .len (.cons (.var 0) .nil))) .nil))) (.int 1)))))
  .nil)
/-- _law_paid: _law_basket_here, _law_size, _law_receipts -/
def s_law_paid (cs : List FSem) : FSem := defSem false 3 3 cs b_law_paid
def t_law_rows_of : Tb := ⟨["_law_basket_here", "_law_size", "_law_found", "_law_parts", "_law_item"], [("_law_all_splittings", false, 1), ("_law_free", false, 3)], [], [], []⟩
def c1_law_rows_of : E := .lc (.ixv 0 (.var 4)) (.nm 4) (.seq (.call 1 (.cons (.var 0) (.cons (.var 1) (.cons (.var 3) .nil))))) (.bl true)
def l1_law_rows_of : Ss := (.cons (.app 2 (.tup (.cons (.sc (.blt .len (.cons (.var 3) .nil))) (.cons (.sc (.blt .sum (.cons c1_law_rows_of .nil))) .nil))))
  .nil)
def b_law_rows_of : Ss := (.cons (.set 2 (.lst .nil))
  (.cons (.fr (.nm 3) (.seq (.call 0 (.cons (.sc (.blt .len (.cons (.var 0) .nil))) .nil))) l1_law_rows_of)
  (.cons (.ret (.mv 2))
  .nil)))
/-- _law_rows_of: _law_basket_here, _law_size -/
def s_law_rows_of (cs : List FSem) : FSem := defSem false 2 5 cs b_law_rows_of
def t_law_least : Tb := ⟨["_law_basket_here", "_law_size", "_law_receipts", "_law_count", "_law_value"], [("_law_rows_of", false, 2)], [], [], []⟩
def c1_law_least : E := .lc (.var 4) (.tp [3, 4]) (.seq (.call 0 (.cons (.var 0) (.cons (.var 1) .nil)))) (.sc (.cmp .LtE (.var 3) (.var 2)))
def b_law_least : Ss := (.cons (.ret (.bin .Sub (.sc (.blt .sum (.cons (.var 0) .nil))) (.blt .max (.cons c1_law_least .nil))))
  .nil)
/-- _law_least: _law_basket_here, _law_size, _law_receipts -/
def s_law_least (cs : List FSem) : FSem := defSem false 3 5 cs b_law_least
def t_law_k26 : Tb := ⟨["_law_script", "_law_cell", "_law_basket_here", "_law_source_here", "_law_receipts", "_law_price", "_law_turn", "_law_size", "_law_one", "_law_two", "_law_found", "_law_due", "_law_more"], [("_law_source", false, 2), ("_law_basket", true, 2), ("_law_draw", true, 2), ("_law_choice", true, 2), ("_law_least", false, 3), ("_law_equal", false, 2), ("least_paid", false, 3), ("extra_paid", false, 4), ("_law_paid", false, 3), ("greatest_saving", false, 3)], [], [], []⟩
def l1_law_k26 : Ss := (.cons (.par [2, 4] (.cons (.callm 1 3 (.cons (.int 11) .nil)) (.cons (.bin .Add (.int 1) (.callm 2 3 (.cons (.int 12) .nil))) .nil)))
  (.cons (.par [5, 7] (.cons (.bin .Add (.int 1) (.callm 2 3 (.cons (.int 9999) .nil))) (.cons (.bin .Add (.int 2) (.callm 2 3 (.cons (.int 5) .nil))) .nil)))
  (.cons (.set 10 (.call 7 (.cons (.var 2) (.cons (.var 7) (.cons (.var 4) (.cons (.var 5) .nil))))))
  (.cons (.set 11 (.bin .Sub (.call 8 (.cons (.bin .Add (.var 2) (.tup (.cons (.var 5) .nil))) (.cons (.var 7) (.cons (.var 4) .nil)))) (.call 8 (.cons (.var 2) (.cons (.var 7) (.cons (.var 4) .nil))))))
  (.cons (.set 12 (.call 7 (.cons (.var 2) (.cons (.var 7) (.cons (.var 4) (.cons (.bin .Add (.var 5) (.int 1)) .nil))))))
  (.cons (.ite (.sc (.or (.cmp .NotEq (.var 10) (.var 11)) (.or (.cmp .Lt (.var 10) (.int 0)) (.not (.chain .LtE .LtE (.int 0) (.bin .Sub (.var 12) (.var 10)) (.int 1))))))
  (.cons (.ret (.bl false))
  .nil)
  .nil)
  (.cons (.ite (.sc (.cmp .NotEq (.call 6 (.cons (.var 2) (.cons (.var 7) (.cons (.var 4) .nil)))) (.bin .Sub (.sc (.blt .sum (.cons (.var 2) .nil))) (.call 9 (.cons (.var 2) (.cons (.var 7) (.cons (.var 4) .nil)))))))
  (.cons (.ret (.bl false))
  .nil)
  .nil)
  (.cons (.ite (.sc (.and (.cmp .Gt (.var 4) (.blt .len (.cons (.var 2) .nil))) (.cmp .Gt (.var 10) (.var 5))))
  (.cons (.ret (.bl false))
  .nil)
  .nil)
  .nil))))))))
def l2_law_k26 : Ss := (.cons (.set 3 (.call 0 (.cons (.var 1) (.cons (.int 26) .nil))))
  (.cons (.par [2, 7] (.cons (.callm 1 3 (.cons (.int 5) .nil)) (.cons (.bin .Add (.int 2) (.callm 2 3 (.cons (.int 5) .nil))) .nil)))
  (.cons (.set 4 (.bin .Add (.int 1) (.callm 2 3 (.cons (.int 6) .nil))))
  (.cons (.set 5 (.bin .Add (.int 1) (.callm 2 3 (.cons (.callm 3 3 (.cons (.lst (.cons (.int 5) (.cons (.int 60) (.cons (.int 10000) .nil)))) .nil)) .nil))))
  (.cons (.par [8, 9] (.cons (.call 4 (.cons (.var 2) (.cons (.var 7) (.cons (.var 4) .nil)))) (.cons (.call 4 (.cons (.bin .Add (.var 2) (.tup (.cons (.var 5) .nil))) (.cons (.var 7) (.cons (.var 4) .nil)))) .nil)))
  (.cons (.ite (.sc (.not (.call 5 (.cons (.call 6 (.cons (.var 2) (.cons (.var 7) (.cons (.var 4) .nil)))) (.cons (.var 8) .nil)))))
  (.cons (.ret (.bl false))
  .nil)
  .nil)
  (.cons (.ite (.sc (.or (.not (.call 5 (.cons (.call 7 (.cons (.var 2) (.cons (.var 7) (.cons (.var 4) (.cons (.var 5) .nil))))) (.cons (.bin .Sub (.var 9) (.var 8)) .nil)))) (.cmp .Lt (.var 9) (.var 8))))
  (.cons (.ret (.bl false))
  .nil)
  .nil)
  (.cons (.fr (.nm 6) (.rng (.cons (.int 4) .nil)) l1_law_k26)
  .nil))))))))
def b_law_k26 : Ss := (.cons (.fr (.nm 1) (.seq (.slc (.bin .Add (.lst (.cons (.int 0) .nil)) (.var 0)) .nop (.int 8))) l2_law_k26)
  (.cons (.set 2 (.tup (.cons (.int 9) (.cons (.int 4) (.cons (.int 7) (.cons (.int 2) (.cons (.int 7) (.cons (.int 5) .nil))))))))
  (.cons (.ite (.sc (.cmp .NotEq (.lst (.cons (.call 6 (.cons (.var 2) (.cons (.int 3) (.cons (.int 2) .nil)))) (.cons (.call 7 (.cons (.var 2) (.cons (.int 3) (.cons (.int 2) (.cons (.int 1) .nil))))) (.cons (.call 7 (.cons (.var 2) (.cons (.int 3) (.cons (.int 3) (.cons (.int 1) .nil))))) .nil)))) (.lst (.cons (.int 25) (.cons (.int 2) (.cons (.int 1) .nil))))))
  (.cons (.ret (.bl false))
  .nil)
  .nil)
  (.cons (.ret (.sc (.cmp .Eq (.call 7 (.cons (.tup (.cons (.int 9) (.cons (.int 8) (.cons (.int 7) .nil)))) (.cons (.int 3) (.cons (.int 1) (.cons (.int 1) .nil))))) (.int 7))))
  .nil))))
/-- law: _law_script -/
def s_law_k26 (cs : List FSem) : FSem := defSem false 1 13 cs b_law_k26
def t_free_extra : Tb := ⟨["basket", "size", "receipts", "low", "high", "middle"], [("check_offer", false, 2), ("check_receipts", false, 1), ("check_room", false, 1), ("growth", false, 4)], [("MAX_PRICE", 10000)], [], []⟩
def l1_free_extra : Ss := (.cons (.set 5 (.bin .FloorDiv (.bin .Add (.bin .Add (.var 3) (.var 4)) (.int 1)) (.int 2)))
  (.cons (.ite (.sc (.cmp .Eq (.call 3 (.cons (.var 0) (.cons (.var 1) (.cons (.var 2) (.cons (.var 5) .nil))))) (.int 0)))
  (.cons (.set 3 (.var 5))
  .nil)
  (.cons (.set 4 (.bin .Sub (.var 5) (.int 1)))
  .nil))
  .nil))
def b_free_extra : Ss := (.cons (.exp (.call 0 (.cons (.var 0) (.cons (.var 1) .nil))))
  (.cons (.exp (.call 1 (.cons (.var 2) .nil)))
  (.cons (.exp (.call 2 (.cons (.var 0) .nil)))
  (.cons (.par [3, 4] (.cons (.int 0) (.cons (.gint "MAX_PRICE" 10000) .nil)))
  (.cons (.whl (.sc (.cmp .Lt (.var 3) (.var 4))) l1_free_extra)
  (.cons (.ret (.ite (.sc (.cmp .Gt (.var 3) (.int 0))) (.var 3) .non))
  .nil))))))
/-- free_extra: basket, size, receipts -/
def s_free_extra (cs : List FSem) : FSem := defSem false 3 6 cs b_free_extra
def t_law_k27 : Tb := ⟨["_law_script", "_law_cell", "_law_source_here", "_law_turn", "_law_receipts", "_law_found", "_law_paid_here", "_law_basket_here", "_law_size", "_law_dearer", "_law_less", "_law_more"], [("_law_source", false, 2), ("_law_basket", true, 2), ("_law_draw", true, 2), ("free_extra", false, 3), ("_law_paid", false, 3), ("_law_is_int", false, 1), ("extra_paid", false, 4)], [], [], []⟩
def l1_law_k27 : Ss := (.cons (.par [7, 8] (.cons (.callm 1 2 (.cons (.int 11) .nil)) (.cons (.bin .Add (.int 2) (.callm 2 2 (.cons (.int 5) .nil))) .nil)))
  (.cons (.set 4 (.bin .Add (.int 1) (.callm 2 2 (.cons (.int 6) .nil))))
  (.cons (.set 5 (.call 3 (.cons (.var 7) (.cons (.var 8) (.cons (.var 4) .nil)))))
  (.cons (.set 6 (.call 4 (.cons (.var 7) (.cons (.var 8) (.cons (.var 4) .nil)))))
  (.cons (.ite (.sc (.cmp .Is (.var 5) .non))
  (.cons (.ite (.sc (.cmp .Eq (.call 4 (.cons (.bin .Add (.var 7) (.tup (.cons (.int 1) .nil))) (.cons (.var 8) (.cons (.var 4) .nil)))) (.var 6)))
  (.cons (.ret (.bl false))
  .nil)
  .nil)
  .nil)
  (.cons (.ite (.sc (.or (.not (.call 5 (.cons (.var 5) .nil))) (.not (.chain .LtE .LtE (.int 1) (.var 5) (.int 10000)))))
  (.cons (.ret (.bl false))
  .nil)
  .nil)
  (.cons (.ite (.sc (.cmp .NotEq (.call 4 (.cons (.bin .Add (.var 7) (.tup (.cons (.var 5) .nil))) (.cons (.var 8) (.cons (.var 4) .nil)))) (.var 6)))
  (.cons (.ret (.bl false))
  .nil)
  .nil)
  (.cons (.set 9 (.bin .Add (.var 7) (.tup (.cons (.bin .Add (.var 5) (.int 1)) .nil))))
  (.cons (.ite (.sc (.and (.cmp .Lt (.var 5) (.int 10000)) (.cmp .Eq (.call 4 (.cons (.var 9) (.cons (.var 8) (.cons (.var 4) .nil)))) (.var 6))))
  (.cons (.ret (.bl false))
  .nil)
  .nil)
  (.cons (.set 10 (.bin .Add (.int 1) (.callm 2 2 (.cons (.var 5) .nil))))
  (.cons (.set 11 (.bin .Add (.bin .Add (.var 5) (.int 1)) (.callm 2 2 (.cons (.bin .Sub (.int 10001) (.var 5)) .nil))))
  (.cons (.ite (.sc (.cmp .NotEq (.call 6 (.cons (.var 7) (.cons (.var 8) (.cons (.var 4) (.cons (.var 10) .nil))))) (.int 0)))
  (.cons (.ret (.bl false))
  .nil)
  .nil)
  (.cons (.ite (.sc (.and (.cmp .LtE (.var 11) (.int 10000)) (.cmp .LtE (.call 6 (.cons (.var 7) (.cons (.var 8) (.cons (.var 4) (.cons (.var 11) .nil))))) (.int 0))))
  (.cons (.ret (.bl false))
  .nil)
  .nil)
  .nil)))))))))
  .nil)))))
def l2_law_k27 : Ss := (.cons (.set 2 (.call 0 (.cons (.var 1) (.cons (.int 27) .nil))))
  (.cons (.fr (.nm 3) (.rng (.cons (.int 2) .nil)) l1_law_k27)
  .nil))
def b_law_k27 : Ss := (.cons (.fr (.nm 1) (.seq (.slc (.bin .Add (.lst (.cons (.int 0) .nil)) (.var 0)) .nop (.int 10))) l2_law_k27)
  (.cons (.ite (.sc (.cmp .IsNot (.call 3 (.cons (.tup (.cons (.int 9) (.cons (.int 4) (.cons (.int 7) (.cons (.int 2) (.cons (.int 7) (.cons (.int 5) .nil))))))) (.cons (.int 3) (.cons (.int 2) .nil)))) .non))
  (.cons (.ret (.bl false))
  .nil)
  .nil)
  (.cons (.ret (.sc (.cmp .Eq (.lst (.cons (.call 3 (.cons (.tup (.cons (.int 9) (.cons (.int 8) .nil))) (.cons (.int 3) (.cons (.int 1) .nil)))) (.cons (.call 3 (.cons (.tup (.cons (.int 5) .nil)) (.cons (.int 2) (.cons (.int 3) .nil)))) .nil))) (.lst (.cons (.int 8) (.cons (.int 5) .nil))))))
  .nil)))
/-- law: _law_script -/
def s_law_k27 (cs : List FSem) : FSem := defSem false 1 12 cs b_law_k27
def t_largest_size : Tb := ⟨["basket", "receipts", "wished", "good", "size"], [("check_basket", false, 1), ("check_receipts", false, 1), ("check_saving", false, 1), ("best_value", false, 3)], [], [("SIZES", [2, 3, 4, 5, 6])], []⟩
def c1_largest_size : E := .lc (.var 4) (.nm 4) (.seq (.gtup "SIZES" [2, 3, 4, 5, 6])) (.sc (.cmp .GtE (.call 3 (.cons (.var 0) (.cons (.var 4) (.cons (.var 1) .nil)))) (.var 2)))
def b_largest_size : Ss := (.cons (.exp (.call 0 (.cons (.var 0) .nil)))
  (.cons (.exp (.call 1 (.cons (.var 1) .nil)))
  (.cons (.exp (.call 2 (.cons (.var 2) .nil)))
  (.cons (.set 3 c1_largest_size)
  (.cons (.ret (.ite (.sc (.cmp .NotEq (.var 3) (.lst .nil))) (.ixv 3 (.neg (.int 1))) .non))
  .nil)))))
/-- largest_size: basket, receipts, wished -/
def s_largest_size (cs : List FSem) : FSem := defSem false 3 5 cs b_largest_size
def t_law_k28 : Tb := ⟨["_law_script", "_law_cell", "_law_basket_here", "_law_source_here", "_law_turn", "_law_rows", "_law_wished", "_law_receipts", "_law_good", "_law_size", "_law_one", "_law_other"], [("_law_source", false, 2), ("_law_basket", true, 2), ("_law_draw", true, 2), ("_law_best", false, 2), ("greatest_saving", false, 3), ("_law_equal", false, 2), ("largest_size", false, 3)], [], [], []⟩
def c1_law_k28 : E := .lc (.ix (.call 3 (.cons (.var 2) (.cons (.var 9) .nil))) (.bin .Sub (.blt .min (.cons (.var 7) (.cons (.sc (.blt .len (.cons (.var 2) .nil))) .nil))) (.int 1))) (.nm 9) (.rng (.cons (.int 2) (.cons (.int 7) .nil))) (.bl true)
def c2_law_k28 : E := .lc (.int 1) (.tp [10, 11]) (.zip (.var 5) (.slv 5 (.int 1) .nop)) (.sc (.cmp .Lt (.var 10) (.var 11)))
def c3_law_k28 : E := .lc (.call 4 (.cons (.var 2) (.cons (.var 9) (.cons (.var 7) .nil)))) (.nm 9) (.rng (.cons (.int 2) (.cons (.int 7) .nil))) (.bl true)
def c4_law_k28 : E := .lc (.var 9) (.nm 9) (.rng (.cons (.int 2) (.cons (.int 7) .nil))) (.sc (.cmp .GtE (.ixv 5 (.bin .Sub (.var 9) (.int 2))) (.var 6)))
def l1_law_k28 : Ss := (.cons (.set 8 c4_law_k28)
  (.cons (.ite (.sc (.not (.call 5 (.cons (.call 6 (.cons (.var 2) (.cons (.var 7) (.cons (.var 6) .nil)))) (.cons (.ite (.sc (.cmp .NotEq (.var 8) (.lst .nil))) (.ixv 8 (.neg (.int 1))) .non) .nil)))))
  (.cons (.ret (.bl false))
  .nil)
  .nil)
  .nil))
def l2_law_k28 : Ss := (.cons (.par [2, 7] (.cons (.callm 1 3 (.cons (.int 12) .nil)) (.cons (.bin .Add (.int 1) (.callm 2 3 (.cons (.int 12) .nil))) .nil)))
  (.cons (.set 5 c1_law_k28)
  (.cons (.ite (.sc (.cmp .NotEq c2_law_k28 (.lst .nil)))
  (.cons (.ret (.bl false))
  .nil)
  .nil)
  (.cons (.ite (.sc (.cmp .NotEq c3_law_k28 (.var 5)))
  (.cons (.ret (.bl false))
  .nil)
  .nil)
  (.cons (.fr (.nm 6) (.seq (.bin .Add (.var 5) (.lst (.cons (.int 0) (.cons (.bin .Add (.ixv 5 (.int 0)) (.int 1)) (.cons (.blt .max (.cons (.int 0) (.cons (.bin .Sub (.ixv 5 (.int 2)) (.int 1)) .nil))) (.cons (.callm 2 3 (.cons (.bin .Add (.bin .Pow (.int 10) (.int 6)) (.int 1)) .nil)) .nil))))))) l1_law_k28)
  .nil)))))
def l3_law_k28 : Ss := (.cons (.set 3 (.call 0 (.cons (.var 1) (.cons (.int 28) .nil))))
  (.cons (.fr (.nm 4) (.rng (.cons (.int 2) .nil)) l2_law_k28)
  .nil))
def b_law_k28 : Ss := (.cons (.fr (.nm 1) (.seq (.slc (.bin .Add (.lst (.cons (.int 0) .nil)) (.var 0)) .nop (.int 10))) l3_law_k28)
  (.cons (.set 2 (.tup (.cons (.int 9) (.cons (.int 4) (.cons (.int 7) (.cons (.int 2) (.cons (.int 7) (.cons (.int 5) .nil))))))))
  (.cons (.ret (.sc (.cmp .Eq (.lst (.cons (.call 6 (.cons (.var 2) (.cons (.int 2) (.cons (.int 9) .nil)))) (.cons (.call 6 (.cons (.var 2) (.cons (.int 2) (.cons (.int 100) .nil)))) (.cons (.call 6 (.cons (.var 2) (.cons (.int 1) (.cons (.int 2) .nil)))) .nil)))) (.lst (.cons (.int 3) (.cons .non (.cons (.int 6) .nil)))))))
  .nil)))
/-- law: _law_script -/
def s_law_k28 (cs : List FSem) : FSem := defSem false 1 12 cs b_law_k28
def t_possible_sizes : Tb := ⟨["basket", "sightings", "found", "size", "receipts", "value"], [("check_basket", false, 1), ("are_sightings", false, 1), ("best_value", false, 3)], [], [("SIZES", [2, 3, 4, 5, 6])], ["InvalidSightings"]⟩
def c1_possible_sizes : E := .lc (.sc (.cmp .Eq (.call 2 (.cons (.var 0) (.cons (.var 3) (.cons (.var 4) .nil)))) (.var 5))) (.tp [4, 5]) (.seq (.var 1)) (.bl true)
def l1_possible_sizes : Ss := (.cons (.ite (.sc (.blt .all (.cons c1_possible_sizes .nil)))
  (.cons (.app 2 (.var 3))
  .nil)
  .nil)
  .nil)
def b_possible_sizes : Ss := (.cons (.exp (.call 0 (.cons (.var 0) .nil)))
  (.cons (.ite (.sc (.not (.call 1 (.cons (.var 1) .nil))))
  (.cons (.rai "InvalidSightings")
  .nil)
  .nil)
  (.cons (.set 2 (.lst .nil))
  (.cons (.fr (.nm 3) (.seq (.gtup "SIZES" [2, 3, 4, 5, 6])) l1_possible_sizes)
  (.cons (.ret (.mv 2))
  .nil)))))
/-- possible_sizes: basket, sightings -/
def s_possible_sizes (cs : List FSem) : FSem := defSem false 2 6 cs b_possible_sizes
def t_law_k29 : Tb := ⟨["_law_script", "_law_cell", "_law_basket_here", "_law_source_here", "_law_turn", "_law_look", "_law_good", "_law_other", "_law_found", "_law_size", "_law_seen", "_law_receipts", "_law_value", "_law_best_here"], [("_law_source", false, 2), ("_law_basket", true, 2), ("_law_draw", true, 2), ("_law_best", false, 2), ("possible_sizes", false, 2), ("_law_equal", false, 2)], [], [], []⟩
def l1_law_k29 : Ss := (.cons (.set 11 (.bin .Add (.int 1) (.callm 2 3 (.cons (.int 12) .nil))))
  (.cons (.set 12 (.ix (.call 3 (.cons (.var 2) (.cons (.var 9) .nil))) (.bin .Sub (.blt .min (.cons (.var 11) (.cons (.sc (.blt .len (.cons (.var 2) .nil))) .nil))) (.int 1))))
  (.cons (.ite (.cmp .Eq (.callm 2 3 (.cons (.int 9) .nil)) (.int 0))
  (.cons (.set 12 (.bin .Add (.var 12) (.int 1)))
  .nil)
  .nil)
  (.cons (.set 10 (.bin .Add (.var 10) (.tup (.cons (.tup (.cons (.var 11) (.cons (.var 12) .nil))) .nil))))
  .nil))))
def c1_law_k29 : E := .lc (.int 1) (.tp [11, 12]) (.seq (.var 10)) (.sc (.cmp .NotEq (.ixv 13 (.bin .Sub (.blt .min (.cons (.var 11) (.cons (.sc (.blt .len (.cons (.var 2) .nil))) .nil))) (.int 1))) (.var 12)))
def l2_law_k29 : Ss := (.cons (.set 13 (.call 3 (.cons (.var 2) (.cons (.var 7) .nil))))
  (.cons (.ite (.sc (.cmp .Eq c1_law_k29 (.lst .nil)))
  (.cons (.app 6 (.var 7))
  .nil)
  .nil)
  .nil))
def c2_law_k29 : E := .lc (.var 9) (.nm 9) (.seq (.var 8)) (.sc (.cmp .NotIn (.var 9) (.call 4 (.cons (.var 2) (.cons (.slv 10 .nop (.int 1)) .nil)))))
def l3_law_k29 : Ss := (.cons (.par [2, 9, 10] (.cons (.callm 1 3 (.cons (.int 12) .nil)) (.cons (.bin .Add (.int 2) (.callm 2 3 (.cons (.int 5) .nil))) (.cons (.tup .nil) .nil))))
  (.cons (.fr (.nm 5) (.rng (.cons (.bin .Add (.int 1) (.callm 2 3 (.cons (.int 6) .nil))) .nil)) l1_law_k29)
  (.cons (.set 6 (.lst .nil))
  (.cons (.fr (.nm 7) (.rng (.cons (.int 2) (.cons (.int 7) .nil))) l2_law_k29)
  (.cons (.set 8 (.call 4 (.cons (.var 2) (.cons (.var 10) .nil))))
  (.cons (.ite (.sc (.not (.call 5 (.cons (.var 8) (.cons (.var 6) .nil)))))
  (.cons (.ret (.bl false))
  .nil)
  .nil)
  (.cons (.ite (.sc (.cmp .NotEq c2_law_k29 (.lst .nil)))
  (.cons (.ret (.bl false))
  .nil)
  .nil)
  .nil)))))))
def l4_law_k29 : Ss := (.cons (.set 3 (.call 0 (.cons (.var 1) (.cons (.int 29) .nil))))
  (.cons (.fr (.nm 4) (.rng (.cons (.int 2) .nil)) l3_law_k29)
  .nil))
def b_law_k29 : Ss := (.cons (.fr (.nm 1) (.seq (.slc (.bin .Add (.lst (.cons (.int 0) .nil)) (.var 0)) .nop (.int 10))) l4_law_k29)
  (.cons (.set 2 (.tup (.cons (.int 9) (.cons (.int 4) (.cons (.int 7) (.cons (.int 2) (.cons (.int 7) (.cons (.int 5) .nil))))))))
  (.cons (.ret (.sc (.and (.cmp .Eq (.call 4 (.cons (.var 2) (.cons (.tup (.cons (.tup (.cons (.int 1) (.cons (.int 2) .nil))) .nil)) .nil))) (.lst (.cons (.int 4) (.cons (.int 5) (.cons (.int 6) .nil))))) (.cmp .Eq (.call 4 (.cons (.var 2) (.cons (.tup (.cons (.tup (.cons (.int 1) (.cons (.int 2) .nil))) (.cons (.tup (.cons (.int 2) (.cons (.int 5) .nil))) .nil))) .nil))) (.lst (.cons (.int 4) .nil))))))
  .nil)))
/-- law: _law_script -/
def s_law_k29 (cs : List FSem) : FSem := defSem false 1 14 cs b_law_k29
def t_savings_of : Tb := ⟨["basket", "size", "found", "parts"], [("all_splittings", false, 1), ("value_of", false, 2), ("free_of", false, 3)], [], [], []⟩
def l1_savings_of : Ss := (.cons (.app 2 (.tup (.cons (.sc (.blt .len (.cons (.var 3) .nil))) (.cons (.call 1 (.cons (.var 0) (.cons (.call 2 (.cons (.var 0) (.cons (.var 1) (.cons (.var 3) .nil)))) .nil))) .nil))))
  .nil)
def b_savings_of : Ss := (.cons (.set 2 (.lst .nil))
  (.cons (.fr (.nm 3) (.seq (.call 0 (.cons (.sc (.blt .len (.cons (.var 0) .nil))) .nil))) l1_savings_of)
  (.cons (.ret (.mv 2))
  .nil)))
/-- savings_of: basket, size -/
def s_savings_of (cs : List FSem) : FSem := defSem false 2 4 cs b_savings_of
def t_possible_savings : Tb := ⟨["basket", "size", "receipts", "count", "value"], [("check_offer", false, 2), ("check_receipts", false, 1), ("check_small", false, 1), ("savings_of", false, 2)], [], [], []⟩
def c1_possible_savings : E := .lc (.var 4) (.tp [3, 4]) (.seq (.call 3 (.cons (.var 0) (.cons (.var 1) .nil)))) (.sc (.cmp .LtE (.var 3) (.var 2)))
def b_possible_savings : Ss := (.cons (.exp (.call 0 (.cons (.var 0) (.cons (.var 1) .nil))))
  (.cons (.exp (.call 1 (.cons (.var 2) .nil)))
  (.cons (.exp (.call 2 (.cons (.var 0) .nil)))
  (.cons (.ret (.blt .sset (.cons c1_possible_savings .nil)))
  .nil))))
/-- possible_savings: basket, size, receipts -/
def s_possible_savings (cs : List FSem) : FSem := defSem false 3 5 cs b_possible_savings
def t_law_k30 : Tb := ⟨["_law_script", "_law_cell", "_law_basket_here", "_law_source_here", "_law_receipts", "_law_size", "_law_rows", "_law_before", "_law_found", "_law_due", "_law_value", "_law_count"], [("_law_source", false, 2), ("_law_basket", true, 2), ("_law_draw", true, 2), ("_law_rows_of", false, 2), ("possible_savings", false, 3), ("_law_equal", false, 2), ("greatest_saving", false, 3)], [], [], []⟩
def c1_law_k30 : E := .lc (.var 10) (.tp [11, 10]) (.seq (.var 6)) (.sc (.cmp .LtE (.var 11) (.var 4)))
def c2_law_k30 : E := .lc (.var 10) (.nm 10) (.seq (.var 7)) (.sc (.cmp .NotIn (.var 10) (.var 8)))
def l1_law_k30 : Ss := (.cons (.set 8 (.call 4 (.cons (.var 2) (.cons (.var 5) (.cons (.var 4) .nil)))))
  (.cons (.set 9 (.blt .sset (.cons c1_law_k30 .nil)))
  (.cons (.ite (.sc (.or (.not (.call 5 (.cons (.var 8) (.cons (.var 9) .nil)))) (.cmp .NotEq (.ixv 8 (.neg (.int 1))) (.call 6 (.cons (.var 2) (.cons (.var 5) (.cons (.var 4) .nil)))))))
  (.cons (.ret (.bl false))
  .nil)
  .nil)
  (.cons (.ite (.sc (.cmp .NotEq c2_law_k30 (.lst .nil)))
  (.cons (.ret (.bl false))
  .nil)
  .nil)
  (.cons (.set 7 (.var 8))
  .nil)))))
def l2_law_k30 : Ss := (.cons (.set 3 (.call 0 (.cons (.var 1) (.cons (.int 30) .nil))))
  (.cons (.par [2, 5] (.cons (.callm 1 3 (.cons (.int 7) .nil)) (.cons (.bin .Add (.int 2) (.callm 2 3 (.cons (.int 5) .nil))) .nil)))
  (.cons (.par [6, 7] (.cons (.call 3 (.cons (.var 2) (.cons (.var 5) .nil))) (.cons (.lst .nil) .nil)))
  (.cons (.fr (.nm 4) (.seq (.blt .sorted (.cons (.lst (.cons (.int 1) (.cons (.int 2) (.cons (.int 3) (.cons (.bin .Add (.int 1) (.callm 2 3 (.cons (.int 12) .nil))) (.cons (.int 12) .nil)))))) .nil))) l1_law_k30)
  (.cons (.app 8 (.neg (.int 1)))
  (.cons (.ite (.sc (.cmp .In (.neg (.int 1)) (.call 4 (.cons (.var 2) (.cons (.var 5) (.cons (.int 12) .nil))))))
  (.cons (.ret (.bl false))
  .nil)
  .nil)
  .nil))))))
def b_law_k30 : Ss := (.cons (.fr (.nm 1) (.seq (.slc (.bin .Add (.lst (.cons (.int 0) .nil)) (.var 0)) .nop (.int 8))) l2_law_k30)
  (.cons (.set 2 (.tup (.cons (.int 9) (.cons (.int 4) (.cons (.int 7) (.cons (.int 2) (.cons (.int 7) (.cons (.int 5) .nil))))))))
  (.cons (.ret (.sc (.and (.cmp .Eq (.call 4 (.cons (.var 2) (.cons (.int 3) (.cons (.int 1) .nil)))) (.lst (.cons (.int 6) .nil))) (.cmp .Eq (.call 4 (.cons (.var 2) (.cons (.int 3) (.cons (.int 2) .nil)))) (.lst (.cons (.int 2) (.cons (.int 4) (.cons (.int 5) (.cons (.int 6) (.cons (.int 7) (.cons (.int 9) .nil)))))))))))
  .nil)))
/-- law: _law_script -/
def s_law_k30 (cs : List FSem) : FSem := defSem false 1 12 cs b_law_k30
def t_count_splittings : Tb := ⟨["basket", "size", "receipts", "wished", "count", "value"], [("check_offer", false, 2), ("check_receipts", false, 1), ("check_saving", false, 1), ("check_small", false, 1), ("savings_of", false, 2)], [], [], []⟩
def c1_count_splittings : E := .lc (.var 5) (.tp [4, 5]) (.seq (.call 4 (.cons (.var 0) (.cons (.var 1) .nil)))) (.sc (.and (.cmp .LtE (.var 4) (.var 2)) (.cmp .Eq (.var 5) (.var 3))))
def b_count_splittings : Ss := (.cons (.exp (.call 0 (.cons (.var 0) (.cons (.var 1) .nil))))
  (.cons (.exp (.call 1 (.cons (.var 2) .nil)))
  (.cons (.exp (.call 2 (.cons (.var 3) .nil)))
  (.cons (.exp (.call 3 (.cons (.var 0) .nil)))
  (.cons (.ret (.sc (.blt .len (.cons c1_count_splittings .nil))))
  .nil)))))
/-- count_splittings: basket, size, receipts, wished -/
def s_count_splittings (cs : List FSem) : FSem := defSem false 4 6 cs b_count_splittings
def t_law_k31 : Tb := ⟨["_law_script", "_law_cell", "_law_basket_here", "_law_source_here", "_law_some", "_law_wished", "_law_size", "_law_receipts", "_law_rows", "_law_due", "_law_total", "_law_count", "_law_value"], [("_law_source", false, 2), ("_law_basket", true, 2), ("_law_draw", true, 2), ("_law_rows_of", false, 2), ("possible_savings", false, 3), ("_law_equal", false, 2), ("count_splittings", false, 4), ("_law_best", false, 2)], [], [], []⟩
def c1_law_k31 : E := .lc (.var 12) (.tp [11, 12]) (.seq (.var 8)) (.sc (.and (.cmp .LtE (.var 11) (.var 7)) (.cmp .Eq (.var 12) (.var 5))))
def l1_law_k31 : Ss := (.cons (.set 9 (.sc (.blt .len (.cons c1_law_k31 .nil))))
  (.cons (.ite (.sc (.not (.call 5 (.cons (.call 6 (.cons (.var 2) (.cons (.var 6) (.cons (.var 7) (.cons (.var 5) .nil))))) (.cons (.var 9) .nil)))))
  (.cons (.ret (.bl false))
  .nil)
  .nil)
  .nil))
def c2_law_k31 : E := .lc (.call 6 (.cons (.var 2) (.cons (.var 6) (.cons (.var 7) (.cons (.var 5) .nil))))) (.nm 5) (.seq (.var 4)) (.bl true)
def c3_law_k31 : E := .lc (.var 12) (.tp [11, 12]) (.seq (.var 8)) (.sc (.cmp .LtE (.var 11) (.var 7)))
def l2_law_k31 : Ss := (.cons (.set 3 (.call 0 (.cons (.var 1) (.cons (.int 31) .nil))))
  (.cons (.par [2, 6] (.cons (.callm 1 3 (.cons (.int 6) .nil)) (.cons (.bin .Add (.int 2) (.callm 2 3 (.cons (.int 5) .nil))) .nil)))
  (.cons (.par [7, 8] (.cons (.bin .Add (.int 1) (.callm 2 3 (.cons (.int 7) .nil))) (.cons (.call 3 (.cons (.var 2) (.cons (.var 6) .nil))) .nil)))
  (.cons (.set 4 (.call 4 (.cons (.var 2) (.cons (.var 6) (.cons (.var 7) .nil)))))
  (.cons (.fr (.nm 5) (.seq (.bin .Add (.slv 4 .nop (.int 8)) (.lst (.cons (.int 0) (.cons (.bin .Add (.ixv 4 (.neg (.int 1))) (.int 1)) (.cons (.bin .Pow (.int 10) (.int 6)) (.cons (.callm 2 3 (.cons (.int 30) .nil)) .nil))))))) l1_law_k31)
  (.cons (.ite (.sc (.cmp .Lt (.blt .len (.cons (.var 4) .nil)) (.int 9)))
  (.cons (.set 10 (.sc (.blt .sum (.cons c2_law_k31 .nil))))
  (.cons (.ite (.sc (.cmp .NotEq (.var 10) (.blt .len (.cons c3_law_k31 .nil))))
  (.cons (.ret (.bl false))
  .nil)
  .nil)
  .nil))
  .nil)
  (.cons (.ite (.sc (.cmp .NotEq (.call 6 (.cons (.var 2) (.cons (.var 6) (.cons (.int 1) (.cons (.ix (.call 7 (.cons (.var 2) (.cons (.var 6) .nil))) (.int 0)) .nil))))) (.int 1)))
  (.cons (.ret (.bl false))
  .nil)
  .nil)
  .nil)))))))
def c4_law_k31 : E := .lc (.call 6 (.cons (.var 2) (.cons (.int 3) (.cons (.int 2) (.cons (.var 5) .nil))))) (.nm 5) (.seq (.tup (.cons (.int 9) (.cons (.int 6) (.cons (.int 8) .nil))))) (.bl true)
def b_law_k31 : Ss := (.cons (.fr (.nm 1) (.seq (.slc (.bin .Add (.lst (.cons (.int 0) .nil)) (.var 0)) .nop (.int 8))) l2_law_k31)
  (.cons (.set 2 (.tup (.cons (.int 9) (.cons (.int 4) (.cons (.int 7) (.cons (.int 2) (.cons (.int 7) (.cons (.int 5) .nil))))))))
  (.cons (.ret (.sc (.cmp .Eq c4_law_k31 (.lst (.cons (.int 1) (.cons (.int 7) (.cons (.int 0) .nil)))))))
  .nil)))
/-- law: _law_script -/
def s_law_k31 (cs : List FSem) : FSem := defSem false 1 13 cs b_law_k31
def t_least_saving : Tb := ⟨["basket", "size", "receipts", "found", "count", "value"], [("check_offer", false, 2), ("check_receipts", false, 1), ("check_small", false, 1), ("savings_of", false, 2)], [], [], []⟩
def c1_least_saving : E := .lc (.var 5) (.tp [4, 5]) (.seq (.call 3 (.cons (.var 0) (.cons (.var 1) .nil)))) (.sc (.cmp .Eq (.var 4) (.var 2)))
def b_least_saving : Ss := (.cons (.exp (.call 0 (.cons (.var 0) (.cons (.var 1) .nil))))
  (.cons (.exp (.call 1 (.cons (.var 2) .nil)))
  (.cons (.exp (.call 2 (.cons (.var 0) .nil)))
  (.cons (.set 3 c1_least_saving)
  (.cons (.ret (.ite (.sc (.cmp .NotEq (.var 3) (.lst .nil))) (.blt .min (.cons (.var 3) .nil)) .non))
  .nil)))))
/-- least_saving: basket, size, receipts -/
def s_least_saving (cs : List FSem) : FSem := defSem false 3 6 cs b_least_saving
def t_law_k32 : Tb := ⟨["_law_script", "_law_cell", "_law_basket_here", "_law_source_here", "_law_rows", "_law_receipts", "_law_size", "_law_some", "_law_found", "_law_count", "_law_value"], [("_law_source", false, 2), ("_law_basket", true, 2), ("_law_draw", true, 2), ("_law_rows_of", false, 2), ("least_saving", false, 3), ("_law_equal", false, 2), ("possible_savings", false, 3)], [], [], []⟩
def c1_law_k32 : E := .lc (.var 10) (.tp [9, 10]) (.seq (.var 4)) (.sc (.cmp .Eq (.var 9) (.var 5)))
def l1_law_k32 : Ss := (.cons (.set 7 c1_law_k32)
  (.cons (.set 8 (.call 4 (.cons (.var 2) (.cons (.var 6) (.cons (.var 5) .nil)))))
  (.cons (.ite (.sc (.not (.call 5 (.cons (.var 8) (.cons (.ite (.sc (.cmp .NotEq (.var 7) (.lst .nil))) (.blt .min (.cons (.var 7) .nil)) .non) .nil)))))
  (.cons (.ret (.bl false))
  .nil)
  .nil)
  (.cons (.ite (.sc (.cmp .NotEq (.cmp .Is (.var 8) .non) (.cmp .Gt (.var 5) (.blt .len (.cons (.var 2) .nil)))))
  (.cons (.ret (.bl false))
  .nil)
  .nil)
  (.cons (.ite (.sc (.and (.cmp .IsNot (.var 8) .non) (.cmp .NotIn (.var 8) (.call 6 (.cons (.var 2) (.cons (.var 6) (.cons (.var 5) .nil)))))))
  (.cons (.ret (.bl false))
  .nil)
  .nil)
  (.cons (.ite (.sc (.and (.cmp .GtE (.bin .Mult (.bin .Sub (.var 6) (.int 1)) (.var 5)) (.blt .len (.cons (.var 2) .nil))) (.cmp .NotIn (.var 8) (.lst (.cons (.int 0) (.cons .non .nil))))))
  (.cons (.ret (.bl false))
  .nil)
  .nil)
  .nil))))))
def l2_law_k32 : Ss := (.cons (.set 3 (.call 0 (.cons (.var 1) (.cons (.int 32) .nil))))
  (.cons (.par [2, 6] (.cons (.callm 1 3 (.cons (.int 7) .nil)) (.cons (.bin .Add (.int 2) (.callm 2 3 (.cons (.int 5) .nil))) .nil)))
  (.cons (.set 4 (.call 3 (.cons (.var 2) (.cons (.var 6) .nil))))
  (.cons (.fr (.nm 5) (.rng (.cons (.int 1) (.cons (.int 13) .nil))) l1_law_k32)
  .nil))))
def c2_law_k32 : E := .lc (.call 4 (.cons (.var 2) (.cons (.int 3) (.cons (.var 5) .nil)))) (.nm 5) (.seq (.tup (.cons (.int 1) (.cons (.int 2) (.cons (.int 3) (.cons (.int 4) (.cons (.int 6) (.cons (.int 7) .nil)))))))) (.bl true)
def b_law_k32 : Ss := (.cons (.fr (.nm 1) (.seq (.slc (.bin .Add (.lst (.cons (.int 0) .nil)) (.var 0)) .nop (.int 8))) l2_law_k32)
  (.cons (.set 2 (.tup (.cons (.int 9) (.cons (.int 4) (.cons (.int 7) (.cons (.int 2) (.cons (.int 7) (.cons (.int 5) .nil))))))))
  (.cons (.ret (.sc (.cmp .Eq c2_law_k32 (.lst (.cons (.int 6) (.cons (.int 2) (.cons (.int 0) (.cons (.int 0) (.cons (.int 0) (.cons .non .nil))))))))))
  .nil)))
/-- law: _law_script -/
def s_law_k32 (cs : List FSem) : FSem := defSem false 1 11 cs b_law_k32
def t_law_scanned_k33 : Tb := ⟨["_law_basket", "_law_size", "_law_order", "_law_found", "_law_start", "_law_group", "_law_item"], [], [], [], []⟩
def c1_law_scanned_k33 : E := .lc (.ixv 0 (.var 6)) (.nm 6) (.seq (.var 5)) (.bl true)
def l1_law_scanned_k33 : Ss := (.cons (.set 5 (.slv 2 (.var 4) (.bin .Add (.var 4) (.var 1))))
  (.cons (.ite (.sc (.cmp .Eq (.blt .len (.cons (.var 5) .nil)) (.var 1)))
  (.cons (.set 3 (.bin .Add (.var 3) (.blt .min (.cons c1_law_scanned_k33 .nil))))
  .nil)
  .nil)
  .nil))
def b_law_scanned_k33 : Ss := (.cons (.set 3 (.int 0))
  (.cons (.fr (.nm 4) (.rng (.cons (.int 0) (.cons (.sc (.blt .len (.cons (.var 2) .nil))) (.cons (.var 1) .nil)))) l1_law_scanned_k33)
  (.cons (.ret (.mv 3))
  .nil)))
/-- _law_scanned: _law_basket, _law_size, _law_order -/
def s_law_scanned_k33 (cs : List FSem) : FSem := defSem false 3 7 cs b_law_scanned_k33
def t_law_same_scans : Tb := ⟨["_law_source_here", "_law_basket", "_law_other", "_law_size", "_law_wished", "_law_rows", "_law_item"], [("_law_scanned", false, 3), ("_law_mixed", true, 2), ("mean_scan", false, 2), ("count_scans", false, 3), ("chance_free", false, 3)], [], [], []⟩
def c1_law_same_scans : E := .lc (.call 4 (.cons (.var 1) (.cons (.var 3) (.cons (.var 6) .nil)))) (.nm 6) (.rng (.cons (.sc (.blt .len (.cons (.var 1) .nil))) .nil)) (.bl true)
def c2_law_same_scans : E := .lc (.call 4 (.cons (.var 2) (.cons (.var 3) (.cons (.var 6) .nil)))) (.nm 6) (.rng (.cons (.sc (.blt .len (.cons (.var 2) .nil))) .nil)) (.bl true)
def b_law_same_scans : Ss := (.cons (.set 4 (.call 0 (.cons (.var 1) (.cons (.var 3) (.cons (.callm 1 0 (.cons (.trng .list (.cons (.sc (.blt .len (.cons (.var 1) .nil))) .nil)) .nil)) .nil)))))
  (.cons (.ite (.sc (.cmp .NotEq (.call 2 (.cons (.var 2) (.cons (.var 3) .nil))) (.call 2 (.cons (.var 1) (.cons (.var 3) .nil)))))
  (.cons (.ret (.bl false))
  .nil)
  .nil)
  (.cons (.ite (.sc (.cmp .NotEq (.call 3 (.cons (.var 2) (.cons (.var 3) (.cons (.var 4) .nil)))) (.call 3 (.cons (.var 1) (.cons (.var 3) (.cons (.var 4) .nil))))))
  (.cons (.ret (.bl false))
  .nil)
  .nil)
  (.cons (.set 5 (.blt .sorted (.cons c1_law_same_scans .nil)))
  (.cons (.ret (.sc (.cmp .Eq (.var 5) (.blt .sorted (.cons c2_law_same_scans .nil)))))
  .nil)))))
/-- _law_same_scans: _law_source_here, _law_basket, _law_other, _law_size -/
def s_law_same_scans (cs : List FSem) : FSem := defSem true 4 7 cs b_law_same_scans
def t_law_k33 : Tb := ⟨["_law_script", "_law_cell", "_law_source_here", "_law_basket", "_law_great", "_law_some", "_law_wished", "_law_many", "_law_found", "_law_other", "_law_factor", "_law_size", "_law_receipts", "_law_price", "_law_item", "_law_value"], [("_law_source", false, 2), ("_law_draw", true, 2), ("_law_mixed", true, 2), ("_law_same_scans", true, 4), ("possible_savings", false, 3), ("_law_choice", true, 2), ("count_splittings", false, 4), ("least_saving", false, 3), ("least_paid", false, 3), ("extra_paid", false, 4), ("free_extra", false, 3), ("largest_size", false, 3)], [], [], []⟩
def c1_law_k33 : E := .lc (.bin .Add (.int 1) (.callm 1 2 (.cons (.int 60) .nil))) (.nm 14) (.rng (.cons (.bin .Add (.int 1) (.callm 1 2 (.cons (.int 6) .nil))) .nil)) (.bl true)
def c2_law_k33 : E := .lc (.bin .Mult (.var 13) (.var 10)) (.nm 13) (.seq (.var 3)) (.bl true)
def c3_law_k33 : E := .lc (.bin .Mult (.var 15) (.var 10)) (.nm 15) (.seq (.var 5)) (.bl true)
def l1_law_k33 : Ss := (.cons (.set 2 (.call 0 (.cons (.var 1) (.cons (.int 33) .nil))))
  (.cons (.set 3 (.blt .tuple (.cons c1_law_k33 .nil)))
  (.cons (.par [9, 10] (.cons (.callm 2 2 (.cons (.var 3) .nil)) (.cons (.bin .Add (.int 1) (.callm 1 2 (.cons (.int 150) .nil))) .nil)))
  (.cons (.set 4 (.blt .tuple (.cons c2_law_k33 .nil)))
  (.cons (.par [11, 12, 13] (.cons (.bin .Add (.int 2) (.callm 1 2 (.cons (.int 5) .nil))) (.cons (.bin .Add (.int 1) (.callm 1 2 (.cons (.int 7) .nil))) (.cons (.bin .Add (.int 1) (.callm 1 2 (.cons (.int 60) .nil))) .nil))))
  (.cons (.ite (.not (.callm 3 2 (.cons (.var 3) (.cons (.var 9) (.cons (.var 11) .nil)))))
  (.cons (.ret (.bl false))
  .nil)
  .nil)
  (.cons (.set 5 (.call 4 (.cons (.var 3) (.cons (.var 11) (.cons (.var 12) .nil)))))
  (.cons (.ite (.sc (.cmp .NotEq (.call 4 (.cons (.var 9) (.cons (.var 11) (.cons (.var 12) .nil)))) (.var 5)))
  (.cons (.ret (.bl false))
  .nil)
  .nil)
  (.cons (.ite (.sc (.cmp .NotEq (.call 4 (.cons (.var 4) (.cons (.var 11) (.cons (.var 12) .nil)))) c3_law_k33))
  (.cons (.ret (.bl false))
  .nil)
  .nil)
  (.cons (.set 6 (.callm 5 2 (.cons (.var 5) .nil)))
  (.cons (.set 7 (.call 6 (.cons (.var 3) (.cons (.var 11) (.cons (.var 12) (.cons (.var 6) .nil))))))
  (.cons (.ite (.sc (.cmp .NotEq (.call 6 (.cons (.var 9) (.cons (.var 11) (.cons (.var 12) (.cons (.var 6) .nil))))) (.var 7)))
  (.cons (.ret (.bl false))
  .nil)
  .nil)
  (.cons (.ite (.sc (.cmp .NotEq (.call 6 (.cons (.var 4) (.cons (.var 11) (.cons (.var 12) (.cons (.bin .Mult (.var 6) (.var 10)) .nil))))) (.var 7)))
  (.cons (.ret (.bl false))
  .nil)
  .nil)
  (.cons (.ite (.sc (.cmp .NotEq (.call 7 (.cons (.var 9) (.cons (.var 11) (.cons (.var 12) .nil)))) (.call 7 (.cons (.var 3) (.cons (.var 11) (.cons (.var 12) .nil))))))
  (.cons (.ret (.bl false))
  .nil)
  .nil)
  (.cons (.ite (.sc (.cmp .NotEq (.call 8 (.cons (.var 4) (.cons (.var 11) (.cons (.var 12) .nil)))) (.bin .Mult (.var 10) (.call 8 (.cons (.var 9) (.cons (.var 11) (.cons (.var 12) .nil)))))))
  (.cons (.ret (.bl false))
  .nil)
  .nil)
  (.cons (.set 8 (.call 9 (.cons (.var 3) (.cons (.var 11) (.cons (.var 12) (.cons (.var 13) .nil))))))
  (.cons (.ite (.sc (.cmp .NotEq (.call 9 (.cons (.var 4) (.cons (.var 11) (.cons (.var 12) (.cons (.bin .Mult (.var 13) (.var 10)) .nil))))) (.bin .Mult (.var 8) (.var 10))))
  (.cons (.ret (.bl false))
  .nil)
  .nil)
  (.cons (.ite (.sc (.cmp .NotEq (.call 10 (.cons (.var 9) (.cons (.var 11) (.cons (.var 12) .nil)))) (.call 10 (.cons (.var 3) (.cons (.var 11) (.cons (.var 12) .nil))))))
  (.cons (.ret (.bl false))
  .nil)
  .nil)
  (.cons (.ite (.sc (.cmp .NotEq (.call 11 (.cons (.var 4) (.cons (.var 12) (.cons (.bin .Mult (.var 6) (.var 10)) .nil)))) (.call 11 (.cons (.var 9) (.cons (.var 12) (.cons (.var 6) .nil))))))
  (.cons (.ret (.bl false))
  .nil)
  .nil)
  .nil)))))))))))))))))))
def b_law_k33 : Ss := (.cons (.fr (.nm 1) (.seq (.slc (.bin .Add (.lst (.cons (.int 0) .nil)) (.var 0)) .nop (.int 8))) l1_law_k33)
  (.cons (.ret (.sc (.cmp .Eq (.call 10 (.cons (.tup (.cons (.int 10) (.cons (.int 10) .nil))) (.cons (.int 3) (.cons (.int 1) .nil)))) (.int 10))))
  .nil))
/-- law: _law_script -/
def s_law_k33 (cs : List FSem) : FSem := defSem false 1 16 cs b_law_k33
def t_law_every : Tb := ⟨["_law_calls", "_law_name", "_law_call"], [("_law_told", false, 1)], [], [], []⟩
def c1_law_every : E := .lc (.int 1) (.nm 2) (.seq (.var 0)) (.sc (.cmp .NotEq (.call 0 (.cons (.var 2) .nil)) (.var 1)))
def b_law_every : Ss := (.cons (.ret (.sc (.cmp .Eq c1_law_every (.lst .nil))))
  .nil)
/-- _law_every: _law_calls, _law_name -/
def s_law_every (cs : List FSem) : FSem := defSem false 2 3 cs b_law_every
end DD.P

-- part DR
set_option Elab.async false
set_option linter.all false
set_option maxRecDepth 100000
/-! What is known of an environment; rules that say what the evaluator returns. -/
namespace DD
open PySem (PyData Str Operator CmpOp)
/-! ### codes: how plain values stand for data -/
structure Cd (α : Type) where
  e : α → PD
def cA : Cd PD := ⟨fun d => d⟩
def cI : Cd Int := ⟨PyData.int⟩
def cB : Cd Bool := ⟨PyData.bool⟩
def cS : Cd Str := ⟨PyData.str⟩
def cN : Cd Unit := ⟨fun _ => .none⟩
def cT {α : Type} (c : Cd α) : Cd (List α) := ⟨fun l => .tuple (l.map c.e)⟩
def cL {α : Type} (c : Cd α) : Cd (List α) := ⟨fun l => .list (l.map c.e)⟩
def cP {α β : Type} (a : Cd α) (b : Cd β) : Cd (α × β) := ⟨fun p => .tuple [a.e p.1, b.e p.2]⟩
def cP3 {α β γ : Type} (a : Cd α) (b : Cd β) (c : Cd γ) : Cd (α × β × γ) := ⟨fun p => .tuple [a.e p.1, b.e p.2.1, c.e p.2.2]⟩
def cO {α : Type} (c : Cd α) : Cd (Option α) := ⟨fun o => match o with | none => .none | some x => c.e x⟩
def cD {α : Type} (c : Cd α) : Cd (List (Int × α)) := ⟨fun l => .dict (l.map fun p => (.int p.1, c.e p.2))⟩
abbrev Sc := Int × Int × Int
def cSc : Cd Sc := ⟨fun s => .list [.int s.1, .int s.2.1, .int s.2.2]⟩
def isLD : PD → Bool
  | .list _ => true
  | .dict _ => true
  | _ => false
/-! ### knowledge -/
inductive KC where
  | u | r (d : PD) | o (d : PD) | b (d : PD)
def okC : KC → Option Cell → Prop
  | .u, c => ∀ d, c ≠ some (.bo d)
  | .r d, c => c = some (.sh d) ∨ (c = some (.ow d) ∧ isLD d = true)
  | .o d, c => c = some (.ow d)
  | .b d, c => c = some (.bo d)
inductive OkE : List KC → Env → Prop where
  | nil : OkE [] []
  | cons {k : KC} {K : List KC} {c : Option Cell} {ρ : Env} : okC k c → OkE K ρ → OkE (k :: K) (c :: ρ)
def kget : List KC → Nat → Option KC
  | [], _ => none
  | k :: _, 0 => some k
  | _ :: K, i + 1 => kget K i
def kset : List KC → Nat → KC → List KC
  | [], _, _ => []
  | _ :: K, 0, x => x :: K
  | k :: K, i + 1, x => k :: kset K i x
def mkK (d : PD) (w : Bool) : KC := if w then .o d else .r d
theorem OkE.get : ∀ {K : List KC} {ρ : Env} {i : Nat} {k : KC}, OkE K ρ → kget K i = some k → ∃ c, ρ[i]? = some c ∧ okC k c
  | _, _, i, k, .nil, h => by cases h
  | _, _, 0, k, .cons (c := c) a b, h => by
    cases h
    exact ⟨c, rfl, a⟩
  | _, _, i + 1, k, .cons a b, h => by
    obtain ⟨c, h1, h2⟩ := OkE.get b h
    exact ⟨c, h1, h2⟩
theorem OkE.set : ∀ {K : List KC} {ρ : Env} {i : Nat} {k : KC} {c : Option Cell}, OkE K ρ → okC k c → OkE (kset K i k) (ρ.set i c)
  | _, _, i, k, c, .nil, h => by
    cases i <;> exact .nil
  | _, _, 0, k, c, .cons a b, h => .cons h b
  | _, _, i + 1, k, c, .cons a b, h => .cons a (OkE.set b h)
theorem OkE.self : ∀ {K : List KC} {ρ : Env} {i : Nat} {k : KC} {c : Option Cell}, OkE K ρ → ρ[i]? = some c → okC k c → OkE (kset K i k) ρ
  | _, _, i, k, c, .nil, _, h => by
    cases i <;> exact .nil
  | _, _, 0, k, c, .cons a b, e, h => by
    cases e
    exact .cons h b
  | _, _, i + 1, k, c, .cons a b, e, h => .cons a (OkE.self b e h)
theorem getC_of {ρ : Env} {i : Nat} {c : Option Cell} (h : ρ[i]? = some c) : getC ρ i = c := by
  unfold getC
  rw [h]
  cases c <;> rfl
inductive LeC : KC → KC → Prop where
  | rfl {k : KC} : LeC k k
  | ur {d : PD} : LeC (.r d) .u
  | uo {d : PD} : LeC (.o d) .u
  | ro {d : PD} : isLD d = true → LeC (.o d) (.r d)
inductive LeK : List KC → List KC → Prop where
  | nil : LeK [] []
  | cons {k k' : KC} {K K' : List KC} : LeC k k' → LeK K K' → LeK (k :: K) (k' :: K')
theorem LeK.ok : ∀ {K K' : List KC} {ρ : Env}, LeK K K' → OkE K ρ → OkE K' ρ
  | _, _, _, .nil, h => h
  | _, _, _, .cons a b, .cons h g => .cons (by
    cases a with
    | rfl => exact h
    | ur =>
      intro d z
      rcases h with h | ⟨h, _⟩ <;> rw [h] at z <;> cases z
    | uo =>
      intro d z
      rw [h] at z
      cases z
    | ro e => exact .inr ⟨h, e⟩) (b.ok g)
/-! ### expressions -/
def RE (cs : List FSem) (e : E) (K : List KC) (d : PD) (w : Bool) (K' : List KC) : Prop :=
  ∀ ρ, OkE K ρ → ∃ fr ρ', evalE cs e ρ = some (.ok d fr ρ') ∧ (w = true → fr = true) ∧ (fr = true → isLD d = true) ∧ OkE K' ρ'
def REs (cs : List FSem) (es : Es) (K : List KC) (ds : List PD) (K' : List KC) : Prop :=
  ∀ ρ, OkE K ρ → ∃ ρ', evalEs cs es ρ = some (.ok ds ρ') ∧ OkE K' ρ'
def RI (cs : List FSem) (it : It) (K : List KC) (ds : List PD) (K' : List KC) : Prop :=
  ∀ ρ, OkE K ρ → ∃ ρ', evalI cs it ρ = some (.ok ds ρ') ∧ OkE K' ρ'
/-- inside a part whose environment is dropped -/
def RV (cs : List FSem) (e : E) (K : List KC) (d : PD) : Prop :=
  ∀ ρ, OkE K ρ → ∃ fr ρ', evalE cs e ρ = some (.ok d fr ρ')
def RunOk (g : FSem) (ds : List PD) (d : PD) (w : Bool) (m : PD) : Prop :=
  ∃ fr, g.run ds = some (.ret d fr m) ∧ (w = true → fr = true) ∧ (fr = true → isLD d = true)
section
variable {cs : List FSem}
theorem RE.v {e : E} {K K' : List KC} {d : PD} {w : Bool} (h : RE cs e K d w K') : RV cs e K d := fun ρ ok => by
  obtain ⟨fr, ρ', e, _⟩ := h ρ ok
  exact ⟨fr, ρ', e⟩
theorem RE.weak {e : E} {K K1 K2 : List KC} {d : PD} {w : Bool} (h : RE cs e K d w K1) (l : LeK K1 K2) : RE cs e K d w K2 := fun ρ ok => by
  obtain ⟨fr, ρ', e, a, b, c⟩ := h ρ ok
  exact ⟨fr, ρ', e, a, b, l.ok c⟩
theorem RE.pre {e : E} {K K1 K2 : List KC} {d : PD} {w : Bool} (l : LeK K K1) (h : RE cs e K1 d w K2) : RE cs e K d w K2 := fun ρ ok => h ρ (l.ok ok)
theorem RE.low {e : E} {K K1 : List KC} {d : PD} {w : Bool} (h : RE cs e K d w K1) : RE cs e K d false K1 := fun ρ ok => by
  obtain ⟨fr, ρ', e, a, b, c⟩ := h ρ ok
  exact ⟨fr, ρ', e, (fun z => by cases z), b, c⟩
theorem RE.eq {α : Type} {c : Cd α} {e : E} {K K1 : List KC} {v x : α} {w : Bool} (hx : v = x) (h : RE cs e K (c.e v) w K1) : RE cs e K (c.e x) w K1 := hx ▸ h
theorem RE.to {e : E} {K K1 : List KC} {d d' : PD} {w : Bool} (h : RE cs e K d w K1) (hx : d = d') : RE cs e K d' w K1 := hx ▸ h
theorem RV.to {e : E} {K : List KC} {d d' : PD} (h : RV cs e K d) (hx : d = d') : RV cs e K d' := hx ▸ h
theorem RE.int {i : Int} {K : List KC} : RE cs (.int i) K (cI.e i) false K := fun ρ ok => ⟨false, ρ, rfl, (fun z => by cases z), (fun z => by cases z), ok⟩
theorem RE.bl {b : Bool} {K : List KC} : RE cs (.bl b) K (cB.e b) false K := fun ρ ok => ⟨false, ρ, rfl, (fun z => by cases z), (fun z => by cases z), ok⟩
theorem RE.non {K : List KC} : RE cs .non K (cN.e ()) false K := fun ρ ok => ⟨false, ρ, rfl, (fun z => by cases z), (fun z => by cases z), ok⟩
theorem RE.str {s : Str} {K : List KC} : RE cs (.str s) K (cS.e s) false K := fun ρ ok => ⟨false, ρ, rfl, (fun z => by cases z), (fun z => by cases z), ok⟩
theorem RE.gint {x : Str} {i : Int} {K : List KC} : RE cs (.gint x i) K (cI.e i) false K := fun ρ ok => ⟨false, ρ, rfl, (fun z => by cases z), (fun z => by cases z), ok⟩
theorem RE.gtup {x : Str} {is : List Int} {K : List KC} : RE cs (.gtup x is) K ((cT cI).e is) false K := fun ρ ok => ⟨false, ρ, rfl, (fun z => by cases z), (fun z => by cases z), ok⟩
theorem RE.varR {K : List KC} {i : Nat} {d : PD} (h : kget K i = some (.r d)) : RE cs (.var i) K d false K := fun ρ ok => by
  obtain ⟨c, h1, h2⟩ := ok.get h
  have g := getC_of h1
  rcases h2 with rfl | ⟨rfl, hl⟩
  · exact ⟨false, ρ, by rw [evalE, g], (fun z => by cases z), (fun z => by cases z), ok⟩
  · refine ⟨false, ρ.set i (some (.sh d)), by rw [evalE, g], (fun z => by cases z), (fun z => by cases z), ?_⟩
    have := ok.set (i := i) (k := .r d) (c := some (.sh d)) (.inl rfl)
    have e : ∀ {K : List KC} {i : Nat} {k : KC}, kget K i = some k → kset K i k = K := by
      intro K
      induction K with
      | nil =>
        intro i k h
        cases h
      | cons a K ih =>
        intro i k h
        cases i with
        | zero =>
          cases h
          rfl
        | succ j =>
          show a :: kset K j k = a :: K
          rw [ih h]
    rwa [e h] at this
theorem RE.varO {K : List KC} {i : Nat} {d : PD} (h : kget K i = some (.o d)) : RE cs (.var i) K d false (kset K i (.r d)) := fun ρ ok => by
  obtain ⟨c, h1, h2⟩ := ok.get h
  have g := getC_of h1
  cases h2
  exact ⟨false, ρ.set i (some (.sh d)), by rw [evalE, g], (fun z => by cases z), (fun z => by cases z), ok.set (.inl rfl)⟩
theorem okC_u0 : okC .u none := fun d h => by cases h
theorem RE.mvR {K : List KC} {i : Nat} {d : PD} (h : kget K i = some (.r d)) : RE cs (.mv i) K d false (kset K i .u) := fun ρ ok => by
  obtain ⟨c, h1, h2⟩ := ok.get h
  have g := getC_of h1
  rcases h2 with rfl | ⟨rfl, hl⟩
  · exact ⟨false, ρ, by rw [evalE, g], (fun z => by cases z), (fun z => by cases z), ok.self h1 (fun d h => by cases h)⟩
  · exact ⟨true, ρ.set i none, by rw [evalE, g], (fun z => by cases z), (fun _ => hl), ok.set okC_u0⟩
theorem RE.mvO {K : List KC} {i : Nat} {d : PD} (h : kget K i = some (.o d)) (hl : isLD d = true) : RE cs (.mv i) K d true (kset K i .u) := fun ρ ok => by
  obtain ⟨c, h1, h2⟩ := ok.get h
  have g := getC_of h1
  cases h2
  exact ⟨true, ρ.set i none, by rw [evalE, g], (fun _ => rfl), (fun _ => hl), ok.set okC_u0⟩
theorem RE.sc {e : E} {K : List KC} {d : PD} (h : RV cs e K d) (hs : isScal d = true) : RE cs (.sc e) K d false K := fun ρ ok => by
  obtain ⟨fr, ρ', e1⟩ := h ρ ok
  exact ⟨false, ρ, by rw [evalE, e1]; simp only [hs, if_true], (fun z => by cases z), (fun z => by cases z), ok⟩
theorem RE.bin {op : Operator} {a b : E} {K K1 K2 : List KC} {x y z : PD} {w1 w2 w : Bool} (ha : RE cs a K x w1 K1) (hb : RE cs b K1 y w2 K2) (hv : binV op x y = some (z, w)) (hl : w = true → isLD z = true := by intro z; cases z) : RE cs (.bin op a b) K z w K2 := fun ρ ok => by
  obtain ⟨f1, ρ1, e1, _, _, ok1⟩ := ha ρ ok
  obtain ⟨f2, ρ2, e2, _, _, ok2⟩ := hb ρ1 ok1
  refine ⟨w, ρ2, ?_, id, hl, ok2⟩
  rw [evalE, e1]
  show EO.bind (evalE cs b ρ1) _ = _
  rw [e2]
  show outE ρ2 (binV op x y) = _
  rw [hv]
  rfl
theorem RE.neg {a : E} {K K1 : List KC} {i : Int} {w : Bool} (ha : RE cs a K (cI.e i) w K1) : RE cs (.neg a) K (cI.e (-i)) false K1 := fun ρ ok => by
  obtain ⟨f1, ρ1, e1, _, _, ok1⟩ := ha ρ ok
  refine ⟨false, ρ1, ?_, (fun z => by cases z), (fun z => by cases z), ok1⟩
  rw [evalE, e1]
  rfl
theorem RE.cmp {op : CmpOp} {a b : E} {K K1 K2 : List KC} {x y : PD} {w1 w2 z : Bool} (ha : RE cs a K x w1 K1) (hb : RE cs b K1 y w2 K2) (hv : cmpV op x y = some z) : RE cs (.cmp op a b) K (cB.e z) false K2 := fun ρ ok => by
  obtain ⟨f1, ρ1, e1, _, _, ok1⟩ := ha ρ ok
  obtain ⟨f2, ρ2, e2, _, _, ok2⟩ := hb ρ1 ok1
  refine ⟨false, ρ2, ?_, (fun z => by cases z), (fun z => by cases z), ok2⟩
  rw [evalE, e1]
  show EO.bind (evalE cs b ρ1) _ = _
  rw [e2]
  show outB ρ2 (cmpV op x y) = _
  rw [hv]
  rfl
theorem RV.chain {op op2 : CmpOp} {a b c : E} {K K1 K2 : List KC} {x y : PD} {w1 w2 z u : Bool} (ha : RE cs a K x w1 K1) (hb : RE cs b K1 y w2 K2) (hv : cmpV op x y = some z)
    (hc : z = true → ∃ t, RV cs c K2 t ∧ cmpV op2 y t = some u) (hf : z = false → u = false) : RV cs (.chain op op2 a b c) K (cB.e u) := fun ρ ok => by
  obtain ⟨f1, ρ1, e1, _, _, ok1⟩ := ha ρ ok
  obtain ⟨f2, ρ2, e2, _, _, ok2⟩ := hb ρ1 ok1
  cases z with
  | false =>
    refine ⟨false, ρ2, ?_⟩
    rw [evalE, e1]
    show EO.bind (evalE cs b ρ1) _ = _
    rw [e2]
    simp only [EO.bind, hv]
    rw [hf rfl]
    rfl
  | true =>
    obtain ⟨t, rv, hu⟩ := hc rfl
    obtain ⟨f3, ρ3, e3⟩ := rv ρ2 ok2
    refine ⟨false, ρ3, ?_⟩
    rw [evalE, e1]
    show EO.bind (evalE cs b ρ1) _ = _
    rw [e2]
    simp only [EO.bind, hv, e3, hu]
    rfl
theorem RV.and {a b : E} {K K1 : List KC} {x z : Bool} {w1 : Bool} (ha : RE cs a K (cB.e x) w1 K1) (hb : x = true → RV cs b K1 (cB.e z)) (hf : x = false → z = false) : RV cs (.and a b) K (cB.e z) := fun ρ ok => by
  obtain ⟨f1, ρ1, e1, _, _, ok1⟩ := ha ρ ok
  cases x with
  | false =>
    refine ⟨false, ρ1, ?_⟩
    rw [evalE, e1, hf rfl]
    rfl
  | true =>
    obtain ⟨f2, ρ2, e2⟩ := hb rfl ρ1 ok1
    refine ⟨false, ρ2, ?_⟩
    rw [evalE, e1]
    show EO.bind (evalE cs b ρ1) _ = _
    rw [e2]
    rfl
theorem RV.or {a b : E} {K K1 : List KC} {x z : Bool} {w1 : Bool} (ha : RE cs a K (cB.e x) w1 K1) (hb : x = false → RV cs b K1 (cB.e z)) (hf : x = true → z = true) : RV cs (.or a b) K (cB.e z) := fun ρ ok => by
  obtain ⟨f1, ρ1, e1, _, _, ok1⟩ := ha ρ ok
  cases x with
  | true =>
    refine ⟨false, ρ1, ?_⟩
    rw [evalE, e1, hf rfl]
    rfl
  | false =>
    obtain ⟨f2, ρ2, e2⟩ := hb rfl ρ1 ok1
    refine ⟨false, ρ2, ?_⟩
    rw [evalE, e1]
    show EO.bind (evalE cs b ρ1) _ = _
    rw [e2]
    rfl
theorem RE.or {a b : E} {K K1 K2 : List KC} {x z : Bool} {w1 : Bool} (ha : RE cs a K (cB.e x) w1 K1) (hb : x = false → RE cs b K1 (cB.e z) false K2) (hf : x = true → z = true) (l : x = true → LeK K1 K2) : RE cs (.or a b) K (cB.e z) false K2 := fun ρ ok => by
  obtain ⟨f1, ρ1, e1, _, _, ok1⟩ := ha ρ ok
  cases x with
  | true =>
    refine ⟨false, ρ1, ?_, (fun z => by cases z), (fun z => by cases z), (l rfl).ok ok1⟩
    rw [evalE, e1, hf rfl]
    rfl
  | false =>
    obtain ⟨f2, ρ2, e2, _, _, ok2⟩ := hb rfl ρ1 ok1
    refine ⟨false, ρ2, ?_, (fun z => by cases z), (fun z => by cases z), ok2⟩
    rw [evalE, e1]
    show EO.bind (evalE cs b ρ1) _ = _
    rw [e2]
    rfl
theorem RE.andC {a b : E} {K K1 : List KC} {x z : Bool} {w1 w2 : Bool} (ha : RE cs a K (cB.e x) w1 K1) (hb : x = true → RE cs b K1 (cB.e z) w2 K1) (hf : x = false → z = false) : RE cs (.and a b) K (cB.e z) false K1 := fun ρ ok => by
  obtain ⟨f1, ρ1, e1, _, _, ok1⟩ := ha ρ ok
  cases x with
  | false =>
    refine ⟨false, ρ1, ?_, (fun z => by cases z), (fun z => by cases z), ok1⟩
    rw [evalE, e1, hf rfl]
    rfl
  | true =>
    obtain ⟨f2, ρ2, e2, _, _, ok2⟩ := hb rfl ρ1 ok1
    refine ⟨false, ρ2, ?_, (fun z => by cases z), (fun z => by cases z), ok2⟩
    rw [evalE, e1]
    show EO.bind (evalE cs b ρ1) _ = _
    rw [e2]
    rfl
theorem RE.orC {a b : E} {K K1 : List KC} {x z : Bool} {w1 w2 : Bool} (ha : RE cs a K (cB.e x) w1 K1) (hb : x = false → RE cs b K1 (cB.e z) w2 K1) (hf : x = true → z = true) : RE cs (.or a b) K (cB.e z) false K1 := fun ρ ok => by
  obtain ⟨f1, ρ1, e1, _, _, ok1⟩ := ha ρ ok
  cases x with
  | true =>
    refine ⟨false, ρ1, ?_, (fun z => by cases z), (fun z => by cases z), ok1⟩
    rw [evalE, e1, hf rfl]
    rfl
  | false =>
    obtain ⟨f2, ρ2, e2, _, _, ok2⟩ := hb rfl ρ1 ok1
    refine ⟨false, ρ2, ?_, (fun z => by cases z), (fun z => by cases z), ok2⟩
    rw [evalE, e1]
    show EO.bind (evalE cs b ρ1) _ = _
    rw [e2]
    rfl
theorem RE.andT {a b : E} {K K1 : List KC} {x y : Bool} {w1 w2 : Bool} (ha : RE cs a K (cB.e x) w1 K1) (hb : RE cs b K1 (cB.e y) w2 K1) : RE cs (.and a b) K (cB.e (x && y)) false K1 :=
  RE.andC ha (fun e => by rw [e]; exact hb) (fun e => by rw [e]; rfl)
theorem RE.orT {a b : E} {K K1 : List KC} {x y : Bool} {w1 w2 : Bool} (ha : RE cs a K (cB.e x) w1 K1) (hb : RE cs b K1 (cB.e y) w2 K1) : RE cs (.or a b) K (cB.e (x || y)) false K1 :=
  RE.orC ha (fun e => by rw [e]; exact hb) (fun e => by rw [e]; rfl)
theorem RE.chainT {op op2 : CmpOp} {a b c : E} {K K1 K2 : List KC} {x y t : PD} {w1 w2 w3 z u : Bool} (ha : RE cs a K x w1 K1) (hb : RE cs b K1 y w2 K2) (hv : cmpV op x y = some z)
    (hc : RE cs c K2 t w3 K2) (hu : cmpV op2 y t = some u) : RE cs (.chain op op2 a b c) K (cB.e (z && u)) false K2 := fun ρ ok => by
  obtain ⟨f1, ρ1, e1, _, _, ok1⟩ := ha ρ ok
  obtain ⟨f2, ρ2, e2, _, _, ok2⟩ := hb ρ1 ok1
  cases z with
  | false =>
    refine ⟨false, ρ2, ?_, (fun z => by cases z), (fun z => by cases z), ok2⟩
    rw [evalE, e1]
    show EO.bind (evalE cs b ρ1) _ = _
    rw [e2]
    simp only [EO.bind, hv]
    rfl
  | true =>
    obtain ⟨f3, ρ3, e3, _, _, ok3⟩ := hc ρ2 ok2
    refine ⟨false, ρ3, ?_, (fun z => by cases z), (fun z => by cases z), ok3⟩
    rw [evalE, e1]
    show EO.bind (evalE cs b ρ1) _ = _
    rw [e2]
    simp only [EO.bind, hv, e3, hu]
    rfl
theorem RE.not {a : E} {K K1 : List KC} {x : Bool} {w1 : Bool} (ha : RE cs a K (cB.e x) w1 K1) : RE cs (.not a) K (cB.e (!x)) false K1 := fun ρ ok => by
  obtain ⟨f1, ρ1, e1, _, _, ok1⟩ := ha ρ ok
  refine ⟨false, ρ1, ?_, (fun z => by cases z), (fun z => by cases z), ok1⟩
  rw [evalE, e1]
  rfl
theorem RV.not {a : E} {K : List KC} {x : Bool} (ha : RV cs a K (cB.e x)) : RV cs (.not a) K (cB.e (!x)) := fun ρ ok => by
  obtain ⟨f1, ρ1, e1⟩ := ha ρ ok
  refine ⟨false, ρ1, ?_⟩
  rw [evalE, e1]
  rfl
theorem RE.ite {c a b : E} {K K1 K2 : List KC} {x : Bool} {d : PD} {w1 wa wb : Bool} (hc : RE cs c K (cB.e x) w1 K1) (ha : x = true → RE cs a K1 d wa K2) (hb : x = false → RE cs b K1 d wb K2) : RE cs (.ite c a b) K d false K2 := fun ρ ok => by
  obtain ⟨f1, ρ1, e1, _, _, ok1⟩ := hc ρ ok
  cases x with
  | true =>
    obtain ⟨f2, ρ2, e2, _, _, ok2⟩ := ha rfl ρ1 ok1
    refine ⟨false, ρ2, ?_, (fun z => by cases z), (fun z => by cases z), ok2⟩
    rw [evalE, e1]
    show EO.bind (evalE cs a ρ1) _ = _
    rw [e2]
    rfl
  | false =>
    obtain ⟨f2, ρ2, e2, _, _, ok2⟩ := hb rfl ρ1 ok1
    refine ⟨false, ρ2, ?_, (fun z => by cases z), (fun z => by cases z), ok2⟩
    rw [evalE, e1]
    show EO.bind (evalE cs b ρ1) _ = _
    rw [e2]
    rfl
theorem REs.nil {K : List KC} : REs cs .nil K [] K := fun ρ ok => ⟨ρ, rfl, ok⟩
theorem REs.cons {e : E} {es : Es} {K K1 K2 : List KC} {d : PD} {ds : List PD} {w : Bool} (h : RE cs e K d w K1) (hs : REs cs es K1 ds K2) : REs cs (.cons e es) K (d :: ds) K2 := fun ρ ok => by
  obtain ⟨f1, ρ1, e1, _, _, ok1⟩ := h ρ ok
  obtain ⟨ρ2, e2, ok2⟩ := hs ρ1 ok1
  refine ⟨ρ2, ?_, ok2⟩
  rw [evalEs, e1]
  show AO.binA (evalEs cs es ρ1) _ = _
  rw [e2]
  rfl
theorem RE.call {k : Nat} {as : Es} {g : FSem} {K K1 : List KC} {ds : List PD} {d : PD} {w : Bool} {m : PD} (hg : cs[k]? = some g) (hm : g.mu = false) (ha : REs cs as K ds K1) (hr : RunOk g ds d w m) : RE cs (.call k as) K d w K1 := fun ρ ok => by
  obtain ⟨ρ1, e1, ok1⟩ := ha ρ ok
  obtain ⟨fr, e2, h1, h2⟩ := hr
  refine ⟨fr, ρ1, ?_, h1, h2, ok1⟩
  rw [evalE, e1]
  show callE cs[k]? ds ρ1 = _
  rw [hg]
  simp only [callE, hm, if_true, e2]
/-- a name that may be changed -/
inductive KMut (K : List KC) (v : Nat) (m : PD) : (PD → KC) → Prop where
  | o : kget K v = some (.o m) → KMut K v m .o
  | b : kget K v = some (.b m) → KMut K v m .b
theorem KMut.get {K : List KC} {v : Nat} {m : PD} {f : PD → KC} (h : KMut K v m f) {ρ : Env} (ok : OkE K ρ) : ∃ c, getC ρ v = some c ∧ c.dat = m ∧ c.isMut = true ∧ ∀ x, okC (f x) (some (c.put x)) := by
  cases h with
  | o h =>
    obtain ⟨c, h1, h2⟩ := ok.get h
    cases h2
    exact ⟨_, getC_of h1, rfl, rfl, fun x => rfl⟩
  | b h =>
    obtain ⟨c, h1, h2⟩ := ok.get h
    cases h2
    exact ⟨_, getC_of h1, rfl, rfl, fun x => rfl⟩
/-- a name that is there -/
def kdat : Option KC → Option PD
  | some (.r d) => some d
  | some (.o d) => some d
  | some (.b d) => some d
  | _ => none
theorem kdat_get {K : List KC} {v : Nat} {m : PD} (h : kdat (kget K v) = some m) {ρ : Env} (ok : OkE K ρ) : ∃ c, getC ρ v = some c ∧ c.dat = m := by
  cases hk : kget K v with
  | none => rw [hk] at h; cases h
  | some k =>
    rw [hk] at h
    obtain ⟨c, h1, h2⟩ := ok.get hk
    cases k with
    | u => cases h
    | r d =>
      cases h
      rcases h2 with rfl | ⟨rfl, _⟩
      · exact ⟨_, getC_of h1, rfl⟩
      · exact ⟨_, getC_of h1, rfl⟩
    | o d =>
      cases h
      cases h2
      exact ⟨_, getC_of h1, rfl⟩
    | b d =>
      cases h
      cases h2
      exact ⟨_, getC_of h1, rfl⟩
theorem RE.callm {k v : Nat} {as : Es} {g : FSem} {K K1 : List KC} {ds : List PD} {d m0 m m1 : PD} {w : Bool} {f : PD → KC} (hg : cs[k]? = some g) (hm : g.mu = true) (h0 : kdat (kget K v) = some m0) (ha : REs cs as K ds K1) (hk : KMut K1 v m f) (hr : RunOk g (m :: ds) d w m1) : RE cs (.callm k v as) K d w (kset K1 v (f m1)) := fun ρ ok => by
  obtain ⟨c0, g0, _⟩ := kdat_get h0 ok
  obtain ⟨ρ1, e1, ok1⟩ := ha ρ ok
  obtain ⟨c, g1, rfl, hmu, hp⟩ := hk.get ok1
  obtain ⟨fr, e2, h1, h2⟩ := hr
  refine ⟨fr, ρ1.set v (some (c.put m1)), ?_, h1, h2, ok1.set (hp m1)⟩
  rw [evalE, g0]
  simp only [e1, AO.bind, hg, callmE, g1, hm, hmu, and_self, if_true, e2]
theorem RE.blt {f : Bt} {as : Es} {K K1 : List KC} {ds : List PD} {d : PD} {w : Bool} (ha : REs cs as K ds K1) (hv : bltV f ds = some (d, w)) (hl : w = true → isLD d = true := by intro z; cases z) : RE cs (.blt f as) K d w K1 := fun ρ ok => by
  obtain ⟨ρ1, e1, ok1⟩ := ha ρ ok
  refine ⟨w, ρ1, ?_, id, hl, ok1⟩
  rw [evalE, e1]
  show outE ρ1 (bltV f ds) = _
  rw [hv]
  rfl
theorem RE.trng {f : Bt} {as : Es} {K K1 : List KC} {ds is : List PD} {d : PD} {w : Bool} (ha : REs cs as K ds K1) (hr : rngL ds = some is) (hv : bltV f [.list is] = some (d, w)) (hl : w = true → isLD d = true := by intro z; cases z) : RE cs (.trng f as) K d w K1 := fun ρ ok => by
  obtain ⟨ρ1, e1, ok1⟩ := ha ρ ok
  refine ⟨w, ρ1, ?_, id, hl, ok1⟩
  rw [evalE, e1]
  simp only [AO.bind, hr, hv]
  rfl
theorem RE.isi {a : E} {ts : List Ty} {K K1 : List KC} {x : PD} {w1 : Bool} (ha : RE cs a K x w1 K1) : RE cs (.isi a ts) K (cB.e (ts.any (isTy x))) false K1 := fun ρ ok => by
  obtain ⟨f1, ρ1, e1, _, _, ok1⟩ := ha ρ ok
  refine ⟨false, ρ1, ?_, (fun z => by cases z), (fun z => by cases z), ok1⟩
  rw [evalE, e1]
  rfl
theorem RE.ix {a i : E} {K K1 K2 : List KC} {x y d : PD} {w1 w2 : Bool} (ha : RE cs a K x w1 K1) (hi : RE cs i K1 y w2 K2) (hv : ixV x y = some d) : RE cs (.ix a i) K d false K2 := fun ρ ok => by
  obtain ⟨f1, ρ1, e1, _, _, ok1⟩ := ha ρ ok
  obtain ⟨f2, ρ2, e2, _, _, ok2⟩ := hi ρ1 ok1
  refine ⟨false, ρ2, ?_, (fun z => by cases z), (fun z => by cases z), ok2⟩
  rw [evalE, e1]
  show EO.bind (evalE cs i ρ1) _ = _
  rw [e2]
  show (ixV x y).bind _ = _
  rw [hv]
  rfl
theorem RE.ixv {v : Nat} {i : E} {K K1 : List KC} {x0 x y d : PD} {w2 : Bool} (h0 : kdat (kget K v) = some x0) (hi : RE cs i K y w2 K1) (h1 : kdat (kget K1 v) = some x) (hv : ixV x y = some d) : RE cs (.ixv v i) K d false K1 := fun ρ ok => by
  obtain ⟨c0, g0, _⟩ := kdat_get h0 ok
  obtain ⟨f2, ρ2, e2, _, _, ok2⟩ := hi ρ ok
  obtain ⟨c, g1, rfl⟩ := kdat_get h1 ok2
  refine ⟨false, ρ2, ?_, (fun z => by cases z), (fun z => by cases z), ok2⟩
  rw [evalE, g0]
  simp only [e2, EO.bind, g1, hv]
  rfl
/-- a part of a slice -/
inductive ROp (cs : List FSem) : E → List KC → Option Int → List KC → Prop where
  | no {K : List KC} : ROp cs .nop K none K
  | yes {e : E} {K K1 : List KC} {i : Int} {w : Bool} : isNop e = false → RE cs e K (cI.e i) w K1 → ROp cs e K (some i) K1
theorem ROp.run {e : E} {K K1 : List KC} {o : Option Int} (h : ROp cs e K o K1) {ρ : Env} (ok : OkE K ρ) : ∃ ρ', OkE K1 ρ' ∧ ∀ k, optI (isNop e) ρ (evalE cs e ρ) k = k o ρ' := by
  cases h with
  | no => exact ⟨ρ, ok, fun k => rfl⟩
  | yes hn h =>
    obtain ⟨f1, ρ1, e1, _, _, ok1⟩ := h ρ ok
    refine ⟨ρ1, ok1, fun k => ?_⟩
    rw [hn, e1]
    rfl
theorem RE.slc {a lo hi : E} {K K1 K2 K3 : List KC} {x d : PD} {l h : Option Int} {w1 w : Bool} (ha : RE cs a K x w1 K1) (hlo : ROp cs lo K1 l K2) (hhi : ROp cs hi K2 h K3) (hv : slV x l h = some (d, w)) (hl : w = true → isLD d = true := by intro z; cases z) : RE cs (.slc a lo hi) K d w K3 := fun ρ ok => by
  obtain ⟨f1, ρ1, e1, _, _, ok1⟩ := ha ρ ok
  obtain ⟨ρ2, ok2, e2⟩ := hlo.run ok1
  obtain ⟨ρ3, ok3, e3⟩ := hhi.run ok2
  refine ⟨w, ρ3, ?_, id, hl, ok3⟩
  rw [evalE, e1]
  simp only [EO.bind, e2, e3, hv]
  rfl
theorem RE.slv {v : Nat} {lo hi : E} {K K2 K3 : List KC} {x0 x d : PD} {l h : Option Int} {w : Bool} (h0 : kdat (kget K v) = some x0) (hlo : ROp cs lo K l K2) (hhi : ROp cs hi K2 h K3) (h1 : kdat (kget K3 v) = some x) (hv : slV x l h = some (d, w)) (hl : w = true → isLD d = true := by intro z; cases z) : RE cs (.slv v lo hi) K d w K3 := fun ρ ok => by
  obtain ⟨c0, g0, _⟩ := kdat_get h0 ok
  obtain ⟨ρ2, ok2, e2⟩ := hlo.run ok
  obtain ⟨ρ3, ok3, e3⟩ := hhi.run ok2
  obtain ⟨c, g1, rfl⟩ := kdat_get h1 ok3
  refine ⟨w, ρ3, ?_, id, hl, ok3⟩
  rw [evalE, g0]
  simp only [e2, e3, g1, hv]
  rfl
theorem RE.revL {α : Type} {c : Cd α} {a : E} {K K1 : List KC} {xs : List α} {w1 : Bool} (ha : RE cs a K ((cL c).e xs) w1 K1) : RE cs (.rev a) K ((cL c).e xs.reverse) true K1 := fun ρ ok => by
  obtain ⟨f1, ρ1, e1, _, _, ok1⟩ := ha ρ ok
  refine ⟨true, ρ1, ?_, id, (fun _ => rfl), ok1⟩
  rw [evalE, e1]
  simp only [EO.bind, cL, retE, List.map_reverse]
theorem RE.revT {α : Type} {c : Cd α} {a : E} {K K1 : List KC} {xs : List α} {w1 : Bool} (ha : RE cs a K ((cT c).e xs) w1 K1) : RE cs (.rev a) K ((cT c).e xs.reverse) false K1 := fun ρ ok => by
  obtain ⟨f1, ρ1, e1, _, _, ok1⟩ := ha ρ ok
  refine ⟨false, ρ1, ?_, (fun z => by cases z), (fun z => by cases z), ok1⟩
  rw [evalE, e1]
  simp only [EO.bind, cT, retE, List.map_reverse]
theorem RE.tup {as : Es} {K K1 : List KC} {ds : List PD} {d : PD} (ha : REs cs as K ds K1) (hd : PyData.tuple ds = d) (hl : Nat.ble ds.length LIM = true := by rfl) : RE cs (.tup as) K d false K1 := fun ρ ok => by
  obtain ⟨ρ1, e1, ok1⟩ := ha ρ ok
  refine ⟨false, ρ1, ?_, (fun z => by cases z), (fun z => by cases z), ok1⟩
  rw [evalE, e1]
  have hl := Nat.le_of_ble_eq_true hl
  simp only [AO.bind, hl, if_true, retE, hd]
theorem RE.lst {as : Es} {K K1 : List KC} {ds : List PD} {d : PD} (ha : REs cs as K ds K1) (hd : PyData.list ds = d) (hl : Nat.ble ds.length LIM = true := by rfl) : RE cs (.lst as) K d true K1 := fun ρ ok => by
  obtain ⟨ρ1, e1, ok1⟩ := ha ρ ok
  refine ⟨true, ρ1, ?_, id, (fun _ => by rw [← hd]; rfl), ok1⟩
  rw [evalE, e1]
  have hl := Nat.le_of_ble_eq_true hl
  simp only [AO.bind, hl, if_true, retE, hd]
theorem RE.dic0 {α : Type} {c : Cd α} {K : List KC} : RE cs .dic0 K ((cD c).e []) true K := fun ρ ok => ⟨true, ρ, rfl, id, (fun _ => rfl), ok⟩
theorem RE.dic1 {α : Type} {c : Cd α} {k v : E} {K K1 K2 : List KC} {i : Int} {x : α} {w1 w2 : Bool} (hk : RE cs k K (cI.e i) w1 K1) (hv : RE cs v K1 (c.e x) w2 K2) : RE cs (.dic1 k v) K ((cD c).e [(i, x)]) true K2 := fun ρ ok => by
  obtain ⟨f1, ρ1, e1, _, _, ok1⟩ := hk ρ ok
  obtain ⟨f2, ρ2, e2, _, _, ok2⟩ := hv ρ1 ok1
  refine ⟨true, ρ2, ?_, id, (fun _ => rfl), ok2⟩
  rw [evalE, e1]
  show EO.bind (evalE cs v ρ1) _ = _
  rw [e2]
  rfl
theorem RE.idx {a x : E} {K K1 K2 : List KC} {l : List PD} {y : PD} {w1 w2 : Bool} {n : Nat} (ha : RE cs a K (.list l) w1 K1) (hx : RE cs x K1 y w2 K2) (h1 : shp (.list l) = true) (h2 : shp y = true) (hn : idxV l y 0 = some n) : RE cs (.idx a x) K (cI.e (n : Int)) false K2 := fun ρ ok => by
  obtain ⟨f1, ρ1, e1, _, _, ok1⟩ := ha ρ ok
  obtain ⟨f2, ρ2, e2, _, _, ok2⟩ := hx ρ1 ok1
  refine ⟨false, ρ2, ?_, (fun z => by cases z), (fun z => by cases z), ok2⟩
  rw [evalE, e1]
  simp only [EO.bind, e2, h1, h2, Bool.and_self, if_true, hn]
  rfl
/-! ### what is gone over -/
theorem RI.seqL {α : Type} {c : Cd α} {e : E} {K K1 : List KC} {xs : List α} {w : Bool} (h : RE cs e K ((cL c).e xs) w K1) : RI cs (.seq e) K (xs.map c.e) K1 := fun ρ ok => by
  obtain ⟨f1, ρ1, e1, _, _, ok1⟩ := h ρ ok
  refine ⟨ρ1, ?_, ok1⟩
  rw [evalI, e1]
  rfl
theorem RI.seqT {α : Type} {c : Cd α} {e : E} {K K1 : List KC} {xs : List α} {w : Bool} (h : RE cs e K ((cT c).e xs) w K1) : RI cs (.seq e) K (xs.map c.e) K1 := fun ρ ok => by
  obtain ⟨f1, ρ1, e1, _, _, ok1⟩ := h ρ ok
  refine ⟨ρ1, ?_, ok1⟩
  rw [evalI, e1]
  rfl
theorem RI.seqA {e : E} {K K1 : List KC} {x : PD} {xs : List PD} {w : Bool} (h : RE cs e K x w K1) (hs : DD.seqL x = some xs) : RI cs (.seq e) K (xs.map cA.e) K1 := fun ρ ok => by
  obtain ⟨f1, ρ1, e1, _, _, ok1⟩ := h ρ ok
  refine ⟨ρ1, ?_, ok1⟩
  rw [evalI, e1]
  have : xs.map cA.e = xs := by
    show xs.map (fun d => d) = xs
    simp
  simp only [EO.binA, hs, this]
  rfl
theorem RI.hid {α : Type} {c : Cd α} {v : Nat} {K : List KC} {xs : List α} (h : kdat (kget K v) = some ((cL c).e xs)) : RI cs (.hid v) K (xs.map c.e) K := fun ρ ok => by
  obtain ⟨c0, g0, hc⟩ := kdat_get h ok
  refine ⟨ρ, ?_, ok⟩
  rw [evalI, g0]
  simp only [hc, cL]
theorem RI.rng {as : Es} {K K1 : List KC} {ds : List PD} {is : List Int} (ha : REs cs as K ds K1) (hr : rngL ds = some (is.map cI.e)) : RI cs (.rng as) K (is.map cI.e) K1 := fun ρ ok => by
  obtain ⟨ρ1, e1, ok1⟩ := ha ρ ok
  refine ⟨ρ1, ?_, ok1⟩
  rw [evalI, e1]
  simp only [AO.binA, hr]
  rfl
/-- the items with their numbers -/
def enumL {α : Type} (xs : List α) : List (Int × α) := (List.range xs.length).zipWith (fun (i : Nat) y => ((i : Int), y)) xs
theorem enumL_map {α : Type} (c : Cd α) (xs : List α) : (List.range (xs.map c.e).length).zipWith (fun i y => PyData.tuple [.int ((i : Nat) : Int), y]) (xs.map c.e) = (enumL xs).map (cP cI c).e := by
  unfold enumL
  rw [List.length_map, List.zipWith_map_right, List.map_zipWith]
  rfl
theorem RI.enuL {α : Type} {c : Cd α} {e : E} {K K1 : List KC} {xs : List α} {w : Bool} (h : RE cs e K ((cL c).e xs) w K1) : RI cs (.enu e) K ((enumL xs).map (cP cI c).e) K1 := fun ρ ok => by
  obtain ⟨f1, ρ1, e1, _, _, ok1⟩ := h ρ ok
  refine ⟨ρ1, ?_, ok1⟩
  rw [evalI, e1, ← enumL_map]
  rfl
theorem RI.enuT {α : Type} {c : Cd α} {e : E} {K K1 : List KC} {xs : List α} {w : Bool} (h : RE cs e K ((cT c).e xs) w K1) : RI cs (.enu e) K ((enumL xs).map (cP cI c).e) K1 := fun ρ ok => by
  obtain ⟨f1, ρ1, e1, _, _, ok1⟩ := h ρ ok
  refine ⟨ρ1, ?_, ok1⟩
  rw [evalI, e1, ← enumL_map]
  rfl
theorem zip_map {α β : Type} (c : Cd α) (k : Cd β) (xs : List α) (ys : List β) : (xs.map c.e).zipWith (fun a b => PyData.tuple [a, b]) (ys.map k.e) = (xs.zip ys).map (cP c k).e := by
  rw [List.zipWith_map, List.zip, List.map_zipWith]
  rfl
theorem RI.zipL {α β : Type} {c : Cd α} {k : Cd β} {a b : E} {K K1 K2 : List KC} {xs : List α} {ys : List β} {w w2 : Bool} (h : RE cs a K ((cL c).e xs) w K1) (h2 : RE cs b K1 ((cL k).e ys) w2 K2) : RI cs (.zip a b) K ((xs.zip ys).map (cP c k).e) K2 := fun ρ ok => by
  obtain ⟨f1, ρ1, e1, _, _, ok1⟩ := h ρ ok
  obtain ⟨f2, ρ2, e2, _, _, ok2⟩ := h2 ρ1 ok1
  refine ⟨ρ2, ?_, ok2⟩
  rw [evalI, e1, ← zip_map]
  show EO.binA (evalE cs b ρ1) _ = _
  rw [e2]
  rfl
theorem RI.zipT {α β : Type} {c : Cd α} {k : Cd β} {a b : E} {K K1 K2 : List KC} {xs : List α} {ys : List β} {w w2 : Bool} (h : RE cs a K ((cT c).e xs) w K1) (h2 : RE cs b K1 ((cT k).e ys) w2 K2) : RI cs (.zip a b) K ((xs.zip ys).map (cP c k).e) K2 := fun ρ ok => by
  obtain ⟨f1, ρ1, e1, _, _, ok1⟩ := h ρ ok
  obtain ⟨f2, ρ2, e2, _, _, ok2⟩ := h2 ρ1 ok1
  refine ⟨ρ2, ?_, ok2⟩
  rw [evalI, e1, ← zip_map]
  show EO.binA (evalE cs b ρ1) _ = _
  rw [e2]
  rfl
end
end DD

-- part DR2
set_option Elab.async false
set_option linter.all false
set_option maxRecDepth 100000
/-! Comprehensions, statements, loops. -/
namespace DD
open PySem (PyData Str Operator CmpOp)
variable {cs : List FSem}
theorem bnd {α β : Type} {a : Option α} {f : α → Option β} {r : β} (h : a.bind f = some r) : ∃ x, a = some x ∧ f x = some r := by
  cases a with
  | none => cases h
  | some x => exact ⟨x, rfl, h⟩
theorem bnds {α β : Type} {v : α} {f : α → Option β} {r : β} (h : (some v).bind f = some r) : ∃ x, v = x ∧ f x = some r := ⟨v, rfl, h⟩
theorem cond_t {α : Type} {b : Bool} {x y z : α} (hb : b = true) (h : cond b x y = z) : x = z := by
  subst hb
  exact h
theorem cond_f {α : Type} {b : Bool} {x y z : α} (hb : b = false) (h : cond b x y = z) : y = z := by
  subst hb
  exact h
theorem ifp {α : Type} {p : Prop} [Decidable p] {x : α} {r : α} (h : (if p then some x else none) = some r) : p ∧ x = r := by
  by_cases hp : p
  · rw [if_pos hp] at h
    exact ⟨hp, Option.some.inj h⟩
  · rw [if_neg hp] at h
    cases h
/-! ### targets -/
def ksets : List Nat → List PD → List KC → List KC
  | i :: is, d :: ds, K => ksets is ds (kset K i (.r d))
  | _, _, K => K
def ksetT : Tg → PD → List KC → List KC
  | .nm i, d, K => kset K i (.r d)
  | .tp is, .tuple ds, K => ksets is ds K
  | .tp _, _, K => K
def kfree (K : List KC) (i : Nat) : Bool := match kget K i with
  | some .u => true
  | some (.r _) => true
  | some (.o _) => true
  | _ => false
def kfrees : List Nat → List PD → List KC → Bool
  | [], [], _ => true
  | i :: is, d :: ds, K => kfree K i && kfrees is ds (kset K i (.r d))
  | _, _, _ => false
def kfreeT : Tg → PD → List KC → Bool
  | .nm i, _, K => kfree K i
  | .tp is, .tuple ds, K => kfrees is ds K
  | .tp _, _, _ => false
theorem set_ok {K : List KC} {ρ : Env} {i : Nat} {k : KC} {c : Cell} (ok : OkE K ρ) (h : kfree K i = true) (hk : okC k (some c)) : ∃ ρ', setC ρ i c = some ρ' ∧ OkE (kset K i k) ρ' := by
  unfold kfree at h
  cases e : kget K i with
  | none => rw [e] at h; cases h
  | some k0 =>
    rw [e] at h
    obtain ⟨c0, h1, h2⟩ := ok.get e
    refine ⟨ρ.set i (some c), ?_, ok.set hk⟩
    unfold setC
    rw [h1]
    cases c0 with
    | none => rfl
    | some c0 =>
      cases c0 with
      | sh d => rfl
      | ow d => rfl
      | bo d =>
        exfalso
        cases k0 with
        | u => exact h2 d rfl
        | r d' => rcases h2 with h2 | ⟨h2, _⟩ <;> cases h2
        | o d' => cases h2
        | b d' => cases h
theorem kTs_ok : ∀ {is : List Nat} {ds : List PD} {K : List KC} {ρ : Env}, OkE K ρ → kfrees is ds K = true → ∃ ρ', setTs is ds ρ = some ρ' ∧ OkE (ksets is ds K) ρ'
  | [], [], K, ρ, ok, _ => ⟨ρ, rfl, ok⟩
  | [], _ :: _, _, _, _, h => by cases h
  | _ :: _, [], _, _, _, h => by cases h
  | i :: is, d :: ds, K, ρ, ok, h => by
    have h' := h
    unfold kfrees at h'
    rw [Bool.and_eq_true] at h'
    obtain ⟨ρ1, e1, ok1⟩ := set_ok (k := .r d) (c := .sh d) ok h'.1 (.inl rfl)
    obtain ⟨ρ2, e2, ok2⟩ := kTs_ok ok1 h'.2
    refine ⟨ρ2, ?_, ok2⟩
    unfold setTs
    rw [e1]
    exact e2
theorem kT_ok {tg : Tg} {d : PD} {K : List KC} {ρ : Env} (ok : OkE K ρ) (h : kfreeT tg d K = true) : ∃ ρ', setT tg d ρ = some ρ' ∧ OkE (ksetT tg d K) ρ' := by
  cases tg with
  | nm i => exact set_ok ok h (.inl rfl)
  | tp is =>
    cases d with
    | tuple ds => exact kTs_ok ok h
    | _ => cases h
/-! ### comprehensions -/
def kwipe (K : List KC) : List Nat → List KC
  | [] => K
  | v :: vs => kset (kwipe K vs) v .u
def kback (K K0 : List KC) : List Nat → List KC
  | [] => K
  | v :: vs => kset (kback K K0 vs) v ((kget K0 v).getD .u)
theorem wipe_ok {K : List KC} {ρ : Env} (ok : OkE K ρ) : ∀ vs, OkE (kwipe K vs) (wipeC ρ vs)
  | [] => ok
  | v :: vs => (wipe_ok ok vs).set okC_u0
theorem kget_none : ∀ {K : List KC} {ρ : Env} {i : Nat}, OkE K ρ → kget K i = none → ρ[i]? = none
  | _, _, i, .nil, _ => by simp
  | _, _, 0, .cons a b, h => by cases h
  | _, _, i + 1, .cons a b, h => by
    have := kget_none b h
    simpa using this
theorem back_ok {K K0 : List KC} {ρ ρ0 : Env} (ok : OkE K ρ) (ok0 : OkE K0 ρ0) : ∀ vs, OkE (kback K K0 vs) (backC ρ ρ0 vs)
  | [] => ok
  | v :: vs => by
    refine (back_ok ok ok0 vs).set ?_
    cases e : kget K0 v with
    | none =>
      have := kget_none ok0 e
      simp only [Option.getD_none, List.getD, this]
      exact okC_u0
    | some k =>
      obtain ⟨c, h1, h2⟩ := ok0.get e
      simp only [Option.getD_some, List.getD, h1]
      exact h2
section
variable {α β σ : Type}
def lcGo (g : α → σ → Option (Option β × σ)) : List α → σ → Option (List β × σ)
  | [], s => some ([], s)
  | x :: xs, s => (g x s).bind fun p => (lcGo g xs p.2).bind fun q => some (p.1.toList ++ q.1, q.2)
def lcS (g : α → σ → Option (Option β × σ)) (xs : List α) (s : σ) : Option (List β × σ) := if xs.length ≤ LIM then lcGo g xs s else none
def lcOgo (g : α → Option (Option β)) : List α → Option (List β)
  | [] => some []
  | x :: xs => (g x).bind fun p => (lcOgo g xs).bind fun q => some (p.toList ++ q)
def lcO (g : α → Option (Option β)) (xs : List α) : Option (List β) := if xs.length ≤ LIM then lcOgo g xs else none
def lcM (f : α → β) (xs : List α) : Option (List β) := if xs.length ≤ LIM then some (xs.map f) else none
def lcF (p : α → Bool) (f : α → β) (xs : List α) : Option (List β) := if xs.length ≤ LIM then some ((xs.filter p).map f) else none
/-- one item of a comprehension -/
@[reducible] def LcB (cs : List FSem) (elt cond : E) (tg : Tg) (d : PD) (K : List KC) (p : Option PD) (K' : List KC) : Prop :=
  kfreeT tg d K = true ∧ ∃ b K2 wc, RE cs cond (ksetT tg d K) (cB.e b) wc K2 ∧ (b = false → p = none ∧ LeK (kwipe K2 tg.slots) K') ∧ (b = true → ∃ y K3 w, p = some y ∧ RE cs elt K2 y w K3 ∧ LeK (kwipe K3 tg.slots) K')
theorem lcGo_ok {elt cnd : E} {tg : Tg} {c : Cd α} {ce : Cd β} {Kf : σ → List KC} {g : α → σ → Option (Option β × σ)} : ∀ {xs : List α} {s s1 : σ} {ys : List β} {acc : List PD} {ρ : Env}, OkE (Kf s) ρ →
    (∀ x ∈ xs, ∀ s p, g x s = some p → LcB cs elt cnd tg (c.e x) (Kf s) (p.1.map ce.e) (Kf p.2)) → lcGo g xs s = some (ys, s1) →
    ∃ ρ', lcLoop tg (evalE cs cnd) (evalE cs elt) tg.slots (xs.map c.e) ρ acc = some (.ok (acc ++ ys.map ce.e) ρ') ∧ OkE (Kf s1) ρ'
  | [], s, s1, ys, acc, ρ, ok, _, h => by
    cases h
    exact ⟨ρ, by simp [lcLoop], ok⟩
  | x :: xs, s, s1, ys, acc, ρ, ok, hb, h => by
    obtain ⟨p, hp, h⟩ := bnd h
    obtain ⟨q, hq, h⟩ := bnd h
    cases h
    obtain ⟨hf, b, K2, wc, hc, hF, hT⟩ := hb x List.mem_cons_self s p hp
    obtain ⟨ρ1, e1, ok1⟩ := kT_ok ok hf
    obtain ⟨f2, ρ2, e2, _, _, ok2⟩ := hc ρ1 ok1
    rw [List.map_cons]
    unfold lcLoop
    rw [e1]
    simp only
    rw [e2]
    cases b with
    | false =>
      obtain ⟨hn, l⟩ := hF rfl
      obtain ⟨ρ', e, ok'⟩ := lcGo_ok (acc := acc) (l.ok (wipe_ok ok2 tg.slots)) (fun x hx => hb x (List.mem_cons_of_mem _ hx)) hq
      refine ⟨ρ', ?_, ok'⟩
      have : p.1 = none := by simpa using hn
      rw [this]
      exact e
    | true =>
      obtain ⟨y, K3, w, hn, he, l⟩ := hT rfl
      obtain ⟨f3, ρ3, e3, _, _, ok3⟩ := he ρ2 ok2
      obtain ⟨ρ', e, ok'⟩ := lcGo_ok (acc := acc ++ [y]) (l.ok (wipe_ok ok3 tg.slots)) (fun x hx => hb x (List.mem_cons_of_mem _ hx)) hq
      refine ⟨ρ', ?_, ok'⟩
      have hy : p.1.toList.map ce.e = [y] := by
        cases hp1 : p.1 with
        | none => rw [hp1] at hn; cases hn
        | some z =>
          rw [hp1] at hn
          cases hn
          rfl
      simp only [cB]
      rw [e3]
      simp only
      rw [e, List.map_append, hy, List.append_assoc]
theorem RE.lcS {elt cnd : E} {tg : Tg} {it : It} {c : Cd α} {ce : Cd β} {K K1 : List KC} {xs : List α} (Kf : σ → List KC) {g : α → σ → Option (Option β × σ)} {s0 s1 : σ} {ys : List β} (hi : RI cs it K (xs.map c.e) K1) (hw : LeK (kwipe K1 (tg.slots ++ hidI it)) (Kf s0))
    (hb : ∀ x ∈ xs, ∀ s p, g x s = some p → LcB cs elt cnd tg (c.e x) (Kf s) (p.1.map ce.e) (Kf p.2)) (hg : DD.lcS g xs s0 = some (ys, s1)) : RE cs (.lc elt tg it cnd) K ((cL ce).e ys) true (kback (Kf s1) K1 (tg.slots ++ hidI it)) := fun ρ ok => by
  unfold DD.lcS at hg
  by_cases hl : xs.length ≤ LIM
  · rw [if_pos hl] at hg
    obtain ⟨ρ1, e1, ok1⟩ := hi ρ ok
    obtain ⟨ρ2, e2, ok2⟩ := lcGo_ok (acc := []) (hw.ok (wipe_ok ok1 _)) hb hg
    refine ⟨true, backC ρ2 ρ1 (tg.slots ++ hidI it), ?_, id, (fun _ => rfl), back_ok ok2 ok1 _⟩
    rw [evalE, e1]
    show lcE _ _ _ _ _ _ = _
    unfold lcE
    rw [List.length_map, if_pos hl, e2]
    rfl
  · rw [if_neg hl] at hg
    cases hg
theorem lcGo_unit {g : α → Option (Option β)} : ∀ {xs : List α} {ys : List β}, lcOgo g xs = some ys → lcGo (fun x (_ : Unit) => (g x).map fun p => (p, ())) xs () = some (ys, ())
  | [], ys, h => by
    cases h
    rfl
  | x :: xs, ys, h => by
    obtain ⟨p, hp, h⟩ := bnd h
    obtain ⟨q, hq, h⟩ := bnd h
    cases h
    unfold lcGo
    rw [hp]
    simp only [Option.map_some, Option.bind_some]
    rw [lcGo_unit hq]
    rfl
theorem RE.lcO {elt cnd : E} {tg : Tg} {it : It} {c : Cd α} {ce : Cd β} {K K1 : List KC} {xs : List α} (Kb : List KC) {g : α → Option (Option β)} {ys : List β} (hi : RI cs it K (xs.map c.e) K1) (hw : LeK (kwipe K1 (tg.slots ++ hidI it)) Kb)
    (hb : ∀ x p, g x = some p → LcB cs elt cnd tg (c.e x) Kb (p.map ce.e) Kb) (hg : DD.lcO g xs = some ys) : RE cs (.lc elt tg it cnd) K ((cL ce).e ys) true (kback Kb K1 (tg.slots ++ hidI it)) := by
  unfold DD.lcO at hg
  by_cases hl : xs.length ≤ LIM
  · rw [if_pos hl] at hg
    refine RE.lcS (Kf := fun (_ : Unit) => Kb) (g := fun x (_ : Unit) => (g x).map fun p => (p, ())) (s0 := ()) (s1 := ()) hi hw (fun x _ s p hp => ?_) ?_
    · cases hx : g x with
      | none => rw [hx] at hp; cases hp
      | some q =>
        rw [hx] at hp
        cases hp
        exact hb x q hx
    · unfold DD.lcS
      rw [if_pos hl]
      exact lcGo_unit hg
  · rw [if_neg hl] at hg
    cases hg
theorem lcOgo_map {p : α → Bool} {f : α → β} : ∀ xs : List α, lcOgo (fun x => some (cond (p x) (some (f x)) none)) xs = some ((xs.filter p).map f)
  | [] => rfl
  | x :: xs => by
    unfold lcOgo
    rw [lcOgo_map xs]
    cases h : p x <;> simp [h]
/-- total ones -/
theorem RE.lcF {elt cnd : E} {tg : Tg} {it : It} {c : Cd α} {ce : Cd β} {K K1 : List KC} {xs : List α} (Kb : List KC) {p : α → Bool} {f : α → β} {ys : List β} (hi : RI cs it K (xs.map c.e) K1) (hw : LeK (kwipe K1 (tg.slots ++ hidI it)) Kb)
    (hb : ∀ x, kfreeT tg (c.e x) Kb = true ∧ ∃ K2 wc K3 w, RE cs cnd (ksetT tg (c.e x) Kb) (cB.e (p x)) wc K2 ∧ LeK (kwipe K2 tg.slots) Kb ∧ RE cs elt K2 (ce.e (f x)) w K3 ∧ LeK (kwipe K3 tg.slots) Kb) (hg : DD.lcF p f xs = some ys) : RE cs (.lc elt tg it cnd) K ((cL ce).e ys) true (kback Kb K1 (tg.slots ++ hidI it)) := by
  refine RE.lcO Kb (g := fun x => some (cond (p x) (some (f x)) none)) hi hw (fun x q hq => ?_) ?_
  · cases hq
    obtain ⟨hf, K2, wc, K3, w, h1, h2, h3, h4⟩ := hb x
    refine ⟨hf, p x, K2, wc, h1, fun e => ⟨by rw [e]; rfl, h2⟩, fun e => ⟨_, K3, w, by rw [e]; rfl, h3, h4⟩⟩
  · unfold DD.lcF at hg
    unfold DD.lcO
    by_cases hl : xs.length ≤ LIM
    · rw [if_pos hl] at hg ⊢
      rw [← hg]
      exact lcOgo_map xs
    · rw [if_neg hl] at hg
      cases hg
theorem RE.lcM {elt : E} {tg : Tg} {it : It} {c : Cd α} {ce : Cd β} {K K1 : List KC} {xs : List α} (Kb : List KC) {f : α → β} {ys : List β} (hi : RI cs it K (xs.map c.e) K1) (hw : LeK (kwipe K1 (tg.slots ++ hidI it)) Kb)
    (hb : ∀ x, kfreeT tg (c.e x) Kb = true ∧ ∃ K3 w, RE cs elt (ksetT tg (c.e x) Kb) (ce.e (f x)) w K3 ∧ LeK (kwipe K3 tg.slots) Kb) (hg : DD.lcM f xs = some ys) : RE cs (.lc elt tg it (.bl true)) K ((cL ce).e ys) true (kback Kb K1 (tg.slots ++ hidI it)) := by
  refine RE.lcO Kb (g := fun x => some (cond true (some (f x)) none)) hi hw (fun x q hq => ?_) ?_
  · cases hq
    obtain ⟨hf, K3, w, h3, h4⟩ := hb x
    exact ⟨hf, true, _, false, RE.bl, fun e => (by cases e), fun e => ⟨_, K3, w, rfl, h3, h4⟩⟩
  · unfold DD.lcM at hg
    unfold DD.lcO
    by_cases hl : xs.length ≤ LIM
    · rw [if_pos hl] at hg ⊢
      rw [← hg, lcOgo_map xs, List.filter_eq_self.2 (fun _ _ => rfl)]
    · rw [if_neg hl] at hg
      cases hg
end
/-! ### statements -/
def RS (cs : List FSem) (s : S) (K K' : List KC) : Prop := ∀ ρ, OkE K ρ → ∃ ρ', evalS cs s ρ = some (.nx ρ') ∧ OkE K' ρ'
def WS (cs : List FSem) (ss : Ss) (K : List KC) (Q : SO → Prop) : Prop := ∀ ρ, OkE K ρ → ∃ r, evalSs cs ss ρ = some r ∧ Q r
def SeqQ (cs : List FSem) (ss : Ss) (Q : SO → Prop) : SO → Prop
  | .nx ρ => ∃ r, evalSs cs ss ρ = some r ∧ Q r
  | r => Q r
def NxQ (K : List KC) : SO → Prop := fun r => ∃ ρ, (r = .nx ρ ∨ r = .ct ρ) ∧ OkE K ρ
def RtQ (d : PD) (w : Bool) (m : Option PD) : SO → Prop := fun r => ∃ fr ρ, r = .rt d fr ρ ∧ (w = true → fr = true) ∧ (fr = true → isLD d = true) ∧ (∀ x, m = some x → getC ρ 0 = some (.bo x))
inductive Stp (σ β : Type) where
  | nx (s : σ) | bk (s : σ) | rt (r : β)
def BkQ (K : List KC) : SO → Prop := fun r => ∃ ρ, r = .bk ρ ∧ OkE K ρ
def XQ {σ β : Type} (Kf : σ → List KC) (R : β → SO → Prop) : Stp σ β → SO → Prop
  | .nx s => NxQ (Kf s)
  | .bk s => BkQ (Kf s)
  | .rt v => R v
theorem WS.pre {ss : Ss} {K K1 : List KC} {Q : SO → Prop} (l : LeK K K1) (h : WS cs ss K1 Q) : WS cs ss K Q := fun ρ ok => h ρ (l.ok ok)
theorem WS.norm {ss : Ss} {K K' : List KC} {Q : SO → Prop} (e : K = K') (h : WS cs ss K' Q) : WS cs ss K Q := e ▸ h
theorem WS.cons {s : S} {ss : Ss} {K K1 : List KC} {Q : SO → Prop} (h : RS cs s K K1) (hs : WS cs ss K1 Q) : WS cs (.cons s ss) K Q := fun ρ ok => by
  obtain ⟨ρ1, e1, ok1⟩ := h ρ ok
  obtain ⟨r, e2, q⟩ := hs ρ1 ok1
  refine ⟨r, ?_, q⟩
  rw [evalSs, e1]
  exact e2
/-- at the end of a branch -/
theorem WS.nilS {ss : Ss} {K : List KC} {Q : SO → Prop} (h : WS cs ss K Q) : WS cs .nil K (SeqQ cs ss Q) := fun ρ ok => ⟨.nx ρ, by rw [evalSs], h ρ ok⟩
theorem WS.nilN {K K' : List KC} (l : LeK K K') : WS cs .nil K (NxQ K') := fun ρ ok => ⟨.nx ρ, by rw [evalSs], ρ, .inl rfl, l.ok ok⟩
theorem WS.nilX {σ β : Type} {Kf : σ → List KC} {R : β → SO → Prop} {s : σ} {K : List KC} (l : LeK K (Kf s)) : WS cs .nil K (XQ Kf R (.nx s)) := fun ρ ok => ⟨.nx ρ, by rw [evalSs], ρ, .inl rfl, l.ok ok⟩
theorem WS.cnt {K K' : List KC} {ss : Ss} {Q : SO → Prop} (l : LeK K K') (hq : ∀ ρ, NxQ K' (.ct ρ) → Q (.ct ρ)) : WS cs (.cons .cnt ss) K Q := fun ρ ok => ⟨.ct ρ, by rw [evalSs, evalS], hq _ ⟨ρ, .inr rfl, l.ok ok⟩⟩
theorem WS.brk {K K' : List KC} {ss : Ss} {Q : SO → Prop} (l : LeK K K') (hq : ∀ ρ, BkQ K' (.bk ρ) → Q (.bk ρ)) : WS cs (.cons .brk ss) K Q := fun ρ ok => ⟨.bk ρ, by rw [evalSs, evalS], hq _ ⟨ρ, rfl, l.ok ok⟩⟩
theorem WS.ret {e : E} {ss : Ss} {K K1 : List KC} {d : PD} {w : Bool} {Q : SO → Prop} (h : RE cs e K d w K1) (hq : ∀ fr ρ, RtQ d w none (.rt d fr ρ) → Q (.rt d fr ρ)) : WS cs (.cons (.ret e) ss) K Q := fun ρ ok => by
  obtain ⟨fr, ρ1, e1, a, b, ok1⟩ := h ρ ok
  refine ⟨.rt d fr ρ1, ?_, hq _ _ ⟨fr, ρ1, rfl, a, b, fun x z => by cases z⟩⟩
  rw [evalSs, evalS, e1]
  rfl
theorem WS.retm {e : E} {ss : Ss} {K K1 : List KC} {d m : PD} {w : Bool} {Q : SO → Prop} (h : RE cs e K d w K1) (hm : kget K1 0 = some (.b m)) (hq : ∀ fr ρ, RtQ d w (some m) (.rt d fr ρ) → Q (.rt d fr ρ)) : WS cs (.cons (.ret e) ss) K Q := fun ρ ok => by
  obtain ⟨fr, ρ1, e1, a, b, ok1⟩ := h ρ ok
  refine ⟨.rt d fr ρ1, ?_, hq _ _ ⟨fr, ρ1, rfl, a, b, fun x z => ?_⟩⟩
  · rw [evalSs, evalS, e1]
    rfl
  · cases z
    obtain ⟨c, h1, h2⟩ := ok1.get hm
    rw [getC_of h1]
    exact h2
theorem WS.ite {c : E} {a b ss : Ss} {K K1 : List KC} {x w : Bool} {Q : SO → Prop} (hc : RE cs c K (cB.e x) w K1) (ha : x = true → WS cs a K1 (SeqQ cs ss Q)) (hb : x = false → WS cs b K1 (SeqQ cs ss Q)) : WS cs (.cons (.ite c a b) ss) K Q := fun ρ ok => by
  obtain ⟨fr, ρ1, e1, _, _, ok1⟩ := hc ρ ok
  have key : ∀ (t : Ss), WS cs t K1 (SeqQ cs ss Q) → ∃ r, (match evalSs cs t ρ1 with
      | some (.nx ρ1) => evalSs cs ss ρ1
      | r => r) = some r ∧ Q r := fun t ht => by
    obtain ⟨r, e2, q⟩ := ht ρ1 ok1
    rw [e2]
    cases r with
    | nx ρ2 => exact q
    | _ => exact ⟨_, rfl, q⟩
  rw [evalSs, evalS, e1]
  cases x with
  | true => exact key a (ha rfl)
  | false => exact key b (hb rfl)
theorem RS.set {i : Nat} {e : E} {K K1 : List KC} {d : PD} {w : Bool} (h : RE cs e K d w K1) (hf : kfree K1 i = true) : RS cs (.set i e) K (kset K1 i (mkK d w)) := fun ρ ok => by
  obtain ⟨fr, ρ1, e1, a, b, ok1⟩ := h ρ ok
  have hk : okC (mkK d w) (some (mkC d fr)) := by
    cases w with
    | true =>
      rw [a rfl]
      rfl
    | false =>
      cases fr with
      | true => exact .inr ⟨rfl, b rfl⟩
      | false => exact .inl rfl
  obtain ⟨ρ2, e2, ok2⟩ := set_ok ok1 hf hk
  refine ⟨ρ2, ?_, ok2⟩
  rw [evalS, e1]
  show nxO (setC ρ1 i (mkC d fr)) = _
  rw [e2]
  rfl
inductive AllC : List KC → List Cell → Prop where
  | nil : AllC [] []
  | cons {k : KC} {c : Cell} {ks : List KC} {xs : List Cell} : okC k (some c) → AllC ks xs → AllC (k :: ks) (c :: xs)
def RFs (cs : List FSem) (es : Es) (K : List KC) (ks : List KC) (K' : List KC) : Prop := ∀ ρ, OkE K ρ → ∃ xs ρ', (∀ k, evalFs cs es ρ k = k xs ρ') ∧ AllC ks xs ∧ OkE K' ρ'
theorem RFs.nil {K : List KC} : RFs cs .nil K [] K := fun ρ ok => ⟨[], ρ, fun k => by rw [evalFs], .nil, ok⟩
theorem RFs.cons {e : E} {es : Es} {K K1 K2 : List KC} {d : PD} {w : Bool} {ks : List KC} (h : RE cs e K d w K1) (hs : RFs cs es K1 ks K2) : RFs cs (.cons e es) K (mkK d w :: ks) K2 := fun ρ ok => by
  obtain ⟨fr, ρ1, e1, a, b, ok1⟩ := h ρ ok
  obtain ⟨xs, ρ2, e2, hx, ok2⟩ := hs ρ1 ok1
  have hk : okC (mkK d w) (some (mkC d fr)) := by
    cases w with
    | true =>
      rw [a rfl]
      rfl
    | false =>
      cases fr with
      | true => exact .inr ⟨rfl, b rfl⟩
      | false => exact .inl rfl
  refine ⟨mkC d fr :: xs, ρ2, fun k => ?_, .cons hk hx, ok2⟩
  rw [evalFs, e1]
  show evalFs cs es ρ1 _ = _
  rw [e2]
def kputs : List Nat → List KC → List KC → List KC
  | i :: is, k :: ks, K => kputs is ks (kset K i k)
  | _, _, K => K
def kfreeP : List Nat → List KC → List KC → Bool
  | [], [], _ => true
  | i :: is, k :: ks, K => kfree K i && kfreeP is ks (kset K i k)
  | _, _, _ => false
theorem setCs_ok : ∀ {is : List Nat} {ks : List KC} {xs : List Cell} {K : List KC} {ρ : Env}, OkE K ρ → AllC ks xs → kfreeP is ks K = true → ∃ ρ', setCs is xs ρ = some ρ' ∧ OkE (kputs is ks K) ρ'
  | [], _, _, K, ρ, ok, .nil, _ => ⟨ρ, rfl, ok⟩
  | [], _, _, _, _, _, .cons _ _, h => by cases h
  | _ :: _, _, _, _, _, _, .nil, h => by cases h
  | i :: is, k :: ks, c :: xs, K, ρ, ok, .cons hk hx, h => by
    unfold kfreeP at h
    rw [Bool.and_eq_true] at h
    obtain ⟨ρ1, e1, ok1⟩ := set_ok ok h.1 hk
    obtain ⟨ρ2, e2, ok2⟩ := setCs_ok ok1 hx h.2
    refine ⟨ρ2, ?_, ok2⟩
    unfold setCs
    rw [e1]
    exact e2
theorem RS.par {is : List Nat} {es : Es} {K K1 : List KC} {ks : List KC} (h : RFs cs es K ks K1) (hf : kfreeP is ks K1 = true) : RS cs (.par is es) K (kputs is ks K1) := fun ρ ok => by
  obtain ⟨xs, ρ1, e1, hx, ok1⟩ := h ρ ok
  obtain ⟨ρ2, e2, ok2⟩ := setCs_ok ok1 hx hf
  refine ⟨ρ2, ?_, ok2⟩
  rw [evalS, e1, e2]
  rfl
theorem RS.unp {is : List Nat} {e : E} {K K1 : List KC} {d : PD} {w : Bool} (h : RE cs e K d w K1) (hf : kfreeT (.tp is) d K1 = true) : RS cs (.unp is e) K (ksetT (.tp is) d K1) := fun ρ ok => by
  obtain ⟨fr, ρ1, e1, _, _, ok1⟩ := h ρ ok
  obtain ⟨ρ2, e2, ok2⟩ := kT_ok ok1 hf
  refine ⟨ρ2, ?_, ok2⟩
  rw [evalS, e1]
  cases d with
  | tuple ds =>
    show nxO (setTs is ds ρ1) = _
    have : setT (.tp is) (.tuple ds) ρ1 = setTs is ds ρ1 := rfl
    rw [← this, e2]
    rfl
  | _ => cases hf
theorem RS.stx {v : Nat} {i e : E} {K K1 K2 : List KC} {d k x m : PD} {w w2 : Bool} {f : PD → KC} {x0 : PD} (he : RE cs e K d w K1) (h0 : kdat (kget K1 v) = some x0) (hi : RE cs i K1 k w2 K2) (hk : KMut K2 v x f) (hv : stxV x k d = some m) : RS cs (.stx v i e) K (kset K2 v (f m)) := fun ρ ok => by
  obtain ⟨fr, ρ1, e1, _, _, ok1⟩ := he ρ ok
  obtain ⟨c0, g0, _⟩ := kdat_get h0 ok1
  obtain ⟨fr2, ρ2, e2, _, _, ok2⟩ := hi ρ1 ok1
  obtain ⟨c, g1, rfl, hmu, hp⟩ := hk.get ok2
  refine ⟨ρ2.set v (some (c.put m)), ?_, ok2.set (hp m)⟩
  rw [evalS, e1]
  simp only [EO.binS, g0, e2, g1, hmu, if_true, hv]
theorem RS.augI {i : Nat} {op : Operator} {e : E} {K K1 : List KC} {x y z : Int} {w : Bool} {d0 : PD} (h0 : kdat (kget K i) = some d0) (he : RE cs e K (cI.e y) w K1) (hx : kget K1 i = some (.r (cI.e x))) (hv : ∀ k, augI op (cI.e x) (cI.e y) k = k z) : RS cs (.aug i op e) K (kset K1 i (.r (cI.e z))) := fun ρ ok => by
  obtain ⟨c0, g0, _⟩ := kdat_get h0 ok
  obtain ⟨fr, ρ1, e1, _, _, ok1⟩ := he ρ ok
  obtain ⟨c, h1, h2⟩ := ok1.get hx
  have g := getC_of h1
  rcases h2 with rfl | ⟨_, hl⟩
  · obtain ⟨ρ2, e2, ok2⟩ := set_ok (k := .r (cI.e z)) (c := .sh (.int z)) ok1 (by unfold kfree; rw [hx]) (.inl rfl)
    refine ⟨ρ2, ?_, ok2⟩
    rw [evalS, g0]
    simp only [e1, EO.binS, g]
    rw [hv, e2]
    rfl
  · cases hl
theorem RS.augL {i : Nat} {e : E} {K K1 : List KC} {xs ys : List PD} {d : PD} {w : Bool} {d0 : PD} (h0 : kdat (kget K i) = some d0) (he : RE cs e K d w K1) (hd : d = .list ys ∨ d = .tuple ys) (hx : kget K1 i = some (.o (.list xs))) (hl : xs.length + ys.length ≤ LIM) : RS cs (.aug i .Add e) K (kset K1 i (.o (.list (xs ++ ys)))) := fun ρ ok => by
  obtain ⟨c0, g0, _⟩ := kdat_get h0 ok
  obtain ⟨fr, ρ1, e1, _, _, ok1⟩ := he ρ ok
  obtain ⟨c, h1, h2⟩ := ok1.get hx
  have g := getC_of h1
  cases h2
  refine ⟨ρ1.set i (some (.ow (.list (xs ++ ys)))), ?_, ok1.set rfl⟩
  rw [evalS, g0]
  rcases hd with rfl | rfl
  · simp only [e1, EO.binS, g, hl, if_true]
  · simp only [e1, EO.binS, g, hl, if_true]
theorem RS.app {v : Nat} {e : E} {K K1 : List KC} {d : PD} {w : Bool} {xs ys : List PD} {f : PD → KC} (h0 : kdat (kget K v) = some (.list ys)) (he : RE cs e K d w K1) (hk : KMut K1 v (.list xs) f) (hl : xs.length < LIM) : RS cs (.app v e) K (kset K1 v (f (.list (xs ++ [d])))) := fun ρ ok => by
  obtain ⟨c0, g0, hc⟩ := kdat_get h0 ok
  obtain ⟨fr, ρ1, e1, _, _, ok1⟩ := he ρ ok
  obtain ⟨c, g1, hc1, hmu, hp⟩ := hk.get ok1
  refine ⟨ρ1.set v (some (c.put (.list (xs ++ [d])))), ?_, ok1.set (hp _)⟩
  rw [evalS, g0]
  simp only [hc, isL, if_true, e1, EO.binS, g1, hmu, hc1, hl]
theorem RS.exp {e : E} {K K1 : List KC} {d : PD} {w : Bool} (h : RE cs e K d w K1) : RS cs (.exp e) K K1 := fun ρ ok => by
  obtain ⟨fr, ρ1, e1, _, _, ok1⟩ := h ρ ok
  refine ⟨ρ1, ?_, ok1⟩
  rw [evalS, e1]
  rfl
/-! ### loops -/
section
variable {α β σ : Type}
def forO (step : α → σ → Option σ) : List α → σ → Option σ
  | [], s => some s
  | x :: xs, s => (step x s).bind fun s => forO step xs s
def forX (step : α → σ → Option (Stp σ β)) : List α → σ → Option (Stp σ β)
  | [], s => some (.nx s)
  | x :: xs, s => (step x s).bind fun t => match t with
    | .nx s => forX step xs s
    | .bk s => some (.nx s)
    | .rt r => some (.rt r)
theorem forX_ok {b : Ss} {tg : Tg} {c : Cd α} {Kf : σ → List KC} {R : β → SO → Prop} {step : α → σ → Option (Stp σ β)} (hR : ∀ v r, R v r → ∃ d fr ρ, r = .rt d fr ρ) : ∀ {xs : List α} {s : σ} {t : Stp σ β} {ρ : Env}, OkE (Kf s) ρ →
    (∀ x ∈ xs, ∀ s t, step x s = some t → kfreeT tg (c.e x) (Kf s) = true ∧ WS cs b (ksetT tg (c.e x) (Kf s)) (XQ Kf R t)) → forX step xs s = some t →
    ∃ r, forL tg (evalSs cs b) (xs.map c.e) ρ = some r ∧ (match t with | .nx s => ∃ ρ', r = .nx ρ' ∧ OkE (Kf s) ρ' | .bk _ => False | .rt v => R v r)
  | [], s, t, ρ, ok, _, h => by
    cases h
    exact ⟨.nx ρ, rfl, ρ, rfl, ok⟩
  | x :: xs, s, t, ρ, ok, hb, h => by
    obtain ⟨p, hp, h⟩ := bnd h
    obtain ⟨hf, hw⟩ := hb x List.mem_cons_self s p hp
    obtain ⟨ρ1, e1, ok1⟩ := kT_ok ok hf
    obtain ⟨r, e2, q⟩ := hw ρ1 ok1
    rw [List.map_cons]
    unfold forL
    rw [e1]
    simp only
    rw [e2]
    cases p with
    | nx s2 =>
      obtain ⟨ρ2, hr, ok2⟩ := q
      obtain ⟨r', e3, q3⟩ := forX_ok hR ok2 (fun x hx => hb x (List.mem_cons_of_mem _ hx)) h
      refine ⟨r', ?_, q3⟩
      rcases hr with rfl | rfl
      · exact e3
      · exact e3
    | bk s2 =>
      obtain ⟨ρ2, rfl, ok2⟩ := q
      cases h
      exact ⟨.nx ρ2, rfl, ρ2, rfl, ok2⟩
    | rt v =>
      cases h
      obtain ⟨d, fr, ρ2, e3⟩ := hR v r q
      refine ⟨r, ?_, q⟩
      rw [e3]
theorem forO_X {step : α → σ → Option σ} {β : Type} : ∀ {xs : List α} {s s1 : σ}, forO step xs s = some s1 → forX (β := β) (fun x s => (step x s).map Stp.nx) xs s = some (.nx s1)
  | [], s, s1, h => by
    cases h
    rfl
  | x :: xs, s, s1, h => by
    obtain ⟨p, hp, h⟩ := bnd h
    unfold forX
    rw [hp]
    exact forO_X h
theorem WS.frX {b ss : Ss} {tg : Tg} {it : It} {c : Cd α} {K K1 : List KC} {xs : List α} (Kf : σ → List KC) {R : β → SO → Prop} {step : α → σ → Option (Stp σ β)} {s0 : σ} {t : Stp σ β} {Q : SO → Prop} (hi : RI cs it K (xs.map c.e) K1) (hw : LeK K1 (Kf s0)) (hR : ∀ v r, R v r → ∃ d fr ρ, r = .rt d fr ρ)
    (hb : ∀ x ∈ xs, ∀ s t, step x s = some t → kfreeT tg (c.e x) (Kf s) = true ∧ WS cs b (ksetT tg (c.e x) (Kf s)) (XQ Kf R t)) (hg : forX step xs s0 = some t) (hn : ∀ s, t = .nx s → WS cs ss (Kf s) Q) (hr : ∀ v, t = .rt v → ∀ d fr ρ, R v (.rt d fr ρ) → Q (.rt d fr ρ)) : WS cs (.cons (.fr tg it b) ss) K Q := fun ρ ok => by
  obtain ⟨ρ1, e1, ok1⟩ := hi ρ ok
  obtain ⟨r, e2, q⟩ := forX_ok hR (hw.ok ok1) hb hg
  rw [evalSs, evalS, e1]
  simp only [AO.binS]
  rw [e2]
  cases t with
  | nx s =>
    obtain ⟨ρ2, rfl, ok2⟩ := q
    exact hn s rfl ρ2 ok2
  | bk s => exact q.elim
  | rt v =>
    obtain ⟨d, fr, ρ2, rfl⟩ := hR v r q
    exact ⟨_, rfl, hr v rfl _ _ _ q⟩
theorem WS.frO {b ss : Ss} {tg : Tg} {it : It} {c : Cd α} {K K1 : List KC} {xs : List α} (Kf : σ → List KC) {step : α → σ → Option σ} {s0 s1 : σ} {Q : SO → Prop} (hi : RI cs it K (xs.map c.e) K1) (hw : LeK K1 (Kf s0))
    (hb : ∀ x ∈ xs, ∀ s t, step x s = some t → kfreeT tg (c.e x) (Kf s) = true ∧ WS cs b (ksetT tg (c.e x) (Kf s)) (NxQ (Kf t))) (hg : forO step xs s0 = some s1) (hn : WS cs ss (Kf s1) Q) : WS cs (.cons (.fr tg it b) ss) K Q := by
  refine WS.frX (β := Empty) (R := fun _ _ => False) Kf hi hw (fun v => v.elim) (fun x hx s t ht => ?_) (forO_X hg) (fun s e => by cases e; exact hn) (fun v => v.elim)
  cases hs : step x s with
  | none => rw [hs] at ht; cases ht
  | some s2 =>
    rw [hs] at ht
    cases ht
    exact hb x hx s s2 hs
def whO (c : σ → Option Bool) (step : σ → Option σ) : Nat → σ → Option σ
  | 0, _ => none
  | n + 1, s => (c s).bind fun b => cond b ((step s).bind fun s => whO c step n s) (some s)
theorem whO_ok {b : Ss} {ce : E} {Kf : σ → List KC} {c : σ → Option Bool} {step : σ → Option σ} (hc : ∀ s x, c s = some x → ∃ w, RE cs ce (Kf s) (cB.e x) w (Kf s)) (hb : ∀ s t, c s = some true → step s = some t → WS cs b (Kf s) (NxQ (Kf t))) : ∀ {n : Nat} {s s1 : σ} {ρ : Env}, OkE (Kf s) ρ →
    whO c step n s = some s1 → ∃ ρ', whlL (evalE cs ce) (evalSs cs b) n ρ = some (.nx ρ') ∧ OkE (Kf s1) ρ'
  | 0, _, _, _, _, h => by cases h
  | n + 1, s, s1, ρ, ok, h => by
    obtain ⟨x, hx, h⟩ := bnd h
    obtain ⟨w, he⟩ := hc s x hx
    obtain ⟨fr, ρ1, e1, _, _, ok1⟩ := he ρ ok
    unfold whlL
    rw [e1]
    cases x with
    | false =>
      cases h
      exact ⟨ρ1, rfl, ok1⟩
    | true =>
      obtain ⟨t, ht, h⟩ := bnd h
      obtain ⟨r, e2, ρ2, hr, ok2⟩ := hb s t hx ht ρ1 ok1
      obtain ⟨ρ', e3, ok3⟩ := whO_ok hc hb ok2 h
      refine ⟨ρ', ?_, ok3⟩
      simp only [cB]
      rw [e2]
      rcases hr with rfl | rfl
      · exact e3
      · exact e3
theorem WS.whl {b ss : Ss} {ce : E} {K : List KC} (Kf : σ → List KC) {c : σ → Option Bool} {step : σ → Option σ} {s0 s1 : σ} {Q : SO → Prop} (hw : LeK K (Kf s0)) (hc : ∀ s x, c s = some x → ∃ w, RE cs ce (Kf s) (cB.e x) w (Kf s)) (hb : ∀ s t, c s = some true → step s = some t → WS cs b (Kf s) (NxQ (Kf t)))
    (hg : whO c step FUEL s0 = some s1) (hn : WS cs ss (Kf s1) Q) : WS cs (.cons (.whl ce b) ss) K Q := fun ρ ok => by
  obtain ⟨ρ1, e1, ok1⟩ := whO_ok hc hb (hw.ok ok) hg
  rw [evalSs, evalS, e1]
  exact hn ρ1 ok1
end
def Stp.fin {σ β γ : Type} (t : Stp σ β) (f : σ → Option γ) (g : β → Option γ) : Option γ := match t with
  | .nx s => f s
  | .bk s => none
  | .rt v => g v
theorem fin_nx {σ β γ : Type} {s : σ} {f : σ → Option γ} {g : β → Option γ} {z : Option γ} (h : Stp.fin (.nx s) f g = z) : f s = z := h
theorem fin_rt {σ β γ : Type} {v : β} {f : σ → Option γ} {g : β → Option γ} {z : Option γ} (h : Stp.fin (.rt v) f g = z) : g v = z := h
theorem RtQ.ends {β : Type} {d : β → PD} {w : Bool} {m : β → Option PD} : ∀ v r, RtQ (d v) w (m v) r → ∃ d fr ρ, r = .rt d fr ρ := fun v r ⟨fr, ρ, e, _⟩ => ⟨d v, fr, ρ, e⟩
def NxQ0 (K : List KC) : SO → Prop := fun r => ∃ ρ, r = .nx ρ ∧ OkE K ρ
theorem WS.nil0 {K K' : List KC} (l : LeK K K') : WS cs .nil K (NxQ0 K') := fun ρ ok => ⟨.nx ρ, by rw [evalSs], ρ, rfl, l.ok ok⟩
theorem WS.iteJ (Kj : List KC) {c : E} {a b ss : Ss} {K K1 : List KC} {x w : Bool} {Q : SO → Prop} (hc : RE cs c K (cB.e x) w K1) (ha : x = true → WS cs a K1 (NxQ0 Kj)) (hb : x = false → WS cs b K1 (NxQ0 Kj)) (hr : WS cs ss Kj Q) : WS cs (.cons (.ite c a b) ss) K Q := by
  have key : ∀ t : Ss, WS cs t K1 (NxQ0 Kj) → WS cs t K1 (SeqQ cs ss Q) := fun t ht ρ ok => by
    obtain ⟨r, e, ρ2, rfl, ok2⟩ := ht ρ ok
    exact ⟨_, e, hr ρ2 ok2⟩
  exact WS.ite hc (fun h => key a (ha h)) (fun h => key b (hb h))
theorem RV.andT {a b : E} {K K1 : List KC} {x y : Bool} {w1 : Bool} (ha : RE cs a K (cB.e x) w1 K1) (hb : RV cs b K1 (cB.e y)) : RV cs (.and a b) K (cB.e (x && y)) :=
  RV.and ha (fun e => by rw [e]; exact hb) (fun e => by rw [e]; rfl)
theorem RV.orT {a b : E} {K K1 : List KC} {x y : Bool} {w1 : Bool} (ha : RE cs a K (cB.e x) w1 K1) (hb : RV cs b K1 (cB.e y)) : RV cs (.or a b) K (cB.e (x || y)) :=
  RV.or ha (fun e => by rw [e]; exact hb) (fun e => by rw [e]; rfl)
theorem RV.chainT {op op2 : CmpOp} {a b c : E} {K K1 K2 : List KC} {x y t : PD} {w1 w2 z u : Bool} (ha : RE cs a K x w1 K1) (hb : RE cs b K1 y w2 K2) (hv : cmpV op x y = some z)
    (hc : RV cs c K2 t) (hu : cmpV op2 y t = some u) : RV cs (.chain op op2 a b c) K (cB.e (z && u)) :=
  RV.chain ha hb hv (fun e => ⟨t, hc, by rw [e, hu]; rfl⟩) (fun e => by rw [e]; rfl)
/-! ### defs -/
def kargs (ds : List PD) (n : Nat) : List KC := (ds.map .r) ++ List.replicate (n - ds.length) .u
theorem OkE.rep : ∀ n, OkE (List.replicate n .u) (List.replicate n none)
  | 0 => .nil
  | n + 1 => .cons okC_u0 (OkE.rep n)
theorem kargs_ok : ∀ (ds : List PD) (k : Nat), OkE ((ds.map .r) ++ List.replicate k .u) ((ds.map fun d => some (.sh d)) ++ List.replicate k none)
  | [], k => OkE.rep k
  | d :: ds, k => .cons (.inl rfl) (kargs_ok ds k)
theorem run_fn {ar n : Nat} {b : Ss} {ds : List PD} {d : PD} {w : Bool} (hl : ds.length = ar) (h : WS cs b (kargs ds n) (RtQ d w none)) : RunOk (defSem false ar n cs b) ds d w .none := by
  have ok : OkE (kargs ds n) (envOf false ds n) := by
    have : envOf false ds n = (ds.map fun d => some (.sh d)) ++ List.replicate (n - ds.length) none := by cases ds <;> rfl
    rw [this]
    exact kargs_ok ds _
  obtain ⟨r, e, fr, ρ, rfl, h1, h2, _⟩ := h _ ok
  refine ⟨fr, ?_, h1, h2⟩
  show (if ds.length = ar then outF false (evalSs cs b (envOf false ds n)) else none) = _
  rw [if_pos hl, e]
  rfl
theorem run_fall {ar n : Nat} {b : Ss} {ds : List PD} (hl : ds.length = ar) (h : WS cs b (kargs ds n) (fun r => ∃ ρ, r = .nx ρ)) : RunOk (defSem false ar n cs b) ds (cN.e ()) false .none := by
  have ok : OkE (kargs ds n) (envOf false ds n) := by
    have : envOf false ds n = (ds.map fun d => some (.sh d)) ++ List.replicate (n - ds.length) none := by cases ds <;> rfl
    rw [this]
    exact kargs_ok ds _
  obtain ⟨r, e, ρ, rfl⟩ := h _ ok
  refine ⟨false, ?_, (fun z => by cases z), (fun z => by cases z)⟩
  show (if ds.length = ar then outF false (evalSs cs b (envOf false ds n)) else none) = _
  rw [if_pos hl, e]
  rfl
def kargm (m : PD) (ds : List PD) (n : Nat) : List KC := .b m :: (ds.map .r) ++ List.replicate (n - (ds.length + 1)) .u
theorem run_mu {ar n : Nat} {b : Ss} {m : PD} {ds : List PD} {d m1 : PD} {w : Bool} (hl : ds.length + 1 = ar) (h : WS cs b (kargm m ds n) (RtQ d w (some m1))) : RunOk (defSem true ar n cs b) (m :: ds) d w m1 := by
  have ok : OkE (kargm m ds n) (envOf true (m :: ds) n) := .cons rfl (kargs_ok ds _)
  obtain ⟨r, e, fr, ρ, rfl, h1, h2, h3⟩ := h _ ok
  refine ⟨fr, ?_, h1, h2⟩
  show (if (m :: ds).length = ar then outF true (evalSs cs b (envOf true (m :: ds) n)) else none) = _
  rw [if_pos (by simpa using hl), e]
  simp only [outF, h3 m1 rfl, if_true]
theorem WS.nilF {K : List KC} : WS cs .nil K (fun r => ∃ ρ, r = .nx ρ) := fun ρ ok => ⟨.nx ρ, by rw [evalSs], ρ, rfl⟩
end DD

-- part DR3
set_option Elab.async false
set_option linter.all false
set_option maxRecDepth 100000
/-! Operators on plain values. -/
namespace DD
open PySem (PyData Str Operator CmpOp)
/-! ### data that can be compared -/
class COk {α : Type} (c : Cd α) (n : outParam Nat) : Prop where
  lay : ∀ x, PyData.canLay0 (c.e x) = true
  dep : ∀ x, PyData.depth (c.e x) ≤ n
class CEq {α : Type} [DecidableEq α] (c : Cd α) : Prop where
  eq : ∀ x y, PyData.eqv (c.e x) (c.e y) = decide (x = y)
/-- never None -/
class CNN {α : Type} (c : Cd α) : Prop where
  a : ∀ x, PyData.eqv .none (c.e x) = false
  b : ∀ x, PyData.eqv (c.e x) .none = false
  nn : ∀ x, isNon (c.e x) = false
instance : COk cI 0 := ⟨fun x => by simp [cI, PyData.canLay0], fun x => by simp [cI, PyData.depth]⟩
instance : COk cB 0 := ⟨fun x => by simp [cB, PyData.canLay0], fun x => by simp [cB, PyData.depth]⟩
instance : COk cN 0 := ⟨fun x => by simp [cN, PyData.canLay0], fun x => by simp [cN, PyData.depth]⟩
theorem lay_all {α : Type} {c : Cd α} {n : Nat} [h : COk c n] : ∀ xs : List α, PyData.canLayAll0 (xs.map c.e) = true ∧ PyData.depthAll (xs.map c.e) ≤ n
  | [] => by simp [PyData.canLayAll0, PyData.depthAll]
  | x :: xs => by
    obtain ⟨a, b⟩ := lay_all (h := h) xs
    have := h.dep x
    simp only [List.map_cons, PyData.canLayAll0, PyData.depthAll, h.lay x, a, Bool.and_self, true_and]
    omega
instance {α : Type} {c : Cd α} {n : Nat} [COk c n] : COk (cT c) (n + 1) := ⟨fun xs => by
  show PyData.canLay0 (.tuple _) = true
  simp only [PyData.canLay0]
  exact (lay_all xs).1, fun xs => by
  show PyData.depth (.tuple _) ≤ _
  simp only [PyData.depth]
  have := (lay_all (c := c) xs).2
  omega⟩
instance {α : Type} {c : Cd α} {n : Nat} [COk c n] : COk (cL c) (n + 1) := ⟨fun xs => by
  show PyData.canLay0 (.list _) = true
  simp only [PyData.canLay0]
  exact (lay_all xs).1, fun xs => by
  show PyData.depth (.list _) ≤ _
  simp only [PyData.depth]
  have := (lay_all (c := c) xs).2
  omega⟩
instance {α β : Type} {a : Cd α} {b : Cd β} {n m : Nat} [ha : COk a n] [hb : COk b m] : COk (cP a b) (max n m + 1) := ⟨fun p => by
  simp [cP, PyData.canLay0, PyData.canLayAll0, ha.lay, hb.lay], fun p => by
  have := ha.dep p.1
  have := hb.dep p.2
  simp only [cP, PyData.depth, PyData.depthAll]
  omega⟩
instance {α β γ : Type} {a : Cd α} {b : Cd β} {c : Cd γ} {n m k : Nat} [ha : COk a n] [hb : COk b m] [hc : COk c k] : COk (cP3 a b c) (max n (max m k) + 1) := ⟨fun p => by
  simp [cP3, PyData.canLay0, PyData.canLayAll0, ha.lay, hb.lay, hc.lay], fun p => by
  have := ha.dep p.1
  have := hb.dep p.2.1
  have := hc.dep p.2.2
  simp only [cP3, PyData.depth, PyData.depthAll]
  omega⟩
instance {α : Type} {c : Cd α} {n : Nat} [h : COk c n] : COk (cO c) n := ⟨fun o => by
  cases o with
  | none => simp [cO, PyData.canLay0]
  | some x => exact h.lay x, fun o => by
  cases o with
  | none => simp [cO, PyData.depth]
  | some x => exact h.dep x⟩
theorem shp_c {α : Type} {c : Cd α} {n : Nat} [h : COk c n] (x : α) (hn : n ≤ 64 := by decide) : shp (c.e x) = true := by
  have := h.dep x
  simp only [shp, PySem.SeqAt.shaped, h.lay x, Bool.true_and, decide_eq_true_eq]
  omega
instance : CEq cI := ⟨fun x y => by simp only [cI, PyData.eqv]; by_cases h : x = y <;> simp [h]⟩
instance : CEq cB := ⟨fun x y => by simp only [cB, PyData.eqv]; cases x <;> cases y <;> rfl⟩
instance : CEq cN := ⟨fun x y => by simp [cN, PyData.eqv]⟩
theorem eqvAll_c {α : Type} [DecidableEq α] {c : Cd α} [h : CEq c] : ∀ xs ys : List α, PyData.eqvAll (xs.map c.e) (ys.map c.e) = decide (xs = ys)
  | [], [] => by simp [PyData.eqvAll]
  | [], y :: ys => by simp [PyData.eqvAll]
  | x :: xs, [] => by simp [PyData.eqvAll]
  | x :: xs, y :: ys => by
    simp only [List.map_cons, PyData.eqvAll, h.eq, eqvAll_c xs ys]
    by_cases h1 : x = y <;> by_cases h2 : xs = ys <;> simp [h1, h2]
instance {α : Type} [DecidableEq α] {c : Cd α} [CEq c] : CEq (cT c) := ⟨fun xs ys => by
  show PyData.eqv (.tuple _) (.tuple _) = _
  simp only [PyData.eqv]
  exact eqvAll_c xs ys⟩
instance {α : Type} [DecidableEq α] {c : Cd α} [CEq c] : CEq (cL c) := ⟨fun xs ys => by
  show PyData.eqv (.list _) (.list _) = _
  simp only [PyData.eqv]
  exact eqvAll_c xs ys⟩
instance {α β : Type} [DecidableEq α] [DecidableEq β] {a : Cd α} {b : Cd β} [ha : CEq a] [hb : CEq b] : CEq (cP a b) := ⟨fun p q => by
  simp only [cP, PyData.eqv, PyData.eqvAll, ha.eq, hb.eq, Bool.and_true]
  cases p; cases q
  simp [Prod.ext_iff]⟩
instance {α β γ : Type} [DecidableEq α] [DecidableEq β] [DecidableEq γ] {a : Cd α} {b : Cd β} {c : Cd γ} [ha : CEq a] [hb : CEq b] [hc : CEq c] : CEq (cP3 a b c) := ⟨fun p q => by
  simp only [cP3, PyData.eqv, PyData.eqvAll, ha.eq, hb.eq, hc.eq, Bool.and_true]
  obtain ⟨p1, p2, p3⟩ := p
  obtain ⟨q1, q2, q3⟩ := q
  simp [Prod.ext_iff, Bool.and_assoc]⟩
instance : CNN cI := ⟨fun x => by simp [cI, PyData.eqv], fun x => by simp [cI, PyData.eqv], fun x => rfl⟩
instance : CNN cB := ⟨fun x => by simp [cB, PyData.eqv], fun x => by simp [cB, PyData.eqv], fun x => rfl⟩
instance {α : Type} {c : Cd α} : CNN (cT c) := ⟨fun x => by simp [cT, PyData.eqv], fun x => by simp [cT, PyData.eqv], fun x => rfl⟩
instance {α : Type} {c : Cd α} : CNN (cL c) := ⟨fun x => by simp [cL, PyData.eqv], fun x => by simp [cL, PyData.eqv], fun x => rfl⟩
instance {α β : Type} {a : Cd α} {b : Cd β} : CNN (cP a b) := ⟨fun x => by simp [cP, PyData.eqv], fun x => by simp [cP, PyData.eqv], fun x => rfl⟩
instance {α β γ : Type} {a : Cd α} {b : Cd β} {c : Cd γ} : CNN (cP3 a b c) := ⟨fun x => by simp [cP3, PyData.eqv], fun x => by simp [cP3, PyData.eqv], fun x => rfl⟩
instance {α : Type} [DecidableEq α] {c : Cd α} [h : CEq c] [n : CNN c] : CEq (cO c) := ⟨fun x y => by
  cases x <;> cases y
  · simp [cO, PyData.eqv]
  · simp [cO, n.a]
  · simp [cO, n.b]
  · simp [cO, h.eq]⟩
/-! ### comparisons -/
section
variable {α : Type} [DecidableEq α] {c : Cd α} {n : Nat} [COk c n] [CEq c]
theorem cv_eq {x y : α} (hn : n ≤ 64 := by decide) : cmpV .Eq (c.e x) (c.e y) = some (decide (x = y)) := by
  simp only [cmpV, shp_c x hn, shp_c y hn, Bool.and_self, if_true, CEq.eq]
theorem cv_ne {x y : α} (hn : n ≤ 64 := by decide) : cmpV .NotEq (c.e x) (c.e y) = some (!decide (x = y)) := by
  simp only [cmpV, shp_c x hn, shp_c y hn, Bool.and_self, if_true, CEq.eq]
theorem inD_c {x : α} : ∀ ys : List α, inD (c.e x) (ys.map c.e) = decide (x ∈ ys)
  | [] => by simp [inD]
  | y :: ys => by
    have ih := inD_c (x := x) ys
    unfold inD at ih ⊢
    rw [List.map_cons, List.any_cons, ih, CEq.eq]
    by_cases h : y = x
    · simp [h]
    · have h' : ¬ x = y := fun z => h z.symm
      simp [h, h']
theorem cv_inL {x : α} {ys : List α} (hn : n + 1 ≤ 64 := by decide) : cmpV .In (c.e x) ((cL c).e ys) = some (decide (x ∈ ys)) := by
  have h1 := shp_c (c := c) x (by omega)
  have h2 := shp_c (c := cL c) ys hn
  show (if shp (c.e x) && shp ((cL c).e ys) then some (inD (c.e x) (ys.map c.e)) else none) = _
  rw [h1, h2, inD_c]
  rfl
theorem cv_inT {x : α} {ys : List α} (hn : n + 1 ≤ 64 := by decide) : cmpV .In (c.e x) ((cT c).e ys) = some (decide (x ∈ ys)) := by
  have h1 := shp_c (c := c) x (by omega)
  have h2 := shp_c (c := cT c) ys hn
  show (if shp (c.e x) && shp ((cT c).e ys) then some (inD (c.e x) (ys.map c.e)) else none) = _
  rw [h1, h2, inD_c]
  rfl
theorem cv_niL {x : α} {ys : List α} (hn : n + 1 ≤ 64 := by decide) : cmpV .NotIn (c.e x) ((cL c).e ys) = some (!decide (x ∈ ys)) := by
  have h1 := shp_c (c := c) x (by omega)
  have h2 := shp_c (c := cL c) ys hn
  show (if shp (c.e x) && shp ((cL c).e ys) then some (!inD (c.e x) (ys.map c.e)) else none) = _
  rw [h1, h2, inD_c]
  rfl
theorem cv_niT {x : α} {ys : List α} (hn : n + 1 ≤ 64 := by decide) : cmpV .NotIn (c.e x) ((cT c).e ys) = some (!decide (x ∈ ys)) := by
  have h1 := shp_c (c := c) x (by omega)
  have h2 := shp_c (c := cT c) ys hn
  show (if shp (c.e x) && shp ((cT c).e ys) then some (!inD (c.e x) (ys.map c.e)) else none) = _
  rw [h1, h2, inD_c]
  rfl
theorem idx_c {x : α} : ∀ (ys : List α) (k : Nat), idxV (ys.map c.e) (c.e x) k = (ys.idxOf? x).map (· + k)
  | [], k => rfl
  | y :: ys, k => by
    show (if PyData.eqv (c.e y) (c.e x) = true then some k else idxV (ys.map c.e) (c.e x) (k + 1)) = _
    rw [CEq.eq, idx_c ys (k + 1), List.idxOf?_cons]
    by_cases h : y = x
    · simp [h]
    · simp only [h, decide_false, beq_iff_eq, if_false, Bool.false_eq_true]
      cases ys.idxOf? x <;> simp <;> omega
end
/-- values of any kind -/
def eqA (a b : PD) : Option Bool := if shp a && shp b then some (PyData.eqv a b) else none
theorem cv_eqA {a b : PD} {z : Bool} (h : eqA a b = some z) : cmpV .Eq a b = some z := h
theorem cv_neA {a b : PD} {z : Bool} (h : eqA a b = some z) : cmpV .NotEq a b = some (!z) := by
  unfold eqA at h
  show (if shp a && shp b then some (!PyData.eqv a b) else none) = _
  by_cases hs : (shp a && shp b) = true
  · rw [if_pos hs] at h ⊢
    cases h
    rfl
  · rw [if_neg hs] at h
    cases h
def inA (x : PD) (ys : List PD) : Option Bool := if shp x && shp (.list ys) then some (inD x ys) else none
theorem map_cA (ys : List PD) : ys.map cA.e = ys := by
  show ys.map (fun d => d) = ys
  simp
theorem cv_inAL {x : PD} {ys : List PD} {z : Bool} (h : inA x ys = some z) : cmpV .In x ((cL cA).e ys) = some z := by
  show cmpV .In x (.list (ys.map cA.e)) = _
  rw [map_cA]
  exact h
theorem cv_inAT {x : PD} {ys : List PD} {z : Bool} (h : inA x ys = some z) : cmpV .In x ((cT cA).e ys) = some z := by
  show cmpV .In x (.tuple (ys.map cA.e)) = _
  rw [map_cA]
  exact h
theorem cv_niAL {x : PD} {ys : List PD} {z : Bool} (h : inA x ys = some z) : cmpV .NotIn x ((cL cA).e ys) = some (!z) := by
  show cmpV .NotIn x (.list (ys.map cA.e)) = _
  rw [map_cA]
  unfold inA at h
  show (if shp x && shp (.list ys) then some (!inD x ys) else none) = _
  by_cases hs : (shp x && shp (.list ys)) = true
  · rw [if_pos hs] at h ⊢
    cases h
    rfl
  · rw [if_neg hs] at h
    cases h
theorem cv_lt {i j : Int} : cmpV .Lt (cI.e i) (cI.e j) = some (decide (i < j)) := rfl
theorem cv_le {i j : Int} : cmpV .LtE (cI.e i) (cI.e j) = some (decide (i ≤ j)) := rfl
theorem cv_gt {i j : Int} : cmpV .Gt (cI.e i) (cI.e j) = some (decide (j < i)) := rfl
theorem cv_ge {i j : Int} : cmpV .GtE (cI.e i) (cI.e j) = some (decide (j ≤ i)) := rfl
theorem cv_isB {a b : Bool} : cmpV .Is (cB.e a) (cB.e b) = some (decide (a = b)) := rfl
theorem cv_isnB {a b : Bool} : cmpV .IsNot (cB.e a) (cB.e b) = some (!decide (a = b)) := rfl
theorem cv_isA {a : PD} : cmpV .Is a (cN.e ()) = some (isNon a) := by cases a <;> rfl
theorem cv_isnA {a : PD} : cmpV .IsNot a (cN.e ()) = some (!isNon a) := by cases a <;> rfl
theorem isNon_o {α : Type} {c : Cd α} [h : CNN c] (o : Option α) : isNon ((cO c).e o) = o.isNone := by
  cases o with
  | none => rfl
  | some x => exact h.nn x
theorem cv_isN {α : Type} {c : Cd α} [CNN c] {o : Option α} : cmpV .Is ((cO c).e o) (cN.e ()) = some o.isNone := by rw [cv_isA, isNon_o]
theorem cv_isnN {α : Type} {c : Cd α} [CNN c] {o : Option α} : cmpV .IsNot ((cO c).e o) (cN.e ()) = some (!o.isNone) := by rw [cv_isnA, isNon_o]
/-! ### dicts -/
def dget {α : Type} : List (Int × α) → Int → Option α
  | [], _ => none
  | (j, v) :: r, k => if j = k then some v else dget r k
def dput {α : Type} (l : List (Int × α)) (k : Int) (v : α) : List (Int × α) := if (l.any fun p => decide (p.1 = k)) = true then l.map (fun p => if p.1 = k then (p.1, v) else p) else l ++ [(k, v)]
theorem keyAt_c {α : Type} (c : Cd α) (k : Int) : ∀ l : List (Int × α), keyAt (l.map fun p => (.int p.1, c.e p.2)) k = (dget l k).map c.e
  | [] => rfl
  | (j, v) :: r => by
    show (if j = k then some (c.e v) else keyAt (r.map fun p => (.int p.1, c.e p.2)) k) = _
    rw [keyAt_c c k r]
    show _ = (if j = k then some v else dget r k).map c.e
    by_cases h : j = k
    · rw [if_pos h, if_pos h]; rfl
    · rw [if_neg h, if_neg h]
theorem keyPut_c {α : Type} (c : Cd α) (k : Int) (v : α) (l : List (Int × α)) : keyPut (l.map fun p => (.int p.1, c.e p.2)) k (c.e v) = (dput l k v).map fun p => (.int p.1, c.e p.2) := by
  unfold keyPut dput
  rw [List.any_map]
  have e : ((fun p : PD × PD => keyIs k p.1) ∘ fun p : Int × α => ((.int p.1 : PD), c.e p.2)) = fun p => decide (p.1 = k) := by
    funext p
    rfl
  rw [e]
  by_cases h : (l.any fun p => decide (p.1 = k)) = true
  · rw [if_pos h, if_pos h, List.map_map, List.map_map]
    congr 1
    funext p
    show (if keyIs k (.int p.1) = true then ((.int p.1 : PD), c.e v) else (.int p.1, c.e p.2)) = (.int (if p.1 = k then (p.1, v) else p).1, c.e (if p.1 = k then (p.1, v) else p).2)
    by_cases hp : p.1 = k
    · rw [if_pos hp, if_pos (by simp [keyIs, hp])]
    · rw [if_neg hp, if_neg (by simp [keyIs, hp])]
  · rw [if_neg h, if_neg h, List.map_append]
    rfl
theorem cv_inD {α : Type} {c : Cd α} {k : Int} {l : List (Int × α)} : cmpV .In (cI.e k) ((cD c).e l) = some (dget l k).isSome := by
  show some (keyAt _ k).isSome = _
  rw [keyAt_c]
  cases dget l k <;> rfl
/-! ### operators -/
def mulO (i j : Int) : Option Int := if (-(2 ^ 64) < i ∧ i < 2 ^ 64) ∨ (-(2 ^ 64) < j ∧ j < 2 ^ 64) then some (i * j) else none
def fdivO (i j : Int) : Option Int := if 0 < j ∧ j < 1073741824 then some (i / j) else none
def modO (i j : Int) : Option Int := if 0 < j then some (i % j) else none
def powO (i j : Int) : Option Int := if 0 ≤ j ∧ j ≤ 1000000 ∧ i.natAbs < 2 ^ 64 then some (i ^ j.toNat) else none
def catO {α : Type} (xs ys : List α) : Option (List α) := if xs.length + ys.length ≤ LIM then some (xs ++ ys) else none
def repL {α : Type} (xs : List α) (j : Int) : Option (List α) := if 0 ≤ j ∧ j ≤ LIM ∧ xs.length * j.toNat ≤ LIM then some (List.replicate j.toNat xs).flatten else none
def repT {α : Type} (xs : List α) (j : Int) : Option (List α) := if xs.isEmpty = false ∧ 2 ≤ j ∧ j ≤ 1000 ∧ xs.length ≤ 1000 then some (List.replicate j.toNat xs).flatten else none
theorem bv_add {i j : Int} : binV .Add (cI.e i) (cI.e j) = some (cI.e (i + j), false) := rfl
theorem bv_sub {i j : Int} : binV .Sub (cI.e i) (cI.e j) = some (cI.e (i - j), false) := rfl
theorem bv_mul {i j z : Int} (h : mulO i j = some z) : binV .Mult (cI.e i) (cI.e j) = some (cI.e z, false) := by
  unfold mulO at h
  obtain ⟨h1, rfl⟩ := ifp h
  show (if _ then _ else _) = _
  rw [if_pos h1]
  rfl
/-- one of them is small -/
theorem bv_mulR {i j : Int} (h : -(2 ^ 64) < j ∧ j < 2 ^ 64) : binV .Mult (cI.e i) (cI.e j) = some (cI.e (i * j), false) := by
  show (if _ then _ else _) = _
  rw [if_pos (.inr h)]
  rfl
theorem bv_mulL {i j : Int} (h : -(2 ^ 64) < i ∧ i < 2 ^ 64) : binV .Mult (cI.e i) (cI.e j) = some (cI.e (i * j), false) := by
  show (if _ then _ else _) = _
  rw [if_pos (.inl h)]
  rfl
theorem bv_fdiv {i j z : Int} (h : fdivO i j = some z) : binV .FloorDiv (cI.e i) (cI.e j) = some (cI.e z, false) := by
  unfold fdivO at h
  obtain ⟨h1, rfl⟩ := ifp h
  show (if _ then _ else _) = _
  rw [if_pos h1]
  rfl
theorem bv_fdivC {i j : Int} (h : 0 < j ∧ j < 1073741824) : binV .FloorDiv (cI.e i) (cI.e j) = some (cI.e (i / j), false) := by
  show (if _ then _ else _) = _
  rw [if_pos h]
  rfl
theorem bv_mod {i j z : Int} (h : modO i j = some z) : binV .Mod (cI.e i) (cI.e j) = some (cI.e z, false) := by
  unfold modO at h
  obtain ⟨h1, rfl⟩ := ifp h
  show (if _ then _ else _) = _
  rw [if_pos h1]
  rfl
theorem bv_modC {i j : Int} (h : 0 < j) : binV .Mod (cI.e i) (cI.e j) = some (cI.e (i % j), false) := by
  show (if _ then _ else _) = _
  rw [if_pos h]
  rfl
theorem bv_pow {i j z : Int} (h : powO i j = some z) : binV .Pow (cI.e i) (cI.e j) = some (cI.e z, false) := by
  unfold powO at h
  obtain ⟨h1, rfl⟩ := ifp h
  show (if _ then _ else _) = _
  rw [if_pos h1]
  rfl
theorem bv_catT {α : Type} {c : Cd α} {xs ys zs : List α} (h : catO xs ys = some zs) : binV .Add ((cT c).e xs) ((cT c).e ys) = some ((cT c).e zs, false) := by
  unfold catO at h
  obtain ⟨h1, rfl⟩ := ifp h
  show (if (xs.map c.e).length + (ys.map c.e).length ≤ LIM then _ else _) = _
  rw [List.length_map, List.length_map, if_pos h1, ← List.map_append]
  rfl
theorem bv_catL {α : Type} {c : Cd α} {xs ys zs : List α} (h : catO xs ys = some zs) : binV .Add ((cL c).e xs) ((cL c).e ys) = some ((cL c).e zs, true) := by
  unfold catO at h
  obtain ⟨h1, rfl⟩ := ifp h
  show (if (xs.map c.e).length + (ys.map c.e).length ≤ LIM then _ else _) = _
  rw [List.length_map, List.length_map, if_pos h1, ← List.map_append]
  rfl
theorem rep_map {α : Type} (c : Cd α) (xs : List α) : ∀ n : Nat, (List.replicate n (xs.map c.e)).flatten = ((List.replicate n xs).flatten).map c.e
  | 0 => rfl
  | n + 1 => by rw [List.replicate_succ, List.replicate_succ, List.flatten_cons, List.flatten_cons, rep_map c xs n, List.map_append]
theorem bv_repL {α : Type} {c : Cd α} {xs zs : List α} {j : Int} (h : repL xs j = some zs) : binV .Mult ((cL c).e xs) (cI.e j) = some ((cL c).e zs, true) := by
  unfold repL at h
  obtain ⟨h1, rfl⟩ := ifp h
  show (if 0 ≤ j ∧ j ≤ LIM ∧ (xs.map c.e).length * j.toNat ≤ LIM then some (PyData.list (List.replicate j.toNat (xs.map c.e)).flatten, true) else _) = _
  rw [List.length_map, if_pos h1, rep_map]
  rfl
theorem bv_repT {α : Type} {c : Cd α} {xs zs : List α} {j : Int} (h : repT xs j = some zs) : binV .Mult ((cT c).e xs) (cI.e j) = some ((cT c).e zs, false) := by
  unfold repT at h
  obtain ⟨h1, rfl⟩ := ifp h
  have e : (xs.map c.e).isEmpty = xs.isEmpty := by cases xs <;> rfl
  show (if (xs.map c.e).isEmpty = false ∧ 2 ≤ j ∧ j ≤ 1000 ∧ (xs.map c.e).length ≤ 1000 then some (PyData.tuple (List.replicate j.toNat (xs.map c.e)).flatten, false) else _) = _
  rw [List.length_map, e, if_pos h1, rep_map]
  rfl
theorem augI_add {i j : Int} : ∀ k, augI .Add (cI.e i) (cI.e j) k = k (i + j) := fun k => rfl
theorem augI_sub {i j : Int} : ∀ k, augI .Sub (cI.e i) (cI.e j) k = k (i - j) := fun k => rfl
theorem augI_mul {i j z : Int} (h : mulO i j = some z) : ∀ k, augI .Mult (cI.e i) (cI.e j) k = k z := fun k => by
  unfold mulO at h
  obtain ⟨h1, rfl⟩ := ifp h
  show (if _ then _ else _) = _
  rw [if_pos h1]
theorem cond_some {α : Type} (b : Bool) (x y : α) : (cond b (some x) (some y) : Option α) = some (cond b x y) := by cases b <;> rfl
/-! ### places and parts -/
theorem atD_map {α : Type} (c : Cd α) (xs : List α) (i : Int) : atD (xs.map c.e) i = (atD xs i).map c.e := by
  unfold atD
  rw [List.length_map]
  cases ixOf xs.length i with
  | none => rfl
  | some j => simp
theorem ix_T {α : Type} {c : Cd α} {xs : List α} {i : Int} {x : α} (h : atD xs i = some x) : ixV ((cT c).e xs) (cI.e i) = some (c.e x) := by
  show atD (xs.map c.e) i = _
  rw [atD_map, h]
  rfl
theorem ix_L {α : Type} {c : Cd α} {xs : List α} {i : Int} {x : α} (h : atD xs i = some x) : ixV ((cL c).e xs) (cI.e i) = some (c.e x) := by
  show atD (xs.map c.e) i = _
  rw [atD_map, h]
  rfl
theorem ix_D {α : Type} {c : Cd α} {l : List (Int × α)} {k : Int} {x : α} (h : dget l k = some x) : ixV ((cD c).e l) (cI.e k) = some (c.e x) := by
  show keyAt _ k = _
  rw [keyAt_c, h]
  rfl
theorem ix_P0 {α β : Type} {a : Cd α} {b : Cd β} {p : α × β} : ixV ((cP a b).e p) (cI.e 0) = some (a.e p.1) := rfl
theorem ix_P1 {α β : Type} {a : Cd α} {b : Cd β} {p : α × β} : ixV ((cP a b).e p) (cI.e 1) = some (b.e p.2) := rfl
theorem ix_Q0 {α β γ : Type} {a : Cd α} {b : Cd β} {c : Cd γ} {p : α × β × γ} : ixV ((cP3 a b c).e p) (cI.e 0) = some (a.e p.1) := rfl
theorem ix_Q1 {α β γ : Type} {a : Cd α} {b : Cd β} {c : Cd γ} {p : α × β × γ} : ixV ((cP3 a b c).e p) (cI.e 1) = some (b.e p.2.1) := rfl
theorem ix_Q2 {α β γ : Type} {a : Cd α} {b : Cd β} {c : Cd γ} {p : α × β × γ} : ixV ((cP3 a b c).e p) (cI.e 2) = some (c.e p.2.2) := rfl
theorem cut_map {α : Type} (c : Cd α) (xs : List α) (l h : Option Int) : cutD (xs.map c.e) l h = (cutD xs l h).map c.e := by
  unfold cutD
  rw [List.length_map, List.map_take, List.map_drop]
theorem sl_T {α : Type} {c : Cd α} {xs : List α} {l h : Option Int} : slV ((cT c).e xs) l h = some ((cT c).e (cutD xs l h), false) := by
  show some (PyData.tuple (cutD (xs.map c.e) l h), false) = _
  rw [cut_map]
  rfl
theorem sl_L {α : Type} {c : Cd α} {xs : List α} {l h : Option Int} : slV ((cL c).e xs) l h = some ((cL c).e (cutD xs l h), true) := by
  show some (PyData.list (cutD (xs.map c.e) l h), true) = _
  rw [cut_map]
  rfl
def setAt {α : Type} (xs : List α) (i : Int) (v : α) : Option (List α) := match ixOf xs.length i with
  | some j => some (xs.set j v)
  | none => none
theorem stx_L {α : Type} {c : Cd α} {xs ys : List α} {i : Int} {v : α} (h : setAt xs i v = some ys) : stxV ((cL c).e xs) (cI.e i) (c.e v) = some ((cL c).e ys) := by
  unfold setAt at h
  show (match ixOf (xs.map c.e).length i with | some j => some (PyData.list ((xs.map c.e).set j (c.e v))) | none => none) = _
  rw [List.length_map]
  cases e : ixOf xs.length i with
  | none => rw [e] at h; cases h
  | some j =>
    rw [e] at h
    cases h
    simp only [← List.map_set]
    rfl
def dputO {α : Type} (l : List (Int × α)) (k : Int) (v : α) : Option (List (Int × α)) := if l.length < LIM then some (dput l k v) else none
theorem stx_D {α : Type} {c : Cd α} {l m : List (Int × α)} {k : Int} {v : α} (h : dputO l k v = some m) : stxV ((cD c).e l) (cI.e k) (c.e v) = some ((cD c).e m) := by
  unfold dputO at h
  obtain ⟨h1, rfl⟩ := ifp h
  show (if (l.map fun p => ((.int p.1 : PD), c.e p.2)).length < LIM then some (PyData.dict (keyPut (l.map fun p => ((.int p.1 : PD), c.e p.2)) k (c.e v))) else none) = _
  rw [List.length_map, if_pos h1, keyPut_c]
  rfl
/-! ### the built-in functions -/
theorem ints_c : ∀ xs : List Int, ints? (xs.map cI.e) = some xs
  | [] => rfl
  | x :: xs => by
    show (ints? (xs.map cI.e)).map (x :: ·) = _
    rw [ints_c xs]
    rfl
theorem bools_c : ∀ xs : List Bool, bools? (xs.map cB.e) = some xs
  | [] => rfl
  | x :: xs => by
    show (bools? (xs.map cB.e)).map (x :: ·) = _
    rw [bools_c xs]
    rfl
theorem pairs_c : ∀ xs : List (Int × Int), pairs? (xs.map (cP cI cI).e) = some xs
  | [] => rfl
  | x :: xs => by
    show (pairs? (xs.map (cP cI cI).e)).map (x :: ·) = _
    rw [pairs_c xs]
    rfl
def maxO : List Int → Option Int
  | [] => none
  | i :: r => some (maxI i r)
def minO : List Int → Option Int
  | [] => none
  | i :: r => some (minI i r)
def maxPO : List (Int × Int) → Option (Int × Int)
  | [] => none
  | p :: r => some (maxP p r)
def sortLO (xs : List (List Int)) : Option (List (List Int)) := if xs.length ≤ LIM then some (sortL xs) else none
def ssetLO (xs : List (List Int)) : Option (List (List Int)) := if xs.length ≤ LIM then some (sortL (dedupL xs)) else none
def sortPO (xs : List (Int × Int)) : Option (List (Int × Int)) := if xs.length ≤ LIM then some (sortP xs) else none
theorem bl_lenT {α : Type} {c : Cd α} {xs : List α} : bltV .len [(cT c).e xs] = some (cI.e (xs.length : Int), false) := by
  show some (PyData.int ((xs.map c.e).length : Int), false) = _
  rw [List.length_map]
  rfl
theorem bl_lenL {α : Type} {c : Cd α} {xs : List α} : bltV .len [(cL c).e xs] = some (cI.e (xs.length : Int), false) := by
  show some (PyData.int ((xs.map c.e).length : Int), false) = _
  rw [List.length_map]
  rfl
theorem bl_sumL {xs : List Int} : bltV .sum [(cL cI).e xs] = some (cI.e xs.sum, false) := by
  show (ints? (xs.map cI.e)).map _ = _
  rw [ints_c]
  rfl
theorem bl_sumT {xs : List Int} : bltV .sum [(cT cI).e xs] = some (cI.e xs.sum, false) := by
  show (ints? (xs.map cI.e)).map _ = _
  rw [ints_c]
  rfl
def max2 (i j : Int) : Int := if j > i then j else i
def min2 (i j : Int) : Int := if j < i then j else i
theorem bl_max2 {i j : Int} : bltV .max [cI.e i, cI.e j] = some (cI.e (max2 i j), false) := rfl
theorem bl_min2 {i j : Int} : bltV .min [cI.e i, cI.e j] = some (cI.e (min2 i j), false) := rfl
theorem bl_maxL {xs : List Int} {m : Int} (h : maxO xs = some m) : bltV .max [(cL cI).e xs] = some (cI.e m, false) := by
  cases xs with
  | nil => cases h
  | cons i r =>
    cases h
    have := ints_c (i :: r)
    show (match ints? ((i :: r).map cI.e) with
      | some (i :: r) => some (PyData.int (maxI i r), false)
      | some [] => none
      | none => match pairs? ((i :: r).map cI.e) with
        | some (p :: r) => some (ofPair (maxP p r), false)
        | _ => none) = _
    rw [this]
    rfl
theorem bl_minL {xs : List Int} {m : Int} (h : minO xs = some m) : bltV .min [(cL cI).e xs] = some (cI.e m, false) := by
  cases xs with
  | nil => cases h
  | cons i r =>
    cases h
    have := ints_c (i :: r)
    show (match ints? ((i :: r).map cI.e) with
      | some (i :: r) => some (PyData.int (minI i r), false)
      | _ => none) = _
    rw [this]
    rfl
theorem bl_maxP {xs : List (Int × Int)} {m : Int × Int} (h : maxPO xs = some m) : bltV .max [(cL (cP cI cI)).e xs] = some ((cP cI cI).e m, false) := by
  cases xs with
  | nil => cases h
  | cons i r =>
    cases h
    have e := pairs_c (i :: r)
    have e2 : ints? ((i :: r).map (cP cI cI).e) = none := rfl
    show (match ints? ((i :: r).map (cP cI cI).e) with
      | some (i :: r) => some (PyData.int (maxI i r), false)
      | some [] => none
      | none => match pairs? ((i :: r).map (cP cI cI).e) with
        | some (p :: r) => some (ofPair (maxP p r), false)
        | _ => none) = _
    rw [e2, e]
    rfl
theorem bl_sortL {xs : List Int} : bltV .sorted [(cL cI).e xs] = some ((cL cI).e (sortI xs), true) := by
  have := ints_c xs
  show (match ints? (xs.map cI.e) with
    | some is => some (PyData.list (ofInts (sortI is)), true)
    | none => match pairs? (xs.map cI.e) with
      | some ps => if (xs.map cI.e).length ≤ LIM then some (PyData.list ((sortP ps).map ofPair), true) else none
      | none => none) = _
  rw [this]
  rfl
theorem bl_sortT {xs : List Int} : bltV .sorted [(cT cI).e xs] = some ((cL cI).e (sortI xs), true) := by
  have := ints_c xs
  show (ints? (xs.map cI.e)).map _ = _
  rw [this]
  rfl
theorem bl_sortP {xs zs : List (Int × Int)} (h : sortPO xs = some zs) : bltV .sorted [(cL (cP cI cI)).e xs] = some ((cL (cP cI cI)).e zs, true) := by
  unfold sortPO at h
  obtain ⟨h1, rfl⟩ := ifp h
  have e := pairs_c xs
  show (match ints? (xs.map (cP cI cI).e) with
    | some is => some (PyData.list (ofInts (sortI is)), true)
    | none => match pairs? (xs.map (cP cI cI).e) with
      | some ps => if (xs.map (cP cI cI).e).length ≤ LIM then some (PyData.list ((sortP ps).map ofPair), true) else none
      | none => none) = _
  cases xs with
  | nil => rfl
  | cons x r =>
    have e2 : ints? ((x :: r).map (cP cI cI).e) = none := rfl
    rw [e2, e]
    simp only [List.length_map, h1, if_true]
    rfl
theorem bl_int {i : Int} : bltV .int [cI.e i] = some (cI.e i, false) := rfl
theorem bl_all {xs : List Bool} : bltV .all [(cL cB).e xs] = some (cB.e (xs.all id), false) := by
  show (bools? (xs.map cB.e)).map _ = _
  rw [bools_c]
  rfl
theorem bl_any {xs : List Bool} : bltV .any [(cL cB).e xs] = some (cB.e (xs.any id), false) := by
  show (bools? (xs.map cB.e)).map _ = _
  rw [bools_c]
  rfl
theorem bl_tupL {α : Type} {c : Cd α} {xs : List α} : bltV .tuple [(cL c).e xs] = some ((cT c).e xs, false) := rfl
theorem bl_tupT {α : Type} {c : Cd α} {xs : List α} : bltV .tuple [(cT c).e xs] = some ((cT c).e xs, false) := rfl
theorem bl_lstL {α : Type} {c : Cd α} {xs : List α} : bltV .list [(cL c).e xs] = some ((cL c).e xs, true) := rfl
theorem bl_lstT {α : Type} {c : Cd α} {xs : List α} : bltV .list [(cT c).e xs] = some ((cL c).e xs, true) := rfl
/-! ### ranges -/
def rng1 (n : Int) : Option (List Int) := if -(LIM : Int) ≤ n ∧ n ≤ LIM then some ((List.range n.toNat).map fun i => ((i : Nat) : Int)) else none
def rng2 (a b : Int) : Option (List Int) := if (-(LIM : Int) ≤ a ∧ a ≤ LIM) ∧ (-(LIM : Int) ≤ b ∧ b ≤ LIM) then some ((List.range (b - a).toNat).map fun i => a + ((i : Nat) : Int)) else none
def rng3 (a b c : Int) : Option (List Int) := if (-(LIM : Int) ≤ a ∧ a ≤ LIM) ∧ (-(LIM : Int) ≤ b ∧ b ≤ LIM) ∧ 0 < c ∧ c ≤ LIM then some ((List.range ((b - a + c - 1) / c).toNat).map fun i => a + ((i : Nat) : Int) * c) else none
theorem rg_1 {n : Int} {is : List Int} (h : rng1 n = some is) : rngL [cI.e n] = some (is.map cI.e) := by
  unfold rng1 at h
  obtain ⟨h1, rfl⟩ := ifp h
  show (if _ then _ else _) = _
  rw [if_pos h1, List.map_map]
  congr 2
  funext i
  simp [cI]
theorem rg_2 {a b : Int} {is : List Int} (h : rng2 a b = some is) : rngL [cI.e a, cI.e b] = some (is.map cI.e) := by
  unfold rng2 at h
  obtain ⟨h1, rfl⟩ := ifp h
  show (if _ then _ else _) = _
  rw [if_pos h1, List.map_map]
  rfl
theorem rg_3 {a b c : Int} {is : List Int} (h : rng3 a b c = some is) : rngL [cI.e a, cI.e b, cI.e c] = some (is.map cI.e) := by
  unfold rng3 at h
  obtain ⟨h1, rfl⟩ := ifp h
  show (if _ then _ else _) = _
  rw [if_pos h1, List.map_map]
  rfl
theorem bl_rtup {is : List Int} : bltV .tuple [.list (is.map cI.e)] = some ((cT cI).e is, false) := rfl
theorem bl_rlst {is : List Int} : bltV .list [.list (is.map cI.e)] = some ((cL cI).e is, true) := rfl
/-! ### values of any kind -/
def lenA : PD → Option Int
  | .list xs => some xs.length
  | .tuple xs => some xs.length
  | _ => none
theorem bl_lenA {d : PD} {n : Int} (h : lenA d = some n) : bltV .len [d] = some (cI.e n, false) := by
  cases d <;> cases h <;> rfl
def intA : PD → Option Int
  | .int i => some i
  | _ => none
theorem intA_e {d : PD} {i : Int} (h : intA d = some i) : d = cI.e i := by
  cases d <;> cases h
  rfl
def boolA : PD → Option Bool
  | .bool i => some i
  | _ => none
theorem boolA_e {d : PD} {i : Bool} (h : boolA d = some i) : d = cB.e i := by
  cases d <;> cases h
  rfl
def ixA (d : PD) (i : Int) : Option PD := ixV d (.int i)
def tupIA : PD → Option (List Int)
  | .tuple xs => ints? xs
  | _ => none
theorem ints_e : ∀ {xs : List PD} {is : List Int}, ints? xs = some is → xs = is.map cI.e
  | [], is, h => by cases h; rfl
  | .int i :: r, is, h => by
    cases e : ints? r with
    | none => simp [ints?, e] at h
    | some js =>
      simp [ints?, e] at h
      subst h
      rw [ints_e e]
      rfl
  | .none :: r, is, h => by cases h
  | .bool _ :: r, is, h => by cases h
  | .str _ :: r, is, h => by cases h
  | .list _ :: r, is, h => by cases h
  | .tuple _ :: r, is, h => by cases h
  | .dict _ :: r, is, h => by cases h
theorem tupIA_e {d : PD} {xs : List Int} (h : tupIA d = some xs) : d = (cT cI).e xs := by
  cases d <;> try (cases h)
  show _ = PyData.tuple (xs.map cI.e)
  rw [ints_e h]
theorem intsL_e {xs : List PD} {is : List Int} (h : ints? xs = some is) : (cL cA).e xs = (cL cI).e is := by
  show PyData.list (xs.map cA.e) = .list (is.map cI.e)
  rw [map_cA, ints_e h]
def tupA : PD → Option (List PD)
  | .tuple xs => some xs
  | _ => none
theorem tupA_e {d : PD} {xs : List PD} (h : tupA d = some xs) : d = (cT cA).e xs := by
  cases d <;> cases h
  show _ = PyData.tuple (xs.map cA.e)
  rw [map_cA]
def appO {α : Type} (xs : List α) (x : α) : Option (List α) := if xs.length < LIM then some (xs ++ [x]) else none
theorem RS.appL {cs : List FSem} {α : Type} {c : Cd α} {v : Nat} {e : E} {K K1 : List KC} {w : Bool} {xs ys zs : List α} {x : α} {f : PD → KC} (h0 : kdat (kget K v) = some ((cL c).e ys)) (he : RE cs e K (c.e x) w K1) (hk : KMut K1 v ((cL c).e xs) f) (h : appO xs x = some zs) : RS cs (.app v e) K (kset K1 v (f ((cL c).e zs))) := by
  unfold appO at h
  obtain ⟨h1, rfl⟩ := ifp h
  have := RS.app (cs := cs) h0 he hk (by rw [List.length_map]; exact h1)
  have e : (cL c).e (xs ++ [x]) = .list (xs.map c.e ++ [c.e x]) := by
    show PyData.list ((xs ++ [x]).map c.e) = _
    rw [List.map_append]
    rfl
  rw [e]
  exact this
theorem RS.augLL {cs : List FSem} {α : Type} {c : Cd α} {i : Nat} {e : E} {K K1 : List KC} {xs ys zs : List α} {w : Bool} {d0 : PD} (h0 : kdat (kget K i) = some d0) (he : RE cs e K ((cL c).e ys) w K1) (hx : kget K1 i = some (.o ((cL c).e xs))) (h : catO xs ys = some zs) : RS cs (.aug i .Add e) K (kset K1 i (.o ((cL c).e zs))) := by
  unfold catO at h
  obtain ⟨h1, rfl⟩ := ifp h
  have := RS.augL (cs := cs) h0 he (.inl rfl) hx (by rw [List.length_map, List.length_map]; exact h1)
  have e : (cL c).e (xs ++ ys) = .list (xs.map c.e ++ ys.map c.e) := by
    show PyData.list ((xs ++ ys).map c.e) = _
    rw [List.map_append]
  rw [e]
  exact this
theorem RS.augLT {cs : List FSem} {α : Type} {c : Cd α} {i : Nat} {e : E} {K K1 : List KC} {xs ys zs : List α} {w : Bool} {d0 : PD} (h0 : kdat (kget K i) = some d0) (he : RE cs e K ((cT c).e ys) w K1) (hx : kget K1 i = some (.o ((cL c).e xs))) (h : catO xs ys = some zs) : RS cs (.aug i .Add e) K (kset K1 i (.o ((cL c).e zs))) := by
  unfold catO at h
  obtain ⟨h1, rfl⟩ := ifp h
  have := RS.augL (cs := cs) h0 he (.inr rfl) hx (by rw [List.length_map, List.length_map]; exact h1)
  have e : (cL c).e (xs ++ ys) = .list (xs.map c.e ++ ys.map c.e) := by
    show PyData.list ((xs ++ ys).map c.e) = _
    rw [List.map_append]
  rw [e]
  exact this
theorem RE.idxL {cs : List FSem} {α : Type} [DecidableEq α] {c : Cd α} {k : Nat} [COk c k] [CEq c] {a x : E} {K K1 K2 : List KC} {l : List α} {y : α} {w1 w2 : Bool} {n : Nat} (ha : RE cs a K ((cL c).e l) w1 K1) (hx : RE cs x K1 (c.e y) w2 K2) (hn : l.idxOf? y = some n) (hk : k + 1 ≤ 64 := by decide) : RE cs (.idx a x) K (cI.e (n : Int)) false K2 :=
  RE.idx ha hx (shp_c (c := cL c) l hk) (shp_c (c := c) y (by omega)) (by rw [idx_c, hn]; rfl)
end DD

-- part DFm
set_option Elab.async false
set_option linter.all false
set_option maxRecDepth 100000
/-! Plain functions written by hand. -/
namespace DD
open PySem (PyData Str)
def F_law_source (c t : Int) : Option Sc := some (if (10 : Int) ^ 18 ≤ c then (c - 10 ^ 18, c % 2147483579, t) else (0, c % 2147483579, t))
def drawn (s : Sc) : Int := ((s.2.1 + 15485867 * (s.2.2 + 1)) ^ 5 % 2147483647 + 7919 * (s.2.2 + 1)) ^ 3 % 2147483629 / 32
def F_law_draw (s : Sc) (n : Int) : Option (Int × Sc) :=
  if 0 < n ∧ n < 1073741824 then (if 1 < s.1 then some (s.1 % n, (s.1 / n, s.2.1, s.2.2)) else
    if 0 ≤ s.2.1 ∧ s.2.1 < 2147483648 ∧ 0 ≤ s.2.2 ∧ s.2.2 < 100000000000 then some (drawn s % n, (s.1, s.2.1, s.2.2 + 1)) else none) else none
/-- equal, with equal kinds at every depth -/
def kindD : PD → Int
  | .bool _ => 1
  | .int _ => 2
  | .str _ => 3
  | .list _ => 4
  | .tuple _ => 5
  | _ => 6
mutual
def eqT : PD → PD → Bool
  | .list xs, .list ys => eqTs xs ys
  | .tuple xs, .tuple ys => eqTs xs ys
  | .int i, .int j => decide (i = j)
  | .bool i, .bool j => i == j
  | .str i, .str j => i == j
  | .none, .none => true
  | _, _ => false
def eqTs : List PD → List PD → Bool
  | [], [] => true
  | x :: xs, y :: ys => eqT x y && eqTs xs ys
  | _, _ => false
end
mutual
def okD : PD → Bool
  | .list xs => decide (xs.length ≤ LIM) && okDs xs
  | .tuple xs => decide (xs.length ≤ LIM) && okDs xs
  | .dict _ => false
  | _ => true
def okDs : List PD → Bool
  | [] => true
  | x :: xs => okD x && okDs xs
end
def F_law_equal (a b : PD) : Option Bool := if a.depth ≤ 5 ∧ b.depth ≤ 60 ∧ a.canLay0 = true ∧ b.canLay0 = true ∧ okD a = true then some (eqT a b) else none
end DD

-- part DF
set_option Elab.async false
set_option linter.all false
set_option maxRecDepth 100000
set_option maxHeartbeats 4000000
/-! The defs as plain functions (printed by gen/sh.py). -/
namespace DD
def F_law_choice_Li (a0 : Sc) (a1 : (List Int)) : Option (Int × Sc) := Option.bind (F_law_draw a0 ((a1.length : Int))) fun p1 => Option.bind (atD a1 p1.1) fun x2 => some ((x2, p1.2))
def F_law_basket (a0 : Sc) (a1 : Int) : Option ((List Int) × Sc) := Option.bind (F_law_choice_Li a0 ([3, 9, 60, 10000])) fun p1 => Option.bind (F_law_draw p1.2 a1) fun p2 => Option.bind (rng1 ((1 + p2.1))) fun x3 => Option.bind (lcS (fun (x4 : Int) (s6 : Sc) => Option.bind (F_law_draw s6 p1.1) fun p7 => some (some ((1 + p7.1)), p7.2)) x3 p2.2) fun x8 => some ((x8.1, x8.2))
def F_law_all_splittings (a0 : Int) : Option (List (List (List Int))) := Option.bind (some ([([] : (List (List Int)))])) fun x1 => Option.bind (rng1 a0) fun x2 => Option.bind (forO (fun (x3 : Int) (s4 : (List (List (List Int)))) => Option.bind (some (([] : (List (List (List Int)))))) fun x6 => Option.bind (forO (fun (x7 : (List (List Int))) (s8 : (List (List (List Int)))) => Option.bind (catO x7 ([[x3]])) fun x10 => Option.bind (appO s8 x10) fun x11 => Option.bind (rng1 ((x7.length : Int))) fun x12 => Option.bind (forO (fun (x13 : Int) (s14 : (List (List (List Int)))) => Option.bind (atD x7 x13) fun x16 => Option.bind (catO x16 ([x3])) fun x17 => Option.bind (catO ((cutD x7 none (some x13))) ([x17])) fun x18 => Option.bind (catO x18 ((cutD x7 (some ((x13 + 1))) none))) fun x19 => Option.bind (appO s14 x19) fun x20 => some x20) x12 x11) fun s21 => some s21) s4 x6) fun s22 => some s22) x2 x1) fun s23 => some (s23)
def F_law_row (a0 : (List Int)) : Option (List Int) := Option.bind (lcO (fun (x1 : (Int × Int)) => Option.bind (powO 10 6) fun x4 => some (some (((x4 - x1.2), x1.1)))) (enumL a0)) fun x5 => Option.bind (sortPO x5) fun x6 => Option.bind (lcM (fun (x7 : (Int × Int)) => x7.2) x6) fun x10 => some (x10)
def F_law_free (a0 : (List Int)) (a1 : Int) (a2 : (List (List Int))) : Option (List Int) := Option.bind (F_law_row a0) fun x1 => Option.bind (some (([] : (List Int)))) fun x2 => Option.bind (forO (fun (x3 : (List Int)) (s4 : (List Int)) => Option.bind (lcF (fun (x6 : Int) => decide (x6 ∈ x3)) (fun (x6 : Int) => x6) x1) fun x9 => Option.bind (fdivO ((x9.length : Int)) a1) fun x10 => Option.bind (catO s4 ((cutD x9 (some (((x9.length : Int) - x10))) none))) fun x11 => some x11) a2 x2) fun s12 => some ((sortI s12))
def F_law_sum (a0 : (List Int)) (a1 : (List Int)) : Option Int := Option.bind (lcO (fun (x1 : Int) => Option.bind (atD a0 x1) fun x4 => some (some (x4))) a1) fun x5 => some (x5.sum)
def F_is_between (a0 : PD) (a1 : Int) (a2 : Int) : Option Bool := Option.bind (cond (([Ty.int].any (isTy (cA.e a0)))) (Option.bind (cond ((!([Ty.bool].any (isTy (cA.e a0))))) (Option.bind (intA a0) fun x1 => some ((decide (a1 ≤ x1) && decide (x1 ≤ a2)))) (some false)) fun b2 => some (b2)) (some false)) fun b3 => some (b3)
def F_is_basket (a0 : PD) : Option Bool := Option.bind (cond ((!([Ty.tuple].any (isTy (cA.e a0))))) (some true) (Option.bind (lenA a0) fun x1 => some ((!(decide (1 ≤ x1) && decide (x1 ≤ 12)))))) fun b2 => cond (b2) (some (false)) (Option.bind (DD.seqL a0) fun x3 => Option.bind (lcO (fun (x4 : PD) => Option.bind (F_is_between x4 1 10000) fun x7 => some (some (x7))) x3) fun x8 => some ((x8.all id)))
def F_check_basket (a0 : PD) : Option Unit := Option.bind (F_is_basket a0) fun x1 => cond ((!x1)) (none) (some ())
def F_is_size (a0 : PD) : Option Bool := Option.bind (F_is_between a0 2 6) fun x1 => some (x1)
def F_check_offer (a0 : PD) (a1 : PD) : Option Unit := Option.bind (F_check_basket a0) fun x1 => Option.bind (F_is_size a1) fun x2 => cond ((!x2)) (none) (some ())
def F_check_receipts (a0 : PD) : Option Unit := Option.bind (F_is_between a0 1 12) fun x1 => cond ((!x1)) (none) (some ())
def F_row_of (a0 : (List Int)) : Option (List Int) := Option.bind (lcM (fun (x1 : (Int × Int)) => ((-x1.2), x1.1)) (enumL a0)) fun x4 => Option.bind (sortPO x4) fun x5 => Option.bind (lcM (fun (x6 : (Int × Int)) => x6.2) x5) fun x9 => some (x9)
def F_block_saving (a0 : (List Int)) (a1 : Int) (a2 : Int) (a3 : Int) : Option Int := Option.bind (fdivO ((a3 - a2)) a1) fun x1 => some (((cutD a0 (some ((a3 - x1))) (some a3))).sum)
def F_table_for (a0 : (List Int)) (a1 : Int) (a2 : Int) : Option (List (List (Int × (Int × Int)))) := Option.bind (F_row_of a0) fun x1 => Option.bind (lcO (fun (x2 : Int) => Option.bind (atD a0 x2) fun x5 => some (some (x5))) x1) fun x6 => Option.bind (some ([[(0, (0, 0))]])) fun x7 => Option.bind (rng1 a2) fun x8 => Option.bind (forO (fun (x9 : Int) (s10 : (List (List (Int × (Int × Int))))) => Option.bind (atD s10 ((-1))) fun x12 => Option.bind (some ([(0, (0, 0))])) fun x13 => Option.bind (rng2 1 (((x6.length : Int) + 1))) fun x14 => Option.bind (forO (fun (x15 : Int) (s16 : (List (Int × (Int × Int)))) => Option.bind (some (([] : (List (Int × Int))))) fun x18 => Option.bind (rng1 x15) fun x19 => Option.bind (forO (fun (x20 : Int) (s21 : (List (Int × Int))) => Option.bind (cond ((dget x12 x20).isSome) (Option.bind (dget x12 x20) fun x24 => Option.bind (F_block_saving x6 a1 x20 x15) fun x25 => Option.bind (appO s21 (((x24.1 + x25), x20))) fun x26 => some x26) (some s21)) fun s23 => some s23) x19 x18) fun s27 => Option.bind (maxPO s27) fun x28 => Option.bind (dputO s16 x15 x28) fun x29 => some x29) x14 x13) fun s30 => Option.bind (appO s10 s30) fun x31 => some x31) x8 x7) fun s32 => some (s32)
def F_best_value (a0 : (List Int)) (a1 : Int) (a2 : Int) : Option Int := Option.bind (F_table_for a0 a1 ((min2 a2 ((a0.length : Int))))) fun x1 => Option.bind (atD x1 ((-1))) fun x2 => Option.bind (dget x2 ((a0.length : Int))) fun x3 => some (x3.1)
def F_greatest_saving (a0 : (List Int)) (a1 : Int) (a2 : Int) : Option Int := Option.bind (F_check_offer (((cT cI).e a0)) ((cI.e a1))) fun x1 => Option.bind (F_check_receipts ((cI.e a2))) fun x2 => Option.bind (F_best_value a0 a1 a2) fun x3 => some (x3)
def F_law_k04 (a0 : (List Int)) : Option Bool := Option.bind (catO ([0]) a0) fun x1 => Option.bind (forX (β := Bool) (fun (x2 : Int) (s3 : Unit) => Option.bind (F_law_source x2 4) fun x5 => Option.bind (rng1 2) fun x6 => Option.bind (forX (β := Bool) (fun (x7 : Int) (s8 : Sc) => Option.bind (F_law_basket s8 6) fun p10 => Option.bind (F_law_draw p10.2 3) fun p11 => Option.bind (some ((2 + p11.1))) fun x12 => Option.bind (repL ([0]) 13) fun x13 => Option.bind (F_law_all_splittings ((p10.1.length : Int))) fun x14 => Option.bind (forO (fun (x15 : (List (List Int))) (s16 : (List Int)) => Option.bind (F_law_free p10.1 x12 x15) fun x18 => Option.bind (F_law_sum p10.1 x18) fun x19 => Option.bind (atD s16 ((x15.length : Int))) fun x20 => Option.bind (setAt s16 ((x15.length : Int)) ((max2 x20 x19))) fun x21 => some x21) x14 x13) fun s22 => Option.bind (rng2 1 13) fun x23 => Option.bind (forX (β := Bool) (fun (x24 : Int) (s25 : Unit) => Option.bind (F_greatest_saving p10.1 x12 x24) fun x27 => Option.bind (maxO ((cutD s22 none (some ((x24 + 1)))))) fun x28 => Option.bind (F_law_equal ((cI.e x27)) ((cI.e x28))) fun x29 => cond ((!x29)) (some (Stp.rt (false))) (some (Stp.nx ()))) x23 ()) fun t31 => Stp.fin t31 (fun s30 => some (Stp.nx p11.2)) (fun v => some (Stp.rt (v)))) x6 x5) fun t33 => Stp.fin t33 (fun s32 => some (Stp.nx ())) (fun v => some (Stp.rt (v)))) ((cutD x1 none (some 6))) ()) fun t36 => Stp.fin t36 (fun s34 => Option.bind (F_greatest_saving ([9, 4, 7, 2, 7, 5]) 3 1) fun x35 => some (decide (x35 = 6))) (fun v => some (v))
def F_law_best (a0 : (List Int)) (a1 : Int) : Option (List Int) := Option.bind (F_law_row a0) fun x1 => Option.bind (lcO (fun (x2 : Int) => Option.bind (atD a0 x2) fun x5 => some (some (x5))) x1) fun x6 => Option.bind (some ((x6.length : Int))) fun x7 => Option.bind (rng1 ((x7 + 1))) fun x8 => Option.bind (lcO (fun (x9 : Int) => Option.bind (F_block_saving x6 a1 0 x9) fun x12 => some (some (x12))) x8) fun x13 => Option.bind (atD x13 x7) fun x14 => Option.bind (some ([x14])) fun x15 => Option.bind (rng1 ((x7 - 1))) fun x16 => Option.bind (forO (fun (x17 : Int) (s18 : ((List Int) × (List Int))) => Option.bind (some (([] : (List Int)))) fun x20 => Option.bind (rng1 ((x7 + 1))) fun x21 => Option.bind (forO (fun (x22 : Int) (s23 : (List Int)) => Option.bind (rng1 ((x22 + 1))) fun x25 => Option.bind (lcO (fun (x26 : Int) => Option.bind (atD s18.1 x26) fun x29 => Option.bind (F_block_saving x6 a1 x26 x22) fun x30 => some (some ((x29 + x30)))) x25) fun x31 => Option.bind (maxO x31) fun x32 => Option.bind (appO s23 x32) fun x33 => some x33) x21 x20) fun s34 => Option.bind (atD s34 x7) fun x35 => Option.bind (appO s18.2 x35) fun x36 => some (s34, x36)) x16 (x13, x15)) fun s37 => some (s37.2)
def F_all_values (a0 : (List Int)) (a1 : Int) : Option (List Int) := Option.bind (F_table_for a0 a1 ((a0.length : Int))) fun x1 => Option.bind (lcO (fun (x2 : (List (Int × (Int × Int)))) => Option.bind (dget x2 ((a0.length : Int))) fun x5 => some (some (x5.1))) ((cutD x1 (some 1) none))) fun x6 => some (x6)
def F_trade_off (a0 : (List Int)) (a1 : Int) : Option (List Int) := Option.bind (F_check_offer (((cT cI).e a0)) ((cI.e a1))) fun x1 => Option.bind (F_all_values a0 a1) fun x2 => Option.bind (atD x2 ((-1))) fun x3 => Option.bind (x2.idxOf? x3) fun x4 => some ((cutD x2 none (some (((x4 : Int) + 1)))))
def F_check_saving (a0 : PD) : Option Unit := Option.bind (F_is_between a0 0 1000000) fun x1 => cond ((!x1)) (none) (some ())
def F_fewest_receipts (a0 : (List Int)) (a1 : Int) (a2 : Int) : Option (Option Int) := Option.bind (F_check_offer (((cT cI).e a0)) ((cI.e a1))) fun x1 => Option.bind (F_check_saving ((cI.e a2))) fun x2 => Option.bind (F_all_values a0 a1) fun x3 => Option.bind (lcF (fun (x4 : (Int × Int)) => decide (a2 ≤ x4.2)) (fun (x4 : (Int × Int)) => (x4.1 + 1)) (enumL x3)) fun x7 => Option.bind (cond ((!decide (x7 = ([] : (List Int))))) (Option.bind (atD x7 0) fun x8 => some ((some x8))) (some ((none : (Option Int))))) fun x9 => some (x9)
def F_law_k07 (a0 : (List Int)) : Option Bool := Option.bind (catO ([0]) a0) fun x1 => Option.bind (forX (β := Bool) (fun (x2 : Int) (s3 : Unit) => Option.bind (F_law_source x2 7) fun x5 => Option.bind (F_law_basket x5 12) fun p6 => Option.bind (F_law_draw p6.2 5) fun p7 => Option.bind (some ((2 + p7.1))) fun x8 => Option.bind (F_law_best p6.1 x8) fun x9 => Option.bind (lcO (fun (x10 : (Int × Int)) => Option.bind (cond (decide (x10.1 = 0)) (some true) (Option.bind (atD x9 ((x10.1 - 1))) fun x13 => Option.bind (atD x9 ((-1))) fun x14 => some (decide (x13 < x14)))) fun b15 => cond (b15) (some (some (x10.2))) (some none)) (enumL x9)) fun x16 => Option.bind (F_trade_off p6.1 x8) fun x17 => Option.bind (F_law_equal (((cL cI).e x17)) (((cL cI).e x16))) fun x18 => cond (((!x18) || (!decide (x17 = (sortI x17))))) (some (Stp.rt (false))) (Option.bind (appO x17 0) fun x19 => Option.bind (F_trade_off p6.1 x8) fun x20 => cond ((!decide (x20 = x16))) (some (Stp.rt (false))) (Option.bind (lcM (fun (x21 : Int) => (x21 + 1)) x9) fun x24 => Option.bind (catO x9 x24) fun x25 => Option.bind (powO 10 6) fun x26 => Option.bind (atD x9 ((-1))) fun x27 => Option.bind (F_law_draw p7.2 ((x27 + 1))) fun p28 => Option.bind (catO x25 ([0, x26, p28.1])) fun x29 => Option.bind (forX (β := Bool) (fun (x30 : Int) (s31 : Unit) => Option.bind (lcF (fun (x33 : (Int × Int)) => decide (x30 ≤ x33.2)) (fun (x33 : (Int × Int)) => (x33.1 + 1)) (enumL x9)) fun x36 => Option.bind (F_fewest_receipts p6.1 x8 x30) fun x37 => Option.bind (cond ((!decide (x36 = ([] : (List Int))))) (Option.bind (atD x36 0) fun x38 => some ((some x38))) (some ((none : (Option Int))))) fun x39 => Option.bind (F_law_equal (((cO cI).e x37)) (((cO cI).e x39))) fun x40 => cond ((!x40)) (some (Stp.rt (false))) (some (Stp.nx ()))) x29 ()) fun t42 => Stp.fin t42 (fun s41 => some (Stp.nx ())) (fun v => some (Stp.rt (v)))))) ((cutD x1 none (some 10))) ()) fun t47 => Stp.fin t47 (fun s43 => Option.bind (F_fewest_receipts ([7]) 2 0) fun x44 => Option.bind (cond (decide (x44 = (some 1))) (Option.bind (F_trade_off ([7]) 2) fun x45 => some (decide (x45 = [0]))) (some false)) fun b46 => some (b46)) (fun v => some (v))
def F_law_orders (a0 : Int) : Option (List (List Int)) := Option.bind (some ([([] : (List Int))])) fun x1 => Option.bind (rng1 a0) fun x2 => Option.bind (forO (fun (x3 : Int) (s4 : (List (List Int))) => Option.bind (some (([] : (List (List Int))))) fun x6 => Option.bind (forO (fun (x7 : (List Int)) (s8 : (List (List Int))) => Option.bind (rng1 (((x7.length : Int) + 1))) fun x10 => Option.bind (lcO (fun (x11 : Int) => Option.bind (catO ((cutD x7 none (some x11))) ([x3])) fun x14 => Option.bind (catO x14 ((cutD x7 (some x11) none))) fun x15 => some (some (x15))) x10) fun x16 => Option.bind (catO s8 x16) fun x17 => some x17) s4 x6) fun s18 => some s18) x2 x1) fun s19 => some (s19)
def F_law_scanned (a0 : (List Int)) (a1 : Int) (a2 : (List Int)) : Option Int := Option.bind (rng3 0 ((a2.length : Int)) a1) fun x1 => Option.bind (forO (fun (x2 : Int) (s3 : Int) => Option.bind (some ((cutD a2 (some x2) (some ((x2 + a1)))))) fun x5 => Option.bind (cond (decide ((x5.length : Int) = a1)) (Option.bind (lcO (fun (x7 : Int) => Option.bind (atD a0 x7) fun x10 => some (some (x10))) x5) fun x11 => Option.bind (minO x11) fun x12 => Option.bind (some ((s3 + x12))) fun x13 => some x13) (some s3)) fun s6 => some s6) x1 0) fun s14 => some (s14)
def F_scanned_saving (a0 : (List Int)) (a1 : Int) (a2 : (List Int)) : Option Int := Option.bind (F_check_offer (((cT cI).e a0)) ((cI.e a1))) fun x1 => Option.bind (cond (([Ty.tuple].any (isTy ((cT cI).e a2)))) (Option.bind (lcO (fun (x2 : Int) => Option.bind (F_is_between ((cI.e x2)) 0 (((a0.length : Int) - 1))) fun x5 => some (some (x5))) a2) fun x6 => some ((x6.all id))) (some false)) fun b7 => Option.bind (some (b7)) fun x8 => Option.bind (cond ((!x8)) (some true) (Option.bind (rng1 ((a0.length : Int))) fun x9 => some ((!decide ((sortI a2) = x9))))) fun b10 => cond (b10) (none) (Option.bind (F_row_of a0) fun x11 => Option.bind (rng3 0 ((((a2.length : Int) - a1) + 1)) a1) fun x12 => Option.bind (forO (fun (x13 : Int) (s14 : Int) => Option.bind (lcO (fun (x16 : Int) => Option.bind (x11.idxOf? x16) fun x19 => some (some ((x19 : Int)))) ((cutD a2 (some x13) (some ((x13 + a1)))))) fun x20 => Option.bind (maxO x20) fun x21 => Option.bind (atD x11 x21) fun x22 => Option.bind (atD a0 x22) fun x23 => Option.bind (some (s14 + x23)) fun x24 => some x24) x12 0) fun s25 => some (s25))
def F_all_sets (a0 : (List Int)) (a1 : Int) : Option (List (List Int)) := Option.bind (some ([([] : (List Int))])) fun x1 => Option.bind (F_row_of a0) fun x2 => Option.bind (forO (fun (x3 : (Int × Int)) (s4 : (List (List Int))) => Option.bind (lcO (fun (x6 : (List Int)) => Option.bind (fdivO ((x3.1 + 1)) a1) fun x9 => cond (decide ((x6.length : Int) < x9)) (Option.bind (catO x6 ([x3.2])) fun x10 => some (some (x10))) (some none)) s4) fun x11 => Option.bind (catO s4 x11) fun x12 => some x12) (enumL x2) x1) fun s13 => Option.bind (lcM (fun (x14 : (List Int)) => (sortI x14)) s13) fun x17 => Option.bind (sortLO x17) fun x18 => some (x18)
def F_full_sets (a0 : (List Int)) (a1 : Int) : Option (List (List Int)) := Option.bind (F_all_sets a0 a1) fun x1 => Option.bind (lcO (fun (x2 : (List Int)) => Option.bind (fdivO ((a0.length : Int)) a1) fun x5 => cond (decide ((x2.length : Int) = x5)) (some (some (x2))) (some none)) x1) fun x6 => some (x6)
def F_possible_scans (a0 : (List Int)) (a1 : Int) : Option (List Int) := Option.bind (F_check_offer (((cT cI).e a0)) ((cI.e a1))) fun x1 => Option.bind (F_full_sets a0 a1) fun x2 => Option.bind (lcO (fun (x3 : (List Int)) => Option.bind (F_law_sum a0 x3) fun x6 => some (some (x6))) x2) fun x7 => some ((sortI (dedupI x7)))
def F_order_with (a0 : (List Int)) (a1 : Int) (a2 : (List Int)) : Option (List Int) := Option.bind (F_row_of a0) fun x1 => Option.bind (lcF (fun (x2 : Int) => (!decide (x2 ∈ a2))) (fun (x2 : Int) => x2) x1) fun x5 => Option.bind (some (([] : (List Int)))) fun x6 => Option.bind (lcF (fun (x7 : Int) => decide (x7 ∈ a2)) (fun (x7 : Int) => x7) x1) fun x10 => Option.bind (forO (fun (x11 : Int) (s12 : ((List Int) × (List Int))) => Option.bind (catO ((cutD s12.2 none (some ((a1 - 1))))) ([x11])) fun x14 => Option.bind (catO s12.1 x14) fun x15 => Option.bind (some ((cutD s12.2 (some ((a1 - 1))) none))) fun x16 => some (x15, x16)) x10 (x6, x5)) fun s17 => Option.bind (catO s17.1 s17.2) fun x18 => some (x18)
def F_order_for (a0 : (List Int)) (a1 : Int) (a2 : Int) : Option (Option (List Int)) := Option.bind (F_check_offer (((cT cI).e a0)) ((cI.e a1))) fun x1 => Option.bind (F_check_saving ((cI.e a2))) fun x2 => Option.bind (F_full_sets a0 a1) fun x3 => Option.bind (forX (β := (Option (List Int))) (fun (x4 : (List Int)) (s5 : Unit) => Option.bind (F_law_sum a0 x4) fun x7 => cond (decide (x7 = a2)) (Option.bind (F_order_with a0 a1 x4) fun x8 => some (Stp.rt ((some x8)))) (some (Stp.nx ()))) x3 ()) fun t10 => Stp.fin t10 (fun s9 => some ((none : (Option (List Int))))) (fun v => some (v))
def F_law_k12 (a0 : (List Int)) : Option Bool := Option.bind (catO ([0]) a0) fun x1 => Option.bind (forX (β := Bool) (fun (x2 : Int) (s3 : Unit) => Option.bind (F_law_source x2 12) fun x5 => Option.bind (F_law_basket x5 6) fun p6 => Option.bind (F_law_draw p6.2 3) fun p7 => Option.bind (some ((2 + p7.1))) fun x8 => Option.bind (some (([] : (List Int)))) fun x9 => Option.bind (F_law_orders ((p6.1.length : Int))) fun x10 => Option.bind (forX (β := Bool) (fun (x11 : (List Int)) (s12 : (List Int)) => Option.bind (F_law_scanned p6.1 x8 x11) fun x14 => Option.bind (F_scanned_saving p6.1 x8 x11) fun x15 => Option.bind (F_law_equal ((cI.e x15)) ((cI.e x14))) fun x16 => cond ((!x16)) (some (Stp.rt (false))) (Option.bind (appO s12 x14) fun x17 => some (Stp.nx x17))) x10 x9) fun t39 => Stp.fin t39 (fun s18 => Option.bind (some ((sortI (dedupI s18)))) fun x19 => Option.bind (F_possible_scans p6.1 x8) fun x20 => Option.bind (F_law_equal (((cL cI).e x20)) (((cL cI).e x19))) fun x21 => cond ((!x21)) (some (Stp.rt (false))) (Option.bind (lcM (fun (x22 : Int) => (x22 + 1)) x19) fun x25 => Option.bind (catO x19 x25) fun x26 => Option.bind (catO x26 ([0])) fun x27 => Option.bind (forX (β := Bool) (fun (x28 : Int) (s29 : Unit) => Option.bind (F_order_for p6.1 x8 x28) fun x31 => Option.bind (x31) fun x32 => cond ((!decide (isNon ((cT cI).e x32) = (!decide (x28 ∈ x19))))) (some (Stp.rt (false))) (Option.bind (cond ((!isNon ((cT cI).e x32))) (Option.bind (F_law_scanned p6.1 x8 x32) fun x33 => some ((!decide (x33 = x28)))) (some false)) fun b34 => cond (b34) (some (Stp.rt (false))) (some (Stp.nx ())))) x27 ()) fun t38 => Stp.fin t38 (fun s35 => Option.bind (appO x20 0) fun x36 => Option.bind (F_possible_scans p6.1 x8) fun x37 => cond ((!decide (x37 = x19))) (some (Stp.rt (false))) (some (Stp.nx ()))) (fun v => some (Stp.rt (v))))) (fun v => some (Stp.rt (v)))) ((cutD x1 none (some 5))) ()) fun t44 => Stp.fin t44 (fun s40 => Option.bind (F_scanned_saving ([3, 1, 2]) 2 ([0, 1, 2])) fun x41 => Option.bind (cond (decide (x41 = 1)) (Option.bind (F_possible_scans ([7]) 2) fun x42 => some (decide (x42 = [0]))) (some false)) fun b43 => some (b43)) (fun v => some (v))
def F_law_seen (a0 : Sc) (a1 : (List Int)) (a2 : Int) : Option ((List (Int × Int)) × Sc) := Option.bind (F_law_best a1 a2) fun x1 => Option.bind (some (([] : (List (Int × Int))))) fun x2 => Option.bind (F_law_draw a0 3) fun p3 => Option.bind (rng1 ((1 + p3.1))) fun x4 => Option.bind (forO (fun (x5 : Int) (s6 : (Sc × (List (Int × Int)))) => Option.bind (F_law_draw s6.1 12) fun p8 => Option.bind (some ((1 + p8.1))) fun x9 => Option.bind (atD x1 (((min2 x9 ((x1.length : Int))) - 1))) fun x10 => Option.bind (F_law_draw p8.2 5) fun p11 => Option.bind (cond (decide (p11.1 = 0)) (Option.bind (F_law_draw p11.2 5) fun p13 => Option.bind (some ((max2 0 (((x10 + p13.1) - 2))))) fun x14 => some (x14, p13.2)) (some (x10, p11.2))) fun s12 => Option.bind (catO s6.2 ([(x9, s12.1)])) fun x15 => some (s12.2, x15)) x4 (p3.2, x2)) fun s16 => some ((s16.2, s16.1))
def F_are_sightings (a0 : PD) : Option Bool := Option.bind (cond ((!([Ty.tuple].any (isTy (cA.e a0))))) (some true) (Option.bind (lenA a0) fun x1 => some ((!(decide (1 ≤ x1) && decide (x1 ≤ 6)))))) fun b2 => cond (b2) (some (false)) (Option.bind (DD.seqL a0) fun x3 => Option.bind (forX (β := Bool) (fun (x4 : PD) (s5 : Unit) => Option.bind (cond ((!([Ty.tuple].any (isTy (cA.e x4))))) (some true) (Option.bind (lenA x4) fun x7 => some ((!decide (x7 = 2))))) fun b8 => cond (b8) (some (Stp.rt (false))) (Option.bind (ixA x4 0) fun x9 => Option.bind (F_is_between x9 1 12) fun x10 => Option.bind (cond ((!x10)) (some true) (Option.bind (ixA x4 1) fun x11 => Option.bind (F_is_between x11 0 1000000) fun x12 => some ((!x12)))) fun b13 => cond (b13) (some (Stp.rt (false))) (some (Stp.nx ())))) x3 ()) fun t15 => Stp.fin t15 (fun s14 => some (true)) (fun v => some (v)))
def F_first_price (a0 : (List Int)) (a1 : Int) (a2 : Int) (a3 : Int) (a4 : Int) : Option Int := Option.bind (some ((10000 + 1))) fun x1 => Option.bind (whO (fun (s2 : (Int × Int)) => some (decide (s2.2 < s2.1))) (fun (s2 : (Int × Int)) => Option.bind (some (((s2.2 + s2.1) / 2))) fun x4 => Option.bind (catO ((cutD a0 none (some a2))) ([x4])) fun x5 => Option.bind (catO x5 ((cutD a0 (some ((a2 + 1))) none))) fun x6 => Option.bind (F_best_value x6 a1 a3) fun x7 => Option.bind (cond (decide (a4 ≤ x7)) (some (x4, s2.2)) (Option.bind (some ((x4 + 1))) fun x9 => some (s2.1, x9))) fun s8 => some (s8.1, s8.2)) FUEL (x1, 1)) fun s10 => some (s10.2)
def F_possible_prices (a0 : (List Int)) (a1 : Int) (a2 : Int) (a3 : (List (Int × Int))) : Option (Option (Int × Int)) := Option.bind (F_check_offer (((cT cI).e a0)) ((cI.e a1))) fun x1 => Option.bind (F_is_between ((cI.e a2)) 0 (((a0.length : Int) - 1))) fun x2 => cond ((!x2)) (none) (Option.bind (F_are_sightings (((cT (cP cI cI)).e a3))) fun x3 => cond ((!x3)) (none) (Option.bind (forO (fun (x4 : (Int × Int)) (s5 : (Int × Int)) => Option.bind (F_first_price a0 a1 a2 x4.1 x4.2) fun x7 => Option.bind (some ((max2 s5.1 x7))) fun x8 => Option.bind (F_first_price a0 a1 a2 x4.1 ((x4.2 + 1))) fun x9 => Option.bind (some ((min2 s5.2 ((x9 - 1))))) fun x10 => some (x8, x10)) a3 (1, 10000)) fun s11 => Option.bind (cond (decide (s11.1 ≤ s11.2)) (some ((some ((s11.1, s11.2))))) (some ((none : (Option (Int × Int)))))) fun x12 => some (x12)))
def F_law_is_int (a0 : PD) : Option Bool := some ((([Ty.int].any (isTy (cA.e a0))) && (!([Ty.bool].any (isTy (cA.e a0))))))
def F_law_with (a0 : (List Int)) (a1 : Int) (a2 : Int) : Option (List Int) := Option.bind (catO ((cutD a0 none (some a1))) ([a2])) fun x1 => Option.bind (catO x1 ((cutD a0 (some ((a1 + 1))) none))) fun x2 => some (x2)
def F_law_true (a0 : (List Int)) (a1 : Int) (a2 : Int) (a3 : Int) (a4 : (List (Int × Int))) : Option Bool := cond ((!(decide (1 ≤ a3) && decide (a3 ≤ 10000)))) (some (false)) (Option.bind (F_law_with a0 a2 a3) fun x1 => Option.bind (F_law_best x1 a1) fun x2 => Option.bind (lcO (fun (x3 : (Int × Int)) => Option.bind (atD x2 (((min2 x3.1 ((x2.length : Int))) - 1))) fun x6 => cond ((!decide (x6 = x3.2))) (some (some (1))) (some none)) a4) fun x7 => some (decide (x7 = ([] : (List Int)))))
def F_law_k14 (a0 : (List Int)) : Option Bool := Option.bind (catO ([0]) a0) fun x1 => Option.bind (forX (β := Bool) (fun (x2 : Int) (s3 : Unit) => Option.bind (F_law_source x2 14) fun x5 => Option.bind (rng1 3) fun x6 => Option.bind (forX (β := Bool) (fun (x7 : Int) (s8 : Sc) => Option.bind (F_law_basket s8 12) fun p10 => Option.bind (F_law_draw p10.2 5) fun p11 => Option.bind (some ((2 + p11.1))) fun x12 => Option.bind (F_law_draw p11.2 ((p10.1.length : Int))) fun p13 => Option.bind (F_law_seen p13.2 p10.1 x12) fun p14 => Option.bind (F_possible_prices p10.1 x12 p13.1 p14.1) fun x15 => Option.bind (atD p10.1 p13.1) fun x16 => Option.bind (F_law_draw p14.2 10000) fun p17 => Option.bind (catO ([1, 10000, x16, (1 + p17.1)]) ((cutD p10.1 none (some 4)))) fun x18 => cond (x15.isNone) (Option.bind (some (([] : (List Int)))) fun x19 => Option.bind (lcO (fun (x20 : Int) => Option.bind (F_law_true p10.1 x12 p13.1 x20 p14.1) fun x23 => cond ((!x23)) (some (some (x20))) (some none)) x19) fun x24 => cond ((!decide (x24 = ([] : (List Int))))) (some (Stp.rt (false))) (Option.bind (lcF (fun (x25 : Int) => (!decide (x25 ∈ x19))) (fun (x25 : Int) => x25) x18) fun x28 => Option.bind (lcO (fun (x29 : Int) => Option.bind (F_law_true p10.1 x12 p13.1 x29 p14.1) fun x32 => cond (x32) (some (some (x29))) (some none)) x28) fun x33 => cond ((!decide (x33 = ([] : (List Int))))) (some (Stp.rt (false))) (Option.bind (F_law_draw p17.2 10000) fun p34 => Option.bind (F_law_with p10.1 p13.1 ((1 + p34.1))) fun x35 => Option.bind (F_possible_prices x35 x12 p13.1 p14.1) fun x36 => Option.bind (F_law_equal (((cO (cP cI cI)).e x36)) (((cO (cP cI cI)).e x15))) fun x37 => cond ((!x37)) (some (Stp.rt (false))) (Option.bind (atD p10.1 p13.1) fun x38 => Option.bind (F_law_draw p34.2 9999) fun p39 => Option.bind (forX (β := Bool) (fun (x40 : Int) (s41 : Unit) => Option.bind (F_law_with p10.1 p13.1 ((min2 9999 x40))) fun x43 => Option.bind (F_law_best x43 x12) fun x44 => Option.bind (F_law_with p10.1 p13.1 (((min2 9999 x40) + 1))) fun x45 => Option.bind (F_law_best x45 x12) fun x46 => Option.bind (lcF (fun (x47 : (Int × Int)) => (!decide ((x47.2 - x47.1) ∈ [0, 1]))) (fun (x47 : (Int × Int)) => 1) (List.zip x44 x46)) fun x50 => cond ((!decide (x50 = ([] : (List Int))))) (some (Stp.rt (false))) (some (Stp.nx ()))) ([x38, (1 + p39.1)]) ()) fun t52 => Stp.fin t52 (fun s51 => some (Stp.nx p39.2)) (fun v => some (Stp.rt (v))))))) (Option.bind (cond ((!([Ty.tuple].any (isTy ((cO (cP cI cI)).e x15))))) (some true) (Option.bind (x15) fun x53 => Option.bind (cond ((!decide (2 = 2))) (some true) (Option.bind (F_law_is_int ((cI.e x53.1))) fun x54 => some ((!x54)))) fun b55 => some (b55))) fun b56 => cond (b56) (some (Stp.rt (false))) (Option.bind (x15) fun x57 => Option.bind (some ([x57.1, x57.2, ((x57.1 + x57.2) / 2)])) fun x58 => Option.bind (lcO (fun (x59 : Int) => Option.bind (x15) fun x62 => cond ((decide (x62.1 ≤ x59) && decide (x59 ≤ x62.2))) (some (some (x59))) (some none)) x18) fun x63 => Option.bind (catO x58 x63) fun x64 => Option.bind (x15) fun x65 => Option.bind (catO x18 ([(x65.1 - 1), (x65.2 + 1)])) fun x66 => Option.bind (lcO (fun (x67 : Int) => Option.bind (F_law_true p10.1 x12 p13.1 x67 p14.1) fun x70 => cond ((!x70)) (some (some (x67))) (some none)) x64) fun x71 => cond ((!decide (x71 = ([] : (List Int))))) (some (Stp.rt (false))) (Option.bind (lcF (fun (x72 : Int) => (!decide (x72 ∈ x64))) (fun (x72 : Int) => x72) x66) fun x75 => Option.bind (lcO (fun (x76 : Int) => Option.bind (F_law_true p10.1 x12 p13.1 x76 p14.1) fun x79 => cond (x79) (some (some (x76))) (some none)) x75) fun x80 => cond ((!decide (x80 = ([] : (List Int))))) (some (Stp.rt (false))) (Option.bind (F_law_draw p17.2 10000) fun p81 => Option.bind (F_law_with p10.1 p13.1 ((1 + p81.1))) fun x82 => Option.bind (F_possible_prices x82 x12 p13.1 p14.1) fun x83 => Option.bind (F_law_equal (((cO (cP cI cI)).e x83)) (((cO (cP cI cI)).e x15))) fun x84 => cond ((!x84)) (some (Stp.rt (false))) (Option.bind (atD p10.1 p13.1) fun x85 => Option.bind (F_law_draw p81.2 9999) fun p86 => Option.bind (forX (β := Bool) (fun (x87 : Int) (s88 : Unit) => Option.bind (F_law_with p10.1 p13.1 ((min2 9999 x87))) fun x90 => Option.bind (F_law_best x90 x12) fun x91 => Option.bind (F_law_with p10.1 p13.1 (((min2 9999 x87) + 1))) fun x92 => Option.bind (F_law_best x92 x12) fun x93 => Option.bind (lcF (fun (x94 : (Int × Int)) => (!decide ((x94.2 - x94.1) ∈ [0, 1]))) (fun (x94 : (Int × Int)) => 1) (List.zip x91 x93)) fun x97 => cond ((!decide (x97 = ([] : (List Int))))) (some (Stp.rt (false))) (some (Stp.nx ()))) ([x85, (1 + p86.1)]) ()) fun t99 => Stp.fin t99 (fun s98 => some (Stp.nx p86.2)) (fun v => some (Stp.rt (v))))))))) x6 x5) fun t101 => Stp.fin t101 (fun s100 => some (Stp.nx ())) (fun v => some (Stp.rt (v)))) ((cutD x1 none (some 6))) ()) fun t104 => Stp.fin t104 (fun s102 => Option.bind (F_possible_prices ([9, 4, 7, 2, 7, 5]) 3 4 ([(2, 8)])) fun x103 => some (decide (x103 = (some ((6, 6)))))) (fun v => some (v))
def F_law_free_scan (a0 : (List Int)) (a1 : Int) (a2 : (List Int)) : Option (List Int) := Option.bind (F_law_row a0) fun x1 => Option.bind (some (([] : (List Int)))) fun x2 => Option.bind (rng3 0 ((((a2.length : Int) - a1) + 1)) a1) fun x3 => Option.bind (forO (fun (x4 : Int) (s5 : (List Int)) => Option.bind (lcO (fun (x7 : Int) => Option.bind (x1.idxOf? x7) fun x10 => some (some ((x10 : Int)))) ((cutD a2 (some x4) (some ((x4 + a1)))))) fun x11 => Option.bind (maxO x11) fun x12 => Option.bind (atD x1 x12) fun x13 => Option.bind (appO s5 x13) fun x14 => some x14) x3 x2) fun s15 => some (s15)
def F_choose (a0 : Int) (a1 : Int) : Option Int := Option.bind (cond (decide (a1 ≤ a0)) (some (1)) (some (0))) fun x1 => Option.bind (rng1 a1) fun x2 => Option.bind (forO (fun (x3 : Int) (s4 : Int) => Option.bind (mulO s4 ((a0 - x3))) fun x6 => Option.bind (fdivO x6 ((x3 + 1))) fun x7 => some x7) x2 x1) fun s8 => some (s8)
def F_weight_of (a0 : Int) (a1 : Int) (a2 : Int) : Option Int := Option.bind (fdivO a0 a1) fun x1 => Option.bind (F_choose a2 ((a1 - 1))) fun x2 => Option.bind (mulO x1 x2) fun x3 => some (x3)
def F_reduced (a0 : Int) (a1 : Int) : Option (Int × Int) := Option.bind (whO (fun (s1 : (Int × Int)) => some (decide (0 < s1.2))) (fun (s1 : (Int × Int)) => Option.bind (modO s1.1 s1.2) fun x3 => some (s1.2, x3)) FUEL (a0, a1)) fun s4 => Option.bind (fdivO a0 s4.1) fun x5 => Option.bind (fdivO a1 s4.1) fun x6 => some ((x5, x6))
def F_chance_free (a0 : (List Int)) (a1 : Int) (a2 : Int) : Option (Int × Int) := Option.bind (F_check_offer (((cT cI).e a0)) ((cI.e a1))) fun x1 => Option.bind (F_is_between ((cI.e a2)) 0 (((a0.length : Int) - 1))) fun x2 => cond ((!x2)) (none) (Option.bind (F_row_of a0) fun x3 => Option.bind (x3.idxOf? a2) fun x4 => Option.bind (some ((x4 : Int))) fun x5 => cond (decide ((a0.length : Int) < a1)) (some ((0, 1))) (Option.bind (F_weight_of ((a0.length : Int)) a1 x5) fun x6 => Option.bind (F_choose ((a0.length : Int)) a1) fun x7 => Option.bind (F_reduced x6 x7) fun x8 => some (x8)))
def F_law_gcd (a0 : Int) (a1 : Int) : Option Int := Option.bind (whO (fun (s1 : (Int × Int)) => some (decide (0 < s1.2))) (fun (s1 : (Int × Int)) => Option.bind (modO s1.1 s1.2) fun x3 => some (s1.2, x3)) FUEL (a0, a1)) fun s4 => some (s4.1)
def F_law_low (a0 : Int) (a1 : Int) : Option (Int × Int) := Option.bind (F_law_gcd a0 a1) fun x1 => Option.bind (fdivO a0 x1) fun x2 => Option.bind (fdivO a1 x1) fun x3 => some ((x2, x3))
def F_row (a0 : (List Int)) : Option (List Int) := Option.bind (F_check_basket (((cT cI).e a0))) fun x1 => Option.bind (F_row_of a0) fun x2 => some (x2)
def F_law_binomial (a0 : Int) (a1 : Int) : Option Int := cond ((!(decide (0 ≤ a1) && decide (a1 ≤ a0)))) (some (0)) (Option.bind (rng1 a1) fun x1 => Option.bind (forO (fun (x2 : Int) (s3 : Int) => Option.bind (mulO s3 ((a0 - x2))) fun x5 => Option.bind (fdivO x5 ((x2 + 1))) fun x6 => some x6) x1 1) fun s7 => some (s7))
def F_law_k23 (a0 : (List Int)) : Option Bool := Option.bind (catO ([0]) a0) fun x1 => Option.bind (forX (β := Bool) (fun (x2 : Int) (s3 : Unit) => Option.bind (F_law_source x2 23) fun x5 => Option.bind (F_law_basket x5 6) fun p6 => Option.bind (F_law_draw p6.2 5) fun p7 => Option.bind (some ((2 + p7.1))) fun x8 => Option.bind (some ((p6.1.length : Int))) fun x9 => Option.bind (repL ([0]) ((p6.1.length : Int))) fun x10 => Option.bind (F_law_orders x9) fun x11 => Option.bind (forO (fun (x12 : (List Int)) (s13 : (List Int)) => Option.bind (F_law_free_scan p6.1 x8 x12) fun x15 => Option.bind (forO (fun (x16 : Int) (s17 : (List Int)) => Option.bind (atD s17 x16) fun x19 => Option.bind (setAt s17 x16 ((x19 + 1))) fun x20 => some x20) x15 s13) fun s21 => some s21) x11 x10) fun s22 => Option.bind (rng1 x9) fun x23 => Option.bind (forX (β := Bool) (fun (x24 : Int) (s25 : Unit) => Option.bind (F_chance_free p6.1 x8 x24) fun x27 => Option.bind (atD s22 x24) fun x28 => Option.bind (F_law_low x28 ((x11.length : Int))) fun x29 => Option.bind (F_law_equal (((cP cI cI).e x27)) (((cP cI cI).e x29))) fun x30 => cond ((!x30)) (some (Stp.rt (false))) (some (Stp.nx ()))) x23 ()) fun t57 => Stp.fin t57 (fun s31 => Option.bind (F_law_basket p7.2 12) fun p32 => Option.bind (F_law_draw p32.2 5) fun p33 => Option.bind (some ((2 + p33.1))) fun x34 => Option.bind (some ((p32.1.length : Int))) fun x35 => Option.bind (some ((0, 1))) fun x36 => Option.bind (F_row p32.1) fun x37 => Option.bind (forX (β := Bool) (fun (x38 : (Int × Int)) (s39 : ((Int × Int) × Int)) => Option.bind (F_chance_free p32.1 x34 x38.2) fun x41 => Option.bind (fdivO x35 x34) fun x42 => Option.bind (F_law_binomial x38.1 ((x34 - 1))) fun x43 => Option.bind (mulO x42 x43) fun x44 => Option.bind (F_law_binomial x35 x34) fun x45 => Option.bind (some ((max2 1 x45))) fun x46 => Option.bind (F_law_low x44 x46) fun x47 => Option.bind (cond ((!decide (x41 = x47))) (some true) (Option.bind (mulO x41.1 s39.1.2) fun x48 => Option.bind (mulO s39.1.1 x41.2) fun x49 => some (decide (x48 < x49)))) fun b50 => cond (b50) (some (Stp.rt (false))) (Option.bind (some ((s39.2 + x44))) fun x51 => some (Stp.nx (x41, x51)))) (enumL x37) (x36, 0)) fun t56 => Stp.fin t56 (fun s52 => Option.bind (fdivO x35 x34) fun x53 => Option.bind (F_law_binomial x35 x34) fun x54 => Option.bind (mulO x53 x54) fun x55 => cond ((!decide (s52.2 = x55))) (some (Stp.rt (false))) (some (Stp.nx ()))) (fun v => some (Stp.rt (v)))) (fun v => some (Stp.rt (v)))) ((cutD x1 none (some 8))) ()) fun t65 => Stp.fin t65 (fun s58 => Option.bind (some ([9, 4, 7, 2, 7, 5])) fun x59 => Option.bind (lcO (fun (x60 : Int) => Option.bind (F_chance_free x59 3 x60) fun x63 => some (some (x63))) ([4, 0, 3])) fun x64 => some (decide (x64 = [(1, 10), (0, 1), (1, 1)]))) (fun v => some (v))
def F_law_rows_of (a0 : (List Int)) (a1 : Int) : Option (List (Int × Int)) := Option.bind (some (([] : (List (Int × Int))))) fun x1 => Option.bind (F_law_all_splittings ((a0.length : Int))) fun x2 => Option.bind (forO (fun (x3 : (List (List Int))) (s4 : (List (Int × Int))) => Option.bind (F_law_free a0 a1 x3) fun x6 => Option.bind (lcO (fun (x7 : Int) => Option.bind (atD a0 x7) fun x10 => some (some (x10))) x6) fun x11 => Option.bind (appO s4 (((x3.length : Int), x11.sum))) fun x12 => some x12) x2 x1) fun s13 => some (s13)
def F_law_least (a0 : (List Int)) (a1 : Int) (a2 : Int) : Option Int := Option.bind (F_law_rows_of a0 a1) fun x1 => Option.bind (lcF (fun (x2 : (Int × Int)) => decide (x2.1 ≤ a2)) (fun (x2 : (Int × Int)) => x2.2) x1) fun x5 => Option.bind (maxO x5) fun x6 => some ((a0.sum - x6))
def F_paid_with (a0 : (List Int)) (a1 : Int) (a2 : Int) : Option Int := Option.bind (F_best_value a0 a1 a2) fun x1 => some ((a0.sum - x1))
def F_least_paid (a0 : (List Int)) (a1 : Int) (a2 : Int) : Option Int := Option.bind (F_check_offer (((cT cI).e a0)) ((cI.e a1))) fun x1 => Option.bind (F_check_receipts ((cI.e a2))) fun x2 => Option.bind (F_paid_with a0 a1 a2) fun x3 => some (x3)
def F_check_room (a0 : PD) : Option Unit := Option.bind (lenA a0) fun x1 => cond (decide (12 ≤ x1)) (none) (some ())
def F_growth (a0 : (List Int)) (a1 : Int) (a2 : Int) (a3 : Int) : Option Int := Option.bind (catO a0 ([a3])) fun x1 => Option.bind (F_paid_with x1 a1 a2) fun x2 => Option.bind (F_paid_with a0 a1 a2) fun x3 => some ((x2 - x3))
def F_extra_paid (a0 : (List Int)) (a1 : Int) (a2 : Int) (a3 : Int) : Option Int := Option.bind (F_check_offer (((cT cI).e a0)) ((cI.e a1))) fun x1 => Option.bind (F_check_receipts ((cI.e a2))) fun x2 => Option.bind (F_is_between ((cI.e a3)) 1 10000) fun x3 => cond ((!x3)) (none) (Option.bind (F_check_room (((cT cI).e a0))) fun x4 => Option.bind (F_growth a0 a1 a2 a3) fun x5 => some (x5))
def F_law_paid (a0 : (List Int)) (a1 : Int) (a2 : Int) : Option Int := Option.bind (F_law_best a0 a1) fun x1 => Option.bind (atD x1 (((min2 a2 ((a0.length : Int))) - 1))) fun x2 => some ((a0.sum - x2))
def F_law_k26 (a0 : (List Int)) : Option Bool := Option.bind (catO ([0]) a0) fun x1 => Option.bind (forX (β := Bool) (fun (x2 : Int) (s3 : Unit) => Option.bind (F_law_source x2 26) fun x5 => Option.bind (F_law_basket x5 5) fun p6 => Option.bind (F_law_draw p6.2 5) fun p7 => Option.bind (some ((2 + p7.1))) fun x8 => Option.bind (F_law_draw p7.2 6) fun p9 => Option.bind (some ((1 + p9.1))) fun x10 => Option.bind (F_law_choice_Li p9.2 ([5, 60, 10000])) fun p11 => Option.bind (F_law_draw p11.2 p11.1) fun p12 => Option.bind (some ((1 + p12.1))) fun x13 => Option.bind (F_law_least p6.1 x8 x10) fun x14 => Option.bind (catO p6.1 ([x13])) fun x15 => Option.bind (F_law_least x15 x8 x10) fun x16 => Option.bind (F_least_paid p6.1 x8 x10) fun x17 => Option.bind (F_law_equal ((cI.e x17)) ((cI.e x14))) fun x18 => cond ((!x18)) (some (Stp.rt (false))) (Option.bind (F_extra_paid p6.1 x8 x10 x13) fun x19 => Option.bind (F_law_equal ((cI.e x19)) ((cI.e ((x16 - x14))))) fun x20 => cond (((!x20) || decide (x16 < x14))) (some (Stp.rt (false))) (Option.bind (rng1 4) fun x21 => Option.bind (forX (β := Bool) (fun (x22 : Int) (s23 : Sc) => Option.bind (F_law_basket s23 11) fun p25 => Option.bind (F_law_draw p25.2 12) fun p26 => Option.bind (some ((1 + p26.1))) fun x27 => Option.bind (F_law_draw p26.2 9999) fun p28 => Option.bind (some ((1 + p28.1))) fun x29 => Option.bind (F_law_draw p28.2 5) fun p30 => Option.bind (some ((2 + p30.1))) fun x31 => Option.bind (F_extra_paid p25.1 x31 x27 x29) fun x32 => Option.bind (catO p25.1 ([x29])) fun x33 => Option.bind (F_law_paid x33 x31 x27) fun x34 => Option.bind (F_law_paid p25.1 x31 x27) fun x35 => Option.bind (some ((x34 - x35))) fun x36 => Option.bind (F_extra_paid p25.1 x31 x27 ((x29 + 1))) fun x37 => cond (((!decide (x32 = x36)) || (decide (x32 < 0) || (!(decide (0 ≤ (x37 - x32)) && decide ((x37 - x32) ≤ 1)))))) (some (Stp.rt (false))) (Option.bind (F_least_paid p25.1 x31 x27) fun x38 => Option.bind (F_greatest_saving p25.1 x31 x27) fun x39 => cond ((!decide (x38 = (p25.1.sum - x39)))) (some (Stp.rt (false))) (cond ((decide ((p25.1.length : Int) < x27) && decide (x29 < x32))) (some (Stp.rt (false))) (some (Stp.nx p30.2))))) x21 p12.2) fun t41 => Stp.fin t41 (fun s40 => some (Stp.nx ())) (fun v => some (Stp.rt (v)))))) ((cutD x1 none (some 8))) ()) fun t48 => Stp.fin t48 (fun s42 => Option.bind (some ([9, 4, 7, 2, 7, 5])) fun x43 => Option.bind (F_least_paid x43 3 2) fun x44 => Option.bind (F_extra_paid x43 3 2 1) fun x45 => Option.bind (F_extra_paid x43 3 3 1) fun x46 => cond ((!decide ([x44, x45, x46] = [25, 2, 1]))) (some (false)) (Option.bind (F_extra_paid ([9, 8, 7]) 3 1 1) fun x47 => some (decide (x47 = 7)))) (fun v => some (v))
def F_free_extra (a0 : (List Int)) (a1 : Int) (a2 : Int) : Option (Option Int) := Option.bind (F_check_offer (((cT cI).e a0)) ((cI.e a1))) fun x1 => Option.bind (F_check_receipts ((cI.e a2))) fun x2 => Option.bind (F_check_room (((cT cI).e a0))) fun x3 => Option.bind (whO (fun (s4 : (Int × Int)) => some (decide (s4.1 < s4.2))) (fun (s4 : (Int × Int)) => Option.bind (some ((((s4.1 + s4.2) + 1) / 2))) fun x6 => Option.bind (F_growth a0 a1 a2 x6) fun x7 => Option.bind (cond (decide (x7 = 0)) (some (x6, s4.2)) (Option.bind (some ((x6 - 1))) fun x9 => some (s4.1, x9))) fun s8 => some (s8.1, s8.2)) FUEL (0, 10000)) fun s10 => Option.bind (cond (decide (0 < s10.1)) (some ((some s10.1))) (some ((none : (Option Int))))) fun x11 => some (x11)
def F_law_k27 (a0 : (List Int)) : Option Bool := Option.bind (catO ([0]) a0) fun x1 => Option.bind (forX (β := Bool) (fun (x2 : Int) (s3 : Unit) => Option.bind (F_law_source x2 27) fun x5 => Option.bind (rng1 2) fun x6 => Option.bind (forX (β := Bool) (fun (x7 : Int) (s8 : Sc) => Option.bind (F_law_basket s8 11) fun p10 => Option.bind (F_law_draw p10.2 5) fun p11 => Option.bind (some ((2 + p11.1))) fun x12 => Option.bind (F_law_draw p11.2 6) fun p13 => Option.bind (some ((1 + p13.1))) fun x14 => Option.bind (F_free_extra p10.1 x12 x14) fun x15 => Option.bind (F_law_paid p10.1 x12 x14) fun x16 => cond (x15.isNone) (Option.bind (catO p10.1 ([1])) fun x17 => Option.bind (F_law_paid x17 x12 x14) fun x18 => cond (decide (x18 = x16)) (some (Stp.rt (false))) (some (Stp.nx p13.2))) (Option.bind (F_law_is_int (((cO cI).e x15))) fun x19 => Option.bind (cond ((!x19)) (some true) (Option.bind (x15) fun x20 => some ((!(decide (1 ≤ x20) && decide (x20 ≤ 10000)))))) fun b21 => cond (b21) (some (Stp.rt (false))) (Option.bind (x15) fun x22 => Option.bind (catO p10.1 ([x22])) fun x23 => Option.bind (F_law_paid x23 x12 x14) fun x24 => cond ((!decide (x24 = x16))) (some (Stp.rt (false))) (Option.bind (x15) fun x25 => Option.bind (catO p10.1 ([(x25 + 1)])) fun x26 => Option.bind (x15) fun x27 => Option.bind (cond (decide (x27 < 10000)) (Option.bind (F_law_paid x26 x12 x14) fun x28 => some (decide (x28 = x16))) (some false)) fun b29 => cond (b29) (some (Stp.rt (false))) (Option.bind (x15) fun x30 => Option.bind (F_law_draw p13.2 x30) fun p31 => Option.bind (some ((1 + p31.1))) fun x32 => Option.bind (x15) fun x33 => Option.bind (F_law_draw p31.2 ((10001 - x33))) fun p34 => Option.bind (some (((x33 + 1) + p34.1))) fun x35 => Option.bind (F_extra_paid p10.1 x12 x14 x32) fun x36 => cond ((!decide (x36 = 0))) (some (Stp.rt (false))) (Option.bind (cond (decide (x35 ≤ 10000)) (Option.bind (F_extra_paid p10.1 x12 x14 x35) fun x37 => some (decide (x37 ≤ 0))) (some false)) fun b38 => cond (b38) (some (Stp.rt (false))) (some (Stp.nx p34.2)))))))) x6 x5) fun t40 => Stp.fin t40 (fun s39 => some (Stp.nx ())) (fun v => some (Stp.rt (v)))) ((cutD x1 none (some 10))) ()) fun t46 => Stp.fin t46 (fun s41 => Option.bind (F_free_extra ([9, 4, 7, 2, 7, 5]) 3 2) fun x42 => cond ((!x42.isNone)) (some (false)) (Option.bind (F_free_extra ([9, 8]) 3 1) fun x43 => Option.bind (F_free_extra ([5]) 2 3) fun x44 => Option.bind (eqA ((cL (cO cI)).e ([x43, x44])) ((cL cI).e ([8, 5]))) fun b45 => some (b45))) (fun v => some (v))
def F_largest_size (a0 : (List Int)) (a1 : Int) (a2 : Int) : Option (Option Int) := Option.bind (F_check_basket (((cT cI).e a0))) fun x1 => Option.bind (F_check_receipts ((cI.e a1))) fun x2 => Option.bind (F_check_saving ((cI.e a2))) fun x3 => Option.bind (lcO (fun (x4 : Int) => Option.bind (F_best_value a0 x4 a1) fun x7 => cond (decide (a2 ≤ x7)) (some (some (x4))) (some none)) ([2, 3, 4, 5, 6])) fun x8 => Option.bind (cond ((!decide (x8 = ([] : (List Int))))) (Option.bind (atD x8 ((-1))) fun x9 => some ((some x9))) (some ((none : (Option Int))))) fun x10 => some (x10)
def F_law_k28 (a0 : (List Int)) : Option Bool := Option.bind (catO ([0]) a0) fun x1 => Option.bind (forX (β := Bool) (fun (x2 : Int) (s3 : Unit) => Option.bind (F_law_source x2 28) fun x5 => Option.bind (rng1 2) fun x6 => Option.bind (forX (β := Bool) (fun (x7 : Int) (s8 : Sc) => Option.bind (F_law_basket s8 12) fun p10 => Option.bind (F_law_draw p10.2 12) fun p11 => Option.bind (some ((1 + p11.1))) fun x12 => Option.bind (rng2 2 7) fun x13 => Option.bind (lcO (fun (x14 : Int) => Option.bind (F_law_best p10.1 x14) fun x17 => Option.bind (atD x17 (((min2 x12 ((p10.1.length : Int))) - 1))) fun x18 => some (some (x18))) x13) fun x19 => Option.bind (lcF (fun (x20 : (Int × Int)) => decide (x20.1 < x20.2)) (fun (x20 : (Int × Int)) => 1) (List.zip x19 ((cutD x19 (some 1) none)))) fun x23 => cond ((!decide (x23 = ([] : (List Int))))) (some (Stp.rt (false))) (Option.bind (rng2 2 7) fun x24 => Option.bind (lcO (fun (x25 : Int) => Option.bind (F_greatest_saving p10.1 x25 x12) fun x28 => some (some (x28))) x24) fun x29 => cond ((!decide (x29 = x19))) (some (Stp.rt (false))) (Option.bind (atD x19 0) fun x30 => Option.bind (atD x19 2) fun x31 => Option.bind (powO 10 6) fun x32 => Option.bind (F_law_draw p11.2 ((x32 + 1))) fun p33 => Option.bind (catO x19 ([0, (x30 + 1), (max2 0 ((x31 - 1))), p33.1])) fun x34 => Option.bind (forX (β := Bool) (fun (x35 : Int) (s36 : Unit) => Option.bind (rng2 2 7) fun x38 => Option.bind (lcO (fun (x39 : Int) => Option.bind (atD x19 ((x39 - 2))) fun x42 => cond (decide (x35 ≤ x42)) (some (some (x39))) (some none)) x38) fun x43 => Option.bind (F_largest_size p10.1 x12 x35) fun x44 => Option.bind (cond ((!decide (x43 = ([] : (List Int))))) (Option.bind (atD x43 ((-1))) fun x45 => some ((some x45))) (some ((none : (Option Int))))) fun x46 => Option.bind (F_law_equal (((cO cI).e x44)) (((cO cI).e x46))) fun x47 => cond ((!x47)) (some (Stp.rt (false))) (some (Stp.nx ()))) x34 ()) fun t49 => Stp.fin t49 (fun s48 => some (Stp.nx p33.2)) (fun v => some (Stp.rt (v)))))) x6 x5) fun t51 => Stp.fin t51 (fun s50 => some (Stp.nx ())) (fun v => some (Stp.rt (v)))) ((cutD x1 none (some 10))) ()) fun t58 => Stp.fin t58 (fun s52 => Option.bind (some ([9, 4, 7, 2, 7, 5])) fun x53 => Option.bind (F_largest_size x53 2 9) fun x54 => Option.bind (F_largest_size x53 2 100) fun x55 => Option.bind (F_largest_size x53 1 2) fun x56 => Option.bind (eqA ((cL (cO cI)).e ([x54, x55, x56])) ((cL cA).e ([(cI.e 3), (cN.e (())), (cI.e 6)]))) fun b57 => some (b57)) (fun v => some (v))
def F_possible_sizes (a0 : (List Int)) (a1 : (List (Int × Int))) : Option (List Int) := Option.bind (F_check_basket (((cT cI).e a0))) fun x1 => Option.bind (F_are_sightings (((cT (cP cI cI)).e a1))) fun x2 => cond ((!x2)) (none) (Option.bind (some (([] : (List Int)))) fun x3 => Option.bind (forO (fun (x4 : Int) (s5 : (List Int)) => Option.bind (lcO (fun (x7 : (Int × Int)) => Option.bind (F_best_value a0 x4 x7.1) fun x10 => some (some (decide (x10 = x7.2)))) a1) fun x11 => Option.bind (cond ((x11.all id)) (Option.bind (appO s5 x4) fun x13 => some x13) (some s5)) fun s12 => some s12) ([2, 3, 4, 5, 6]) x3) fun s14 => some (s14))
def F_law_k29 (a0 : (List Int)) : Option Bool := Option.bind (catO ([0]) a0) fun x1 => Option.bind (forX (β := Bool) (fun (x2 : Int) (s3 : Unit) => Option.bind (F_law_source x2 29) fun x5 => Option.bind (rng1 2) fun x6 => Option.bind (forX (β := Bool) (fun (x7 : Int) (s8 : Sc) => Option.bind (F_law_basket s8 12) fun p10 => Option.bind (F_law_draw p10.2 5) fun p11 => Option.bind (some ((2 + p11.1))) fun x12 => Option.bind (some (([] : (List (Int × Int))))) fun x13 => Option.bind (F_law_draw p11.2 6) fun p14 => Option.bind (rng1 ((1 + p14.1))) fun x15 => Option.bind (forO (fun (x16 : Int) (s17 : (Sc × (List (Int × Int)))) => Option.bind (F_law_draw s17.1 12) fun p19 => Option.bind (some ((1 + p19.1))) fun x20 => Option.bind (F_law_best p10.1 x12) fun x21 => Option.bind (atD x21 (((min2 x20 ((p10.1.length : Int))) - 1))) fun x22 => Option.bind (F_law_draw p19.2 9) fun p23 => Option.bind (cond (decide (p23.1 = 0)) (Option.bind (some ((x22 + 1))) fun x25 => some x25) (some x22)) fun s24 => Option.bind (catO s17.2 ([(x20, s24)])) fun x26 => some (p23.2, x26)) x15 (p14.2, x13)) fun s27 => Option.bind (some (([] : (List Int)))) fun x28 => Option.bind (rng2 2 7) fun x29 => Option.bind (forO (fun (x30 : Int) (s31 : (List Int)) => Option.bind (F_law_best p10.1 x30) fun x33 => Option.bind (lcO (fun (x34 : (Int × Int)) => Option.bind (atD x33 (((min2 x34.1 ((p10.1.length : Int))) - 1))) fun x37 => cond ((!decide (x37 = x34.2))) (some (some (1))) (some none)) s27.2) fun x38 => Option.bind (cond (decide (x38 = ([] : (List Int)))) (Option.bind (appO s31 x30) fun x40 => some x40) (some s31)) fun s39 => some s39) x29 x28) fun s41 => Option.bind (F_possible_sizes p10.1 s27.2) fun x42 => Option.bind (F_law_equal (((cL cI).e x42)) (((cL cI).e s41))) fun x43 => cond ((!x43)) (some (Stp.rt (false))) (Option.bind (lcO (fun (x44 : Int) => Option.bind (F_possible_sizes p10.1 ((cutD s27.2 none (some 1)))) fun x47 => cond ((!decide (x44 ∈ x47))) (some (some (x44))) (some none)) x42) fun x48 => cond ((!decide (x48 = ([] : (List Int))))) (some (Stp.rt (false))) (some (Stp.nx s27.1)))) x6 x5) fun t50 => Stp.fin t50 (fun s49 => some (Stp.nx ())) (fun v => some (Stp.rt (v)))) ((cutD x1 none (some 10))) ()) fun t56 => Stp.fin t56 (fun s51 => Option.bind (some ([9, 4, 7, 2, 7, 5])) fun x52 => Option.bind (F_possible_sizes x52 ([(1, 2)])) fun x53 => Option.bind (cond (decide (x53 = [4, 5, 6])) (Option.bind (F_possible_sizes x52 ([(1, 2), (2, 5)])) fun x54 => some (decide (x54 = [4]))) (some false)) fun b55 => some (b55)) (fun v => some (v))
def F_check_small (a0 : PD) : Option Unit := Option.bind (lenA a0) fun x1 => cond (decide (7 < x1)) (none) (some ())
def F_all_splittings (a0 : Int) : Option (List (List (List Int))) := Option.bind (some ([([] : (List (List Int)))])) fun x1 => Option.bind (rng1 a0) fun x2 => Option.bind (forO (fun (x3 : Int) (s4 : (List (List (List Int)))) => Option.bind (some (([] : (List (List (List Int)))))) fun x6 => Option.bind (forO (fun (x7 : (List (List Int))) (s8 : (List (List (List Int)))) => Option.bind (catO x7 ([[x3]])) fun x10 => Option.bind (appO s8 x10) fun x11 => Option.bind (forO (fun (x12 : (Int × (List Int))) (s13 : (List (List (List Int)))) => Option.bind (catO x12.2 ([x3])) fun x15 => Option.bind (catO ((cutD x7 none (some x12.1))) ([x15])) fun x16 => Option.bind (catO x16 ((cutD x7 (some ((x12.1 + 1))) none))) fun x17 => Option.bind (appO s13 x17) fun x18 => some x18) (enumL x7) x11) fun s19 => some s19) s4 x6) fun s20 => some s20) x2 x1) fun s21 => some (s21)
def F_free_of (a0 : (List Int)) (a1 : Int) (a2 : (List (List Int))) : Option (List Int) := Option.bind (F_row_of a0) fun x1 => Option.bind (some (([] : (List Int)))) fun x2 => Option.bind (forO (fun (x3 : (List Int)) (s4 : (List Int)) => Option.bind (lcF (fun (x6 : Int) => decide (x6 ∈ x3)) (fun (x6 : Int) => x6) x1) fun x9 => Option.bind (fdivO ((x9.length : Int)) a1) fun x10 => Option.bind (catO s4 ((cutD x9 (some (((x9.length : Int) - x10))) none))) fun x11 => some x11) a2 x2) fun s12 => some ((sortI s12))
def F_savings_of (a0 : (List Int)) (a1 : Int) : Option (List (Int × Int)) := Option.bind (some (([] : (List (Int × Int))))) fun x1 => Option.bind (F_all_splittings ((a0.length : Int))) fun x2 => Option.bind (forO (fun (x3 : (List (List Int))) (s4 : (List (Int × Int))) => Option.bind (F_free_of a0 a1 x3) fun x6 => Option.bind (F_law_sum a0 x6) fun x7 => Option.bind (appO s4 (((x3.length : Int), x7))) fun x8 => some x8) x2 x1) fun s9 => some (s9)
def F_possible_savings (a0 : (List Int)) (a1 : Int) (a2 : Int) : Option (List Int) := Option.bind (F_check_offer (((cT cI).e a0)) ((cI.e a1))) fun x1 => Option.bind (F_check_receipts ((cI.e a2))) fun x2 => Option.bind (F_check_small (((cT cI).e a0))) fun x3 => Option.bind (F_savings_of a0 a1) fun x4 => Option.bind (lcF (fun (x5 : (Int × Int)) => decide (x5.1 ≤ a2)) (fun (x5 : (Int × Int)) => x5.2) x4) fun x8 => some ((sortI (dedupI x8)))
def F_count_splittings (a0 : (List Int)) (a1 : Int) (a2 : Int) (a3 : Int) : Option Int := Option.bind (F_check_offer (((cT cI).e a0)) ((cI.e a1))) fun x1 => Option.bind (F_check_receipts ((cI.e a2))) fun x2 => Option.bind (F_check_saving ((cI.e a3))) fun x3 => Option.bind (F_check_small (((cT cI).e a0))) fun x4 => Option.bind (F_savings_of a0 a1) fun x5 => Option.bind (lcF (fun (x6 : (Int × Int)) => (decide (x6.1 ≤ a2) && decide (x6.2 = a3))) (fun (x6 : (Int × Int)) => x6.2) x5) fun x9 => some ((x9.length : Int))
def F_law_k31 (a0 : (List Int)) : Option Bool := Option.bind (catO ([0]) a0) fun x1 => Option.bind (forX (β := Bool) (fun (x2 : Int) (s3 : Unit) => Option.bind (F_law_source x2 31) fun x5 => Option.bind (F_law_basket x5 6) fun p6 => Option.bind (F_law_draw p6.2 5) fun p7 => Option.bind (some ((2 + p7.1))) fun x8 => Option.bind (F_law_draw p7.2 7) fun p9 => Option.bind (some ((1 + p9.1))) fun x10 => Option.bind (F_law_rows_of p6.1 x8) fun x11 => Option.bind (F_possible_savings p6.1 x8 x10) fun x12 => Option.bind (atD x12 ((-1))) fun x13 => Option.bind (powO 10 6) fun x14 => Option.bind (F_law_draw p9.2 30) fun p15 => Option.bind (catO ((cutD x12 none (some 8))) ([0, (x13 + 1), x14, p15.1])) fun x16 => Option.bind (forX (β := Bool) (fun (x17 : Int) (s18 : Unit) => Option.bind (lcF (fun (x20 : (Int × Int)) => (decide (x20.1 ≤ x10) && decide (x20.2 = x17))) (fun (x20 : (Int × Int)) => x20.2) x11) fun x23 => Option.bind (some ((x23.length : Int))) fun x24 => Option.bind (F_count_splittings p6.1 x8 x10 x17) fun x25 => Option.bind (F_law_equal ((cI.e x25)) ((cI.e x24))) fun x26 => cond ((!x26)) (some (Stp.rt (false))) (some (Stp.nx ()))) x16 ()) fun t44 => Stp.fin t44 (fun s27 => cond (decide ((x12.length : Int) < 9)) (Option.bind (lcO (fun (x28 : Int) => Option.bind (F_count_splittings p6.1 x8 x10 x28) fun x31 => some (some (x31))) x12) fun x32 => Option.bind (some (x32.sum)) fun x33 => Option.bind (lcF (fun (x34 : (Int × Int)) => decide (x34.1 ≤ x10)) (fun (x34 : (Int × Int)) => x34.2) x11) fun x37 => cond ((!decide (x33 = (x37.length : Int)))) (some (Stp.rt (false))) (Option.bind (F_law_best p6.1 x8) fun x38 => Option.bind (atD x38 0) fun x39 => Option.bind (F_count_splittings p6.1 x8 1 x39) fun x40 => cond ((!decide (x40 = 1))) (some (Stp.rt (false))) (some (Stp.nx ())))) (Option.bind (F_law_best p6.1 x8) fun x41 => Option.bind (atD x41 0) fun x42 => Option.bind (F_count_splittings p6.1 x8 1 x42) fun x43 => cond ((!decide (x43 = 1))) (some (Stp.rt (false))) (some (Stp.nx ())))) (fun v => some (Stp.rt (v)))) ((cutD x1 none (some 8))) ()) fun t52 => Stp.fin t52 (fun s45 => Option.bind (some ([9, 4, 7, 2, 7, 5])) fun x46 => Option.bind (lcO (fun (x47 : Int) => Option.bind (F_count_splittings x46 3 2 x47) fun x50 => some (some (x50))) ([9, 6, 8])) fun x51 => some (decide (x51 = [1, 7, 0]))) (fun v => some (v))
def F_least_saving (a0 : (List Int)) (a1 : Int) (a2 : Int) : Option (Option Int) := Option.bind (F_check_offer (((cT cI).e a0)) ((cI.e a1))) fun x1 => Option.bind (F_check_receipts ((cI.e a2))) fun x2 => Option.bind (F_check_small (((cT cI).e a0))) fun x3 => Option.bind (F_savings_of a0 a1) fun x4 => Option.bind (lcF (fun (x5 : (Int × Int)) => decide (x5.1 = a2)) (fun (x5 : (Int × Int)) => x5.2) x4) fun x8 => Option.bind (cond ((!decide (x8 = ([] : (List Int))))) (Option.bind (minO x8) fun x9 => some ((some x9))) (some ((none : (Option Int))))) fun x10 => some (x10)
def F_law_k32 (a0 : (List Int)) : Option Bool := Option.bind (catO ([0]) a0) fun x1 => Option.bind (forX (β := Bool) (fun (x2 : Int) (s3 : Unit) => Option.bind (F_law_source x2 32) fun x5 => Option.bind (F_law_basket x5 7) fun p6 => Option.bind (F_law_draw p6.2 5) fun p7 => Option.bind (some ((2 + p7.1))) fun x8 => Option.bind (F_law_rows_of p6.1 x8) fun x9 => Option.bind (rng2 1 13) fun x10 => Option.bind (forX (β := Bool) (fun (x11 : Int) (s12 : Unit) => Option.bind (lcF (fun (x14 : (Int × Int)) => decide (x14.1 = x11)) (fun (x14 : (Int × Int)) => x14.2) x9) fun x17 => Option.bind (F_least_saving p6.1 x8 x11) fun x18 => Option.bind (cond ((!decide (x17 = ([] : (List Int))))) (Option.bind (minO x17) fun x19 => some ((some x19))) (some ((none : (Option Int))))) fun x20 => Option.bind (F_law_equal (((cO cI).e x18)) (((cO cI).e x20))) fun x21 => cond ((!x21)) (some (Stp.rt (false))) (cond ((!decide (x18.isNone = decide ((p6.1.length : Int) < x11)))) (some (Stp.rt (false))) (Option.bind (cond ((!x18.isNone)) (Option.bind (F_possible_savings p6.1 x8 x11) fun x22 => Option.bind (inA ((cO cI).e x18) ((x22.map cI.e))) fun b23 => some ((!b23))) (some false)) fun b24 => cond (b24) (some (Stp.rt (false))) (Option.bind (mulO ((x8 - 1)) x11) fun x25 => Option.bind (cond (decide ((p6.1.length : Int) ≤ x25)) (Option.bind (inA ((cO cI).e x18) ([(cI.e 0), (cN.e (()))])) fun b26 => some ((!b26))) (some false)) fun b27 => cond (b27) (some (Stp.rt (false))) (some (Stp.nx ())))))) x10 ()) fun t29 => Stp.fin t29 (fun s28 => some (Stp.nx ())) (fun v => some (Stp.rt (v)))) ((cutD x1 none (some 8))) ()) fun t38 => Stp.fin t38 (fun s30 => Option.bind (some ([9, 4, 7, 2, 7, 5])) fun x31 => Option.bind (lcO (fun (x32 : Int) => Option.bind (F_least_saving x31 3 x32) fun x35 => some (some (x35))) ([1, 2, 3, 4, 6, 7])) fun x36 => Option.bind (eqA ((cL (cO cI)).e x36) ((cL cA).e ([(cI.e 6), (cI.e 2), (cI.e 0), (cI.e 0), (cI.e 0), (cN.e (()))]))) fun b37 => some (b37)) (fun v => some (v))
end DD

-- part DCm
set_option Elab.async false
set_option linter.all false
set_option maxRecDepth 100000
set_option maxHeartbeats 4000000
/-! The evaluator returns what the functions written by hand return. -/
namespace DD
open PySem DD.P
theorem RunOk.of {g : FSem} {ds : List PD} {d m : PD} (h : g.run ds = some (.ret d false m)) : RunOk g ds d false m := ⟨false, h, (fun z => by cases z), (fun z => by cases z)⟩
theorem c0_law_source {a0 a1 : Int} {r : Sc} (h : F_law_source a0 a1 = some r) : RunOk (s_law_source []) [cI.e a0, cI.e a1] (cSc.e r) true .none := by
  cases h
  refine ⟨true, ?_, fun _ => rfl, fun _ => rfl⟩
  by_cases h : (1000000000000000000 : Int) ≤ a0
  · simp [cI, cSc, s_law_source, b_law_source, defSem, outF, envOf, evalSs, evalS, evalEs, evalI, evalFs, EO.binS, AO.binS, evalE, getC, EO.bind, AO.bind, EO.binA, AO.binA, retE, outE, outB, boolE, intE, isTy, cmpV, isScal, ixV, atD, ixOf, slV, Cell.dat, Cell.isMut, Cell.put, binV, nxO, setC, setCs, setT, setTs, mkC, stxV, callE, callmE, bltV, rngL, seqL, optI, isNop, augI, isL, Tg.slots, hidI, wipeC, backC, h, LIM]
  · simp [cI, cSc, s_law_source, b_law_source, defSem, outF, envOf, evalSs, evalS, evalEs, evalI, evalFs, EO.binS, AO.binS, evalE, getC, EO.bind, AO.bind, EO.binA, AO.binA, retE, outE, outB, boolE, intE, isTy, cmpV, isScal, ixV, atD, ixOf, slV, Cell.dat, Cell.isMut, Cell.put, binV, nxO, setC, setCs, setT, setTs, mkC, stxV, callE, callmE, bltV, rngL, seqL, optI, isNop, augI, isL, Tg.slots, hidI, wipeC, backC, h, LIM]
theorem c0_law_source_k23 {a0 a1 : Int} {r : Sc} (h : F_law_source a0 a1 = some r) : RunOk (s_law_source_k23 []) [cI.e a0, cI.e a1] (cSc.e r) true .none := by
  cases h
  refine ⟨true, ?_, fun _ => rfl, fun _ => rfl⟩
  by_cases h : (1000000000000000000 : Int) ≤ a0
  · simp [cI, cSc, s_law_source_k23, b_law_source_k23, defSem, outF, envOf, evalSs, evalS, evalEs, evalI, evalFs, EO.binS, AO.binS, evalE, getC, EO.bind, AO.bind, EO.binA, AO.binA, retE, outE, outB, boolE, intE, isTy, cmpV, isScal, ixV, atD, ixOf, slV, Cell.dat, Cell.isMut, Cell.put, binV, nxO, setC, setCs, setT, setTs, mkC, stxV, callE, callmE, bltV, rngL, seqL, optI, isNop, augI, isL, Tg.slots, hidI, wipeC, backC, h, LIM]
  · simp [cI, cSc, s_law_source_k23, b_law_source_k23, defSem, outF, envOf, evalSs, evalS, evalEs, evalI, evalFs, EO.binS, AO.binS, evalE, getC, EO.bind, AO.bind, EO.binA, AO.binA, retE, outE, outB, boolE, intE, isTy, cmpV, isScal, ixV, atD, ixOf, slV, Cell.dat, Cell.isMut, Cell.put, binV, nxO, setC, setCs, setT, setTs, mkC, stxV, callE, callmE, bltV, rngL, seqL, optI, isNop, augI, isL, Tg.slots, hidI, wipeC, backC, h, LIM]
theorem c0_law_draw {s : Sc} {n : Int} {r : Int × Sc} (h : F_law_draw s n = some r) : RunOk (s_law_draw []) [cSc.e s, cI.e n] (cI.e r.1) false (cSc.e r.2) := by
  obtain ⟨D, S, t⟩ := s
  unfold F_law_draw at h
  by_cases hn : 0 < n ∧ n < 1073741824
  · rw [if_pos hn] at h
    obtain ⟨h1, h2⟩ := hn
    by_cases hD : 1 < D
    · rw [if_pos hD] at h
      cases h
      refine RunOk.of ?_
      simp [cI, cSc, s_law_draw, b_law_draw, defSem, outF, envOf, evalSs, evalS, evalEs, evalI, evalFs, EO.binS, AO.binS, evalE, getC, EO.bind, AO.bind, EO.binA, AO.binA, retE, outE, outB, boolE, intE, isTy, cmpV, isScal, ixV, atD, ixOf, slV, Cell.dat, Cell.isMut, Cell.put, binV, nxO, setC, setCs, setT, setTs, mkC, stxV, callE, callmE, bltV, rngL, seqL, optI, isNop, augI, isL, Tg.slots, hidI, wipeC, backC, hD, h1, h2]
    · rw [if_neg hD] at h
      obtain ⟨⟨s1, s2, s3, s4⟩, rfl⟩ := ifp h
      simp only at s1 s2 s3 s4
      have e1 : ((S + 15485867 * (t + 1)) ^ 5 % 2147483647) < 2147483647 := Int.emod_lt_of_pos _ (by decide)
      have e2 : 0 ≤ ((S + 15485867 * (t + 1)) ^ 5 % 2147483647) := Int.emod_nonneg _ (by decide)
      have p1 : (S + 15485867 * (t + 1)).natAbs < 18446744073709551616 := by omega
      have p2 : ((S + 15485867 * (t + 1)) ^ 5 % 2147483647 + 7919 * (t + 1)).natAbs < 18446744073709551616 := by omega
      refine RunOk.of ?_
      simp [cI, cSc, s_law_draw, b_law_draw, defSem, outF, envOf, evalSs, evalS, evalEs, evalI, evalFs, EO.binS, AO.binS, evalE, getC, EO.bind, AO.bind, EO.binA, AO.binA, retE, outE, outB, boolE, intE, isTy, cmpV, isScal, ixV, atD, ixOf, slV, Cell.dat, Cell.isMut, Cell.put, binV, nxO, setC, setCs, setT, setTs, mkC, stxV, callE, callmE, bltV, rngL, seqL, optI, isNop, augI, isL, Tg.slots, hidI, wipeC, backC, hD, h1, h2, p1, p2, drawn]
  · rw [if_neg hn] at h
    cases h
theorem c0_law_draw_k23 {s : Sc} {n : Int} {r : Int × Sc} (h : F_law_draw s n = some r) : RunOk (s_law_draw_k23 []) [cSc.e s, cI.e n] (cI.e r.1) false (cSc.e r.2) := by
  obtain ⟨D, S, t⟩ := s
  unfold F_law_draw at h
  by_cases hn : 0 < n ∧ n < 1073741824
  · rw [if_pos hn] at h
    obtain ⟨h1, h2⟩ := hn
    by_cases hD : 1 < D
    · rw [if_pos hD] at h
      cases h
      refine RunOk.of ?_
      simp [cI, cSc, s_law_draw_k23, b_law_draw_k23, defSem, outF, envOf, evalSs, evalS, evalEs, evalI, evalFs, EO.binS, AO.binS, evalE, getC, EO.bind, AO.bind, EO.binA, AO.binA, retE, outE, outB, boolE, intE, isTy, cmpV, isScal, ixV, atD, ixOf, slV, Cell.dat, Cell.isMut, Cell.put, binV, nxO, setC, setCs, setT, setTs, mkC, stxV, callE, callmE, bltV, rngL, seqL, optI, isNop, augI, isL, Tg.slots, hidI, wipeC, backC, hD, h1, h2]
    · rw [if_neg hD] at h
      obtain ⟨⟨s1, s2, s3, s4⟩, rfl⟩ := ifp h
      simp only at s1 s2 s3 s4
      have e1 : ((S + 15485867 * (t + 1)) ^ 5 % 2147483647) < 2147483647 := Int.emod_lt_of_pos _ (by decide)
      have e2 : 0 ≤ ((S + 15485867 * (t + 1)) ^ 5 % 2147483647) := Int.emod_nonneg _ (by decide)
      have p1 : (S + 15485867 * (t + 1)).natAbs < 18446744073709551616 := by omega
      have p2 : ((S + 15485867 * (t + 1)) ^ 5 % 2147483647 + 7919 * (t + 1)).natAbs < 18446744073709551616 := by omega
      refine RunOk.of ?_
      simp [cI, cSc, s_law_draw_k23, b_law_draw_k23, defSem, outF, envOf, evalSs, evalS, evalEs, evalI, evalFs, EO.binS, AO.binS, evalE, getC, EO.bind, AO.bind, EO.binA, AO.binA, retE, outE, outB, boolE, intE, isTy, cmpV, isScal, ixV, atD, ixOf, slV, Cell.dat, Cell.isMut, Cell.put, binV, nxO, setC, setCs, setT, setTs, mkC, stxV, callE, callmE, bltV, rngL, seqL, optI, isNop, augI, isL, Tg.slots, hidI, wipeC, backC, hD, h1, h2, p1, p2, drawn]
  · rw [if_neg hn] at h
    cases h
theorem c0_kind (d : PD) : RunOk (s_law_kind []) [d] (cI.e (kindD d)) false .none := by
  refine RunOk.of ?_
  cases d <;> simp [cI, s_law_kind, b_law_kind, defSem, outF, envOf, evalSs, evalS, evalEs, evalI, evalFs, EO.binS, AO.binS, evalE, getC, EO.bind, AO.bind, EO.binA, AO.binA, retE, outE, outB, boolE, intE, isTy, cmpV, isScal, ixV, atD, ixOf, slV, Cell.dat, Cell.isMut, Cell.put, binV, nxO, setC, setCs, setT, setTs, mkC, stxV, callE, callmE, bltV, rngL, seqL, optI, isNop, augI, isL, Tg.slots, hidI, wipeC, backC, kindD]
/-! ### equality -/
theorem shp_of {d : PD} (h1 : d.canLay0 = true) (h2 : d.depth ≤ 64) : shp d = true := by
  simp [shp, SeqAt.shaped, h1, h2]
theorem depth_all : ∀ {xs : List PD} {x : PD} {n : Nat}, x ∈ xs → PyData.depthAll xs ≤ n → x.depth ≤ n
  | y :: ys, x, n, h, hd => by
    simp only [PyData.depthAll] at hd
    rcases List.mem_cons.mp h with rfl | h
    · omega
    · exact depth_all h (by omega)
theorem lay_mem : ∀ {xs : List PD} {x : PD}, x ∈ xs → PyData.canLayAll0 xs = true → x.canLay0 = true
  | y :: ys, x, h, hd => by
    simp only [PyData.canLayAll0, Bool.and_eq_true] at hd
    rcases List.mem_cons.mp h with rfl | h
    · exact hd.1
    · exact lay_mem h hd.2
theorem ok_mem : ∀ {xs : List PD} {x : PD}, x ∈ xs → okDs xs = true → okD x = true
  | y :: ys, x, h, hd => by
    simp only [okDs, Bool.and_eq_true] at hd
    rcases List.mem_cons.mp h with rfl | h
    · exact hd.1
    · exact ok_mem h hd.2
/-- the places of unequal parts -/
def badK : List PD → List PD → Nat → List Int
  | x :: xs, y :: ys, k => if eqT x y then badK xs ys (k + 1) else (k : Int) :: badK xs ys (k + 1)
  | _, _, _ => []
theorem badK_t {x y : PD} {xs ys : List PD} {k : Nat} (e : eqT x y = true) : badK (x :: xs) (y :: ys) k = badK xs ys (k + 1) := by
  show (if eqT x y then _ else _) = _
  rw [if_pos e]
theorem badK_f {x y : PD} {xs ys : List PD} {k : Nat} (e : eqT x y = false) : badK (x :: xs) (y :: ys) k = (k : Int) :: badK xs ys (k + 1) := by
  show (if eqT x y then _ else _) = _
  rw [if_neg (by rw [e]; decide)]
theorem badK_nil : ∀ {xs ys : List PD} {k : Nat}, xs.length = ys.length → (badK xs ys k).isEmpty = eqTs xs ys
  | [], [], k, _ => by simp [badK, eqTs]
  | [], y :: ys, k, h => by simp at h
  | x :: xs, [], k, h => by simp at h
  | x :: xs, y :: ys, k, h => by
    have ih := badK_nil (k := k + 1) (xs := xs) (ys := ys) (by simpa using h)
    cases e : eqT x y with
    | true => rw [badK_t e, ih]; simp [eqTs, e]
    | false => rw [badK_f e]; simp [eqTs, e]
/-- what is asked of the inner call -/
def EqOk (q : FSem) (n : Nat) : Prop := q.mu = false ∧ ∀ a b : PD, a.depth < n → b.depth ≤ 60 → a.canLay0 = true → b.canLay0 = true → okD a = true → RunOk q [a, b] (cB.e (eqT a b)) false .none
theorem loop_eq {qk qe : FSem} {n : Nat} (he : EqOk qe n) (K : List KC) (v : PD) (w : PD) (ys0 : List PD) (hK : K = [.r v, .r w, .u, .u]) (hw : w = .list ys0 ∨ w = .tuple ys0) : ∀ (xs ys : List PD) (k : Nat), xs.length = ys.length → (∀ j, ys[j]? = ys0[k + j]?) → (∀ x ∈ xs, x.depth < n ∧ x.canLay0 = true ∧ okD x = true) → (∀ y ∈ ys, y.depth ≤ 60 ∧ y.canLay0 = true) →
    ∀ (ρ : Env) (acc : List PD), OkE K ρ → ∃ ρ', lcLoop (.tp [2, 3]) (evalE [qk, qe] (.sc (.not (.call 1 (.cons (.var 3) (.cons (.ixv 1 (.var 2)) .nil)))))) (evalE [qk, qe] (.var 2)) (Tg.slots (.tp [2, 3])) (((List.range' k xs.length).zipWith (fun i y => PyData.tuple [.int ((i : Nat) : Int), y]) xs)) ρ acc = some (.ok (acc ++ (badK xs ys k).map PyData.int) ρ') ∧ OkE K ρ'
  | [], ys, k, _, _, _, _, ρ, acc, ok => ⟨ρ, by simp [lcLoop, badK], ok⟩
  | x :: xs, [], k, h, _, _, _, ρ, acc, ok => by simp at h
  | x :: xs, y :: ys, k, h, hy, hx, hys, ρ, acc, ok => by
    subst hK
    have h0 := hy 0
    simp at h0
    obtain ⟨x1, x2, x3⟩ := hx x List.mem_cons_self
    obtain ⟨y1, y2⟩ := hys y List.mem_cons_self
    obtain ⟨ρ1, e1, ok1⟩ := kT_ok (tg := .tp [2, 3]) (d := .tuple [.int (k : Int), x]) ok rfl
    have hix : ixV w (cI.e (k : Int)) = some y := by
      have hk : k < ys0.length := (List.getElem?_eq_some_iff.mp h0.symm).1
      have : atD ys0 (k : Int) = some y := by
        have : ixOf ys0.length (k : Int) = some k := by
          unfold ixOf
          rw [if_pos (by omega), if_pos (by omega)]
          simp
        unfold atD
        rw [this]
        exact h0.symm
      rcases hw with rfl | rfl
      · exact this
      · exact this
    have hc : RE [qk, qe] (.sc (.not (.call 1 (.cons (.var 3) (.cons (.ixv 1 (.var 2)) .nil))))) (ksetT (.tp [2, 3]) (.tuple [.int (k : Int), x]) [.r v, .r w, .u, .u]) (cB.e (!eqT x y)) false (ksetT (.tp [2, 3]) (.tuple [.int (k : Int), x]) [.r v, .r w, .u, .u]) :=
      RE.sc (RV.not (RE.v (RE.call (g := qe) rfl he.1 (REs.cons (RE.varR (d := x) rfl) (REs.cons (RE.ixv (x := w) rfl (RE.varR (d := cI.e (k : Int)) rfl) rfl hix) REs.nil)) (he.2 x y x1 y1 x2 y2 x3)))) rfl
    obtain ⟨f2, ρ2, e2, _, _, ok2⟩ := hc ρ1 ok1
    have ih := loop_eq (qk := qk) he [.r v, .r w, .u, .u] v w ys0 rfl hw xs ys (k + 1) (by simpa using h) (fun j => by
      have := hy (j + 1)
      rw [List.getElem?_cons_succ] at this
      rw [this]
      congr 1
      omega) (fun x hx' => hx x (List.mem_cons_of_mem _ hx')) (fun y hy' => hys y (List.mem_cons_of_mem _ hy'))
    rw [List.length_cons, List.range'_succ, List.zipWith_cons_cons]
    unfold lcLoop
    rw [e1]
    simp only
    rw [e2]
    cases e : eqT x y with
    | true =>
      simp only [cB, Bool.not_true]
      have okw : OkE [.r v, .r w, .u, .u] (wipeC ρ2 (Tg.slots (.tp [2, 3]))) := LeK.ok (by (repeat' (first | exact LeK.nil | apply LeK.cons | exact LeC.rfl | exact LeC.ur | exact LeC.uo | exact LeC.ro rfl))) (wipe_ok ok2 _)
      obtain ⟨ρ', e3, ok3⟩ := ih _ acc okw
      refine ⟨ρ', ?_, ok3⟩
      rw [e3, badK_t e]
    | false =>
      simp only [cB, Bool.not_false]
      have hv : RE [qk, qe] (.var 2) (ksetT (.tp [2, 3]) (.tuple [.int (k : Int), x]) [.r v, .r w, .u, .u]) (cI.e (k : Int)) false (ksetT (.tp [2, 3]) (.tuple [.int (k : Int), x]) [.r v, .r w, .u, .u]) := RE.varR rfl
      obtain ⟨f4, ρ4, e4, _, _, ok4⟩ := hv ρ2 ok2
      rw [e4]
      simp only
      have okw : OkE [.r v, .r w, .u, .u] (wipeC ρ4 (Tg.slots (.tp [2, 3]))) := LeK.ok (by (repeat' (first | exact LeK.nil | apply LeK.cons | exact LeC.rfl | exact LeC.ur | exact LeC.uo | exact LeC.ro rfl))) (wipe_ok ok4 _)
      obtain ⟨ρ', e3, ok3⟩ := ih _ (acc ++ [cI.e (k : Int)]) okw
      refine ⟨ρ', ?_, ok3⟩
      rw [e3, badK_f e]
      simp [cI]
theorem eqT_kind {a b : PD} (h : kindD a ≠ kindD b) : eqT a b = false := by
  cases a <;> cases b <;> first | (exact absurd rfl h) | simp [eqT]
theorem eqT_flat {a b : PD} (h : kindD a = kindD b) (h2 : ¬ (kindD a > 3 ∧ kindD a < 6)) (la : a.canLay0 = true) : eqT a b = PyData.eqv a b := by
  cases a <;> cases b <;> simp [kindD] at h h2 <;> simp [eqT, PyData.eqv, PyData.canLay0] at la ⊢
  rfl
theorem lc_eq {qk qe : FSem} {n : Nat} (he : EqOk qe n) {v w : PD} {xs ys : List PD} (hv : v = .list xs ∨ v = .tuple xs) (hw : w = .list ys ∨ w = .tuple ys) (hl : xs.length = ys.length) (hlim : xs.length ≤ LIM) (hx : ∀ x ∈ xs, x.depth < n ∧ x.canLay0 = true ∧ okD x = true) (hy : ∀ y ∈ ys, y.depth ≤ 60 ∧ y.canLay0 = true) :
    RE [qk, qe] c1_law_equal [.r v, .r w, .u, .u] ((cL cI).e (badK xs ys 0)) true [.r v, .r w, .u, .u] := fun ρ ok => by
  have hi : RI [qk, qe] (.enu (.var 0)) [.r v, .r w, .u, .u] ((List.range xs.length).zipWith (fun i y => PyData.tuple [.int ((i : Nat) : Int), y]) xs) [.r v, .r w, .u, .u] := by
    rcases hv with rfl | rfl
    · have h0 : RE [qk, qe] (.var 0) [.r (.list xs), .r w, .u, .u] ((cL cA).e xs) false [.r (.list xs), .r w, .u, .u] := (RE.varR (d := .list xs) rfl).to (by show _ = PyData.list (xs.map cA.e); rw [map_cA])
      have := RI.enuL h0
      rw [← enumL_map, map_cA] at this
      exact this
    · have h0 : RE [qk, qe] (.var 0) [.r (.tuple xs), .r w, .u, .u] ((cT cA).e xs) false [.r (.tuple xs), .r w, .u, .u] := (RE.varR (d := .tuple xs) rfl).to (by show _ = PyData.tuple (xs.map cA.e); rw [map_cA])
      have := RI.enuT h0
      rw [← enumL_map, map_cA] at this
      exact this
  obtain ⟨ρ1, e1, ok1⟩ := hi ρ ok
  have okw : OkE [.r v, .r w, .u, .u] (wipeC ρ1 [2, 3]) := LeK.ok (by (repeat' (first | exact LeK.nil | apply LeK.cons | exact LeC.rfl | exact LeC.ur | exact LeC.uo | exact LeC.ro rfl))) (wipe_ok ok1 _)
  obtain ⟨ρ2, e2, ok2⟩ := loop_eq (qk := qk) he [.r v, .r w, .u, .u] v w ys rfl hw xs ys 0 hl (fun j => by rw [Nat.zero_add]) hx hy (wipeC ρ1 [2, 3]) [] okw
  refine ⟨true, backC ρ2 ρ1 [2, 3], ?_, id, fun _ => rfl, LeK.ok (by (repeat' (first | exact LeK.nil | apply LeK.cons | exact LeC.rfl | exact LeC.ur | exact LeC.uo | exact LeC.ro rfl))) (back_ok ok2 ok1 [2, 3])⟩
  unfold c1_law_equal
  rw [evalE, e1]
  show lcE _ _ _ _ _ _ = _
  unfold lcE
  rw [← List.range_eq_range'] at e2
  have hll : ((List.range xs.length).zipWith (fun i y => PyData.tuple [.int ((i : Nat) : Int), y]) xs).length ≤ LIM := by simpa using hlim
  rw [if_pos hll]
  simp only [hidI, List.append_nil, Tg.slots] at e2 ⊢
  rw [e2]
  rfl
theorem run_equal {qe : FSem} {n : Nat} (he : EqOk qe n) : EqOk (s_law_equal [s_law_kind [], qe]) (n + 1) := ⟨rfl, fun a b da db la lb ok => by
  refine run_fn rfl (WS.pre (K1 := [.r a, .r b, .u, .u]) (by (repeat' (first | exact LeK.nil | apply LeK.cons | exact LeC.rfl | exact LeC.ur | exact LeC.uo | exact LeC.ro rfl))) ?_)
  have kd : ∀ d, RunOk (s_law_kind []) [d] (cI.e (kindD d)) false .none := c0_kind
  refine WS.ite (x := !decide (kindD a = kindD b)) (RE.sc (RE.v (RE.cmp (RE.call rfl rfl (REs.cons (RE.varR (d := a) rfl) REs.nil) (kd a)) (RE.call rfl rfl (REs.cons (RE.varR (d := b) rfl) REs.nil) (kd b)) cv_ne)) rfl) (fun hb => ?_) (fun hb => ?_)
  · have hk : kindD a ≠ kindD b := by simpa using hb
    rw [eqT_kind hk]
    exact WS.ret RE.bl (fun _ _ q => q)
  · have hk : kindD a = kindD b := by simpa using hb
    refine WS.nilS ?_
    refine WS.ite (x := decide (3 < kindD a) && decide (kindD a < 6)) (RE.sc (RV.andT (RE.cmp (RE.call rfl rfl (REs.cons (RE.varR (d := a) rfl) REs.nil) (kd a)) RE.int cv_gt) (RE.v (RE.cmp (RE.call rfl rfl (REs.cons (RE.varR (d := a) rfl) REs.nil) (kd a)) RE.int cv_lt))) rfl) (fun hb => ?_) (fun hb => ?_)
    · have key : ∃ xs ys, ((a = .list xs ∧ b = .list ys) ∨ (a = .tuple xs ∧ b = .tuple ys)) := by
        simp only [Bool.and_eq_true, decide_eq_true_eq] at hb
        cases a <;> simp [kindD] at hb <;> cases b <;> simp [kindD] at hk
        · exact ⟨_, _, .inl ⟨rfl, rfl⟩⟩
        · exact ⟨_, _, .inr ⟨rfl, rfl⟩⟩
      obtain ⟨xs, ys, hab⟩ := key
      have hv : a = .list xs ∨ a = .tuple xs := by rcases hab with ⟨h, _⟩ | ⟨h, _⟩ <;> simp [h]
      have hw : b = .list ys ∨ b = .tuple ys := by rcases hab with ⟨_, h⟩ | ⟨_, h⟩ <;> simp [h]
      have hE : eqT a b = eqTs xs ys := by rcases hab with ⟨rfl, rfl⟩ | ⟨rfl, rfl⟩ <;> simp [eqT]
      have hla : lenA a = some (xs.length : Int) := by rcases hv with rfl | rfl <;> rfl
      have hlb : lenA b = some (ys.length : Int) := by rcases hw with rfl | rfl <;> rfl
      have hx : ∀ x ∈ xs, x.depth < n ∧ x.canLay0 = true ∧ okD x = true := fun x hx => by
        rcases hv with rfl | rfl
        · simp only [PyData.depth] at da
          simp only [okD, Bool.and_eq_true] at ok
          exact ⟨by have := depth_all hx (Nat.le_refl _); omega, lay_mem hx (by simpa [PyData.canLay0] using la), ok_mem hx ok.2⟩
        · simp only [PyData.depth] at da
          simp only [okD, Bool.and_eq_true] at ok
          exact ⟨by have := depth_all hx (Nat.le_refl _); omega, lay_mem hx (by simpa [PyData.canLay0] using la), ok_mem hx ok.2⟩
      have hlim : xs.length ≤ LIM := by
        rcases hv with rfl | rfl <;> (simp only [okD, Bool.and_eq_true, decide_eq_true_eq] at ok; exact ok.1)
      have hy : ∀ y ∈ ys, y.depth ≤ 60 ∧ y.canLay0 = true := fun y hy => by
        rcases hw with rfl | rfl
        · simp only [PyData.depth] at db
          exact ⟨depth_all hy (by omega), lay_mem hy (by simpa [PyData.canLay0] using lb)⟩
        · simp only [PyData.depth] at db
          exact ⟨depth_all hy (by omega), lay_mem hy (by simpa [PyData.canLay0] using lb)⟩
      refine WS.ite (x := !decide ((xs.length : Int) = ys.length)) (RE.sc (RE.v (RE.cmp (RE.blt (REs.cons (RE.varR (d := a) rfl) REs.nil) (bl_lenA hla)) (RE.blt (REs.cons (RE.varR (d := b) rfl) REs.nil) (bl_lenA hlb)) cv_ne)) rfl) (fun hb => ?_) (fun hb => ?_)
      · have hne : xs.length ≠ ys.length := by
          intro z
          simp [z] at hb
        have : eqT a b = false := by
          rw [hE]
          have : ∀ (xs ys : List PD), xs.length ≠ ys.length → eqTs xs ys = false := by
            intro xs
            induction xs with
            | nil => intro ys h; cases ys <;> simp [eqTs] at h ⊢
            | cons x xs ih =>
              intro ys h
              cases ys with
              | nil => simp [eqTs]
              | cons y ys => simp [eqTs, ih ys (by simpa using h)]
          exact this xs ys hne
        rw [this]
        exact WS.ret RE.bl (fun _ _ q => q)
      · have hl : xs.length = ys.length := by
          have : (xs.length : Int) = ys.length := by simpa using hb
          omega
        refine WS.nilS ?_
        have hc := lc_eq (qk := s_law_kind []) he hv hw hl hlim hx hy
        have hemp : decide (badK xs ys 0 = []) = eqT a b := by
          rw [hE, ← badK_nil (k := 0) hl]
          cases badK xs ys 0 <;> simp
        rw [← hemp]
        exact WS.ret (RE.sc (RE.v (RE.cmp hc (RE.lst (d := (cL cI).e []) REs.nil rfl) (cv_eq (c := cL cI)))) rfl) (fun _ _ q => q)
    · refine WS.nilS ?_
      rw [eqT_flat hk (by simpa using hb) la]
      refine WS.ret (RE.sc (RE.v (RE.cmp (RE.varR (d := a) rfl) (RE.varR (d := b) rfl) (cv_eqA (z := PyData.eqv a b) ?_))) rfl) (fun _ _ q => q)
      unfold eqA
      rw [shp_of la (by
        cases a <;> simp [kindD] at hb <;> simp [PyData.depth] at da ⊢
        simp [PyData.canLay0] at la), shp_of lb (by omega)]
      rfl⟩
end DD

-- part MA
set_option Elab.async false
set_option linter.all false
/-! Plain combinatorics: neighbours in the row are enough. -/
namespace DD.M
/-! ### sums -/
def sm (r : Nat) (f : Nat → Nat) : Nat := ((List.range r).map f).sum
def si (r : Nat) (f : Nat → Int) : Int := ((List.range r).map f).sum
theorem sm_succ (r : Nat) (f : Nat → Nat) : sm (r + 1) f = sm r f + f r := by
  unfold sm
  rw [List.range_succ, List.map_append, List.sum_append]
  simp
theorem si_succ (r : Nat) (f : Nat → Int) : si (r + 1) f = si r f + f r := by
  unfold si
  rw [List.range_succ, List.map_append, List.sum_append]
  simp
theorem si_zero (f : Nat → Int) : si 0 f = 0 := rfl
theorem sm_congr {r : Nat} {f g : Nat → Nat} (h : ∀ j, j < r → f j = g j) : sm r f = sm r g := by
  induction r with
  | zero => rfl
  | succ r ih => rw [sm_succ, sm_succ, ih fun j hj => h j (by omega), h r (by omega)]
theorem si_congr {r : Nat} {f g : Nat → Int} (h : ∀ j, j < r → f j = g j) : si r f = si r g := by
  induction r with
  | zero => rfl
  | succ r ih => rw [si_succ, si_succ, ih fun j hj => h j (by omega), h r (by omega)]
theorem sm_le {r : Nat} {f g : Nat → Nat} (h : ∀ j, j < r → f j ≤ g j) : sm r f ≤ sm r g := by
  induction r with
  | zero => exact Nat.le_refl _
  | succ r ih =>
    have := ih fun j hj => h j (by omega)
    have := h r (by omega)
    rw [sm_succ, sm_succ]
    omega
theorem si_le {r : Nat} {f g : Nat → Int} (h : ∀ j, j < r → f j ≤ g j) : si r f ≤ si r g := by
  induction r with
  | zero => exact Int.le_refl _
  | succ r ih =>
    have := ih fun j hj => h j (by omega)
    have := h r (by omega)
    rw [si_succ, si_succ]
    omega
theorem sm_add (r : Nat) (f g : Nat → Nat) : sm r (fun j => f j + g j) = sm r f + sm r g := by
  induction r with
  | zero => rfl
  | succ r ih =>
    rw [sm_succ, sm_succ, sm_succ, ih]
    omega
theorem si_add (r : Nat) (f g : Nat → Int) : si r (fun j => f j + g j) = si r f + si r g := by
  induction r with
  | zero => rfl
  | succ r ih =>
    rw [si_succ, si_succ, si_succ, ih]
    omega
theorem sm_zero (r : Nat) : sm r (fun _ => 0) = 0 := by
  induction r with
  | zero => rfl
  | succ r ih => rw [sm_succ, ih]
theorem si_zeros (r : Nat) : si r (fun _ => 0) = 0 := by
  induction r with
  | zero => rfl
  | succ r ih => rw [si_succ, ih]; rfl
theorem sm_ind (r a : Nat) : sm r (fun j => if a = j then 1 else 0) = if a < r then 1 else 0 := by
  induction r with
  | zero => rfl
  | succ r ih =>
    rw [sm_succ, ih]
    by_cases h : a < r
    · rw [if_pos h, if_neg (by omega), if_pos (by omega)]
    · by_cases h2 : a = r
      · rw [if_neg h, if_pos h2, if_pos (by omega)]
      · rw [if_neg h, if_neg h2, if_neg (by omega)]
theorem si_ind (r a : Nat) (v : Int) : si r (fun j => if a = j then v else 0) = if a < r then v else 0 := by
  induction r with
  | zero => rfl
  | succ r ih =>
    rw [si_succ, ih]
    by_cases h : a < r
    · rw [if_pos h, if_neg (by omega), if_pos (by omega)]
      omega
    · by_cases h2 : a = r
      · rw [if_neg h, if_pos h2, if_pos (by omega)]
        omega
      · rw [if_neg h, if_neg h2, if_neg (by omega)]
        rfl
/-! ### counts -/
def cnt (p : Nat → Bool) (x : Nat) : Nat := (List.range x).countP p
theorem cnt_zero (p : Nat → Bool) : cnt p 0 = 0 := rfl
theorem cnt_succ (p : Nat → Bool) (x : Nat) : cnt p (x + 1) = cnt p x + if p x = true then 1 else 0 := by
  unfold cnt
  rw [List.range_succ, List.countP_append, List.countP_singleton]
theorem cnt_mono (p : Nat → Bool) {x y : Nat} (h : x ≤ y) : cnt p x ≤ cnt p y := by
  induction y with
  | zero =>
    have : x = 0 := by omega
    rw [this]
    exact Nat.le_refl _
  | succ y ih =>
    by_cases e : x = y + 1
    · rw [e]
      exact Nat.le_refl _
    · have := ih (by omega)
      rw [cnt_succ]
      omega
theorem cnt_le (p : Nat → Bool) (x : Nat) : cnt p x ≤ x := by
  have := List.countP_le_length (p := p) (l := List.range x)
  rw [List.length_range] at this
  exact this
/-- colour j ahead of place x -/
def N (c : Nat → Nat) (j x : Nat) : Nat := cnt (fun y => decide (c y = j)) x
theorem N_succ (c : Nat → Nat) (j x : Nat) : N c j (x + 1) = N c j x + if c x = j then 1 else 0 := by
  unfold N
  rw [cnt_succ]
  by_cases h : c x = j <;> simp [h]
theorem N_sum {c : Nat → Nat} {r : Nat} : ∀ {x : Nat}, (∀ y, y < x → c y < r) → sm r (fun j => N c j x) = x
  | 0, _ => sm_zero r
  | x + 1, h => by
    have e : (fun j => N c j (x + 1)) = fun j => N c j x + if c x = j then 1 else 0 := funext fun j => N_succ c j x
    rw [e, sm_add, N_sum fun y hy => h y (by omega), sm_ind, if_pos (h x (by omega))]
/-- free places -/
def fr (c pd : Nat → Nat) (y : Nat) : Bool := decide (pd (c y) ≤ N c (c y) y)
/-- the colours that have a free place ahead of x, as they come -/
def ord (c pd : Nat → Nat) : Nat → List Nat
  | 0 => []
  | x + 1 => if N c (c x) x = pd (c x) then ord c pd x ++ [c x] else ord c pd x
section
variable {c pd : Nat → Nat}
theorem ord_mem : ∀ {x j : Nat}, j ∈ ord c pd x ↔ pd j < N c j x
  | 0, j => by
    simp [ord, N, cnt]
  | x + 1, j => by
    have ih := ord_mem (x := x) (j := j)
    rw [N_succ]
    unfold ord
    by_cases h : N c (c x) x = pd (c x)
    · rw [if_pos h, List.mem_append, ih, List.mem_singleton]
      by_cases e : j = c x
      · subst e
        simp
        omega
      · have e' : ¬ c x = j := fun z => e z.symm
        simp [e, e']
    · rw [if_neg h, ih]
      by_cases e : c x = j
      · subst e
        simp
        omega
      · simp [e]
theorem ord_nodup : ∀ x : Nat, (ord c pd x).Nodup
  | 0 => List.nodup_nil
  | x + 1 => by
    unfold ord
    by_cases h : N c (c x) x = pd (c x)
    · rw [if_pos h, List.nodup_append]
      refine ⟨ord_nodup x, by simp, fun a ha b hb => ?_⟩
      rw [List.mem_singleton.mp hb]
      intro e
      subst e
      have := ord_mem.mp ha
      omega
    · rw [if_neg h]
      exact ord_nodup x
theorem ord_pre : ∀ {x y : Nat}, x ≤ y → ∃ t, ord c pd y = ord c pd x ++ t
  | x, 0, h => ⟨[], by
    have : x = 0 := by omega
    rw [this, List.append_nil]⟩
  | x, y + 1, h => by
    by_cases e : x = y + 1
    · exact ⟨[], by rw [e, List.append_nil]⟩
    · obtain ⟨t, ht⟩ := ord_pre (x := x) (y := y) (by omega)
      show ∃ t, (if N c (c y) y = pd (c y) then ord c pd y ++ [c y] else ord c pd y) = _
      by_cases h2 : N c (c y) y = pd (c y)
      · exact ⟨t ++ [c y], by rw [if_pos h2, ht, List.append_assoc]⟩
      · exact ⟨t, by rw [if_neg h2, ht]⟩
/-- sums over lists of colours -/
theorem sum_map_add (l : List Nat) (f g : Nat → Nat) : (l.map fun j => f j + g j).sum = (l.map f).sum + (l.map g).sum := by
  induction l with
  | nil => rfl
  | cons a l ih =>
    simp only [List.map_cons, List.sum_cons, ih]
    omega
theorem sum_map_ind (l : List Nat) (a : Nat) : (l.map fun j => if a = j then 1 else 0).sum = l.count a := by
  induction l with
  | nil => rfl
  | cons b l ih =>
    simp only [List.map_cons, List.sum_cons, ih, List.count_cons]
    by_cases h : a = b
    · simp [h]
      omega
    · have : ¬ b = a := fun z => h z.symm
      simp [h, this]
theorem ord_sum : ∀ x : Nat, ((ord c pd x).map fun j => N c j x).sum = cnt (fr c pd) x + ((ord c pd x).map pd).sum
  | 0 => rfl
  | x + 1 => by
    have ih := ord_sum x
    have e : (fun j => N c j (x + 1)) = fun j => N c j x + if c x = j then 1 else 0 := funext fun j => N_succ c j x
    rw [e, cnt_succ, sum_map_add, sum_map_ind]
    by_cases h : N c (c x) x = pd (c x)
    · have hn : c x ∉ ord c pd x := fun z => by
        have := ord_mem.mp z
        omega
      have hf : fr c pd x = true := by
        unfold fr
        simp
        omega
      rw [hf]
      unfold ord
      rw [if_pos h, List.map_append, List.map_append, List.sum_append, List.sum_append, List.count_append, List.count_eq_zero_of_not_mem hn]
      simp
      omega
    · have ho : ord c pd (x + 1) = ord c pd x := if_neg h
      rw [ho]
      by_cases h2 : N c (c x) x < pd (c x)
      · have hn : c x ∉ ord c pd x := fun z => by
          have := ord_mem.mp z
          omega
        have hf : fr c pd x = false := by
          unfold fr
          simp
          omega
        rw [hf, List.count_eq_zero_of_not_mem hn, ih]
        simp
      · have hn : c x ∈ ord c pd x := ord_mem.mpr (by omega)
        have hf : fr c pd x = true := by
          unfold fr
          simp
          omega
        rw [hf, (ord_nodup x).count, if_pos hn, ih]
        simp
        omega
theorem sum_count {r : Nat} (f : Nat → Nat) : ∀ l : List Nat, (∀ j ∈ l, j < r) → (l.map f).sum = sm r fun j => f j * l.count j
  | [], _ => by
    simp [sm_zero]
  | a :: l, h => by
    rw [List.map_cons, List.sum_cons, sum_count f l fun j hj => h j (List.mem_cons_of_mem _ hj)]
    have e : (fun j => f j * (a :: l).count j) = fun j => (if a = j then f a else 0) + f j * l.count j := by
      funext j
      rw [List.count_cons]
      by_cases h : a = j
      · subst h
        simp [Nat.mul_add]
        omega
      · simp [h]
    rw [e, sm_add]
    congr 1
    have ha := h a List.mem_cons_self
    have : sm r (fun j => if a = j then f a else 0) = f a * sm r (fun j => if a = j then 1 else 0) := by
      clear e ha h
      induction r with
      | zero => rfl
      | succ r ih =>
        rw [sm_succ, sm_succ, ih, Nat.mul_add]
        congr 1
        by_cases h : a = r <;> simp [h]
    rw [this, sm_ind, if_pos ha, Nat.mul_one]
theorem sum_nodup_le {r : Nat} (f : Nat → Nat) {l : List Nat} (hn : l.Nodup) (h : ∀ j ∈ l, j < r) : (l.map f).sum ≤ sm r f := by
  rw [sum_count f l h]
  refine sm_le fun j _ => ?_
  rw [hn.count]
  by_cases hj : j ∈ l
  · rw [if_pos hj, Nat.mul_one]
    exact Nat.le_refl _
  · rw [if_neg hj]
    simp
/-- all colours: those with free places as they come, then the others -/
def ordF (c pd : Nat → Nat) (r n : Nat) : List Nat := ord c pd n ++ (List.range r).filter fun j => decide (j ∉ ord c pd n)
theorem ordF_nodup (r n : Nat) : (ordF c pd r n).Nodup := by
  unfold ordF
  rw [List.nodup_append]
  refine ⟨ord_nodup n, List.nodup_range.filter _, fun a ha b hb e => ?_⟩
  subst e
  simp at hb
  exact hb.2 ha
theorem ord_lt {r n : Nat} (h : ∀ y, y < n → c y < r) : ∀ x ≤ n, ∀ j ∈ ord c pd x, j < r
  | 0, _, j, hj => by simp [ord] at hj
  | x + 1, hx, j, hj => by
    unfold ord at hj
    by_cases h2 : N c (c x) x = pd (c x)
    · rw [if_pos h2, List.mem_append, List.mem_singleton] at hj
      rcases hj with hj | hj
      · exact ord_lt h x (by omega) j hj
      · rw [hj]
        exact h x (by omega)
    · rw [if_neg h2] at hj
      exact ord_lt h x (by omega) j hj
theorem ordF_mem {r n : Nat} (h : ∀ y, y < n → c y < r) {j : Nat} : j ∈ ordF c pd r n ↔ j < r := by
  unfold ordF
  rw [List.mem_append, List.mem_filter, List.mem_range]
  constructor
  · rintro (hj | hj)
    · exact ord_lt h n (Nat.le_refl _) j hj
    · exact hj.1
  · intro hj
    by_cases h2 : j ∈ ord c pd n
    · exact .inl h2
    · exact .inr ⟨hj, by simpa using h2⟩
theorem ordF_sum {r n : Nat} (h : ∀ y, y < n → c y < r) (f : Nat → Nat) : ((ordF c pd r n).map f).sum = sm r f := by
  rw [sum_count f _ fun j hj => (ordF_mem h).mp hj]
  refine sm_congr fun j hj => ?_
  rw [(ordF_nodup r n).count, if_pos ((ordF_mem h).mpr hj), Nat.mul_one]
theorem ordF_len {r n : Nat} (h : ∀ y, y < n → c y < r) : (ordF c pd r n).length = r := by
  have h1 := ordF_sum (pd := pd) h (fun _ => 1)
  have e1 : ∀ l : List Nat, (l.map fun _ => 1).sum = l.length := by
    intro l
    induction l with
    | nil => rfl
    | cons a l ih => simp [ih]; omega
  rw [e1] at h1
  rw [h1]
  have := e1 (List.range r)
  rw [List.length_range] at this
  exact this
end
/-! ### neighbours -/
def cl (x : Nat) (F : List Nat) : Nat := F.countP fun y => decide (y < x)
theorem cl_append (x : Nat) (F G : List Nat) : cl x (F ++ G) = cl x F + cl x G := List.countP_append
theorem cl_range' (x a : Nat) : ∀ l : Nat, cl x (List.range' a l) = min l (x - a)
  | 0 => by simp [cl]
  | l + 1 => by
    have ih := cl_range' x a l
    rw [← List.range'_append_1 (s := a) (m := l) (n := 1), cl_append, ih]
    simp only [List.range'_one, cl, List.countP_singleton, decide_eq_true_eq]
    by_cases h : a + l < x
    · rw [if_pos h]
      omega
    · rw [if_neg h]
      omega
/-- the free places of neighbours: sizes and paid ones -/
def gl : Nat → List (Nat × Nat) → List Nat
  | _, [] => []
  | s, (m, p) :: t => List.range' (s + p) (m - p) ++ gl (s + m) t
theorem gl_count : ∀ (A B : List (Nat × Nat)) (s n x : Nat), n ≤ (A.map fun a => a.1 - a.2).sum → n + (A.map fun a => a.2).sum + s ≤ x → (∀ a ∈ A, a.2 ≤ a.1) → n ≤ cl x (gl s (A ++ B))
  | [], B, s, n, x, h1, _, _ => by
    simp at h1
    omega
  | (m, p) :: A, B, s, n, x, h1, h2, h3 => by
    have hp : p ≤ m := h3 (m, p) List.mem_cons_self
    simp only [List.map_cons, List.sum_cons] at h1 h2
    show n ≤ cl x (List.range' (s + p) (m - p) ++ gl (s + m) (A ++ B))
    rw [cl_append, cl_range']
    by_cases hn : n ≤ m - p
    · have : n ≤ min (m - p) (x - (s + p)) := by omega
      omega
    · have := gl_count A B (s + m) (n - (m - p)) x (by omega) (by omega) fun a ha => h3 a (List.mem_cons_of_mem _ ha)
      omega
/-! ### sums by parts -/
theorem tele (q : Nat → Int) (y : Nat) : ∀ n, y ≤ n → q y = si n (fun x => (q x - q (x + 1)) * (if y < x + 1 then 1 else 0)) + q n
  | 0, h => by
    have : y = 0 := by omega
    rw [this, si_zero]
    omega
  | n + 1, h => by
    rw [si_succ]
    by_cases e : y = n + 1
    · subst e
      have z : si n (fun x => (q x - q (x + 1)) * (if n + 1 < x + 1 then 1 else 0)) = 0 := by
        refine (si_congr (g := fun _ => 0) fun x hx => ?_).trans (si_zeros n)
        rw [if_neg (by omega), Int.mul_zero]
      rw [z, if_neg (by omega)]
      omega
    · have := tele q y n (by omega)
      rw [if_pos (by omega)]
      omega
theorem abel (q : Nat → Int) (n : Nat) : ∀ F : List Nat, (∀ y ∈ F, y < n) → (F.map q).sum = si n (fun x => (q x - q (x + 1)) * (cl (x + 1) F : Int)) + q n * (F.length : Int)
  | [], _ => by
    simp [cl, si_zeros]
  | y :: F, h => by
    have ih := abel q n F fun z hz => h z (List.mem_cons_of_mem _ hz)
    have t := tele q y n (Nat.le_of_lt (h y List.mem_cons_self))
    rw [List.map_cons, List.sum_cons, ih, t, List.length_cons]
    have e : (fun x => (q x - q (x + 1)) * (cl (x + 1) (y :: F) : Int)) = fun x => (q x - q (x + 1)) * (if y < x + 1 then 1 else 0) + (q x - q (x + 1)) * (cl (x + 1) F : Int) := by
      funext x
      rw [← Int.mul_add]
      congr 1
      unfold cl
      rw [List.countP_cons]
      by_cases hy : y < x + 1 <;> simp [hy]
      omega
    rw [e, si_add]
    have : q n * ((F.length + 1 : Nat) : Int) = q n * (F.length : Int) + q n := by
      rw [Int.natCast_add, Int.mul_add]
      simp
    rw [this]
    omega
theorem cl_all {n : Nat} {F : List Nat} (h : ∀ y ∈ F, y < n) : cl n F = F.length := by
  unfold cl
  rw [List.countP_eq_length]
  intro y hy
  simpa using h y hy
theorem dom {q : Nat → Int} {n : Nat} {F G : List Nat} (hF : ∀ y ∈ F, y < n) (hG : ∀ y ∈ G, y < n) (anti : ∀ x, x < n → q (x + 1) ≤ q x) (nn : 0 ≤ q n) (h : ∀ x, x ≤ n → cl x F ≤ cl x G) : (F.map q).sum ≤ (G.map q).sum := by
  rw [abel q n F hF, abel q n G hG]
  have h1 : si n (fun x => (q x - q (x + 1)) * (cl (x + 1) F : Int)) ≤ si n (fun x => (q x - q (x + 1)) * (cl (x + 1) G : Int)) := by
    refine si_le fun x hx => ?_
    have := anti x hx
    exact Int.mul_le_mul_of_nonneg_left (by exact_mod_cast h (x + 1) (by omega)) (by omega)
  have h2 : q n * (F.length : Int) ≤ q n * (G.length : Int) := by
    refine Int.mul_le_mul_of_nonneg_left ?_ nn
    rw [← cl_all hF, ← cl_all hG]
    exact_mod_cast h n (Nat.le_refl _)
  omega
/-! ### greatest savings by neighbours -/
def bl (q : Nat → Int) (k f l : Nat) : Int := ((List.range' (l - (l - f) / k) ((l - f) / k)).map q).sum
def mx (g : Nat → Int) : Nat → Int
  | 0 => g 0
  | l + 1 => max (mx g l) (g (l + 1))
theorem le_mx (g : Nat → Int) : ∀ {l f : Nat}, f ≤ l → g f ≤ mx g l
  | 0, f, h => by
    have : f = 0 := by omega
    rw [this]
    exact Int.le_refl _
  | l + 1, f, h => by
    unfold mx
    by_cases e : f = l + 1
    · rw [e]
      exact Int.le_max_right _ _
    · exact Int.le_trans (le_mx g (by omega)) (Int.le_max_left _ _)
theorem mx_att (g : Nat → Int) : ∀ l : Nat, ∃ f, f ≤ l ∧ mx g l = g f
  | 0 => ⟨0, Nat.le_refl _, rfl⟩
  | l + 1 => by
    obtain ⟨f, h1, h2⟩ := mx_att g l
    unfold mx
    by_cases h : mx g l ≤ g (l + 1)
    · exact ⟨l + 1, Nat.le_refl _, Int.max_eq_right h⟩
    · exact ⟨f, by omega, by rw [← h2]; exact Int.max_eq_left (by omega)⟩
theorem mx_congr {g g' : Nat → Int} : ∀ {l : Nat}, (∀ f, f ≤ l → g f = g' f) → mx g l = mx g' l
  | 0, h => h 0 (Nat.le_refl _)
  | l + 1, h => by
    unfold mx
    rw [mx_congr fun f hf => h f (by omega), h (l + 1) (Nat.le_refl _)]
/-- t + 1 receipts -/
def Lv (q : Nat → Int) (k : Nat) : Nat → Nat → Int
  | 0, l => bl q k 0 l
  | t + 1, l => mx (fun f => Lv q k t f + bl q k f l) l
def cutS (k : Nat) : (Nat → Int) → List Nat → Int
  | _, [] => 0
  | q, m :: ms => bl q k 0 m + cutS k (fun y => q (y + m)) ms
theorem bl_shift (q : Nat → Int) (k s f l : Nat) : bl (fun y => q (y + s)) k f l = bl q k (f + s) (l + s) := by
  unfold bl
  have e1 : l + s - (f + s) = l - f := by omega
  rw [e1]
  have hle : (l - f) / k ≤ l := Nat.le_trans (Nat.div_le_self _ _) (Nat.sub_le _ _)
  have e2 : l + s - (l - f) / k = l - (l - f) / k + s := by omega
  rw [e2, List.range'_eq_map_range, List.range'_eq_map_range, List.map_map, List.map_map]
  congr 1
  refine List.map_congr_left fun i _ => ?_
  show q (_ + i + s) = q (_ + i)
  congr 1
  omega
theorem cut_le {q : Nat → Int} {k : Nat} : ∀ (ms : List Nat) (t s : Nat), Lv q k t s + cutS k (fun y => q (y + s)) ms ≤ Lv q k (t + ms.length) (s + ms.sum)
  | [], t, s => by
    simp [cutS]
  | m :: ms, t, s => by
    have ih := cut_le ms (t + 1) (s + m) (q := q) (k := k)
    have h1 : Lv q k t s + bl q k s (s + m) ≤ Lv q k (t + 1) (s + m) := le_mx (fun f => Lv q k t f + bl q k f (s + m)) (by omega)
    have e1 : bl (fun y => q (y + s)) k 0 m = bl q k s (s + m) := by
      rw [bl_shift]
      congr 1 <;> omega
    show Lv q k t s + (bl (fun y => q (y + s)) k 0 m + cutS k (fun y => q (y + m + s)) ms) ≤ _
    rw [e1]
    have e2 : (fun y => q (y + m + s)) = fun y => q (y + (s + m)) := by
      funext y
      congr 1
      omega
    rw [e2, List.length_cons, List.sum_cons]
    have e3 : t + (ms.length + 1) = t + 1 + ms.length := by omega
    have e4 : s + (m + ms.sum) = s + m + ms.sum := by omega
    rw [e3, e4]
    omega
theorem cut_le0 {q : Nat → Int} {k : Nat} {ms : List Nat} (h : ms ≠ []) : cutS k q ms ≤ Lv q k (ms.length - 1) ms.sum := by
  cases ms with
  | nil => exact absurd rfl h
  | cons m ms =>
    have := cut_le ms 0 m (q := q) (k := k)
    simp only [List.length_cons, List.sum_cons, Nat.add_sub_cancel, Nat.zero_add] at this ⊢
    exact this
theorem cutS_append {k : Nat} : ∀ (ms ns : List Nat) (q : Nat → Int), cutS k q (ms ++ ns) = cutS k q ms + cutS k (fun y => q (y + ms.sum)) ns
  | [], ns, q => by simp [cutS]
  | m :: ms, ns, q => by
    show bl q k 0 m + cutS k _ (ms ++ ns) = bl q k 0 m + cutS k _ ms + _
    rw [cutS_append ms ns]
    have e : (fun y => q (y + ms.sum + m)) = fun y => q (y + (m :: ms).sum) := by
      funext y
      rw [List.sum_cons]
      congr 1
      omega
    rw [e]
    omega
theorem cut_att (q : Nat → Int) (k : Nat) : ∀ t n : Nat, ∃ ms : List Nat, ms.length = t + 1 ∧ ms.sum = n ∧ cutS k q ms = Lv q k t n
  | 0, n => ⟨[n], rfl, by simp, by simp [cutS, Lv]⟩
  | t + 1, n => by
    obtain ⟨f, hf, e⟩ := mx_att (fun f => Lv q k t f + bl q k f n) n
    obtain ⟨ms, h1, h2, h3⟩ := cut_att q k t f
    refine ⟨ms ++ [n - f], by simp [h1], by simp [h2]; omega, ?_⟩
    rw [cutS_append, h3, h2]
    show _ = mx (fun f => Lv q k t f + bl q k f n) n
    rw [e]
    have : cutS k (fun y => q (y + f)) [n - f] = bl q k f n := by
      show bl (fun y => q (y + f)) k 0 (n - f) + 0 = _
      rw [bl_shift, Int.add_zero]
      congr 1 <;> omega
    rw [this]
/-- the free places of neighbours give their saving -/
theorem gl_sum (q : Nat → Int) (k : Nat) : ∀ (ms : List Nat) (s : Nat), ((gl s (ms.map fun m => (m, m - m / k))).map q).sum = cutS k (fun y => q (y + s)) ms
  | [], s => rfl
  | m :: ms, s => by
    show ((List.range' (s + (m - m / k)) (m - (m - m / k)) ++ gl (s + m) (ms.map fun m => (m, m - m / k))).map q).sum = _
    rw [List.map_append, List.sum_append, gl_sum q k ms (s + m)]
    have hle : m / k ≤ m := Nat.div_le_self _ _
    have e1 : m - (m - m / k) = m / k := Nat.sub_sub_self hle
    rw [e1]
    show _ = bl (fun y => q (y + s)) k 0 m + cutS k (fun y => q (y + m + s)) ms
    rw [bl_shift]
    unfold bl
    have e2 : m + s - (0 + s) = m := by omega
    have e3 : m + s - m / k = s + (m - m / k) := by
      generalize m / k = z at hle
      omega
    have e4 : (fun y => q (y + m + s)) = fun y => q (y + (s + m)) := by
      funext y
      congr 1
      omega
    rw [e2, e3, e4]
theorem gl_lt (k : Nat) : ∀ (ms : List Nat) (s : Nat), ∀ y ∈ gl s (ms.map fun m => (m, m - m / k)), y < s + ms.sum
  | [], s, y, h => by simp [gl] at h
  | m :: ms, s, y, h => by
    have h' : y ∈ List.range' (s + (m - m / k)) (m - (m - m / k)) ++ gl (s + m) (ms.map fun m => (m, m - m / k)) := h
    rw [List.sum_cons]
    rcases List.mem_append.mp h' with h1 | h1
    · rw [List.mem_range'_1] at h1
      have := Nat.div_le_self m k
      generalize m / k = z at h1 this
      omega
    · have := gl_lt k ms (s + m) y h1
      omega
/-- the saving of any colours of the places -/
def svF (q : Nat → Int) (c pd : Nat → Nat) (n : Nat) : Int := (((List.range n).filter (fr c pd)).map q).sum
theorem cl_fr (p : Nat → Bool) {n : Nat} : ∀ {x : Nat}, x ≤ n → cl x ((List.range n).filter p) = cnt p x := by
  induction n with
  | zero =>
    intro x h
    have : x = 0 := by omega
    subst this
    rfl
  | succ n ih =>
    intro x h
    rw [List.range_succ, List.filter_append, cl_append]
    by_cases e : x = n + 1
    · subst e
      have : cl (n + 1) ((List.range n).filter p) = cl n ((List.range n).filter p) := by
        have hm : ∀ y ∈ (List.range n).filter p, y < n := fun y hy => by
          rw [List.mem_filter, List.mem_range] at hy
          exact hy.1
        rw [cl_all hm, cl_all fun y hy => Nat.lt_succ_of_lt (hm y hy)]
      rw [this, ih (Nat.le_refl _), cnt_succ]
      congr 1
      by_cases hp : p n = true
      · rw [List.filter_cons_of_pos hp, if_pos hp]
        simp [cl]
      · rw [List.filter_cons_of_neg hp, if_neg hp]
        rfl
    · rw [ih (by omega)]
      have : cl x ([n].filter p) = 0 := by
        unfold cl
        rw [List.countP_eq_zero]
        intro y hy
        rw [List.mem_filter, List.mem_singleton] at hy
        simp
        omega
      rw [this]
      rfl
theorem upper {q : Nat → Int} {k n r : Nat} {c : Nat → Nat} (hr : 1 ≤ r) (hc : ∀ y, y < n → c y < r) (anti : ∀ x, x < n → q (x + 1) ≤ q x) (nn : 0 ≤ q n) : svF q c (fun j => N c j n - N c j n / k) n ≤ Lv q k (r - 1) n := by
  let pd : Nat → Nat := fun j => N c j n - N c j n / k
  let ms : List Nat := (ordF c pd r n).map fun j => N c j n
  have hsum : ms.sum = n := by
    show ((ordF c pd r n).map fun j => N c j n).sum = n
    rw [ordF_sum hc, N_sum hc]
  have hlen : ms.length = r := by
    show ((ordF c pd r n).map fun j => N c j n).length = r
    rw [List.length_map, ordF_len hc]
  have h1 : cutS k q ms ≤ Lv q k (r - 1) n := by
    have := cut_le0 (q := q) (k := k) (ms := ms) (by intro z; rw [z] at hlen; simp at hlen; omega)
    rw [hlen, hsum] at this
    exact this
  refine Int.le_trans ?_ h1
  have hg := gl_sum q k ms 0
  have e0 : (fun y => q (y + 0)) = q := rfl
  rw [e0] at hg
  rw [← hg]
  unfold svF
  refine dom (n := n) (fun y hy => ?_) (fun y hy => ?_) anti nn fun x hx => ?_
  · rw [List.mem_filter, List.mem_range] at hy
    exact hy.1
  · have := gl_lt k ms 0 y hy
    omega
  · rw [cl_fr _ hx]
    obtain ⟨t, ht⟩ := ord_pre (c := c) (pd := pd) hx
    have hord : ordF c pd r n = ord c pd x ++ (t ++ (List.range r).filter fun j => decide (j ∉ ord c pd n)) := by
      unfold ordF
      rw [ht, List.append_assoc]
    have hms : ms.map (fun m => (m, m - m / k)) = (ord c pd x).map (fun j => (N c j n, pd j)) ++ (t ++ (List.range r).filter fun j => decide (j ∉ ord c pd n)).map (fun j => (N c j n, pd j)) := by
      show ((ordF c pd r n).map fun j => N c j n).map _ = _
      rw [hord, List.map_append, List.map_append, List.map_map, List.map_map]
      rfl
    rw [hms]
    have hs := ord_sum (c := c) (pd := pd) x
    have hlt := ord_lt (pd := pd) hc x hx
    have hxs : ((ord c pd x).map fun j => N c j x).sum ≤ x := by
      have := sum_nodup_le (fun j => N c j x) (ord_nodup (c := c) (pd := pd) x) hlt
      rw [N_sum fun y hy => hc y (by omega)] at this
      exact this
    have hle : ((ord c pd x).map fun j => N c j x).sum ≤ ((ord c pd x).map fun j => N c j n).sum := by
      generalize ord c pd x = l
      induction l with
      | nil => exact Nat.le_refl _
      | cons a l ih =>
        simp only [List.map_cons, List.sum_cons]
        have := cnt_mono (fun y => decide (c y = a)) hx
        unfold N at *
        omega
    have hsub : ((ord c pd x).map fun j => N c j n - pd j).sum + ((ord c pd x).map pd).sum = ((ord c pd x).map fun j => N c j n).sum := by
      rw [← sum_map_add]
      congr 1
      refine List.map_congr_left fun j _ => ?_
      show N c j n - (N c j n - N c j n / k) + (N c j n - N c j n / k) = N c j n
      exact Nat.sub_add_cancel (Nat.sub_le _ _)
    refine gl_count _ _ 0 _ x ?_ ?_ fun a ha => ?_
    · rw [List.map_map]
      show cnt (fr c pd) x ≤ ((ord c pd x).map fun j => N c j n - pd j).sum
      omega
    · rw [List.map_map]
      show cnt (fr c pd) x + ((ord c pd x).map pd).sum + 0 ≤ x
      omega
    · obtain ⟨j, _, rfl⟩ := List.mem_map.mp ha
      show N c j n - N c j n / k ≤ N c j n
      exact Nat.sub_le _ _
end DD.M

-- part MB
set_option Elab.async false
set_option linter.all false
/-! Rows, colours of items, savings. -/
namespace DD.M
/-! ### sorting -/
theorem insI_perm (x : Int) : ∀ l, (insI x l).Perm (x :: l)
  | [] => .refl _
  | y :: r => by
    unfold insI
    split
    · exact .refl _
    · exact ((insI_perm x r).cons y).trans (.swap x y r)
theorem sortI_perm : ∀ l, (sortI l).Perm l
  | [] => .refl _
  | x :: r => (insI_perm x (sortI r)).trans ((sortI_perm r).cons x)
theorem insI_sorted (x : Int) : ∀ l : List Int, l.Pairwise (· ≤ ·) → (insI x l).Pairwise (· ≤ ·)
  | [], _ => by simp [insI]
  | y :: r, h => by
    unfold insI
    rw [List.pairwise_cons] at h
    split
    · rename_i hxy
      refine List.pairwise_cons.mpr ⟨fun z hz => ?_, List.pairwise_cons.mpr h⟩
      rcases List.mem_cons.mp hz with rfl | hz
      · exact hxy
      · exact Int.le_trans hxy (h.1 z hz)
    · rename_i hxy
      refine List.pairwise_cons.mpr ⟨fun z hz => ?_, insI_sorted x r h.2⟩
      rcases List.mem_cons.mp ((insI_perm x r).mem_iff.mp hz) with rfl | hz
      · omega
      · exact h.1 z hz
theorem sortI_sorted : ∀ l, (sortI l).Pairwise (· ≤ ·)
  | [] => .nil
  | x :: r => insI_sorted x _ (sortI_sorted r)
theorem sortI_one {l m : List Int} (h : m.Perm l) (s : m.Pairwise (· ≤ ·)) : m = sortI l :=
  List.Perm.eq_of_pairwise (le := (· ≤ ·)) (fun a b _ _ h1 h2 => by omega) s (sortI_sorted l) (h.trans (sortI_perm l).symm)
theorem sortI_congr {l m : List Int} (h : m.Perm l) : sortI m = sortI l := sortI_one ((sortI_perm m).trans h) (sortI_sorted m)
theorem leP_iff {p q : Int × Int} : leP p q = true ↔ p.1 < q.1 ∨ (p.1 = q.1 ∧ p.2 ≤ q.2) := by
  unfold leP
  simp
theorem insP_perm (x : Int × Int) : ∀ l, (insP x l).Perm (x :: l)
  | [] => .refl _
  | y :: r => by
    unfold insP
    split
    · exact .refl _
    · exact ((insP_perm x r).cons y).trans (.swap x y r)
theorem sortP_perm : ∀ l, (sortP l).Perm l
  | [] => .refl _
  | x :: r => (insP_perm x (sortP r)).trans ((sortP_perm r).cons x)
abbrev LeP (p q : Int × Int) : Prop := p.1 < q.1 ∨ (p.1 = q.1 ∧ p.2 ≤ q.2)
theorem insP_sorted (x : Int × Int) : ∀ l, l.Pairwise LeP → (insP x l).Pairwise LeP
  | [], _ => by simp [insP]
  | y :: r, h => by
    unfold insP
    rw [List.pairwise_cons] at h
    split
    · rename_i hxy
      rw [leP_iff] at hxy
      refine List.pairwise_cons.mpr ⟨fun z hz => ?_, List.pairwise_cons.mpr h⟩
      rcases List.mem_cons.mp hz with rfl | hz
      · exact hxy
      · have := h.1 z hz
        unfold LeP at this ⊢
        omega
    · rename_i hxy
      rw [leP_iff] at hxy
      refine List.pairwise_cons.mpr ⟨fun z hz => ?_, insP_sorted x r h.2⟩
      rcases List.mem_cons.mp ((insP_perm x r).mem_iff.mp hz) with rfl | hz
      · unfold LeP
        omega
      · exact h.1 z hz
theorem sortP_sorted : ∀ l, (sortP l).Pairwise LeP
  | [] => .nil
  | x :: r => insP_sorted x _ (sortP_sorted r)
theorem sortP_one {l m : List (Int × Int)} (h : m.Perm l) (s : m.Pairwise LeP) : m = sortP l :=
  List.Perm.eq_of_pairwise (le := LeP) (fun a b _ _ h1 h2 => by
    unfold LeP at h1 h2
    refine Prod.ext ?_ ?_ <;> omega) s (sortP_sorted l) (h.trans (sortP_perm l).symm)
/-! ### the row -/
def np (k : Nat) : List Int → List (Int × Int)
  | [] => []
  | b :: r => (-b, (k : Int)) :: np (k + 1) r
def rowOf (bs : List Int) : List Int := (sortP (np 0 bs)).map (·.2)
def rowN (bs : List Int) : List Nat := (rowOf bs).map Int.toNat
/-- prices along the row -/
def pl (bs : List Int) : List Int := (sortP (np 0 bs)).map fun p => -p.1
theorem np_len : ∀ (bs : List Int) (k : Nat), (np k bs).length = bs.length
  | [], _ => rfl
  | b :: r, k => by
    rw [np, List.length_cons, List.length_cons, np_len r]
theorem np_mem : ∀ {bs : List Int} {k : Nat} {p : Int × Int}, p ∈ np k bs → ∃ (i : Nat) (b : Int), bs[i]? = some b ∧ p = (-b, ((k + i : Nat) : Int))
  | b :: r, k, p, h => by
    rw [np] at h
    rcases List.mem_cons.mp h with rfl | h
    · exact ⟨0, b, rfl, rfl⟩
    · obtain ⟨i, c, h1, h2⟩ := np_mem h
      refine ⟨i + 1, c, by simpa using h1, ?_⟩
      rw [h2]
      have : k + 1 + i = k + (i + 1) := by omega
      rw [this]
  | [], _, _, h => by cases h
theorem np_snd : ∀ (bs : List Int) (k : Nat), (np k bs).map (·.2) = (List.range' k bs.length).map fun i => ((i : Nat) : Int)
  | [], _ => rfl
  | b :: r, k => by
    rw [np, List.map_cons, List.length_cons, List.range'_succ, List.map_cons, np_snd r]
theorem np_fst : ∀ (bs : List Int) (k : Nat), (np k bs).map (fun p => -p.1) = bs
  | [], _ => rfl
  | b :: r, k => by
    rw [np, List.map_cons, np_fst r]
    simp
theorem row_len (bs : List Int) : (rowOf bs).length = bs.length := by
  unfold rowOf
  rw [List.length_map, (sortP_perm _).length_eq, np_len]
theorem rowN_len (bs : List Int) : (rowN bs).length = bs.length := by
  unfold rowN
  rw [List.length_map, row_len]
theorem pl_len (bs : List Int) : (pl bs).length = bs.length := by
  unfold pl
  rw [List.length_map, (sortP_perm _).length_eq, np_len]
theorem row_perm (bs : List Int) : (rowOf bs).Perm ((List.range bs.length).map fun i => ((i : Nat) : Int)) := by
  have h := (sortP_perm (np 0 bs)).map (·.2)
  rw [np_snd, ← List.range_eq_range'] at h
  exact h
theorem rowN_perm (bs : List Int) : (rowN bs).Perm (List.range bs.length) := by
  have h := (row_perm bs).map Int.toNat
  rw [List.map_map] at h
  have e : (Int.toNat ∘ fun i : Nat => (i : Int)) = id := by
    funext i
    simp
  rw [e, List.map_id] at h
  exact h
theorem row_mem {bs : List Int} {i : Int} (h : i ∈ rowOf bs) : ∃ j : Nat, j < bs.length ∧ i = j := by
  have := (row_perm bs).mem_iff.mp h
  obtain ⟨j, h1, h2⟩ := List.mem_map.mp this
  exact ⟨j, List.mem_range.mp h1, h2.symm⟩
theorem row_int (bs : List Int) : rowOf bs = (rowN bs).map fun i => ((i : Nat) : Int) := by
  unfold rowN
  rw [List.map_map]
  refine (List.map_id _).symm.trans (List.map_congr_left fun i hi => ?_)
  obtain ⟨j, _, rfl⟩ := row_mem hi
  simp
theorem pl_eq (bs : List Int) : pl bs = (rowN bs).map fun i => bs.getD i 0 := by
  unfold pl rowN rowOf
  rw [List.map_map, List.map_map]
  refine List.map_congr_left fun p hp => ?_
  obtain ⟨i, b, h1, rfl⟩ := np_mem ((sortP_perm _).mem_iff.mp hp)
  show - -b = bs.getD ((0 + i : Nat) : Int).toNat 0
  have : ((0 + i : Nat) : Int).toNat = i := by omega
  rw [this, List.getD, h1]
  simp
theorem pl_desc (bs : List Int) : (pl bs).Pairwise (· ≥ ·) := by
  unfold pl
  rw [List.pairwise_map]
  refine (sortP_sorted _).imp fun {p q} h => ?_
  unfold LeP at h
  show -p.1 ≥ -q.1
  omega
theorem pl_perm (bs : List Int) : (pl bs).Perm bs := by
  have := (sortP_perm (np 0 bs)).map (fun p => -p.1)
  rw [np_fst] at this
  exact this
/-! ### smallest ones -/
def low (f : Nat) (l : List Int) : Int := ((sortI l).take f).sum
theorem low_perm {f : Nat} {l m : List Int} (h : m.Perm l) : low f m = low f l := by
  unfold low
  rw [sortI_congr h]
theorem low_desc {f : Nat} {l m : List Int} (d : l.Pairwise (· ≥ ·)) (h : l.Perm m) (hf : f ≤ l.length) : (l.drop (l.length - f)).sum = low f m := by
  have e : l.reverse = sortI m := sortI_one ((List.reverse_perm l).trans h) (List.pairwise_reverse.mpr d)
  unfold low
  rw [← e, List.take_reverse, List.sum_reverse]
/-! ### places of a colour -/
def P (c : Nat → Nat) (j n : Nat) : List Nat := (List.range n).filter fun y => decide (c y = j)
theorem P_len (c : Nat → Nat) (j n : Nat) : (P c j n).length = N c j n := by
  unfold P N cnt
  rw [List.countP_eq_length_filter]
theorem P_succ (c : Nat → Nat) (j n : Nat) : P c j (n + 1) = P c j n ++ if c n = j then [n] else [] := by
  unfold P
  rw [List.range_succ, List.filter_append]
  congr 1
  by_cases h : c n = j <;> simp [h]
theorem P_drop (c : Nat → Nat) (j t : Nat) : ∀ n, (P c j n).drop t = (List.range n).filter fun y => decide (c y = j ∧ t ≤ N c j y)
  | 0 => by simp [P]
  | n + 1 => by
    rw [P_succ, List.drop_append, P_drop c j t n, List.range_succ, List.filter_append, P_len]
    congr 1
    by_cases h : c n = j
    · rw [if_pos h]
      by_cases h2 : t ≤ N c j n
      · have : t - N c j n = 0 := by omega
        rw [this, List.filter_cons_of_pos (by simp [h, h2])]
        rfl
      · have : t - N c j n ≥ 1 := by omega
        rw [List.filter_cons_of_neg (by simp [h2]), List.drop_eq_nil_of_le (by simpa using this)]
        rfl
    · rw [if_neg h, List.filter_cons_of_neg (by simp [h])]
      simp
/-- the saving, colour by colour -/
def sv (q : Nat → Int) (k : Nat) (c : Nat → Nat) (r n : Nat) : Int := si r fun j => (((P c j n).drop ((P c j n).length - (P c j n).length / k)).map q).sum
theorem flat (q : Nat → Int) (c pd : Nat → Nat) (r : Nat) : ∀ n, (∀ y, y < n → c y < r) → si r (fun j => (((List.range n).filter fun y => decide (c y = j ∧ pd j ≤ N c j y)).map q).sum) = (((List.range n).filter (fr c pd)).map q).sum
  | 0, _ => si_zeros r
  | n + 1, h => by
    have ih := flat q c pd r n fun y hy => h y (by omega)
    have e : (fun j => (((List.range (n + 1)).filter fun y => decide (c y = j ∧ pd j ≤ N c j y)).map q).sum) = fun j => (((List.range n).filter fun y => decide (c y = j ∧ pd j ≤ N c j y)).map q).sum + if c n = j then (if fr c pd n = true then q n else 0) else 0 := by
      funext j
      rw [List.range_succ, List.filter_append, List.map_append, List.sum_append]
      congr 1
      by_cases hj : c n = j
      · subst hj
        rw [if_pos rfl]
        by_cases hf : pd (c n) ≤ N c (c n) n
        · rw [List.filter_cons_of_pos (by simp [hf]), if_pos (by unfold fr; simpa using hf)]
          simp
        · rw [List.filter_cons_of_neg (by simp [hf]), if_neg (by unfold fr; simpa using hf)]
          rfl
      · rw [if_neg hj, List.filter_cons_of_neg (by simp [hj])]
        rfl
    rw [e, si_add, ih, si_ind, if_pos (h n (by omega)), List.range_succ, List.filter_append, List.map_append, List.sum_append]
    congr 1
    by_cases hf : fr c pd n = true
    · rw [if_pos hf, List.filter_cons_of_pos hf]
      simp
    · rw [if_neg hf, List.filter_cons_of_neg hf]
      rfl
theorem sv_flat {q : Nat → Int} {k : Nat} {c : Nat → Nat} {r n : Nat} (h : ∀ y, y < n → c y < r) : sv q k c r n = svF q c (fun j => N c j n - N c j n / k) n := by
  unfold svF
  rw [← flat q c _ r n h]
  unfold sv
  refine si_congr fun j _ => ?_
  rw [P_drop, P_len]
theorem sv_le {q : Nat → Int} {k n r : Nat} {c : Nat → Nat} (hr : 1 ≤ r) (hc : ∀ y, y < n → c y < r) (anti : ∀ x, x < n → q (x + 1) ≤ q x) (nn : 0 ≤ q n) : sv q k c r n ≤ Lv q k (r - 1) n := by
  rw [sv_flat hc]
  exact upper hr hc anti nn
/-! ### neighbours as colours -/
def col : List Nat → Nat → Nat
  | [], _ => 0
  | m :: ms, y => if y < m then 0 else col ms (y - m) + 1
theorem col_lt : ∀ {ms : List Nat} {y : Nat}, y < ms.sum → col ms y < ms.length
  | [], y, h => by simp at h
  | m :: ms, y, h => by
    rw [List.sum_cons] at h
    unfold col
    by_cases hy : y < m
    · rw [if_pos hy]
      simp
    · rw [if_neg hy, List.length_cons]
      have := col_lt (ms := ms) (y := y - m) (by omega)
      omega
theorem P_zero (m : Nat) (ms : List Nat) (n : Nat) : P (col (m :: ms)) 0 (m + n) = List.range m := by
  unfold P
  rw [List.range_add, List.filter_append]
  have e1 : (List.range m).filter (fun y => decide (col (m :: ms) y = 0)) = List.range m := by
    rw [List.filter_eq_self]
    intro y hy
    rw [List.mem_range] at hy
    simp [col, hy]
  have e2 : ((List.range n).map (m + ·)).filter (fun y => decide (col (m :: ms) y = 0)) = [] := by
    rw [List.filter_eq_nil_iff]
    intro y hy
    obtain ⟨i, _, rfl⟩ := List.mem_map.mp hy
    have : ¬ m + i < m := by omega
    simp [col]
  rw [e1, e2, List.append_nil]
theorem P_suc (m : Nat) (ms : List Nat) (j n : Nat) : P (col (m :: ms)) (j + 1) (m + n) = (P (col ms) j n).map (m + ·) := by
  unfold P
  rw [List.range_add, List.filter_append]
  have e1 : (List.range m).filter (fun y => decide (col (m :: ms) y = j + 1)) = [] := by
    rw [List.filter_eq_nil_iff]
    intro y hy
    rw [List.mem_range] at hy
    simp [col, hy]
  rw [e1, List.nil_append, List.filter_map]
  congr 1
  refine List.filter_congr fun i _ => ?_
  show decide (col (m :: ms) (m + i) = j + 1) = decide (col ms i = j)
  have h : ¬ m + i < m := by omega
  have h2 : m + i - m = i := by omega
  have e : col (m :: ms) (m + i) = (if m + i < m then 0 else col ms (m + i - m) + 1) := rfl
  rw [e, if_neg h, h2]
  simp
theorem si_front (r : Nat) (f : Nat → Int) : si (r + 1) f = f 0 + si r fun j => f (j + 1) := by
  induction r with
  | zero =>
    rw [si_succ, si_zero, si_zero]
    omega
  | succ r ih =>
    rw [si_succ, ih, si_succ]
    omega
theorem sv_col (k : Nat) : ∀ (ms : List Nat) (q : Nat → Int), sv q k (col ms) ms.length ms.sum = cutS k q ms
  | [], q => rfl
  | m :: ms, q => by
    have ih := sv_col k ms fun y => q (y + m)
    unfold sv at ih ⊢
    rw [List.length_cons, List.sum_cons, si_front]
    show _ = bl q k 0 m + cutS k (fun y => q (y + m)) ms
    rw [← ih]
    congr 1
    · rw [P_zero, List.length_range]
      unfold bl
      have e : (List.range m).drop (m - m / k) = List.range' (m - m / k) (m / k) := by
        rw [List.range_eq_range', List.drop_range']
        congr 1
        · omega
        · exact Nat.sub_sub_self (Nat.div_le_self _ _)
      rw [e]
      rfl
    · refine si_congr fun j _ => ?_
      rw [P_suc, List.length_map, ← List.map_drop, List.map_map]
      congr 1
      refine List.map_congr_left fun y _ => ?_
      show q (m + y) = q (y + m)
      rw [Nat.add_comm]
theorem sv_att (q : Nat → Int) (k : Nat) {r : Nat} (n : Nat) (hr : 1 ≤ r) : ∃ c, (∀ y, y < n → c y < r) ∧ sv q k c r n = Lv q k (r - 1) n := by
  obtain ⟨ms, h1, h2, h3⟩ := cut_att q k (r - 1) n
  have hl : ms.length = r := by omega
  refine ⟨col ms, fun y hy => ?_, ?_⟩
  · rw [← hl]
    exact col_lt (by omega)
  · rw [← h3, ← sv_col, h2, hl]
/-! ### colours of items -/
def pr (b : List Int) (i : Nat) : Int := b.getD i 0
def sav (b : List Int) (k : Nat) (c : Nat → Nat) (r : Nat) : Int := si r fun j => low ((P c j b.length).length / k) ((P c j b.length).map (pr b))
structure IsRow (b : List Int) (row : List Nat) : Prop where
  perm : row.Perm (List.range b.length)
  desc : (row.map (pr b)).Pairwise (· ≥ ·)
theorem isRow (b : List Int) : IsRow b (rowN b) := ⟨rowN_perm b, by
  have := pl_desc b
  rw [pl_eq] at this
  exact this⟩
/-- prices along a row -/
def qf (b : List Int) (row : List Nat) (y : Nat) : Int := (row.map (pr b)).getD y 0
section
variable {b : List Int} {row : List Nat}
theorem IsRow.len (R : IsRow b row) : row.length = b.length := by
  have := R.perm.length_eq
  rwa [List.length_range] at this
theorem row_self {row : List Nat} : row = (List.range row.length).map fun y => row.getD y 0 := by
  refine List.ext_getElem (by simp) fun i h1 h2 => ?_
  simp
  rw [List.getElem?_eq_getElem h1]
  rfl
theorem qf_lt (R : IsRow b row) {y : Nat} (h : y < b.length) : qf b row y = pr b (row.getD y 0) := by
  unfold qf
  have hy : y < row.length := by rw [R.len]; exact h
  simp [List.getD, hy]
theorem qf_ge (R : IsRow b row) {y : Nat} (h : b.length ≤ y) : qf b row y = 0 := by
  unfold qf
  have : row.length ≤ y := by rw [R.len]; exact h
  simp [List.getD, this]
theorem P_row (R : IsRow b row) (c : Nat → Nat) (j : Nat) : (P (fun y => c (row.getD y 0)) j b.length).map (fun y => row.getD y 0) = row.filter fun i => decide (c i = j) := by
  have h := row_self (row := row)
  conv => rhs; rw [h]
  rw [List.filter_map, R.len]
  rfl
theorem P_prices (R : IsRow b row) (c : Nat → Nat) (j : Nat) : (P (fun y => c (row.getD y 0)) j b.length).map (qf b row) = (row.filter fun i => decide (c i = j)).map (pr b) := by
  rw [← P_row R c j, List.map_map]
  refine List.map_congr_left fun y hy => ?_
  unfold P at hy
  rw [List.mem_filter, List.mem_range] at hy
  exact qf_lt R hy.1
theorem row_desc (R : IsRow b row) (p : Nat → Bool) : ((row.filter p).map (pr b)).Pairwise (· ≥ ·) := R.desc.sublist (List.filter_sublist.map _)
theorem row_cls (R : IsRow b row) (c : Nat → Nat) (j : Nat) : (row.filter fun i => decide (c i = j)).Perm (P c j b.length) := R.perm.filter _
theorem sav_row (R : IsRow b row) (k : Nat) (c : Nat → Nat) (r : Nat) : sav b k c r = sv (qf b row) k (fun y => c (row.getD y 0)) r b.length := by
  unfold sav sv
  refine si_congr fun j _ => ?_
  rw [List.map_drop, P_prices R]
  have hp := row_cls R c j
  have hl : (P (fun y => c (row.getD y 0)) j b.length).length = (P c j b.length).length := by
    rw [← hp.length_eq, ← P_row R c j, List.length_map]
  rw [hl]
  have hl2 : ((row.filter fun i => decide (c i = j)).map (pr b)).length = (P c j b.length).length := by rw [List.length_map, hp.length_eq]
  have := low_desc (f := (P c j b.length).length / k) (row_desc R fun i => decide (c i = j)) (hp.map (pr b)) (by rw [hl2]; exact Nat.div_le_self _ _)
  rw [hl2] at this
  exact this.symm
theorem qf_anti (R : IsRow b row) (nn : ∀ x ∈ b, 0 ≤ x) (x : Nat) (h : x < b.length) : qf b row (x + 1) ≤ qf b row x := by
  have hl : (row.map (pr b)).length = b.length := by rw [List.length_map, R.len]
  by_cases h2 : x + 1 < b.length
  · have := List.pairwise_iff_getElem.mp R.desc x (x + 1) (by omega) (by omega) (Nat.lt_succ_self x)
    unfold qf
    rw [List.getD, List.getD, List.getElem?_eq_getElem (by omega), List.getElem?_eq_getElem (by omega)]
    exact this
  · rw [qf_ge R (by omega), qf_lt R h]
    have hm : row.getD x 0 < b.length := by
      have hx : x < row.length := by rw [R.len]; exact h
      have : row.getD x 0 ∈ row := by
        rw [List.getD, List.getElem?_eq_getElem hx]
        exact List.getElem_mem hx
      exact List.mem_range.mp (R.perm.mem_iff.mp this)
    unfold pr
    rw [List.getD, List.getElem?_eq_getElem hm]
    exact nn _ (List.getElem_mem hm)
theorem sav_le (R : IsRow b row) (nn : ∀ x ∈ b, 0 ≤ x) {k r : Nat} {c : Nat → Nat} (hr : 1 ≤ r) (hc : ∀ i, i < b.length → c i < r) : sav b k c r ≤ Lv (qf b row) k (r - 1) b.length := by
  rw [sav_row R]
  refine sv_le hr (fun y hy => hc _ ?_) (qf_anti R nn) (by rw [qf_ge R (Nat.le_refl _)]; exact Int.le_refl _)
  have hx : y < row.length := by rw [R.len]; exact hy
  have : row.getD y 0 ∈ row := by
    rw [List.getD, List.getElem?_eq_getElem hx]
    exact List.getElem_mem hx
  exact List.mem_range.mp (R.perm.mem_iff.mp this)
theorem sav_att (R : IsRow b row) (k : Nat) {r : Nat} (hr : 1 ≤ r) : ∃ c, (∀ i, c i < r) ∧ sav b k c r = Lv (qf b row) k (r - 1) b.length := by
  obtain ⟨c0, h1, h2⟩ := sv_att (qf b row) k b.length hr
  refine ⟨fun i => if row.idxOf i < b.length then c0 (row.idxOf i) else 0, fun i => ?_, ?_⟩
  · show (if row.idxOf i < b.length then c0 (row.idxOf i) else 0) < r
    by_cases h : row.idxOf i < b.length
    · rw [if_pos h]
      exact h1 _ h
    · rw [if_neg h]
      omega
  · rw [sav_row R, ← h2]
    have hnd : row.Nodup := R.perm.nodup_iff.mpr List.nodup_range
    have e : ∀ y, y < b.length → (if row.idxOf (row.getD y 0) < b.length then c0 (row.idxOf (row.getD y 0)) else 0) = c0 y := fun y hy => by
      have hx : y < row.length := by rw [R.len]; exact hy
      have : row.idxOf (row.getD y 0) = y := by
        rw [List.getD, List.getElem?_eq_getElem hx]
        exact hnd.idxOf_getElem y hx
      rw [this, if_pos hy]
    unfold sv
    refine si_congr fun j _ => ?_
    have : P (fun y => if row.idxOf (row.getD y 0) < b.length then c0 (row.idxOf (row.getD y 0)) else 0) j b.length = P c0 j b.length := by
      unfold P
      refine List.filter_congr fun y hy => ?_
      rw [List.mem_range] at hy
      show decide ((if row.idxOf (row.getD y 0) < b.length then c0 (row.idxOf (row.getD y 0)) else 0) = j) = _
      rw [e y hy]
    rw [this]
end
/-- the greatest saving with at most r receipts -/
def A (b : List Int) (k r : Nat) : Int := Lv (qf b (rowN b)) k (r - 1) b.length
theorem A_le {b : List Int} (nn : ∀ x ∈ b, 0 ≤ x) {k r : Nat} {c : Nat → Nat} (hr : 1 ≤ r) (hc : ∀ i, i < b.length → c i < r) : sav b k c r ≤ A b k r := sav_le (isRow b) nn hr hc
theorem A_att (b : List Int) (k : Nat) {r : Nat} (hr : 1 ≤ r) : ∃ c, (∀ i, c i < r) ∧ sav b k c r = A b k r := sav_att (isRow b) k hr
end DD.M

-- part MC
set_option Elab.async false
set_option linter.all false
set_option maxRecDepth 100000
/-! What the plain functions return: rows, blocks, greatest savings. -/
namespace DD.M
open DD
/-- as Option.bind_some, but no definitional step -/
theorem obs {α β : Type} {a : α} {f : α → Option β} : Option.bind (some a) f = f a := by
  cases h : f a <;> simp [h]
/-! ### loops -/
theorem lim_le {n : Nat} (h : n ≤ 10000) : n ≤ LIM := by
  unfold LIM
  omega
theorem lim_lt {n : Nat} (h : n < 10000) : n < LIM := by
  unfold LIM
  omega
section
variable {α β σ : Type}
theorem lcM_eq {f : α → β} {xs : List α} (h : xs.length ≤ LIM) : lcM f xs = some (xs.map f) := if_pos h
theorem lcF_eq {p : α → Bool} {f : α → β} {xs : List α} (h : xs.length ≤ LIM) : lcF p f xs = some ((xs.filter p).map f) := if_pos h
theorem lcOgo_eq {g : α → Option (Option β)} {f : α → Option β} : ∀ {xs : List α}, (∀ x ∈ xs, g x = some (f x)) → lcOgo g xs = some (xs.filterMap f)
  | [], _ => rfl
  | x :: xs, h => by
    unfold lcOgo
    rw [h x List.mem_cons_self, lcOgo_eq fun y hy => h y (List.mem_cons_of_mem _ hy)]
    cases e : f x <;> simp [e]
theorem lcO_fm {g : α → Option (Option β)} {xs : List α} (f : α → Option β) (hl : xs.length ≤ LIM) (h : ∀ x ∈ xs, g x = some (f x)) : lcO g xs = some (xs.filterMap f) := by
  unfold lcO
  rw [if_pos hl, lcOgo_eq h]
theorem lcO_map {g : α → Option (Option β)} {xs : List α} (f : α → β) (hl : xs.length ≤ LIM) (h : ∀ x ∈ xs, g x = some (some (f x))) : lcO g xs = some (xs.map f) := by
  rw [lcO_fm (fun x => some (f x)) hl h]
  simp
theorem forO_inv {step : α → σ → Option σ} (I : Nat → σ → Prop) : ∀ {xs : List α} {s : σ} {n : Nat}, (∀ i x, xs[i]? = some x → ∀ s, I (n + i) s → ∃ s', step x s = some s' ∧ I (n + i + 1) s') → I n s → ∃ s', forO step xs s = some s' ∧ I (n + xs.length) s'
  | [], s, n, _, i => ⟨s, rfl, i⟩
  | x :: xs, s, n, h, i => by
    obtain ⟨s1, e1, i1⟩ := h 0 x rfl s i
    obtain ⟨s2, e2, i2⟩ := forO_inv I (xs := xs) (s := s1) (n := n + 1) (fun j y hy s hs => by
      have := h (j + 1) y hy s (by rw [show n + (j + 1) = n + 1 + j by omega]; exact hs)
      rw [show n + (j + 1) + 1 = n + 1 + j + 1 by omega] at this
      exact this) i1
    refine ⟨s2, ?_, ?_⟩
    · unfold forO
      rw [e1]
      exact e2
    · rw [List.length_cons, show n + (xs.length + 1) = n + 1 + xs.length by omega]
      exact i2
theorem forO_fold {step : α → σ → Option σ} (f : σ → α → σ) (I : σ → Prop) : ∀ {xs : List α} {s : σ}, (∀ x ∈ xs, ∀ s, I s → step x s = some (f s x) ∧ I (f s x)) → I s → forO step xs s = some (xs.foldl f s)
  | [], s, _, _ => rfl
  | x :: xs, s, h, i => by
    obtain ⟨e1, i1⟩ := h x List.mem_cons_self s i
    unfold forO
    rw [e1]
    exact forO_fold f I (fun y hy => h y (List.mem_cons_of_mem _ hy)) i1
/-- a list that grows -/
theorem forO_app {step : α → List β → Option (List β)} (f : α → β) : ∀ {xs : List α} {s : List β}, (∀ x ∈ xs, ∀ s, s.length < LIM → step x s = some (s ++ [f x])) → s.length + xs.length ≤ LIM → forO step xs s = some (s ++ xs.map f)
  | [], s, _, _ => by simp [forO]
  | x :: xs, s, h, hl => by
    rw [List.length_cons] at hl
    unfold forO
    rw [h x List.mem_cons_self s (by omega)]
    show forO step xs (s ++ [f x]) = _
    rw [forO_app f (fun y hy => h y (List.mem_cons_of_mem _ hy)) (by simp; omega)]
    simp
theorem forX_inv {step : α → σ → Option (Stp σ β)} (I : Nat → σ → Prop) : ∀ {xs : List α} {s : σ} {n : Nat}, (∀ i x, xs[i]? = some x → ∀ s, I (n + i) s → ∃ s', step x s = some (.nx s') ∧ I (n + i + 1) s') → I n s → ∃ s', forX step xs s = some (.nx s') ∧ I (n + xs.length) s'
  | [], s, n, _, i => ⟨s, rfl, i⟩
  | x :: xs, s, n, h, i => by
    obtain ⟨s1, e1, i1⟩ := h 0 x rfl s i
    obtain ⟨s2, e2, i2⟩ := forX_inv I (xs := xs) (s := s1) (n := n + 1) (fun j y hy s hs => by
      have := h (j + 1) y hy s (by rw [show n + (j + 1) = n + 1 + j by omega]; exact hs)
      rw [show n + (j + 1) + 1 = n + 1 + j + 1 by omega] at this
      exact this) i1
    refine ⟨s2, ?_, ?_⟩
    · unfold forX
      rw [e1]
      exact e2
    · rw [List.length_cons, show n + (xs.length + 1) = n + 1 + xs.length by omega]
      exact i2
/-- no turn ends the loop -/
theorem forX_all {step : α → σ → Option (Stp σ β)} (I : σ → Prop) {xs : List α} {s : σ} (h : ∀ x ∈ xs, ∀ s, I s → ∃ s', step x s = some (.nx s') ∧ I s') (i : I s) : ∃ s', forX step xs s = some (.nx s') ∧ I s' := by
  obtain ⟨s', e, i'⟩ := forX_inv (fun _ => I) (n := 0) (fun j x hx s hs => h x (List.mem_of_getElem? hx) s hs) i
  exact ⟨s', e, i'⟩
/-- the same ahead of what follows -/
theorem forO_then {γ : Type} {step : α → σ → Option σ} {xs : List α} {s : σ} {K : σ → Option γ} {r : Option γ} (I : Nat → σ → Prop) (h : ∀ i x, xs[i]? = some x → ∀ s, I i s → ∃ s', step x s = some s' ∧ I (i + 1) s') (i0 : I 0 s) (hk : ∀ s', I xs.length s' → K s' = r) : (forO step xs s).bind K = r := by
  obtain ⟨s', e, i⟩ := forO_inv (step := step) I (n := 0) (xs := xs) (s := s) (fun i x hx s hs => by
    rw [Nat.zero_add] at hs ⊢
    exact h i x hx s hs) i0
  rw [e]
  rw [Nat.zero_add] at i
  exact hk s' i
theorem forX_then {γ : Type} {step : α → σ → Option (Stp σ β)} {xs : List α} {s : σ} {K : σ → Option γ} {G : β → Option γ} {r : Option γ} (I : Nat → σ → Prop) (h : ∀ i x, xs[i]? = some x → ∀ s, I i s → ∃ s', step x s = some (.nx s') ∧ I (i + 1) s') (i0 : I 0 s) (hk : ∀ s', I xs.length s' → K s' = r) : ((forX step xs s).bind fun t => Stp.fin t K G) = r := by
  obtain ⟨s', e, i⟩ := forX_inv (step := step) I (n := 0) (xs := xs) (s := s) (fun i x hx s hs => by
    rw [Nat.zero_add] at hs ⊢
    exact h i x hx s hs) i0
  rw [e]
  rw [Nat.zero_add] at i
  exact hk s' i
theorem appO_eq {xs : List α} {x : α} (h : xs.length < LIM) : appO xs x = some (xs ++ [x]) := if_pos h
theorem catO_eq {xs ys : List α} (h : xs.length + ys.length ≤ LIM) : catO xs ys = some (xs ++ ys) := if_pos h
theorem rng1_eq {n : Nat} (h : n ≤ LIM) : rng1 (n : Int) = some ((List.range n).map fun i => ((i : Nat) : Int)) := by
  unfold rng1
  rw [if_pos (by omega)]
  rfl
theorem rng2_eq {a b : Nat} (ha : a ≤ LIM) (hb : b ≤ LIM) : rng2 (a : Int) (b : Int) = some ((List.range' a (b - a)).map fun i => ((i : Nat) : Int)) := by
  unfold rng2
  rw [if_pos (by omega)]
  have e : ((b : Int) - (a : Int)).toNat = b - a := by omega
  rw [e, List.range'_eq_map_range, List.map_map]
  rfl
theorem fdivO_eq {a k : Nat} (h1 : 1 ≤ k) (h2 : k < 1073741824) : fdivO (a : Int) (k : Int) = some ((a / k : Nat) : Int) := by
  unfold fdivO
  rw [if_pos (by omega)]
  rfl
theorem ixOf_nat {n i : Nat} (h : i < n) : ixOf n (i : Int) = some i := by
  unfold ixOf
  rw [if_pos (by omega), if_pos (by omega)]
  simp
theorem ixOf_last {n : Nat} (h : 0 < n) : ixOf n (-1) = some (n - 1) := by
  unfold ixOf
  rw [if_neg (by omega), if_pos (by omega)]
  congr 1
  omega
theorem atD_nat {xs : List α} {i : Nat} (h : i < xs.length) : atD xs (i : Int) = some xs[i] := by
  unfold atD
  rw [ixOf_nat h]
  simp [h]
theorem atD_getD {xs : List α} {i : Nat} (d : α) (h : i < xs.length) : atD xs (i : Int) = some (xs.getD i d) := by
  rw [atD_nat h]
  simp [List.getD, h]
theorem atD_last {xs : List α} {x : α} : atD (xs ++ [x]) (-1) = some x := by
  unfold atD
  rw [ixOf_last (by simp)]
  simp
theorem clip_nat {n d i : Nat} (h : i ≤ n) : clip n d (some (i : Int)) = i := by
  unfold clip
  simp only
  rw [if_neg (by omega)]
  omega
theorem cut_nat {xs : List α} {a b : Nat} (ha : a ≤ xs.length) (hb : b ≤ xs.length) : cutD xs (some (a : Int)) (some (b : Int)) = (xs.drop a).take (b - a) := by
  unfold cutD
  rw [clip_nat ha, clip_nat hb]
theorem cut_to {xs : List α} {b : Nat} (hb : b ≤ xs.length) : cutD xs none (some (b : Int)) = xs.take b := by
  unfold cutD
  rw [clip_nat hb]
  simp [clip]
theorem cut_from {xs : List α} {a : Nat} (ha : a ≤ xs.length) : cutD xs (some (a : Int)) none = xs.drop a := by
  unfold cutD
  rw [clip_nat ha]
  simp [clip]
  rw [List.take_of_length_le (by simp)]
end
/-! ### rows -/
theorem zip_np : ∀ (b : List Int) (k : Nat), (List.zipWith (fun (i : Nat) (y : Int) => ((i : Int), y)) (List.range' k b.length) b).map (fun p : Int × Int => (-p.2, p.1)) = np k b
  | [], k => rfl
  | x :: b, k => by
    rw [List.length_cons, List.range'_succ, List.zipWith_cons_cons, List.map_cons, zip_np b (k + 1)]
    rfl
theorem enum_np (b : List Int) : (enumL b).map (fun p : Int × Int => (-p.2, p.1)) = np 0 b := by
  rw [← zip_np b 0, ← List.range_eq_range']
  rfl
theorem enumL_len {α : Type} (xs : List α) : (enumL xs).length = xs.length := by
  unfold enumL
  simp
theorem sortPO_eq {xs : List (Int × Int)} (h : xs.length ≤ LIM) : sortPO xs = some (sortP xs) := if_pos h
theorem F_row_of_eq {b : List Int} (h : b.length ≤ LIM) : F_row_of b = some (rowOf b) := by
  unfold F_row_of
  rw [lcM_eq (by rw [enumL_len]; exact h), enum_np]
  simp only [obs]
  rw [sortPO_eq (by rw [np_len]; exact h)]
  simp only [obs]
  rw [lcM_eq (by rw [(sortP_perm _).length_eq, np_len]; exact h)]
  rfl
def shP (a : Int) (p : Int × Int) : Int × Int := (a + p.1, p.2)
theorem sort_sh (a : Int) (l : List (Int × Int)) : sortP (l.map (shP a)) = (sortP l).map (shP a) := by
  refine (sortP_one ((sortP_perm l).map _) ?_).symm
  rw [List.pairwise_map]
  refine (sortP_sorted l).imp fun {p q} h => ?_
  unfold LeP at h ⊢
  show a + p.1 < a + q.1 ∨ (a + p.1 = a + q.1 ∧ p.2 ≤ q.2)
  omega
theorem F_law_row_eq {b : List Int} (h : b.length ≤ LIM) : F_law_row b = some (rowOf b) := by
  unfold F_law_row
  have e10 : powO 10 6 = some 1000000 := by decide
  have e1 : (enumL b).map (fun x : Int × Int => ((1000000 : Int) - x.2, x.1)) = (np 0 b).map (shP 1000000) := by
    rw [← enum_np, List.map_map]
    refine List.map_congr_left fun p _ => ?_
    show ((1000000 : Int) - p.2, p.1) = ((1000000 : Int) + -p.2, p.1)
    congr 1
  rw [lcO_map (fun x : Int × Int => ((1000000 : Int) - x.2, x.1)) (by rw [enumL_len]; exact h) (fun x _ => by rw [e10]; rfl), e1]
  simp only [obs]
  rw [sortPO_eq (by rw [List.length_map, np_len]; exact h), sort_sh]
  simp only [obs]
  rw [lcM_eq (by rw [List.length_map, (sortP_perm _).length_eq, np_len]; exact h), List.map_map]
  rfl
theorem prices_eq {b : List Int} (h : b.length ≤ LIM) : lcO (fun (x : Int) => Option.bind (atD b x) fun y => some (some y)) (rowOf b) = some (pl b) := by
  rw [lcO_map (fun i => b.getD i.toNat 0) (by rw [row_len]; exact h) (fun i hi => ?_), pl_eq, row_int, List.map_map]
  · rfl
  · obtain ⟨j, hj, rfl⟩ := row_mem hi
    rw [atD_getD 0 hj]
    simp
/-! ### blocks -/
def ql (ps : List Int) (y : Nat) : Int := ps.getD y 0
theorem qf_pl (b : List Int) : qf b (rowN b) = ql (pl b) := by
  funext y
  unfold qf ql
  rw [pl_eq]
  rfl
theorem take_drop_sum (ps : List Int) (a l : Nat) (h : a + l ≤ ps.length) : ((ps.drop a).take l).sum = ((List.range' a l).map (ql ps)).sum := by
  congr 1
  refine List.ext_getElem (by simp; omega) fun i h1 h2 => ?_
  simp at h1 h2 ⊢
  unfold ql
  rw [List.getD, List.getElem?_eq_getElem (by omega)]
  rfl
theorem F_block_eq {ps : List Int} {k f l : Nat} (h1 : 1 ≤ k) (h2 : k < 1073741824) (hf : f ≤ l) (hl : l ≤ ps.length) : F_block_saving ps (k : Int) (f : Int) (l : Int) = some (bl (ql ps) k f l) := by
  unfold F_block_saving
  have e : (l : Int) - (f : Int) = ((l - f : Nat) : Int) := by omega
  rw [e, fdivO_eq h1 h2]
  simp only [obs]
  have hd : (l - f) / k ≤ l := Nat.le_trans (Nat.div_le_self _ _) (by omega)
  have e2 : (l : Int) - (((l - f) / k : Nat) : Int) = ((l - (l - f) / k : Nat) : Int) := by
    generalize (l - f) / k = z at hd
    omega
  rw [e2, cut_nat (by generalize (l - f) / k = z at hd; omega) hl]
  have e3 : l - (l - (l - f) / k) = (l - f) / k := Nat.sub_sub_self hd
  rw [e3, take_drop_sum ps _ _ (by omega)]
  rfl
/-! ### maxima -/
theorem maxI_mx (g : Nat → Int) : ∀ (l a : Nat) (m : Int), maxI m ((List.range' a l).map g) = max m (match l with | 0 => m | l + 1 => mx (fun i => g (a + i)) l)
  | 0, a, m => by
    show m = max m m
    rw [Int.max_eq_left (Int.le_refl _)]
  | l + 1, a, m => by
    rw [List.range'_succ, List.map_cons]
    show maxI (if m < g a then g a else m) _ = _
    rw [maxI_mx g l (a + 1)]
    have em : (if m < g a then g a else m) = max m (g a) := by
      by_cases h : m < g a
      · rw [if_pos h, Int.max_eq_right (by omega)]
      · rw [if_neg h, Int.max_eq_left (by omega)]
    rw [em]
    cases l with
    | zero =>
      show max (max m (g a)) (max m (g a)) = max m (g (a + 0))
      rw [Int.max_eq_left (Int.le_refl _)]
      rfl
    | succ l =>
      show max (max m (g a)) (mx (fun i => g (a + 1 + i)) l) = max m (mx (fun i => g (a + i)) (l + 1))
      have : ∀ l, mx (fun i => g (a + i)) (l + 1) = max (g a) (mx (fun i => g (a + 1 + i)) l) := by
        intro l
        induction l with
        | zero => rfl
        | succ l ih =>
          show max (mx (fun i => g (a + i)) (l + 1)) (g (a + (l + 1 + 1))) = max (g a) (max (mx (fun i => g (a + 1 + i)) l) (g (a + 1 + (l + 1))))
          rw [ih, show a + (l + 1 + 1) = a + 1 + (l + 1) by omega]
          omega
      rw [this l]
      omega
theorem maxO_mx (g : Nat → Int) (l : Nat) : maxO ((List.range (l + 1)).map g) = some (mx g l) := by
  rw [List.range_eq_range', List.range'_succ, List.map_cons]
  show some (maxI (g 0) _) = _
  rw [maxI_mx]
  congr 1
  cases l with
  | zero => exact Int.max_eq_left (Int.le_refl _)
  | succ l =>
    show max (g 0) (mx (fun i => g (0 + 1 + i)) l) = mx g (l + 1)
    induction l with
    | zero => rfl
    | succ l ih =>
      show max (g 0) (max (mx (fun i => g (0 + 1 + i)) l) (g (0 + 1 + (l + 1)))) = max (mx g (l + 1)) (g (l + 1 + 1))
      rw [← ih, show 0 + 1 + (l + 1) = l + 1 + 1 by omega]
      omega
/-! ### greatest savings of the law -/
theorem F_law_best_eq {b : List Int} {k : Nat} (h1 : 1 ≤ k) (h2 : k < 1073741824) (hb : 1 ≤ b.length) (hb2 : b.length ≤ 1000) : F_law_best b (k : Int) = some ((List.range b.length).map fun t => A b k (t + 1)) := by
  have hl : b.length ≤ LIM := lim_le (by omega)
  have pll := pl_len b
  unfold F_law_best
  rw [F_law_row_eq hl]
  simp only [obs]
  rw [prices_eq hl]
  simp only [obs]
  rw [pll]
  have e1 : ((b.length : Int) + 1) = ((b.length + 1 : Nat) : Int) := by omega
  rw [e1, rng1_eq (lim_le (by omega))]
  simp only [obs]
  have eb : lcO (fun (x9 : Int) => Option.bind (F_block_saving (pl b) (k : Int) 0 x9) fun x12 => some (some x12)) ((List.range (b.length + 1)).map fun i => ((i : Nat) : Int)) = some ((List.range (b.length + 1)).map fun l => Lv (ql (pl b)) k 0 l) := by
    rw [lcO_map (fun i => Lv (ql (pl b)) k 0 i.toNat) (by simp; exact lim_le (by omega)) fun i hi => ?_, List.map_map]
    · rfl
    · obtain ⟨j, hj, rfl⟩ := List.mem_map.mp hi
      rw [List.mem_range] at hj
      rw [show (0 : Int) = ((0 : Nat) : Int) from rfl, F_block_eq h1 h2 (Nat.zero_le _) (by omega)]
      simp [Lv]
  rw [eb]
  simp only [obs]
  have hat : ∀ t, atD ((List.range (b.length + 1)).map fun l => Lv (ql (pl b)) k t l) ((b.length : Nat) : Int) = some (Lv (ql (pl b)) k t b.length) := fun t => by
    rw [atD_nat (by simp)]
    simp
  rw [hat 0]
  simp only [obs]
  have e2 : (b.length : Int) - 1 = ((b.length - 1 : Nat) : Int) := by omega
  rw [e2, rng1_eq (lim_le (by omega))]
  simp only [obs]
  refine forO_then (fun t s => s = ((List.range (b.length + 1)).map (fun l => Lv (ql (pl b)) k t l), (List.range (t + 1)).map (fun t => Lv (ql (pl b)) k t b.length))) (fun i x hx s hs => ?_) rfl (fun s is => ?_)
  · subst hs
    have hi : i < b.length - 1 := by
      have := (List.getElem?_eq_some_iff.mp hx).1
      simpa using this
    refine ⟨_, ?_, rfl⟩
    simp only [obs]
    rw [forO_app (fun l : Int => Lv (ql (pl b)) k (i + 1) l.toNat) (fun l hl s hs => ?_) (by simp; exact lim_le (by omega)), List.map_map]
    · have ef : (List.range (b.length + 1)).map ((fun l : Int => Lv (ql (pl b)) k (i + 1) l.toNat) ∘ fun i => ((i : Nat) : Int)) = (List.range (b.length + 1)).map fun l => Lv (ql (pl b)) k (i + 1) l := rfl
      rw [ef, List.nil_append]
      simp only [obs]
      rw [hat (i + 1)]
      simp only [obs]
      rw [appO_eq (by simp; exact lim_lt (by omega))]
      simp only [obs]
      congr 2
      show (List.range (i + 1)).map _ ++ _ = (List.range (i + 1 + 1)).map _
      rw [List.range_succ (n := i + 1), List.map_append]
      rfl
    · obtain ⟨j, hj, rfl⟩ := List.mem_map.mp hl
      rw [List.mem_range] at hj
      have e3 : ((j : Int) + 1) = ((j + 1 : Nat) : Int) := by omega
      rw [e3, rng1_eq (lim_le (by omega))]
      simp only [obs]
      rw [lcO_map (fun f : Int => Lv (ql (pl b)) k i f.toNat + bl (ql (pl b)) k f.toNat j) (by simp; exact lim_le (by omega)) fun f hf => ?_, List.map_map]
      · simp only [obs]
        have := maxO_mx (fun f => Lv (ql (pl b)) k i f + bl (ql (pl b)) k f j) j
        have ef : (List.range (j + 1)).map ((fun f : Int => Lv (ql (pl b)) k i f.toNat + bl (ql (pl b)) k f.toNat j) ∘ fun i => ((i : Nat) : Int)) = (List.range (j + 1)).map fun f => Lv (ql (pl b)) k i f + bl (ql (pl b)) k f j := rfl
        rw [ef, this]
        simp only [obs]
        rw [appO_eq hs]
        rfl
      · obtain ⟨f', hf', rfl⟩ := List.mem_map.mp hf
        rw [List.mem_range] at hf'
        rw [atD_nat (by simp; omega)]
        simp only [obs]
        rw [F_block_eq h1 h2 (by omega) (by omega)]
        simp

  · rw [is]
    simp only [List.length_map, List.length_range, Nat.zero_add]
    have e4 : b.length - 1 + 1 = b.length := by omega
    rw [e4]
    congr 1
    refine List.map_congr_left fun t _ => ?_
    unfold A
    rw [qf_pl]
    rfl

end DD.M

-- part MD
set_option Elab.async false
set_option linter.all false
set_option maxRecDepth 100000
/-! The tables of the program. -/
namespace DD.M
open DD
theorem bl_self (q : Nat → Int) (k l : Nat) : bl q k l l = 0 := by
  unfold bl
  simp
theorem Lv_step (q : Nat → Int) (k t l : Nat) : Lv q k t l ≤ Lv q k (t + 1) l := by
  have := le_mx (fun f => Lv q k t f + bl q k f l) (Nat.le_refl l)
  simp only [bl_self] at this
  show _ ≤ mx (fun f => Lv q k t f + bl q k f l) l
  omega
theorem Lv_mono (q : Nat → Int) (k l : Nat) {t u : Nat} (h : t ≤ u) : Lv q k t l ≤ Lv q k u l := by
  induction u with
  | zero =>
    have : t = 0 := by omega
    rw [this]
    exact Int.le_refl _
  | succ u ih =>
    by_cases e : t = u + 1
    · rw [e]
      exact Int.le_refl _
    · exact Int.le_trans (ih (by omega)) (Lv_step q k u l)
theorem Lv_zero (q : Nat → Int) (k : Nat) : ∀ t, Lv q k t 0 = 0
  | 0 => bl_self q k 0
  | t + 1 => by
    show Lv q k t 0 + bl q k 0 0 = 0
    rw [Lv_zero q k t, bl_self]
    rfl
theorem Lv_lt (q : Nat → Int) (k : Nat) : ∀ t l, 1 ≤ l → ∃ f, f < l ∧ Lv q k t l ≤ Lv q k t f + bl q k f l
  | 0, l, h => ⟨0, h, by
    have : Lv q k 0 0 = 0 := Lv_zero q k 0
    show bl q k 0 l ≤ _
    omega⟩
  | t + 1, l, h => by
    obtain ⟨f, hf, e⟩ := mx_att (fun f => Lv q k t f + bl q k f l) l
    have e' : Lv q k (t + 1) l = Lv q k t f + bl q k f l := e
    by_cases h2 : f = l
    · subst h2
      obtain ⟨g, hg, le⟩ := Lv_lt q k t f h
      have := Lv_step q k t g
      rw [bl_self] at e'
      exact ⟨g, hg, by omega⟩
    · have := Lv_step q k t f
      exact ⟨f, by omega, by omega⟩
/-- the best start of the last receipt -/
theorem Lv_opt (q : Nat → Int) (k t : Nat) {l : Nat} (h : 1 ≤ l) {m : Int × Int} (hm : ∃ f, f < l ∧ m = (Lv q k t f + bl q k f l, (f : Int))) (hx : ∀ f, f < l → Lv q k t f + bl q k f l ≤ m.1) : m.1 = Lv q k (t + 1) l := by
  obtain ⟨f, hf, rfl⟩ := hm
  have h1 : Lv q k t f + bl q k f l ≤ Lv q k (t + 1) l := le_mx (fun f => Lv q k t f + bl q k f l) (by omega)
  obtain ⟨g, hg, e⟩ := mx_att (fun f => Lv q k t f + bl q k f l) l
  have e' : Lv q k (t + 1) l = Lv q k t g + bl q k g l := e
  have hx' : ∀ f', f' < l → Lv q k t f' + bl q k f' l ≤ Lv q k t f + bl q k f l := hx
  show Lv q k t f + bl q k f l = _
  by_cases h2 : g = l
  · subst h2
    obtain ⟨g', hg', le⟩ := Lv_lt q k t g h
    have := hx' g' hg'
    rw [bl_self] at e'
    omega
  · have := hx' g (by omega)
    omega
/-! ### dicts and maxima of pairs -/
theorem dget_range {α : Type} (v : Nat → α) : ∀ (a n i : Nat), dget ((List.range' a n).map fun l => (((l : Nat) : Int), v l)) (i : Int) = if a ≤ i ∧ i < a + n then some (v i) else none
  | a, 0, i => by
    rw [if_neg (by omega)]
    rfl
  | a, n + 1, i => by
    rw [List.range'_succ, List.map_cons]
    show (if ((a : Nat) : Int) = (i : Int) then some (v a) else dget _ (i : Int)) = _
    rw [dget_range v (a + 1) n i]
    by_cases h : a = i
    · subst h
      rw [if_pos rfl, if_pos (by omega)]
    · rw [if_neg (by omega)]
      by_cases h2 : a + 1 ≤ i ∧ i < a + 1 + n
      · rw [if_pos h2, if_pos (by omega)]
      · rw [if_neg h2, if_neg (by omega)]
theorem dget_range0 {α : Type} (v : Nat → α) (n i : Nat) : dget ((List.range n).map fun l => (((l : Nat) : Int), v l)) (i : Int) = if i < n then some (v i) else none := by
  rw [List.range_eq_range', dget_range]
  by_cases h : i < n
  · rw [if_pos h, if_pos (by omega)]
  · rw [if_neg h, if_neg (by omega)]
theorem dput_new {α : Type} {v : α} {k : Int} : ∀ {l : List (Int × α)}, (∀ p ∈ l, p.1 ≠ k) → dput l k v = l ++ [(k, v)] := fun {l} h => by
  unfold dput
  rw [if_neg]
  intro z
  rw [List.any_eq_true] at z
  obtain ⟨p, h1, h2⟩ := z
  exact h p h1 (by simpa using h2)
theorem maxP_spec : ∀ (l : List (Int × Int)) (m : Int × Int), (maxP m l = m ∨ maxP m l ∈ l) ∧ m.1 ≤ (maxP m l).1 ∧ ∀ x ∈ l, x.1 ≤ (maxP m l).1
  | [], m => ⟨.inl rfl, Int.le_refl _, fun x h => by cases h⟩
  | y :: r, m => by
    show (maxP (if leP y m then m else y) r = m ∨ maxP (if leP y m then m else y) r ∈ y :: r) ∧ m.1 ≤ (maxP (if leP y m then m else y) r).1 ∧ ∀ x ∈ y :: r, x.1 ≤ (maxP (if leP y m then m else y) r).1
    by_cases h : leP y m = true
    · rw [if_pos h]
      obtain ⟨h1, h2, h3⟩ := maxP_spec r m
      rw [leP_iff] at h
      refine ⟨?_, h2, fun x hx => ?_⟩
      · rcases h1 with h1 | h1
        · exact .inl h1
        · exact .inr (List.mem_cons_of_mem _ h1)
      · rcases List.mem_cons.mp hx with rfl | hx
        · omega
        · exact h3 x hx
    · rw [if_neg h]
      obtain ⟨h1, h2, h3⟩ := maxP_spec r y
      rw [leP_iff] at h
      refine ⟨?_, by omega, fun x hx => ?_⟩
      · rcases h1 with h1 | h1
        · rw [h1]
          exact .inr List.mem_cons_self
        · exact .inr (List.mem_cons_of_mem _ h1)
      · rcases List.mem_cons.mp hx with rfl | hx
        · exact h2
        · exact h3 x hx
theorem maxPO_spec {l : List (Int × Int)} (h : l ≠ []) : ∃ m, maxPO l = some m ∧ m ∈ l ∧ ∀ x ∈ l, x.1 ≤ m.1 := by
  cases l with
  | nil => exact absurd rfl h
  | cons y r =>
    obtain ⟨h1, h2, h3⟩ := maxP_spec r y
    refine ⟨maxP y r, rfl, ?_, fun x hx => ?_⟩
    · rcases h1 with h1 | h1
      · rw [h1]
        exact List.mem_cons_self
      · exact List.mem_cons_of_mem _ h1
    · rcases List.mem_cons.mp hx with rfl | hx
      · exact h2
      · exact h3 x hx
/-! ### tables -/
abbrev Tab := List (Int × (Int × Int))
/-- the table for s receipts -/
def TabOk (q : Nat → Int) (k n s : Nat) (T : Tab) : Prop := (s = 0 ∧ T = [(0, (0, 0))]) ∨ (1 ≤ s ∧ ∃ g : Nat → Nat, T = (List.range (n + 1)).map (fun l => (((l : Nat) : Int), (Lv q k (s - 1) l, (g l : Int)))) ∧
  ∀ l, 1 ≤ l → l ≤ n → g l < l ∧ (s = 1 → g l = 0) ∧ (2 ≤ s → Lv q k (s - 1) l = Lv q k (s - 2) (g l) + bl q k (g l) l))
theorem TabOk.get {q : Nat → Int} {k n s : Nat} {T : Tab} (h : TabOk q k n s T) (hs : 1 ≤ s) {l : Nat} (hl : l ≤ n) : ∃ f : Nat, dget T (l : Int) = some (Lv q k (s - 1) l, (f : Int)) ∧ (1 ≤ l → f < l ∧ (s = 1 → f = 0) ∧ (2 ≤ s → Lv q k (s - 1) l = Lv q k (s - 2) f + bl q k f l)) := by
  rcases h with ⟨h, _⟩ | ⟨_, g, rfl, hg⟩
  · omega
  · refine ⟨g l, ?_, fun h1 => hg l h1 hl⟩
    rw [dget_range0, if_pos (by omega)]
/-- the options for one end -/
theorem opts_eq {ps : List Int} {k n s l : Nat} {T : Tab} (h1 : 1 ≤ k) (h2 : k < 1073741824) (hn : n = ps.length) (hn2 : n ≤ 1000) (hT : TabOk (ql ps) k n s T) (hl1 : 1 ≤ l) (hl : l ≤ n) :
    forO (fun (x20 : Int) (s21 : (List (Int × Int))) => Option.bind (cond ((dget T x20).isSome) (Option.bind (dget T x20) fun x24 => Option.bind (F_block_saving ps (k : Int) x20 (l : Int)) fun x25 => Option.bind (appO s21 (((x24.1 + x25), x20))) fun x26 => some x26) (some s21)) fun s23 => some s23) ((List.range l).map fun i => ((i : Nat) : Int)) [] =
      some (if s = 0 then [(bl (ql ps) k 0 l, 0)] else (List.range l).map fun f => (Lv (ql ps) k (s - 1) f + bl (ql ps) k f l, ((f : Nat) : Int))) := by
  rcases hT with ⟨rfl, rfl⟩ | ⟨hs, g, rfl, hg⟩
  · rw [if_pos rfl]
    have e : (List.range l).map (fun i => ((i : Nat) : Int)) = 0 :: (List.range' 1 (l - 1)).map fun i => ((i : Nat) : Int) := by
      rw [List.range_eq_range', show l = l - 1 + 1 by omega, List.range'_succ]
      rfl
    rw [e]
    unfold forO
    have d0 : dget ([(0, (0, 0))] : Tab) 0 = some (0, 0) := rfl
    rw [d0]
    simp only [Option.isSome_some, cond_true, obs]
    have := F_block_eq (ps := ps) (k := k) (f := 0) (l := l) h1 h2 (Nat.zero_le _) (by omega)
    rw [show ((0 : Nat) : Int) = 0 from rfl] at this
    rw [this]
    simp only [obs]
    rw [appO_eq (by show 0 < LIM; unfold LIM; omega)]
    simp only [obs]
    rw [forO_fold (fun s _ => s) (fun _ => True) (fun x hx s _ => ⟨?_, trivial⟩) trivial]
    · have : ∀ (l : List Int) (s : List (Int × Int)), l.foldl (fun s _ => s) s = s := by
        intro l
        induction l with
        | nil => intro s; rfl
        | cons a l ih => intro s; exact ih s
      rw [this]
      simp
    · obtain ⟨j, hj, rfl⟩ := List.mem_map.mp hx
      rw [List.mem_range'_1] at hj
      have d1 : dget ([(0, (0, 0))] : Tab) ((j : Nat) : Int) = none := by
        show (if (0 : Int) = (j : Int) then _ else _) = _
        rw [if_neg (by omega)]
        rfl
      rw [d1]
      rfl
  · rw [if_neg (by omega)]
    rw [forO_app (fun f : Int => (Lv (ql ps) k (s - 1) f.toNat + bl (ql ps) k f.toNat l, f)) (fun x hx t ht => ?_) (by simp; exact lim_le (by omega)), List.map_map]
    · rfl
    · obtain ⟨j, hj, rfl⟩ := List.mem_map.mp hx
      rw [List.mem_range] at hj
      rw [dget_range0, if_pos (by omega)]
      simp only [Option.isSome_some, cond_true, obs]
      rw [F_block_eq h1 h2 (by omega) (by omega)]
      simp only [obs]
      rw [appO_eq ht]
      simp
theorem opts_max {q : Nat → Int} {k s l : Nat} (hl : 1 ≤ l) : ∃ (f : Nat), maxPO (if s = 0 then [(bl q k 0 l, 0)] else (List.range l).map fun f => (Lv q k (s - 1) f + bl q k f l, ((f : Nat) : Int))) = some (Lv q k s l, (f : Int)) ∧ f < l ∧ (s = 0 → f = 0) ∧ (1 ≤ s → Lv q k s l = Lv q k (s - 1) f + bl q k f l) := by
  by_cases hs : s = 0
  · subst hs
    rw [if_pos rfl]
    exact ⟨0, rfl, hl, fun _ => rfl, fun h => by omega⟩
  · rw [if_neg hs]
    obtain ⟨m, e, hm, hx⟩ := maxPO_spec (l := (List.range l).map fun f => (Lv q k (s - 1) f + bl q k f l, ((f : Nat) : Int))) (by
      intro z
      have := congrArg List.length z
      simp at this
      omega)
    obtain ⟨f, hf, rfl⟩ := List.mem_map.mp hm
    rw [List.mem_range] at hf
    have := Lv_opt q k (s - 1) hl ⟨f, hf, rfl⟩ fun g hg => hx _ (List.mem_map.mpr ⟨g, List.mem_range.mpr hg, rfl⟩)
    rw [show s - 1 + 1 = s by omega] at this
    have this' : Lv q k (s - 1) f + bl q k f l = Lv q k s l := this
    exact ⟨f, by rw [e, this'], hf, fun z => absurd z hs, fun _ => this'.symm⟩
/-- all tables -/
def TabsOk (q : Nat → Int) (k n r : Nat) (ts : List Tab) : Prop := ts.length = r + 1 ∧ ∀ s T, ts[s]? = some T → TabOk q k n s T
theorem TabsOk.last {q : Nat → Int} {k n r : Nat} {ts : List Tab} (h : TabsOk q k n r ts) : ∃ T, atD ts (-1) = some T ∧ TabOk q k n r T := by
  obtain ⟨h1, h2⟩ := h
  have hl : r < ts.length := by omega
  refine ⟨ts[r], ?_, h2 r _ (List.getElem?_eq_getElem hl)⟩
  unfold atD
  rw [ixOf_last (by omega)]
  have : ts.length - 1 = r := by omega
  simp only [this]
  exact List.getElem?_eq_getElem hl
theorem F_table_eq {b : List Int} {k r : Nat} (h1 : 1 ≤ k) (h2 : k < 1073741824) (hb : b.length ≤ 1000) (hr : r ≤ 1000) : ∃ ts, F_table_for b (k : Int) (r : Int) = some ts ∧ TabsOk (ql (pl b)) k b.length r ts := by
  have hl : b.length ≤ LIM := lim_le (by omega)
  have pll := pl_len b
  have key : ∃ ts, forO (fun (x9 : Int) (s10 : List Tab) => Option.bind (atD s10 (-1)) fun x12 => Option.bind (some ([(0, (0, 0))] : Tab)) fun x13 => Option.bind (rng2 1 (((pl b).length : Int) + 1)) fun x14 => Option.bind (forO (fun (x15 : Int) (s16 : Tab) => Option.bind (some (([] : (List (Int × Int))))) fun x18 => Option.bind (rng1 x15) fun x19 => Option.bind (forO (fun (x20 : Int) (s21 : (List (Int × Int))) => Option.bind (cond ((dget x12 x20).isSome) (Option.bind (dget x12 x20) fun x24 => Option.bind (F_block_saving (pl b) (k : Int) x20 x15) fun x25 => Option.bind (appO s21 (((x24.1 + x25), x20))) fun x26 => some x26) (some s21)) fun s23 => some s23) x19 x18) fun s27 => Option.bind (maxPO s27) fun x28 => Option.bind (dputO s16 x15 x28) fun x29 => some x29) x14 x13) fun s30 => Option.bind (appO s10 s30) fun x31 => some x31) ((List.range r).map fun i => ((i : Nat) : Int)) [[(0, (0, 0))]] = some ts ∧ TabsOk (ql (pl b)) k b.length r ts := by
    refine (forO_inv (I := fun i (ts : List Tab) => TabsOk (ql (pl b)) k b.length i ts) (n := 0) (xs := (List.range r).map fun i => ((i : Nat) : Int)) (fun i x hx ts hts => ?_) ⟨rfl, fun s T hT => by
      cases s with
      | zero =>
        cases hT
        exact .inl ⟨rfl, rfl⟩
      | succ s => simp at hT⟩).imp fun ts h => ⟨h.1, by simpa using h.2⟩
    · rw [Nat.zero_add] at hts ⊢
      have hi : i < r := by
        have := (List.getElem?_eq_some_iff.mp hx).1
        simpa using this
      obtain ⟨T, eT, okT⟩ := hts.last
      obtain ⟨U, eU, okU⟩ : ∃ U, forO (fun (x15 : Int) (s16 : Tab) => Option.bind (some (([] : (List (Int × Int))))) fun x18 => Option.bind (rng1 x15) fun x19 => Option.bind (forO (fun (x20 : Int) (s21 : (List (Int × Int))) => Option.bind (cond ((dget T x20).isSome) (Option.bind (dget T x20) fun x24 => Option.bind (F_block_saving (pl b) (k : Int) x20 x15) fun x25 => Option.bind (appO s21 (((x24.1 + x25), x20))) fun x26 => some x26) (some s21)) fun s23 => some s23) x19 x18) fun s27 => Option.bind (maxPO s27) fun x28 => Option.bind (dputO s16 x15 x28) fun x29 => some x29) ((List.range' 1 b.length).map fun i => ((i : Nat) : Int)) [(0, (0, 0))] = some U ∧ TabOk (ql (pl b)) k b.length (i + 1) U := by
        refine (forO_inv (I := fun j (U : Tab) => ∃ g : Nat → Nat, U = (List.range (j + 1)).map (fun l => (((l : Nat) : Int), (Lv (ql (pl b)) k i l, (g l : Int)))) ∧ ∀ l, 1 ≤ l → l ≤ j → g l < l ∧ (i + 1 = 1 → g l = 0) ∧ (2 ≤ i + 1 → Lv (ql (pl b)) k i l = Lv (ql (pl b)) k (i - 1) (g l) + bl (ql (pl b)) k (g l) l))
          (n := 0) (xs := (List.range' 1 b.length).map fun i => ((i : Nat) : Int)) (fun j y hy V hV => ?_) ⟨fun _ => 0, by
            simp [Lv_zero], fun l a c => by omega⟩).imp fun U h => ⟨h.1, .inr ⟨by omega, by simpa using h.2⟩⟩
        · rw [Nat.zero_add] at hV ⊢
          obtain ⟨g, rfl, hg⟩ := hV
          obtain ⟨hj, ey⟩ : j < b.length ∧ y = ((j + 1 : Nat) : Int) := by
            obtain ⟨hj, ey⟩ := List.getElem?_eq_some_iff.mp hy
            simp at hj ey
            exact ⟨hj, by omega⟩
          subst ey
          simp only [obs]
          rw [rng1_eq (lim_le (by omega))]
          simp only [obs]
          rw [opts_eq h1 h2 pll.symm hb okT (by omega) (by omega)]
          simp only [obs]
          obtain ⟨f, ef, f1, f2, f3⟩ := opts_max (q := ql (pl b)) (k := k) (s := i) (l := j + 1) (by omega)
          rw [ef]
          simp only [obs]
          refine ⟨(List.range (j + 1)).map (fun l => (((l : Nat) : Int), (Lv (ql (pl b)) k i l, (g l : Int)))) ++ [(((j + 1 : Nat) : Int), (Lv (ql (pl b)) k i (j + 1), (f : Int)))], ?_, fun l => if l = j + 1 then f else g l, ?_, fun l l1 l2 => ?_⟩
          · unfold dputO
            rw [if_pos (by simp; exact lim_lt (by omega)), obs, dput_new fun p hp => ?_]
            obtain ⟨l, hl, rfl⟩ := List.mem_map.mp hp
            rw [List.mem_range] at hl
            show (l : Int) ≠ _
            omega
          · rw [List.range_succ (n := j + 1), List.map_append]
            congr 1
            · refine List.map_congr_left fun l hl => ?_
              rw [List.mem_range] at hl
              have e : ¬ l = j + 1 := by omega
              simp only [e, if_false]
            · simp
          · by_cases e : l = j + 1
            · subst e
              simp only [if_true]
              refine ⟨f1, fun z => f2 (by omega), fun z => f3 (by omega)⟩
            · simp only [e, if_false]
              exact hg l l1 (by omega)
      have er : rng2 1 (((pl b).length : Int) + 1) = some ((List.range' 1 b.length).map fun i => ((i : Nat) : Int)) := by
        rw [pll, show ((b.length : Int) + 1) = ((b.length + 1 : Nat) : Int) by omega, show (1 : Int) = ((1 : Nat) : Int) from rfl, rng2_eq (lim_le (by omega)) (lim_le (by omega)), Nat.add_sub_cancel]
      rw [eT, obs, obs, er, obs, eU, obs]
      obtain ⟨l1, l2⟩ := hts
      rw [appO_eq (by rw [l1]; exact lim_lt (by omega))]
      refine ⟨_, rfl, by simp [l1], fun s V hV => ?_⟩
      by_cases e : s < ts.length
      · rw [List.getElem?_append_left e] at hV
        exact l2 s V hV
      · rw [List.getElem?_append_right (by omega)] at hV
        have : s - ts.length = 0 := by
          rcases Nat.eq_zero_or_pos (s - ts.length) with h | h
          · exact h
          · rw [List.getElem?_eq_none (by show 1 ≤ _; exact h)] at hV
            cases hV
        rw [this] at hV
        cases hV
        have : s = i + 1 := by omega
        rw [this]
        exact okU
  obtain ⟨ts, e, ok⟩ := key
  refine ⟨ts, ?_, ok⟩
  unfold F_table_for
  rw [F_row_of_eq hl, obs, prices_eq hl, obs, obs, rng1_eq (lim_le (by omega)), obs, e, obs]
theorem F_best_eq {b : List Int} {k r : Nat} (h1 : 1 ≤ k) (h2 : k < 1073741824) (hb1 : 1 ≤ b.length) (hb : b.length ≤ 1000) (hr1 : 1 ≤ r) : F_best_value b (k : Int) (r : Int) = some (A b k (min r b.length)) := by
  unfold F_best_value
  have em : min2 (r : Int) (b.length : Int) = ((min r b.length : Nat) : Int) := by
    unfold min2
    by_cases h : (b.length : Int) < (r : Int)
    · rw [if_pos h]
      omega
    · rw [if_neg h]
      omega
  rw [em]
  obtain ⟨ts, e, ok⟩ := F_table_eq (b := b) (k := k) (r := min r b.length) h1 h2 hb (by omega)
  rw [e]
  simp only [obs]
  obtain ⟨T, eT, okT⟩ := ok.last
  rw [eT]
  simp only [obs]
  obtain ⟨f, ef, _⟩ := okT.get (by omega) (Nat.le_refl b.length)
  rw [ef]
  simp only [obs]
  congr 1
  unfold A
  rw [qf_pl]
end DD.M

-- part ME
set_option Elab.async false
set_option linter.all false
set_option maxRecDepth 100000
/-! Checks, draws, baskets, equality. -/
namespace DD.M
open DD
open PySem (PyData)
/-! ### checks -/
theorem between_eq (v lo hi : Int) : F_is_between (cI.e v) lo hi = some (decide (lo ≤ v) && decide (v ≤ hi)) := by
  simp [F_is_between, cA, cI, isTy, intA]
structure Bk (b : List Int) (n : Nat) : Prop where
  pos : 1 ≤ b.length
  len : b.length ≤ n
  pr : ∀ x ∈ b, 1 ≤ x ∧ x ≤ 10000
theorem Bk.up {b : List Int} {n m : Nat} (h : Bk b n) (l : n ≤ m) : Bk b m := ⟨h.pos, Nat.le_trans h.len l, h.pr⟩
theorem Bk.nn {b : List Int} {n : Nat} (h : Bk b n) : ∀ x ∈ b, 0 ≤ x := fun x hx => by
  have := (h.pr x hx).1
  omega
theorem basket_eq {b : List Int} (h : Bk b 12) : F_is_basket ((cT cI).e b) = some true := by
  have h1 := h.pos
  have h2 := h.len
  have e1 : ([Ty.tuple].any (isTy (cA.e ((cT cI).e b)))) = true := rfl
  have e2 : lenA (cA.e ((cT cI).e b)) = some (b.length : Int) := by
    show some ((b.map cI.e).length : Int) = _
    rw [List.length_map]
  have e3 : DD.seqL (cA.e ((cT cI).e b)) = some (b.map cI.e) := rfl
  have e4 : (!(decide ((1 : Int) ≤ (b.length : Int)) && decide ((b.length : Int) ≤ 12))) = false := by
    simp
    omega
  have e5 : lcO (fun (x4 : PD) => Option.bind (F_is_between x4 1 10000) fun x7 => some (some x7)) (b.map cI.e) = some ((b.map cI.e).map fun _ => true) := by
    refine lcO_map (fun _ => true) (by rw [List.length_map]; exact lim_le (by omega)) fun x hx => ?_
    obtain ⟨y, hy, rfl⟩ := List.mem_map.mp hx
    have := h.pr y hy
    rw [between_eq, obs]
    simp
    exact this
  have e6 : ((b.map cI.e).map fun _ => true).all id = true := by
    rw [List.all_eq_true]
    intro x hx
    obtain ⟨_, _, rfl⟩ := List.mem_map.mp hx
    rfl
  have e2' : lenA ((cT cI).e b) = some (b.length : Int) := e2
  have e3' : DD.seqL ((cT cI).e b) = some (b.map cI.e) := e3
  unfold F_is_basket
  rw [e1, Bool.not_true, cond_false, e2', obs, e4, obs, cond_false, e3', obs, e5, obs, e6]
theorem check_basket_eq {b : List Int} (h : Bk b 12) : F_check_basket ((cT cI).e b) = some () := by
  unfold F_check_basket
  rw [basket_eq h]
  rfl
theorem size_eq {k : Nat} (h1 : 2 ≤ k) (h2 : k ≤ 6) : F_is_size (cI.e (k : Int)) = some true := by
  unfold F_is_size
  rw [between_eq]
  simp
  omega
theorem offer_eq {b : List Int} {k : Nat} (h : Bk b 12) (h1 : 2 ≤ k) (h2 : k ≤ 6) : F_check_offer ((cT cI).e b) (cI.e (k : Int)) = some () := by
  unfold F_check_offer
  rw [check_basket_eq h, obs, size_eq h1 h2]
  rfl
theorem receipts_eq {r : Nat} (h1 : 1 ≤ r) (h2 : r ≤ 12) : F_check_receipts (cI.e (r : Int)) = some () := by
  unfold F_check_receipts
  rw [between_eq]
  have : (decide ((1 : Int) ≤ (r : Int)) && decide ((r : Int) ≤ 12)) = true := by
    simp
    omega
  rw [this]
  rfl
theorem saving_eq {v : Int} (h1 : 0 ≤ v) (h2 : v ≤ 1000000) : F_check_saving (cI.e v) = some () := by
  unfold F_check_saving
  rw [between_eq]
  have : (decide ((0 : Int) ≤ v) && decide (v ≤ 1000000)) = true := by
    simp
    omega
  rw [this]
  rfl
/-! ### draws -/
def SrcOk (T : Int) (s : Sc) : Prop := 0 ≤ s.2.1 ∧ s.2.1 < 2147483648 ∧ 0 ≤ s.2.2 ∧ s.2.2 ≤ T
theorem SrcOk.up {T U : Int} {s : Sc} (h : SrcOk T s) (l : T ≤ U) : SrcOk U s := ⟨h.1, h.2.1, h.2.2.1, Int.le_trans h.2.2.2 l⟩
theorem source_ok (c : Int) {t : Int} (ht : 0 ≤ t) : ∃ s, F_law_source c t = some s ∧ SrcOk t s := by
  have e1 : 0 ≤ c % 2147483579 := Int.emod_nonneg _ (by decide)
  have e2 : c % 2147483579 < 2147483579 := Int.emod_lt_of_pos _ (by decide)
  refine ⟨_, rfl, ?_⟩
  by_cases h : (10 : Int) ^ 18 ≤ c
  · rw [if_pos h]
    exact ⟨e1, by show c % 2147483579 < 2147483648; omega, ht, Int.le_refl _⟩
  · rw [if_neg h]
    exact ⟨e1, by show c % 2147483579 < 2147483648; omega, ht, Int.le_refl _⟩
theorem draw_ok {T : Int} {s : Sc} (h : SrcOk T s) (hT : T ≤ 10000000000) {n : Nat} (h1 : 1 ≤ n) (h2 : n < 1073741824) : ∃ (r : Nat) (s' : Sc), F_law_draw s (n : Int) = some ((r : Int), s') ∧ r < n ∧ SrcOk (T + 1) s' := by
  obtain ⟨a1, a2, a3, a4⟩ := h
  unfold F_law_draw
  rw [if_pos (by omega)]
  by_cases hD : 1 < s.1
  · rw [if_pos hD]
    have p1 : 0 ≤ s.1 % (n : Int) := Int.emod_nonneg _ (by omega)
    have p2 : s.1 % (n : Int) < n := Int.emod_lt_of_pos _ (by omega)
    refine ⟨(s.1 % (n : Int)).toNat, (s.1 / (n : Int), s.2.1, s.2.2), ?_, by omega, a1, a2, a3, ?_⟩
    · rw [show (((s.1 % (n : Int)).toNat : Nat) : Int) = s.1 % (n : Int) by omega]
    · show s.2.2 ≤ T + 1
      omega
  · rw [if_neg hD, if_pos ⟨a1, a2, a3, by omega⟩]
    have p1 : 0 ≤ drawn s % (n : Int) := Int.emod_nonneg _ (by omega)
    have p2 : drawn s % (n : Int) < n := Int.emod_lt_of_pos _ (by omega)
    refine ⟨(drawn s % (n : Int)).toNat, (s.1, s.2.1, s.2.2 + 1), ?_, by omega, a1, a2, ?_, ?_⟩
    · rw [show (((drawn s % (n : Int)).toNat : Nat) : Int) = drawn s % (n : Int) by omega]
    · show 0 ≤ s.2.2 + 1
      omega
    · show s.2.2 + 1 ≤ T + 1
      omega
theorem choice_ok {T : Int} {s : Sc} (h : SrcOk T s) (hT : T ≤ 10000000000) {xs : List Int} (h1 : xs ≠ []) (h2 : xs.length ≤ 1000) : ∃ x ∈ xs, ∃ s', F_law_choice_Li s xs = some (x, s') ∧ SrcOk (T + 1) s' := by
  have hp : 1 ≤ xs.length := List.length_pos_iff.mpr h1
  obtain ⟨r, s', e, hr, ok⟩ := draw_ok h hT hp (by omega)
  unfold F_law_choice_Li
  rw [e, obs, atD_nat hr, obs]
  exact ⟨_, List.getElem_mem hr, _, rfl, ok⟩
/-- items that are drawn -/
theorem lcS_inv {α β σ : Type} {g : α → σ → Option (Option β × σ)} (I : Nat → σ → Prop) (Q : β → Prop) : ∀ {xs : List α} {s : σ} {n : Nat}, (∀ i x, xs[i]? = some x → ∀ s, I (n + i) s → ∃ y s', g x s = some (some y, s') ∧ Q y ∧ I (n + i + 1) s') → I n s → ∃ ys s', lcGo g xs s = some (ys, s') ∧ ys.length = xs.length ∧ (∀ y ∈ ys, Q y) ∧ I (n + xs.length) s'
  | [], s, n, _, i => ⟨[], s, rfl, rfl, (fun y h => by cases h), i⟩
  | x :: xs, s, n, h, i => by
    obtain ⟨y, s1, e1, q1, i1⟩ := h 0 x rfl s i
    obtain ⟨ys, s2, e2, l2, q2, i2⟩ := lcS_inv I Q (xs := xs) (s := s1) (n := n + 1) (fun j z hz s hs => by
      have := h (j + 1) z hz s (by rw [show n + (j + 1) = n + 1 + j by omega]; exact hs)
      rw [show n + (j + 1) + 1 = n + 1 + j + 1 by omega] at this
      exact this) i1
    refine ⟨y :: ys, s2, ?_, by simp [l2], fun z hz => ?_, ?_⟩
    · unfold lcGo
      rw [e1, obs]
      show Option.bind (lcGo g xs s1) _ = _
      rw [e2, obs]
      rfl
    · rcases List.mem_cons.mp hz with rfl | hz
      · exact q1
      · exact q2 z hz
    · rw [List.length_cons, show n + (xs.length + 1) = n + 1 + xs.length by omega]
      exact i2
theorem lcS_eq {α β σ : Type} {g : α → σ → Option (Option β × σ)} {xs : List α} {s : σ} (h : xs.length ≤ LIM) : lcS g xs s = lcGo g xs s := if_pos h
theorem law_basket_ok {T : Int} {s : Sc} (h : SrcOk T s) (hT : T ≤ 9000000000) {n : Nat} (h1 : 1 ≤ n) (h2 : n ≤ 100) : ∃ b s', F_law_basket s (n : Int) = some (b, s') ∧ Bk b n ∧ SrcOk (T + 1000) s' := by
  obtain ⟨w, hw, s1, e1, ok1⟩ := choice_ok h (by omega) (xs := [3, 9, 60, 10000]) (by simp) (by simp)
  obtain ⟨r, s2, e2, hr, ok2⟩ := draw_ok ok1 (by omega) h1 (by omega)
  have hw' : ∃ w' : Nat, w = (w' : Int) ∧ 1 ≤ w' ∧ w' ≤ 10000 := by
    simp at hw
    rcases hw with rfl | rfl | rfl | rfl
    · exact ⟨3, rfl, by omega, by omega⟩
    · exact ⟨9, rfl, by omega, by omega⟩
    · exact ⟨60, rfl, by omega, by omega⟩
    · exact ⟨10000, rfl, by omega, by omega⟩
  obtain ⟨w', rfl, w1, w2⟩ := hw'
  unfold F_law_basket
  rw [e1, obs]
  show ∃ b s', (Option.bind (F_law_draw s1 (n : Int)) _) = _ ∧ _
  rw [e2, obs]
  show ∃ b s', (Option.bind (rng1 (1 + (r : Int))) _) = _ ∧ _
  rw [show (1 + (r : Int)) = ((r + 1 : Nat) : Int) by omega, rng1_eq (lim_le (by omega)), obs]
  obtain ⟨ys, s3, e3, l3, q3, ok3⟩ := lcS_inv (g := fun (x4 : Int) (s6 : Sc) => Option.bind (F_law_draw s6 (w' : Int)) fun p7 => some (some ((1 + p7.1)), p7.2)) (fun i s => SrcOk (T + 1 + 1 + i) s) (fun y => 1 ≤ y ∧ y ≤ 10000) (xs := (List.range (r + 1)).map fun i => ((i : Nat) : Int)) (s := s2) (n := 0) (fun i x hx s hs => by
    have hi : i < r + 1 := by
      have := (List.getElem?_eq_some_iff.mp hx).1
      simpa using this
    obtain ⟨d, s', e, hd, ok⟩ := draw_ok hs (by omega) w1 (by omega)
    refine ⟨1 + (d : Int), s', ?_, by omega, ok.up (by omega)⟩
    rw [e, obs]) (ok2.up (by omega))
  rw [lcS_eq (by simp; exact lim_le (by omega))]
  show ∃ b s', (Option.bind (lcGo (fun (x4 : Int) (s6 : Sc) => Option.bind (F_law_draw s6 (w' : Int)) fun p7 => some (some ((1 + p7.1)), p7.2)) _ s2) _) = _ ∧ _
  rw [e3, obs]
  simp at l3 ok3
  refine ⟨ys, s3, rfl, ⟨by omega, by omega, q3⟩, ok3.up (by omega)⟩
/-! ### equality -/
mutual
theorem eqT_refl : ∀ d : PD, d.canLay0 = true → eqT d d = true
  | .none, _ => rfl
  | .bool b, _ => by simp [eqT]
  | .int i, _ => by simp [eqT]
  | .str s, _ => by simp [eqT]
  | .list xs, h => by
    simp only [eqT]
    exact eqTs_refl xs (by simpa [PyData.canLay0] using h)
  | .tuple xs, h => by
    simp only [eqT]
    exact eqTs_refl xs (by simpa [PyData.canLay0] using h)
  | .dict _, h => by simp [PyData.canLay0] at h
theorem eqTs_refl : ∀ ds : List PD, PyData.canLayAll0 ds = true → eqTs ds ds = true
  | [], _ => rfl
  | d :: ds, h => by
    simp only [PyData.canLayAll0, Bool.and_eq_true] at h
    simp only [eqTs, eqT_refl d h.1, eqTs_refl ds h.2, Bool.and_self]
end
theorem equal_same {d : PD} (h1 : d.canLay0 = true) (h2 : d.depth ≤ 5) (h3 : okD d = true) : F_law_equal d d = some true := by
  unfold F_law_equal
  rw [if_pos ⟨h2, by omega, h1, h1, h3⟩, eqT_refl d h1]
theorem equal_int (i j : Int) : F_law_equal (cI.e i) (cI.e j) = some (decide (i = j)) := by
  unfold F_law_equal
  rw [if_pos (by simp [cI, PyData.depth, PyData.canLay0, okD])]
  simp [cI, eqT]
theorem equal_bool (i j : Bool) : F_law_equal (cB.e i) (cB.e j) = some (i == j) := by
  unfold F_law_equal
  rw [if_pos (by simp [cB, PyData.depth, PyData.canLay0, okD])]
  simp [cB, eqT]
theorem okDs_int : ∀ xs : List Int, okDs (xs.map cI.e) = true
  | [] => rfl
  | x :: xs => by
    simp only [List.map_cons, okDs, okDs_int xs, Bool.and_true]
    rfl
theorem equal_ints {xs : List Int} (h : xs.length ≤ LIM) : F_law_equal ((cL cI).e xs) ((cL cI).e xs) = some true :=
  equal_same (COk.lay (c := cL cI) xs) (Nat.le_trans (COk.dep (c := cL cI) xs) (by decide)) (by
    show okD (.list (xs.map cI.e)) = true
    simp only [okD, okDs_int, List.length_map, h, decide_true, Bool.and_self])
theorem equal_oint (o : Option Int) : F_law_equal ((cO cI).e o) ((cO cI).e o) = some true := by
  cases o with
  | none => exact equal_same (by simp [cO, PyData.canLay0]) (by simp [cO, PyData.depth]) rfl
  | some x => exact equal_same (by simp [cO, cI, PyData.canLay0]) (by simp [cO, cI, PyData.depth]) rfl
/-! ### bounds of savings -/
theorem low_nonneg {f : Nat} {l : List Int} (h : ∀ x ∈ l, 0 ≤ x) : 0 ≤ low f l := by
  have : ∀ m : List Int, (∀ x ∈ m, 0 ≤ x) → 0 ≤ m.sum := by
    intro m
    induction m with
    | nil => intro _; exact Int.le_refl _
    | cons a m ih =>
      intro h
      have := h a List.mem_cons_self
      have := ih fun x hx => h x (List.mem_cons_of_mem _ hx)
      rw [List.sum_cons]
      omega
  refine this _ fun x hx => h x ((sortI_perm l).mem_iff.mp (List.mem_of_mem_take hx))
theorem sum_nonneg {m : List Int} (h : ∀ x ∈ m, 0 ≤ x) : 0 ≤ m.sum := by
  induction m with
  | nil => exact Int.le_refl _
  | cons a m ih =>
    have := h a List.mem_cons_self
    have := ih fun x hx => h x (List.mem_cons_of_mem _ hx)
    rw [List.sum_cons]
    omega
theorem sum_perm {l m : List Int} (h : l.Perm m) : l.sum = m.sum := by
  induction h with
  | nil => rfl
  | cons x _ ih => rw [List.sum_cons, List.sum_cons, ih]
  | swap x y l =>
    simp only [List.sum_cons]
    omega
  | trans _ _ h1 h2 => rw [h1, h2]
theorem low_le_sum {f : Nat} {l : List Int} (h : ∀ x ∈ l, 0 ≤ x) : low f l ≤ l.sum := by
  have e := sum_perm (sortI_perm l)
  have e2 : (sortI l).sum = ((sortI l).take f).sum + ((sortI l).drop f).sum := by
    rw [← List.sum_append, List.take_append_drop]
  unfold low
  have : 0 ≤ ((sortI l).drop f).sum := sum_nonneg fun x hx => h x ((sortI_perm l).mem_iff.mp (List.mem_of_mem_drop hx))
  omega
theorem si_nonneg {r : Nat} {f : Nat → Int} (h : ∀ j, j < r → 0 ≤ f j) : 0 ≤ si r f := by
  have := si_le (r := r) (f := fun _ => 0) h
  rwa [si_zeros] at this
theorem pr_mem {b : List Int} {i : Nat} (h : i < b.length) : pr b i ∈ b := by
  unfold pr
  rw [List.getD, List.getElem?_eq_getElem h]
  exact List.getElem_mem h
theorem P_lt {c : Nat → Nat} {j n i : Nat} (h : i ∈ P c j n) : i < n ∧ c i = j := by
  unfold P at h
  rw [List.mem_filter, List.mem_range] at h
  simpa using h
theorem sav_nonneg {b : List Int} (h : ∀ x ∈ b, 0 ≤ x) (k : Nat) (c : Nat → Nat) (r : Nat) : 0 ≤ sav b k c r := by
  refine si_nonneg fun j _ => low_nonneg fun x hx => ?_
  obtain ⟨i, hi, rfl⟩ := List.mem_map.mp hx
  exact h _ (pr_mem (P_lt hi).1)
theorem pr_range (b : List Int) : (List.range b.length).map (pr b) = b := by
  refine List.ext_getElem (by simp) fun i h1 h2 => ?_
  simp [pr, List.getD]
  rw [List.getElem?_eq_getElem h2]
  rfl
theorem sav_le_sum {b : List Int} (h : ∀ x ∈ b, 0 ≤ x) {k r : Nat} {c : Nat → Nat} (hc : ∀ i, i < b.length → c i < r) : sav b k c r ≤ b.sum := by
  have h1 : sav b k c r ≤ si r fun j => ((P c j b.length).map (pr b)).sum := by
    refine si_le fun j _ => low_le_sum fun x hx => ?_
    obtain ⟨i, hi, rfl⟩ := List.mem_map.mp hx
    exact h _ (pr_mem (P_lt hi).1)
  have h2 := flat (pr b) c (fun _ => 0) r b.length hc
  have e1 : (fun j => (((List.range b.length).filter fun y => decide (c y = j ∧ 0 ≤ N c j y)).map (pr b)).sum) = fun j => ((P c j b.length).map (pr b)).sum := by
    funext j
    unfold P
    simp
  have e2 : (List.range b.length).filter (fr c fun _ => 0) = List.range b.length := by
    rw [List.filter_eq_self]
    intro y _
    simp [fr]
  rw [e1, e2, pr_range] at h2
  omega
theorem A_nonneg {b : List Int} (h : ∀ x ∈ b, 0 ≤ x) (k : Nat) {r : Nat} (hr : 1 ≤ r) : 0 ≤ A b k r := by
  obtain ⟨c, _, e⟩ := A_att b k hr
  rw [← e]
  exact sav_nonneg h k c r
theorem A_le_sum {b : List Int} (h : ∀ x ∈ b, 0 ≤ x) (k : Nat) {r : Nat} (hr : 1 ≤ r) : A b k r ≤ b.sum := by
  obtain ⟨c, hc, e⟩ := A_att b k hr
  rw [← e]
  exact sav_le_sum h fun i _ => hc i
theorem A_mono (b : List Int) (k : Nat) {r s : Nat} (h : r ≤ s) : A b k r ≤ A b k s := Lv_mono _ _ _ (by omega)
theorem sum_le {b : List Int} {M : Int} (h : ∀ x ∈ b, x ≤ M) : b.sum ≤ M * b.length := by
  induction b with
  | nil => simp
  | cons a b ih =>
    have := h a List.mem_cons_self
    have := ih fun x hx => h x (List.mem_cons_of_mem _ hx)
    rw [List.sum_cons, List.length_cons]
    have e : M * ((b.length + 1 : Nat) : Int) = M * (b.length : Int) + M := by
      rw [Int.natCast_add, Int.mul_add]
      simp
    rw [e]
    omega
theorem Bk.sum {b : List Int} {n : Nat} (h : Bk b n) : b.sum ≤ 10000 * n := by
  have h1 := sum_le (b := b) (M := 10000) fun x hx => (h.pr x hx).2
  have h2 := h.len
  omega
theorem F_greatest_eq {b : List Int} {k r : Nat} (h : Bk b 12) (k1 : 2 ≤ k) (k2 : k ≤ 6) (r1 : 1 ≤ r) (r2 : r ≤ 12) : F_greatest_saving b (k : Int) (r : Int) = some (A b k (min r b.length)) := by
  unfold F_greatest_saving
  have := h.len
  rw [offer_eq h k1 k2, obs, receipts_eq r1 r2, obs, F_best_eq (by omega) (by omega) h.pos (by omega) r1, obs]
/-- all greatest savings -/
def vals (b : List Int) (k : Nat) : List Int := (List.range b.length).map fun t => A b k (t + 1)
theorem vals_len (b : List Int) (k : Nat) : (vals b k).length = b.length := by simp [vals]
theorem vals_get {b : List Int} {k t : Nat} (h : t < b.length) : (vals b k)[t]? = some (A b k (t + 1)) := by simp [vals, h]
theorem F_all_eq {b : List Int} {k : Nat} (h1 : 1 ≤ k) (h2 : k < 1073741824) (hb1 : 1 ≤ b.length) (hb : b.length ≤ 1000) : F_all_values b (k : Int) = some (vals b k) := by
  unfold F_all_values
  obtain ⟨ts, e, l, ok⟩ := F_table_eq (b := b) (k := k) (r := b.length) h1 h2 hb hb
  rw [e, obs]
  have ec : cutD ts (some 1) none = ts.drop 1 := cut_from (a := 1) (by omega)
  rw [ec, lcO_map (xs := ts.drop 1) (fun T => ((dget T (b.length : Int)).getD (0, 0)).1) (by rw [List.length_drop]; exact lim_le (by omega)) (fun T hT => ?_), obs]
  · congr 1
    refine List.ext_getElem (by simp [l, vals]) fun i i1 i2 => ?_
    simp at i1
    have okT := ok (i + 1) ts[i + 1] (List.getElem?_eq_getElem (by omega))
    obtain ⟨f, ef, _⟩ := okT.get (by omega) (Nat.le_refl b.length)
    simp [ef, vals]
    unfold A
    rw [qf_pl]
    rfl
  · obtain ⟨i, hi, rfl⟩ := List.mem_iff_getElem.mp hT
    simp at hi
    rw [List.getElem_drop]
    have okT := ok (1 + i) ts[1 + i] (List.getElem?_eq_getElem (by omega))
    obtain ⟨f, ef, _⟩ := okT.get (by omega) (Nat.le_refl b.length)
    rw [ef]
    rfl
theorem F_law_best_vals {b : List Int} {k : Nat} (h : Bk b 12) (k1 : 2 ≤ k) (k2 : k ≤ 6) : F_law_best b (k : Int) = some (vals b k) := by
  have := h.len
  exact F_law_best_eq (by omega) (by omega) h.pos (by omega)
end DD.M

-- part MF
set_option Elab.async false
set_option linter.all false
set_option maxRecDepth 100000
/-! Cells of a script; lists of greatest savings. -/
namespace DD.M
open DD
theorem cells_then {β γ : Type} {ns : List Int} {m : Option Int} {step : Int → Unit → Option (Stp Unit β)} {K : Unit → Option γ} {G : β → Option γ} {r : Option γ} (hn : ns.length ≤ 63) (h : ∀ c, step c () = some (.nx ())) (hk : K () = r) : (Option.bind (catO [0] ns) fun x1 => Option.bind (forX step (cutD x1 none m) ()) fun t => Stp.fin t K G) = r := by
  rw [catO_eq (by show 1 + ns.length ≤ LIM; exact lim_le (by omega)), obs]
  exact forX_then (fun _ _ => True) (fun i x _ s _ => ⟨(), h x, trivial⟩) trivial (fun _ _ => hk)
theorem forO_thenZ {α σ γ : Type} (Z : Option γ → Prop) {step : α → σ → Option σ} {xs : List α} {s : σ} {K : σ → Option γ} (I : Nat → σ → Prop) (h : ∀ i x, xs[i]? = some x → ∀ s, I i s → ∃ s', step x s = some s' ∧ I (i + 1) s') (i0 : I 0 s) (hk : ∀ s', I xs.length s' → Z (K s')) : Z ((forO step xs s).bind K) := by
  obtain ⟨s', e, i⟩ := forO_inv (step := step) I (n := 0) (xs := xs) (s := s) (fun i x hx s hs => by
    rw [Nat.zero_add] at hs ⊢
    exact h i x hx s hs) i0
  rw [e]
  rw [Nat.zero_add] at i
  exact hk s' i
theorem forX_thenZ {α σ β γ : Type} (Z : Option γ → Prop) {step : α → σ → Option (Stp σ β)} {xs : List α} {s : σ} {K : σ → Option γ} {G : β → Option γ} (I : Nat → σ → Prop) (h : ∀ i x, xs[i]? = some x → ∀ s, I i s → ∃ s', step x s = some (.nx s') ∧ I (i + 1) s') (i0 : I 0 s) (hk : ∀ s', I xs.length s' → Z (K s')) : Z ((forX step xs s).bind fun t => Stp.fin t K G) := by
  obtain ⟨s', e, i⟩ := forX_inv (step := step) I (n := 0) (xs := xs) (s := s) (fun i x hx s hs => by
    rw [Nat.zero_add] at hs ⊢
    exact h i x hx s hs) i0
  rw [e]
  rw [Nat.zero_add] at i
  exact hk s' i
/-- a size that is drawn -/
theorem size_ok {T : Int} {s : Sc} (h : SrcOk T s) (hT : T ≤ 9000000000) {n : Nat} (h1 : 1 ≤ n) (h2 : n ≤ 5) : ∃ (k : Nat) (s' : Sc), F_law_draw s (n : Int) = some ((k : Int) - 2, s') ∧ 2 ≤ k ∧ k ≤ n + 1 ∧ SrcOk (T + 1) s' := by
  obtain ⟨r, s', e, hr, ok⟩ := draw_ok h (by omega) h1 (by omega)
  refine ⟨r + 2, s', ?_, by omega, by omega, ok⟩
  rw [e]
  congr 2
  omega
theorem vals_lim (b : List Int) (k : Nat) {n : Nat} (h : Bk b 12) : (vals b k).length ≤ LIM := by
  have := h.len
  rw [vals_len]
  exact lim_le (by omega)
theorem vals_last {b : List Int} {k : Nat} (h : 1 ≤ b.length) : atD (vals b k) (-1) = some (A b k b.length) := by
  unfold atD
  rw [vals_len, ixOf_last h]
  simp only
  rw [vals_get (by omega), show b.length - 1 + 1 = b.length by omega]
theorem vals_mono {b : List Int} {k i j : Nat} {x y : Int} (h : i ≤ j) (hi : (vals b k)[i]? = some x) (hj : (vals b k)[j]? = some y) : x ≤ y := by
  have h1 : i < b.length := by
    have := (List.getElem?_eq_some_iff.mp hi).1
    rwa [vals_len] at this
  have h2 : j < b.length := by
    have := (List.getElem?_eq_some_iff.mp hj).1
    rwa [vals_len] at this
  rw [vals_get h1] at hi
  rw [vals_get h2] at hj
  cases hi
  cases hj
  exact A_mono b k (by omega)
theorem vals_bound {b : List Int} {k : Nat} (h : Bk b 12) {x : Int} (hx : x ∈ vals b k) : 0 ≤ x ∧ x ≤ 120000 := by
  unfold vals at hx
  obtain ⟨t, _, rfl⟩ := List.mem_map.mp hx
  have h1 := A_nonneg h.nn k (r := t + 1) (by omega)
  have h2 := A_le_sum h.nn k (r := t + 1) (by omega)
  have h3 := h.sum
  omega
end DD.M

-- part L07
set_option Elab.async false
set_option linter.all false
set_option maxRecDepth 100000
/-! The law k07. -/
namespace DD.M
open DD
/-- the trade-offs, as both tell them -/
def cutV (vs : List Int) (m : Int) : List Int := vs.take ((vs.idxOf? m).getD 0 + 1)
theorem F_trade_eq {b : List Int} {k : Nat} (h : Bk b 12) (k1 : 2 ≤ k) (k2 : k ≤ 6) : F_trade_off b (k : Int) = some (cutV (vals b k) (A b k b.length)) := by
  have hl := h.len
  have hp := h.pos
  unfold F_trade_off
  rw [offer_eq h k1 k2, obs, F_all_eq (by omega) (by omega) hp (by omega), obs, vals_last hp, obs]
  have hm : A b k b.length ∈ vals b k := List.mem_of_getElem? (i := b.length - 1) (by rw [vals_get (by omega), show b.length - 1 + 1 = b.length by omega])
  cases e : (vals b k).idxOf? (A b k b.length) with
  | none =>
    rw [List.idxOf?_eq_none_iff] at e
    exact absurd hm e
  | some i =>
    rw [obs]
    have hi : i < (vals b k).length := by
      rw [List.idxOf?_eq_some_iff] at e
      exact e.1
    rw [show ((i : Int) + 1) = ((i + 1 : Nat) : Int) by omega, cut_to (by omega)]
    unfold cutV
    rw [e]
    rfl
theorem enumL_get {α : Type} (xs : List α) (i : Nat) : (enumL xs)[i]? = xs[i]?.map fun x => ((i : Int), x) := by
  unfold enumL
  rw [List.getElem?_zipWith]
  by_cases h : i < xs.length
  · rw [List.getElem?_range h, List.getElem?_eq_getElem h]
    rfl
  · rw [List.getElem?_eq_none (by simpa using h), List.getElem?_eq_none (l := xs) (by omega)]
    rfl
theorem enumL_snoc {α : Type} (xs : List α) (x : α) : enumL (xs ++ [x]) = enumL xs ++ [((xs.length : Int), x)] := by
  refine List.ext_getElem? fun i => ?_
  rw [enumL_get]
  by_cases h : i < xs.length
  · rw [List.getElem?_append_left h, List.getElem?_append_left (by rw [enumL_len]; exact h), enumL_get]
  · rw [List.getElem?_append_right (by omega), List.getElem?_append_right (by rw [enumL_len]; omega), enumL_len]
    by_cases h2 : i = xs.length
    · subst h2
      simp
    · rw [List.getElem?_eq_none (by simp; omega), List.getElem?_eq_none (by simp; omega)]
      rfl
/-- the expected trade-offs -/
theorem expect_eq {b : List Int} {k : Nat} (hp : 1 ≤ b.length) : (enumL (vals b k)).filterMap (fun x : Int × Int => if x.1 = 0 ∨ ((vals b k).getD (x.1 - 1).toNat 0) < A b k b.length then some x.2 else none) = cutV (vals b k) (A b k b.length) := by
  have hm : A b k b.length ∈ vals b k := List.mem_of_getElem? (i := b.length - 1) (by rw [vals_get (by omega), show b.length - 1 + 1 = b.length by omega])
  cases e : (vals b k).idxOf? (A b k b.length) with
  | none =>
    rw [List.idxOf?_eq_none_iff] at e
    exact absurd hm e
  | some j =>
    obtain ⟨hj, h1, h2⟩ := List.idxOf?_eq_some_iff.mp e
    have key : ∀ n, n ≤ (vals b k).length → ((enumL (vals b k)).take n).filterMap (fun x : Int × Int => if x.1 = 0 ∨ ((vals b k).getD (x.1 - 1).toNat 0) < A b k b.length then some x.2 else none) = (vals b k).take (min n (j + 1)) := by
      intro n
      induction n with
      | zero => intro _; simp
      | succ n ih =>
        intro hn
        have hn' : n < (enumL (vals b k)).length := by rw [enumL_len]; omega
        rw [List.take_succ_eq_append_getElem hn', List.filterMap_append, ih (by omega)]
        have eg : (enumL (vals b k))[n] = ((n : Int), (vals b k)[n]) := by
          have := enumL_get (vals b k) n
          rw [List.getElem?_eq_getElem hn', List.getElem?_eq_getElem (by omega)] at this
          exact Option.some.inj this
        rw [eg]
        by_cases hc : n ≤ j
        · have ht : ((n : Int) = 0 ∨ ((vals b k).getD ((n : Int) - 1).toNat 0) < A b k b.length) := by
            by_cases h0 : n = 0
            · exact .inl (by omega)
            · right
              have e1 : ((n : Int) - 1).toNat = n - 1 := by omega
              have hlt : n - 1 < (vals b k).length := by omega
              rw [e1, List.getD, List.getElem?_eq_getElem hlt]
              have hne : (vals b k)[n - 1] ≠ A b k b.length := by
                have := h2 (n - 1) (by omega)
                simpa using this
              have hle := vals_mono (b := b) (k := k) (i := n - 1) (j := b.length - 1) (by rw [vals_len] at hlt; omega) (List.getElem?_eq_getElem hlt) (y := A b k b.length) (by rw [vals_get (by omega), show b.length - 1 + 1 = b.length by omega])
              simp only [Option.getD_some]
              omega
          have e2 : min (n + 1) (j + 1) = n + 1 := by omega
          have e3 : min n (j + 1) = n := by omega
          rw [e2, e3, List.take_succ_eq_append_getElem (by omega)]
          simp only [List.filterMap_cons, List.filterMap_nil]
          rw [if_pos ht]
        · have ht : ¬ ((n : Int) = 0 ∨ ((vals b k).getD ((n : Int) - 1).toNat 0) < A b k b.length) := by
            rintro (h0 | h0)
            · omega
            · have e1 : ((n : Int) - 1).toNat = n - 1 := by omega
              have hlt : n - 1 < (vals b k).length := by omega
              rw [e1, List.getD, List.getElem?_eq_getElem hlt] at h0
              have hle := vals_mono (b := b) (k := k) (i := j) (j := n - 1) (by omega) (List.getElem?_eq_getElem hj) (List.getElem?_eq_getElem hlt)
              have he : (vals b k)[j] = A b k b.length := by simpa using h1
              simp only [Option.getD_some] at h0
              omega
          have e2 : min (n + 1) (j + 1) = min n (j + 1) := by omega
          rw [e2]
          simp only [List.filterMap_cons, List.filterMap_nil]
          rw [if_neg ht, List.append_nil]
    have := key (vals b k).length (Nat.le_refl _)
    rw [List.take_of_length_le (by rw [enumL_len]; exact Nat.le_refl _)] at this
    rw [this]
    unfold cutV
    rw [e]
    simp only [Option.getD_some]
    congr 1
    omega
/-- the first number with a wished saving -/
def firstN (vs : List Int) (w : Int) : Option Int := (((enumL vs).filter fun x : Int × Int => decide (w ≤ x.2)).map fun x => x.1 + 1)[0]?
theorem first_eq (l : List Int) : (cond (!decide (l = [])) (Option.bind (atD l 0) fun x8 => some (some x8)) (some (none : Option Int))) = some l[0]? := by
  cases l with
  | nil => rfl
  | cons a l =>
    have : atD (a :: l) 0 = some a := atD_nat (i := 0) (by simp)
    rw [this]
    rfl
theorem F_fewest_eq {b : List Int} {k : Nat} (h : Bk b 12) (k1 : 2 ≤ k) (k2 : k ≤ 6) {w : Int} (w1 : 0 ≤ w) (w2 : w ≤ 1000000) : F_fewest_receipts b (k : Int) w = some (firstN (vals b k) w) := by
  have hl := h.len
  unfold F_fewest_receipts
  rw [offer_eq h k1 k2, obs, saving_eq w1 w2, obs, F_all_eq (by omega) (by omega) h.pos (by omega), obs, lcF_eq (by rw [enumL_len, vals_len]; exact lim_le (by omega)), obs, first_eq, obs]
  rfl
theorem cutV_sorted {b : List Int} {k : Nat} (m : Int) : sortI (cutV (vals b k) m) = cutV (vals b k) m := by
  refine (sortI_one (.refl _) ?_).symm
  have : (vals b k).Pairwise (· ≤ ·) := by
    rw [List.pairwise_iff_getElem]
    intro i j hi hj hij
    exact vals_mono (Nat.le_of_lt hij) (List.getElem?_eq_getElem hi) (List.getElem?_eq_getElem hj)
  exact this.sublist (List.take_sublist _ _)
theorem law_k07 (ns : List Int) (hn : ns.length ≤ 63) : F_law_k07 ns = some true := by
  unfold F_law_k07
  refine cells_then hn (fun c => ?_) (by decide +kernel)
  obtain ⟨s0, e0, ok0⟩ := source_ok c (t := 7) (by decide)
  obtain ⟨b, s1, e1, hb, ok1⟩ := law_basket_ok ok0 (by decide) (n := 12) (by decide) (by decide)
  obtain ⟨k, s2, e2, k1, k2, ok2⟩ := size_ok ok1 (by decide) (n := 5) (by decide) (by decide)
  have hl := hb.len
  have hp := hb.pos
  have e1 : F_law_basket s0 12 = some (b, s1) := e1
  have e2 : F_law_draw s1 5 = some ((k : Int) - 2, s2) := e2
  have ek : (2 : Int) + ((k : Int) - 2) = (k : Int) := by omega
  have hA := A_nonneg hb.nn k (r := b.length) hp
  have hA2 := A_le_sum hb.nn k (r := b.length) hp
  have hS := hb.sum
  obtain ⟨d, s3, e3, hd, ok3⟩ := draw_ok ok2 (by decide) (n := (A b k b.length).toNat + 1) (by omega) (by omega)
  have e3 : F_law_draw s2 (A b k b.length + 1) = some ((d : Int), s3) := by
    rw [show A b k b.length + 1 = (((A b k b.length).toNat + 1 : Nat) : Int) by omega]
    exact e3
  have hexp : lcO (fun (x10 : (Int × Int)) => Option.bind (cond (decide (x10.1 = 0)) (some true) (Option.bind (atD (vals b k) ((x10.1 - 1))) fun x13 => Option.bind (atD (vals b k) ((-1))) fun x14 => some (decide (x13 < x14)))) fun b15 => cond (b15) (some (some (x10.2))) (some none)) (enumL (vals b k)) = some (cutV (vals b k) (A b k b.length)) := by
    rw [lcO_fm (fun x : Int × Int => if x.1 = 0 ∨ ((vals b k).getD (x.1 - 1).toNat 0) < A b k b.length then some x.2 else none) (by rw [enumL_len, vals_len]; exact lim_le (by omega)) (fun x hx => ?_), expect_eq hp]
    obtain ⟨i, hi⟩ := List.mem_iff_getElem?.mp hx
    rw [enumL_get] at hi
    have hlt : i < (vals b k).length := by
      cases e : (vals b k)[i]? with
      | none => rw [e] at hi; cases hi
      | some v => exact (List.getElem?_eq_some_iff.mp e).1
    rw [List.getElem?_eq_getElem hlt] at hi
    cases hi
    by_cases h0 : i = 0
    · subst h0
      simp
    · have hz : ¬ ((i : Int) = 0) := by omega
      simp only [hz, decide_false, cond_false, false_or]
      rw [show ((i : Int) - 1) = ((i - 1 : Nat) : Int) by omega, atD_getD 0 (by omega), obs, vals_last hp, obs, obs, show ((i - 1 : Nat) : Int).toNat = i - 1 by omega]
      generalize (vals b k).getD (i - 1) 0 = z
      by_cases hlt2 : z < A b k b.length <;> simp [hlt2]
  rw [e0, obs, e1, obs]
  show (Option.bind (F_law_draw s1 5) _) = _
  rw [e2, obs, obs]
  show (Option.bind (F_law_best b (2 + ((k : Int) - 2))) _) = _
  rw [ek, F_law_best_vals hb k1 k2, obs, hexp, obs, F_trade_eq hb k1 k2, obs, equal_ints (by unfold cutV; rw [List.length_take, vals_len]; exact lim_le (by omega)), obs, cutV_sorted]
  simp only [Bool.not_true, decide_true, Bool.or_self, cond_false]
  rw [appO_eq (by unfold cutV; rw [List.length_take, vals_len]; exact lim_lt (by omega)), obs, obs]
  simp only [Bool.not_true, decide_true, cond_false]
  rw [lcM_eq (by rw [vals_len]; exact lim_le (by omega)), obs, catO_eq (by rw [List.length_map, vals_len]; exact lim_le (by omega)), obs, show powO 10 6 = some 1000000 by decide, obs, vals_last hp, obs]
  show (Option.bind (F_law_draw s2 (A b k b.length + 1)) _) = _
  rw [e3, obs, catO_eq (by simp [vals_len]; exact lim_le (by omega)), obs]
  refine forX_then (fun _ _ => True) (fun i w hw s _ => ⟨(), ?_, trivial⟩) trivial (fun _ _ => rfl)
  have hw2 : 0 ≤ w ∧ w ≤ 1000000 := by
    have hm := List.mem_of_getElem? hw
    rcases List.mem_append.mp hm with hm | hm
    · rcases List.mem_append.mp hm with hm | hm
      · have := vals_bound hb hm
        omega
      · obtain ⟨v, hv, rfl⟩ := List.mem_map.mp hm
        have := vals_bound hb hv
        omega
    · simp at hm
      omega
  rw [lcF_eq (by rw [enumL_len, vals_len]; exact lim_le (by omega)), obs, F_fewest_eq hb k1 k2 hw2.1 hw2.2, obs, first_eq, obs]
  show (Option.bind (F_law_equal ((cO cI).e (firstN (vals b k) w)) ((cO cI).e (firstN (vals b k) w))) _) = _
  rw [equal_oint, obs]
  rfl
end DD.M

-- part DC07
set_option Elab.async false
set_option linter.all false
set_option maxRecDepth 100000
set_option maxHeartbeats 4000000
/-! The evaluator returns what the plain functions return (printed by gen/sh.py). -/
namespace DD
open DD.P
def g_law_source : FSem := P.s_law_source []
def g_law_draw : FSem := P.s_law_draw []
def g_law_choice : FSem := P.s_law_choice [g_law_draw]
def g_law_basket : FSem := P.s_law_basket [g_law_choice, g_law_draw]
def g_law_row : FSem := P.s_law_row []
def g_law_block : FSem := P.s_law_block []
def g_law_best : FSem := P.s_law_best [g_law_row, g_law_block]
def g_is_between : FSem := P.s_is_between []
def g_is_basket : FSem := P.s_is_basket [g_is_between]
def g_check_basket : FSem := P.s_check_basket [g_is_basket]
def g_is_size : FSem := P.s_is_size [g_is_between]
def g_check_offer : FSem := P.s_check_offer [g_check_basket, g_is_size]
def g_row_of : FSem := P.s_row_of []
def g_block_saving : FSem := P.s_block_saving []
def g_table_for : FSem := P.s_table_for [g_row_of, g_block_saving]
def g_all_values : FSem := P.s_all_values [g_table_for]
def g_trade_off : FSem := P.s_trade_off [g_check_offer, g_all_values]
def g_law_kind : FSem := P.s_law_kind []
def g_law_equal : Nat → FSem
  | 0 => noSem false
  | n + 1 => P.s_law_equal [g_law_kind, (g_law_equal n)]
def g_check_saving : FSem := P.s_check_saving [g_is_between]
def g_fewest_receipts : FSem := P.s_fewest_receipts [g_check_offer, g_check_saving, g_all_values]
def g_law_k07 : FSem := P.s_law_k07 [g_law_source, g_law_basket, g_law_draw, g_law_best, g_trade_off, (g_law_equal 6), g_fewest_receipts]
theorem c_law_source {a0 a1 : Int} {r : Sc} (h : F_law_source a0 a1 = some r) : RunOk g_law_source [cI.e a0, cI.e a1] (cSc.e r) true .none := c0_law_source h
theorem c_law_draw {s : Sc} {n : Int} {r : Int × Sc} (h : F_law_draw s n = some r) : RunOk g_law_draw [cSc.e s, cI.e n] (cI.e r.1) false (cSc.e r.2) := c0_law_draw h
theorem eqok : ∀ n, EqOk (g_law_equal n) n
  | 0 => ⟨rfl, fun a b h => absurd h (Nat.not_lt_zero _)⟩
  | n + 1 => run_equal (eqok n)
theorem c_law_equal {a b : PD} {r : Bool} (h : F_law_equal a b = some r) : RunOk (g_law_equal 6) [cA.e a, cA.e b] (cB.e r) false .none := by
  unfold F_law_equal at h
  obtain ⟨⟨h1, h2, h3, h4, h5⟩, rfl⟩ := ifp h
  exact (eqok 6).2 a b (by omega) h2 h3 h4 h5
theorem c_law_choice_Li {a0 : Sc} {a1 : (List Int)} {r : (Int × Sc)} (h : F_law_choice_Li a0 a1 = some r) : RunOk g_law_choice [cSc.e a0, (cL cI).e a1] (cI.e r.1) false (cSc.e r.2) := by
  refine run_mu rfl (WS.pre (K1 := [.b (cSc.e a0), .r ((cL cI).e a1)]) (by (repeat' (first | exact LeK.nil | apply LeK.cons | exact LeC.rfl | exact LeC.ur | exact LeC.uo | exact LeC.ro rfl))) ?_)
  unfold F_law_choice_Li at h
  obtain ⟨p1, hp1, h⟩ := bnd h
  obtain ⟨x2, hx2, h⟩ := bnd h
  (have e := Option.some.inj h; subst e)
  exact WS.retm (RE.ixv rfl (RE.callm rfl rfl rfl (REs.cons (RE.sc (RE.v (RE.blt (REs.cons (RE.varR rfl) REs.nil) bl_lenL)) rfl) REs.nil) (.b rfl) (c_law_draw hp1)) rfl (ix_L (c := cI) hx2)) rfl (fun _ _ q => q)
theorem c_law_basket {a0 : Sc} {a1 : Int} {r : ((List Int) × Sc)} (h : F_law_basket a0 a1 = some r) : RunOk g_law_basket [cSc.e a0, cI.e a1] ((cT cI).e r.1) false (cSc.e r.2) := by
  refine run_mu rfl (WS.pre (K1 := [.b (cSc.e a0), .r (cI.e a1), .u, .u]) (by (repeat' (first | exact LeK.nil | apply LeK.cons | exact LeC.rfl | exact LeC.ur | exact LeC.uo | exact LeC.ro rfl))) ?_)
  unfold F_law_basket at h
  obtain ⟨p1, hp1, h⟩ := bnd h
  refine WS.cons (RS.set (w := false) (RE.callm rfl rfl rfl (REs.cons (RE.lst (d := (cL cI).e [3, 9, 60, 10000]) (REs.cons RE.int (REs.cons RE.int (REs.cons RE.int (REs.cons RE.int REs.nil)))) rfl) REs.nil) (.b rfl) (c_law_choice_Li hp1)) rfl) (WS.norm (K' := [.b (cSc.e p1.2), .r (cI.e a1), .r (cI.e p1.1), .u]) rfl ?_)
  obtain ⟨p2, hp2, h⟩ := bnd h
  obtain ⟨x3, hx3, h⟩ := bnd h
  obtain ⟨x8, hx8, h⟩ := bnd h
  (have e := Option.some.inj h; subst e)
  exact WS.retm (RE.blt (REs.cons (RE.lcS (fun s6 => [.b (cSc.e s6), .r (cI.e a1), .r (cI.e p1.1), .u]) (ce := cI) (g := fun (x4 : Int) (s6 : Sc) => Option.bind (F_law_draw s6 p1.1) fun p7 => some (some ((1 + p7.1)), p7.2)) (RI.rng (REs.cons (RE.bin RE.int (RE.callm rfl rfl rfl (REs.cons (RE.varR rfl) REs.nil) (.b rfl) (c_law_draw hp2)) bv_add) REs.nil) (rg_1 hx3)) (by (repeat' (first | exact LeK.nil | apply LeK.cons | exact LeC.rfl | exact LeC.ur | exact LeC.uo | exact LeC.ro rfl))) (fun x4 _ s6 p5 hp => by
      refine ⟨rfl, true, _, false, RE.bl, (fun hb => by cases hb), fun _ => ?_⟩
      obtain ⟨p7, hp7, hp⟩ := bnd hp
      (have e := Option.some.inj hp; subst e)
      exact ⟨_, _, _, rfl, (RE.bin RE.int (RE.callm rfl rfl rfl (REs.cons (RE.varR rfl) REs.nil) (.b rfl) (c_law_draw hp7)) bv_add), by (repeat' (first | exact LeK.nil | apply LeK.cons | exact LeC.rfl | exact LeC.ur | exact LeC.uo | exact LeC.ro rfl))⟩) hx8) REs.nil) (bl_tupL (c := cI))) rfl (fun _ _ q => q)
theorem c_law_row {a0 : (List Int)} {r : (List Int)} (h : F_law_row a0 = some r) : RunOk g_law_row [(cT cI).e a0] ((cL cI).e r) true .none := by
  refine run_fn rfl (WS.pre (K1 := [.r ((cT cI).e a0), .u, .u, .u, .u]) (by (repeat' (first | exact LeK.nil | apply LeK.cons | exact LeC.rfl | exact LeC.ur | exact LeC.uo | exact LeC.ro rfl))) ?_)
  unfold F_law_row at h
  obtain ⟨x5, hx5, h⟩ := bnd h
  obtain ⟨x6, hx6, h⟩ := bnd h
  refine WS.cons (RS.set (w := true) (RE.blt (REs.cons (RE.lcO [.r ((cT cI).e a0), .u, .u, .u, .u] (ce := (cP cI cI)) (g := fun (x1 : (Int × Int)) => Option.bind (powO 10 6) fun x4 => some (some (((x4 - x1.2), x1.1)))) (RI.enuT (c := cI) (RE.varR rfl)) (by (repeat' (first | exact LeK.nil | apply LeK.cons | exact LeC.rfl | exact LeC.ur | exact LeC.uo | exact LeC.ro rfl))) (fun x1 p2 hp => by
      refine ⟨rfl, true, _, false, RE.bl, (fun hb => by cases hb), fun _ => ?_⟩
      obtain ⟨x4, hx4, hp⟩ := bnd hp
      (have e := Option.some.inj hp; subst e)
      exact ⟨_, _, _, rfl, (RE.tup (d := (cP cI cI).e ((x4 - x1.2), x1.1)) (REs.cons (RE.bin (RE.bin RE.int RE.int (bv_pow hx4)) (RE.varR rfl) bv_sub) (REs.cons (RE.varR rfl) REs.nil)) rfl), by (repeat' (first | exact LeK.nil | apply LeK.cons | exact LeC.rfl | exact LeC.ur | exact LeC.uo | exact LeC.ro rfl))⟩) hx5) REs.nil) (bl_sortP hx6) (fun _ => rfl)) rfl) (WS.norm (K' := [.r ((cT cI).e a0), .o ((cL (cP cI cI)).e x6), .u, .u, .u]) rfl ?_)
  obtain ⟨x10, hx10, h⟩ := bnd h
  (have e := Option.some.inj h; subst e)
  exact WS.ret (RE.lcM [.r ((cT cI).e a0), .r ((cL (cP cI cI)).e x6), .u, .u, .u] (ce := cI) (f := fun (x7 : (Int × Int)) => x7.2) (RI.seqL (c := (cP cI cI)) (RE.varO rfl)) (by (repeat' (first | exact LeK.nil | apply LeK.cons | exact LeC.rfl | exact LeC.ur | exact LeC.uo | exact LeC.ro rfl))) (fun x7 => ⟨rfl, _, _, (RE.ixv rfl RE.int rfl (ix_P1 (a := cI) (b := cI))), by (repeat' (first | exact LeK.nil | apply LeK.cons | exact LeC.rfl | exact LeC.ur | exact LeC.uo | exact LeC.ro rfl))⟩) hx10) (fun _ _ q => q)
theorem c_law_block {a0 : (List Int)} {a1 : Int} {a2 : Int} {a3 : Int} {r : Int} (h : F_block_saving a0 a1 a2 a3 = some r) : RunOk g_law_block [(cL cI).e a0, cI.e a1, cI.e a2, cI.e a3] (cI.e r) false .none := by
  refine run_fn rfl (WS.pre (K1 := [.r ((cL cI).e a0), .r (cI.e a1), .r (cI.e a2), .r (cI.e a3), .u]) (by (repeat' (first | exact LeK.nil | apply LeK.cons | exact LeC.rfl | exact LeC.ur | exact LeC.uo | exact LeC.ro rfl))) ?_)
  unfold F_block_saving at h
  obtain ⟨x1, hx1, h⟩ := bnd h
  refine WS.cons (RS.set (w := false) (RE.bin (RE.bin (RE.varR rfl) (RE.varR rfl) bv_sub) (RE.varR rfl) (bv_fdiv hx1)) rfl) (WS.norm (K' := [.r ((cL cI).e a0), .r (cI.e a1), .r (cI.e a2), .r (cI.e a3), .r (cI.e x1)]) rfl ?_)
  (have e := Option.some.inj h; subst e)
  exact WS.ret (RE.sc (RE.v (RE.blt (REs.cons (RE.slv rfl (ROp.yes rfl (RE.bin (RE.varR rfl) (RE.varR rfl) bv_sub)) (ROp.yes rfl (RE.varR rfl)) rfl (sl_L (c := cI)) (fun _ => rfl)) REs.nil) bl_sumL)) rfl) (fun _ _ q => q)
theorem c_law_best {a0 : (List Int)} {a1 : Int} {r : (List Int)} (h : F_law_best a0 a1 = some r) : RunOk g_law_best [(cT cI).e a0, cI.e a1] ((cL cI).e r) true .none := by
  refine run_fn rfl (WS.pre (K1 := [.r ((cT cI).e a0), .r (cI.e a1), .u, .u, .u, .u, .u, .u, .u, .u, .u, .u]) (by (repeat' (first | exact LeK.nil | apply LeK.cons | exact LeC.rfl | exact LeC.ur | exact LeC.uo | exact LeC.ro rfl))) ?_)
  unfold F_law_best at h
  obtain ⟨x1, hx1, h⟩ := bnd h
  obtain ⟨x6, hx6, h⟩ := bnd h
  refine WS.cons (RS.set (w := true) (RE.lcO [.r ((cT cI).e a0), .r (cI.e a1), .u, .u, .u, .u, .u, .u, .u, .u, .u, .u] (ce := cI) (g := fun (x2 : Int) => Option.bind (atD a0 x2) fun x5 => some (some (x5))) (RI.seqL (c := cI) (RE.call rfl rfl (REs.cons (RE.varR rfl) REs.nil) (c_law_row hx1))) (by (repeat' (first | exact LeK.nil | apply LeK.cons | exact LeC.rfl | exact LeC.ur | exact LeC.uo | exact LeC.ro rfl))) (fun x2 p3 hp => by
      refine ⟨rfl, true, _, false, RE.bl, (fun hb => by cases hb), fun _ => ?_⟩
      obtain ⟨x5, hx5, hp⟩ := bnd hp
      (have e := Option.some.inj hp; subst e)
      exact ⟨_, _, _, rfl, (RE.ixv rfl (RE.varR rfl) rfl (ix_T (c := cI) hx5)), by (repeat' (first | exact LeK.nil | apply LeK.cons | exact LeC.rfl | exact LeC.ur | exact LeC.uo | exact LeC.ro rfl))⟩) hx6) rfl) (WS.norm (K' := [.r ((cT cI).e a0), .r (cI.e a1), .o ((cL cI).e x6), .u, .u, .u, .u, .u, .u, .u, .u, .u]) rfl ?_)
  obtain ⟨x7, hx7, h⟩ := bnd h
  refine WS.cons (RS.set (w := false) (RE.eq (c := cI) (Option.some.inj hx7) (RE.sc (RE.v (RE.blt (REs.cons (RE.varO rfl) REs.nil) bl_lenL)) rfl)) rfl) (WS.norm (K' := [.r ((cT cI).e a0), .r (cI.e a1), .o ((cL cI).e x6), .r (cI.e x7), .u, .u, .u, .u, .u, .u, .u, .u]) rfl ?_)
  obtain ⟨x8, hx8, h⟩ := bnd h
  obtain ⟨x13, hx13, h⟩ := bnd h
  refine WS.cons (RS.set (w := true) (RE.lcO [.r ((cT cI).e a0), .r (cI.e a1), .r ((cL cI).e x6), .r (cI.e x7), .u, .u, .u, .u, .u, .u, .u, .u] (ce := cI) (g := fun (x9 : Int) => Option.bind (F_block_saving x6 a1 0 x9) fun x12 => some (some (x12))) (RI.rng (REs.cons (RE.bin (RE.varR rfl) RE.int bv_add) REs.nil) (rg_1 hx8)) (by (repeat' (first | exact LeK.nil | apply LeK.cons | exact LeC.rfl | exact LeC.ur | exact LeC.uo | exact LeC.ro rfl))) (fun x9 p10 hp => by
      refine ⟨rfl, true, _, false, RE.bl, (fun hb => by cases hb), fun _ => ?_⟩
      obtain ⟨x12, hx12, hp⟩ := bnd hp
      (have e := Option.some.inj hp; subst e)
      exact ⟨_, _, _, rfl, (RE.call rfl rfl (REs.cons (RE.varR rfl) (REs.cons (RE.varR rfl) (REs.cons RE.int (REs.cons (RE.varR rfl) REs.nil)))) (c_law_block hx12)), by (repeat' (first | exact LeK.nil | apply LeK.cons | exact LeC.rfl | exact LeC.ur | exact LeC.uo | exact LeC.ro rfl))⟩) hx13) rfl) (WS.norm (K' := [.r ((cT cI).e a0), .r (cI.e a1), .r ((cL cI).e x6), .r (cI.e x7), .o ((cL cI).e x13), .u, .u, .u, .u, .u, .u, .u]) rfl ?_)
  obtain ⟨x14, hx14, h⟩ := bnd h
  obtain ⟨x15, hx15, h⟩ := bnd h
  refine WS.cons (RS.set (w := true) (RE.eq (c := (cL cI)) (Option.some.inj hx15) (RE.lst (d := (cL cI).e [x14]) (REs.cons (RE.ixv rfl (RE.varR rfl) rfl (ix_L (c := cI) hx14)) REs.nil) rfl)) rfl) (WS.norm (K' := [.r ((cT cI).e a0), .r (cI.e a1), .r ((cL cI).e x6), .r (cI.e x7), .o ((cL cI).e x13), .o ((cL cI).e x15), .u, .u, .u, .u, .u, .u]) rfl ?_)
  obtain ⟨x16, hx16, h⟩ := bnd h
  obtain ⟨s37, hs37, h⟩ := bnd h
  refine WS.frO (fun (s18 : ((List Int) × (List Int))) => [.r ((cT cI).e a0), .r (cI.e a1), .r ((cL cI).e x6), .r (cI.e x7), .r ((cL cI).e s18.1), .o ((cL cI).e s18.2), .u, .u, .u, .u, .u, .u]) (RI.rng (REs.cons (RE.bin (RE.varR rfl) RE.int bv_sub) REs.nil) (rg_1 hx16)) (by (repeat' (first | exact LeK.nil | apply LeK.cons | exact LeC.rfl | exact LeC.ur | exact LeC.uo | exact LeC.ro rfl))) (fun x17 _ s18 t19 h => ⟨rfl, ?_⟩) hs37 ?_
  · refine (WS.norm (K' := [.r ((cT cI).e a0), .r (cI.e a1), .r ((cL cI).e x6), .r (cI.e x7), .r ((cL cI).e s18.1), .o ((cL cI).e s18.2), .r (cI.e x17), .u, .u, .u, .u, .u]) rfl ?_)
    obtain ⟨x20, hx20, h⟩ := bnd h
    refine WS.cons (RS.set (w := true) (RE.eq (c := (cL cI)) (Option.some.inj hx20) (RE.lst (d := (cL cI).e []) REs.nil rfl)) rfl) (WS.norm (K' := [.r ((cT cI).e a0), .r (cI.e a1), .r ((cL cI).e x6), .r (cI.e x7), .r ((cL cI).e s18.1), .o ((cL cI).e s18.2), .r (cI.e x17), .o ((cL cI).e x20), .u, .u, .u, .u]) rfl ?_)
    obtain ⟨x21, hx21, h⟩ := bnd h
    obtain ⟨s34, hs34, h⟩ := bnd h
    refine WS.frO (fun (s23 : (List Int)) => [.r ((cT cI).e a0), .r (cI.e a1), .r ((cL cI).e x6), .r (cI.e x7), .r ((cL cI).e s18.1), .o ((cL cI).e s18.2), .r (cI.e x17), .o ((cL cI).e s23), .u, .u, .u, .u]) (RI.rng (REs.cons (RE.bin (RE.varR rfl) RE.int bv_add) REs.nil) (rg_1 hx21)) (by (repeat' (first | exact LeK.nil | apply LeK.cons | exact LeC.rfl | exact LeC.ur | exact LeC.uo | exact LeC.ro rfl))) (fun x22 _ s23 t24 h => ⟨rfl, ?_⟩) hs34 ?_
    · refine (WS.norm (K' := [.r ((cT cI).e a0), .r (cI.e a1), .r ((cL cI).e x6), .r (cI.e x7), .r ((cL cI).e s18.1), .o ((cL cI).e s18.2), .r (cI.e x17), .o ((cL cI).e s23), .r (cI.e x22), .u, .u, .u]) rfl ?_)
      obtain ⟨x25, hx25, h⟩ := bnd h
      obtain ⟨x31, hx31, h⟩ := bnd h
      refine WS.cons (RS.set (w := true) (RE.lcO [.r ((cT cI).e a0), .r (cI.e a1), .r ((cL cI).e x6), .r (cI.e x7), .r ((cL cI).e s18.1), .o ((cL cI).e s18.2), .r (cI.e x17), .o ((cL cI).e s23), .r (cI.e x22), .u, .u, .u] (ce := cI) (g := fun (x26 : Int) => Option.bind (atD s18.1 x26) fun x29 => Option.bind (F_block_saving x6 a1 x26 x22) fun x30 => some (some ((x29 + x30)))) (RI.rng (REs.cons (RE.bin (RE.varR rfl) RE.int bv_add) REs.nil) (rg_1 hx25)) (by (repeat' (first | exact LeK.nil | apply LeK.cons | exact LeC.rfl | exact LeC.ur | exact LeC.uo | exact LeC.ro rfl))) (fun x26 p27 hp => by
      refine ⟨rfl, true, _, false, RE.bl, (fun hb => by cases hb), fun _ => ?_⟩
      obtain ⟨x29, hx29, hp⟩ := bnd hp
      obtain ⟨x30, hx30, hp⟩ := bnd hp
      (have e := Option.some.inj hp; subst e)
      exact ⟨_, _, _, rfl, (RE.bin (RE.ixv rfl (RE.varR rfl) rfl (ix_L (c := cI) hx29)) (RE.call rfl rfl (REs.cons (RE.varR rfl) (REs.cons (RE.varR rfl) (REs.cons (RE.varR rfl) (REs.cons (RE.varR rfl) REs.nil)))) (c_law_block hx30)) bv_add), by (repeat' (first | exact LeK.nil | apply LeK.cons | exact LeC.rfl | exact LeC.ur | exact LeC.uo | exact LeC.ro rfl))⟩) hx31) rfl) (WS.norm (K' := [.r ((cT cI).e a0), .r (cI.e a1), .r ((cL cI).e x6), .r (cI.e x7), .r ((cL cI).e s18.1), .o ((cL cI).e s18.2), .r (cI.e x17), .o ((cL cI).e s23), .r (cI.e x22), .u, .o ((cL cI).e x31), .u]) rfl ?_)
      obtain ⟨x32, hx32, h⟩ := bnd h
      obtain ⟨x33, hx33, h⟩ := bnd h
      refine WS.cons (RS.appL (c := cI) rfl (RE.blt (REs.cons (RE.varO rfl) REs.nil) (bl_maxL hx32)) (.o rfl) hx33) (WS.norm (K' := [.r ((cT cI).e a0), .r (cI.e a1), .r ((cL cI).e x6), .r (cI.e x7), .r ((cL cI).e s18.1), .o ((cL cI).e s18.2), .r (cI.e x17), .o ((cL cI).e x33), .r (cI.e x22), .u, .r ((cL cI).e x31), .u]) rfl ?_)
      (have e := Option.some.inj h; subst e)
      exact WS.nilN (by (repeat' (first | exact LeK.nil | apply LeK.cons | exact LeC.rfl | exact LeC.ur | exact LeC.uo | exact LeC.ro rfl)))
    · refine WS.cons (RS.set (w := false) (RE.varO rfl) rfl) (WS.norm (K' := [.r ((cT cI).e a0), .r (cI.e a1), .r ((cL cI).e x6), .r (cI.e x7), .r ((cL cI).e s34), .o ((cL cI).e s18.2), .r (cI.e x17), .r ((cL cI).e s34), .u, .u, .u, .u]) rfl ?_)
      obtain ⟨x35, hx35, h⟩ := bnd h
      obtain ⟨x36, hx36, h⟩ := bnd h
      refine WS.cons (RS.appL (c := cI) rfl (RE.ixv rfl (RE.varR rfl) rfl (ix_L (c := cI) hx35)) (.o rfl) hx36) (WS.norm (K' := [.r ((cT cI).e a0), .r (cI.e a1), .r ((cL cI).e x6), .r (cI.e x7), .r ((cL cI).e s34), .o ((cL cI).e x36), .r (cI.e x17), .r ((cL cI).e s34), .u, .u, .u, .u]) rfl ?_)
      (have e := Option.some.inj h; subst e)
      exact WS.nilN (by (repeat' (first | exact LeK.nil | apply LeK.cons | exact LeC.rfl | exact LeC.ur | exact LeC.uo | exact LeC.ro rfl)))
  · (have e := Option.some.inj h; subst e)
    exact WS.ret (RE.mvO rfl rfl) (fun _ _ q => q)
theorem c_is_between {a0 : PD} {a1 : Int} {a2 : Int} {r : Bool} (h : F_is_between a0 a1 a2 = some r) : RunOk g_is_between [cA.e a0, cI.e a1, cI.e a2] (cB.e r) false .none := by
  refine run_fn rfl (WS.pre (K1 := [.r (cA.e a0), .r (cI.e a1), .r (cI.e a2)]) (by (repeat' (first | exact LeK.nil | apply LeK.cons | exact LeC.rfl | exact LeC.ur | exact LeC.uo | exact LeC.ro rfl))) ?_)
  unfold F_is_between at h
  obtain ⟨b3, hb3, h⟩ := bnd h
  (have e := Option.some.inj h; subst e)
  exact WS.ret (RE.sc (RE.v (RE.andC (z := b3) (RE.isi (RE.varR rfl)) (fun hb => by
      have h := cond_t hb hb3
      obtain ⟨b2, hb2, h⟩ := bnd h
      (have e := Option.some.inj h; subst e)
      exact (RE.andC (z := b2) (RE.not (RE.isi (RE.varR rfl))) (fun hb => by
      have h := cond_t hb hb2
      obtain ⟨x1, hx1, h⟩ := bnd h
      (have e := Option.some.inj h; subst e)
      exact (RE.chainT (RE.varR rfl) (RE.to (RE.varR rfl) (intA_e hx1)) cv_le (RE.varR rfl) cv_le)) (fun hb => by have h := cond_f hb hb2; (have e := Option.some.inj h; subst e); rfl))) (fun hb => by have h := cond_f hb hb3; (have e := Option.some.inj h; subst e); rfl))) rfl) (fun _ _ q => q)
theorem c_is_basket {a0 : PD} {r : Bool} (h : F_is_basket a0 = some r) : RunOk g_is_basket [cA.e a0] (cB.e r) false .none := by
  refine run_fn rfl (WS.pre (K1 := [.r (cA.e a0), .u]) (by (repeat' (first | exact LeK.nil | apply LeK.cons | exact LeC.rfl | exact LeC.ur | exact LeC.uo | exact LeC.ro rfl))) ?_)
  unfold F_is_basket at h
  obtain ⟨b2, hb2, h⟩ := bnd h
  refine WS.ite (RE.sc (RE.v (RE.orC (z := b2) (RE.not (RE.isi (RE.varR rfl))) (fun hb => by
      have h := cond_f hb hb2
      obtain ⟨x1, hx1, h⟩ := bnd h
      (have e := Option.some.inj h; subst e)
      exact (RE.not (RE.chainT RE.int (RE.blt (REs.cons (RE.varR rfl) REs.nil) (bl_lenA hx1)) cv_le RE.gint cv_le))) (fun hb => by have h := cond_t hb hb2; (have e := Option.some.inj h; subst e); rfl))) rfl) (fun hb => ?_) (fun hb => ?_)
  · have h := cond_t hb h
    (have e := Option.some.inj h; subst e)
    exact WS.ret RE.bl (fun _ _ q => q)
  · have h := cond_f hb h
    refine WS.nilS ?_
    obtain ⟨x3, hx3, h⟩ := bnd h
    obtain ⟨x8, hx8, h⟩ := bnd h
    (have e := Option.some.inj h; subst e)
    exact WS.ret (RE.sc (RE.v (RE.blt (REs.cons (RE.lcO [.r (cA.e a0), .u] (ce := cB) (g := fun (x4 : PD) => Option.bind (F_is_between x4 1 10000) fun x7 => some (some (x7))) (RI.seqA (RE.varR rfl) hx3) (by (repeat' (first | exact LeK.nil | apply LeK.cons | exact LeC.rfl | exact LeC.ur | exact LeC.uo | exact LeC.ro rfl))) (fun x4 p5 hp => by
      refine ⟨rfl, true, _, false, RE.bl, (fun hb => by cases hb), fun _ => ?_⟩
      obtain ⟨x7, hx7, hp⟩ := bnd hp
      (have e := Option.some.inj hp; subst e)
      exact ⟨_, _, _, rfl, (RE.call rfl rfl (REs.cons (RE.varR rfl) (REs.cons RE.int (REs.cons RE.gint REs.nil))) (c_is_between hx7)), by (repeat' (first | exact LeK.nil | apply LeK.cons | exact LeC.rfl | exact LeC.ur | exact LeC.uo | exact LeC.ro rfl))⟩) hx8) REs.nil) bl_all)) rfl) (fun _ _ q => q)
theorem c_check_basket {a0 : PD} {r : Unit} (h : F_check_basket a0 = some r) : RunOk g_check_basket [cA.e a0] (cN.e r) false .none := by
  refine run_fall rfl (WS.pre (K1 := [.r (cA.e a0)]) (by (repeat' (first | exact LeK.nil | apply LeK.cons | exact LeC.rfl | exact LeC.ur | exact LeC.uo | exact LeC.ro rfl))) ?_)
  unfold F_check_basket at h
  obtain ⟨x1, hx1, h⟩ := bnd h
  refine WS.ite (RE.sc (RE.v (RE.not (RE.call rfl rfl (REs.cons (RE.varR rfl) REs.nil) (c_is_basket hx1)))) rfl) (fun hb => ?_) (fun hb => ?_)
  · have h := cond_t hb h
    cases h
  · have h := cond_f hb h
    refine WS.nilS ?_
    (have e := Option.some.inj h; subst e)
    exact WS.nilF
theorem c_is_size {a0 : PD} {r : Bool} (h : F_is_size a0 = some r) : RunOk g_is_size [cA.e a0] (cB.e r) false .none := by
  refine run_fn rfl (WS.pre (K1 := [.r (cA.e a0)]) (by (repeat' (first | exact LeK.nil | apply LeK.cons | exact LeC.rfl | exact LeC.ur | exact LeC.uo | exact LeC.ro rfl))) ?_)
  unfold F_is_size at h
  obtain ⟨x1, hx1, h⟩ := bnd h
  (have e := Option.some.inj h; subst e)
  exact WS.ret (RE.call rfl rfl (REs.cons (RE.varR rfl) (REs.cons RE.int (REs.cons RE.int REs.nil))) (c_is_between hx1)) (fun _ _ q => q)
theorem c_check_offer {a0 : PD} {a1 : PD} {r : Unit} (h : F_check_offer a0 a1 = some r) : RunOk g_check_offer [cA.e a0, cA.e a1] (cN.e r) false .none := by
  refine run_fall rfl (WS.pre (K1 := [.r (cA.e a0), .r (cA.e a1)]) (by (repeat' (first | exact LeK.nil | apply LeK.cons | exact LeC.rfl | exact LeC.ur | exact LeC.uo | exact LeC.ro rfl))) ?_)
  unfold F_check_offer at h
  obtain ⟨x1, hx1, h⟩ := bnd h
  refine WS.cons (RS.exp (RE.call rfl rfl (REs.cons (RE.varR rfl) REs.nil) (c_check_basket hx1))) (WS.norm (K' := [.r (cA.e a0), .r (cA.e a1)]) rfl ?_)
  obtain ⟨x2, hx2, h⟩ := bnd h
  refine WS.ite (RE.sc (RE.v (RE.not (RE.call rfl rfl (REs.cons (RE.varR rfl) REs.nil) (c_is_size hx2)))) rfl) (fun hb => ?_) (fun hb => ?_)
  · have h := cond_t hb h
    cases h
  · have h := cond_f hb h
    refine WS.nilS ?_
    (have e := Option.some.inj h; subst e)
    exact WS.nilF
theorem c_row_of {a0 : (List Int)} {r : (List Int)} (h : F_row_of a0 = some r) : RunOk g_row_of [(cT cI).e a0] ((cT cI).e r) false .none := by
  refine run_fn rfl (WS.pre (K1 := [.r ((cT cI).e a0), .u, .u, .u]) (by (repeat' (first | exact LeK.nil | apply LeK.cons | exact LeC.rfl | exact LeC.ur | exact LeC.uo | exact LeC.ro rfl))) ?_)
  unfold F_row_of at h
  obtain ⟨x4, hx4, h⟩ := bnd h
  obtain ⟨x5, hx5, h⟩ := bnd h
  obtain ⟨x9, hx9, h⟩ := bnd h
  (have e := Option.some.inj h; subst e)
  exact WS.ret (RE.blt (REs.cons (RE.lcM [.r ((cT cI).e a0), .u, .u, .u] (ce := cI) (f := fun (x6 : (Int × Int)) => x6.2) (RI.seqL (c := (cP cI cI)) (RE.blt (REs.cons (RE.lcM [.r ((cT cI).e a0), .u, .u, .u] (ce := (cP cI cI)) (f := fun (x1 : (Int × Int)) => ((-x1.2), x1.1)) (RI.enuT (c := cI) (RE.varR rfl)) (by (repeat' (first | exact LeK.nil | apply LeK.cons | exact LeC.rfl | exact LeC.ur | exact LeC.uo | exact LeC.ro rfl))) (fun x1 => ⟨rfl, _, _, (RE.tup (d := (cP cI cI).e ((-x1.2), x1.1)) (REs.cons (RE.neg (RE.varR rfl)) (REs.cons (RE.varR rfl) REs.nil)) rfl), by (repeat' (first | exact LeK.nil | apply LeK.cons | exact LeC.rfl | exact LeC.ur | exact LeC.uo | exact LeC.ro rfl))⟩) hx4) REs.nil) (bl_sortP hx5) (fun _ => rfl))) (by (repeat' (first | exact LeK.nil | apply LeK.cons | exact LeC.rfl | exact LeC.ur | exact LeC.uo | exact LeC.ro rfl))) (fun x6 => ⟨rfl, _, _, (RE.varR rfl), by (repeat' (first | exact LeK.nil | apply LeK.cons | exact LeC.rfl | exact LeC.ur | exact LeC.uo | exact LeC.ro rfl))⟩) hx9) REs.nil) (bl_tupL (c := cI))) (fun _ _ q => q)
theorem c_block_saving {a0 : (List Int)} {a1 : Int} {a2 : Int} {a3 : Int} {r : Int} (h : F_block_saving a0 a1 a2 a3 = some r) : RunOk g_block_saving [(cL cI).e a0, cI.e a1, cI.e a2, cI.e a3] (cI.e r) false .none := by
  refine run_fn rfl (WS.pre (K1 := [.r ((cL cI).e a0), .r (cI.e a1), .r (cI.e a2), .r (cI.e a3)]) (by (repeat' (first | exact LeK.nil | apply LeK.cons | exact LeC.rfl | exact LeC.ur | exact LeC.uo | exact LeC.ro rfl))) ?_)
  unfold F_block_saving at h
  obtain ⟨x1, hx1, h⟩ := bnd h
  (have e := Option.some.inj h; subst e)
  exact WS.ret (RE.sc (RE.v (RE.blt (REs.cons (RE.slv rfl (ROp.yes rfl (RE.bin (RE.varR rfl) (RE.bin (RE.bin (RE.varR rfl) (RE.varR rfl) bv_sub) (RE.varR rfl) (bv_fdiv hx1)) bv_sub)) (ROp.yes rfl (RE.varR rfl)) rfl (sl_L (c := cI)) (fun _ => rfl)) REs.nil) bl_sumL)) rfl) (fun _ _ q => q)
theorem c_table_for {a0 : (List Int)} {a1 : Int} {a2 : Int} {r : (List (List (Int × (Int × Int))))} (h : F_table_for a0 a1 a2 = some r) : RunOk g_table_for [(cT cI).e a0, cI.e a1, cI.e a2] ((cL (cD (cP cI cI))).e r) true .none := by
  refine run_fn rfl (WS.pre (K1 := [.r ((cT cI).e a0), .r (cI.e a1), .r (cI.e a2), .u, .u, .u, .u, .u, .u, .u, .u, .u]) (by (repeat' (first | exact LeK.nil | apply LeK.cons | exact LeC.rfl | exact LeC.ur | exact LeC.uo | exact LeC.ro rfl))) ?_)
  unfold F_table_for at h
  obtain ⟨x1, hx1, h⟩ := bnd h
  obtain ⟨x6, hx6, h⟩ := bnd h
  refine WS.cons (RS.set (w := true) (RE.lcO [.r ((cT cI).e a0), .r (cI.e a1), .r (cI.e a2), .u, .u, .u, .u, .u, .u, .u, .u, .u] (ce := cI) (g := fun (x2 : Int) => Option.bind (atD a0 x2) fun x5 => some (some (x5))) (RI.seqT (c := cI) (RE.call rfl rfl (REs.cons (RE.varR rfl) REs.nil) (c_row_of hx1))) (by (repeat' (first | exact LeK.nil | apply LeK.cons | exact LeC.rfl | exact LeC.ur | exact LeC.uo | exact LeC.ro rfl))) (fun x2 p3 hp => by
      refine ⟨rfl, true, _, false, RE.bl, (fun hb => by cases hb), fun _ => ?_⟩
      obtain ⟨x5, hx5, hp⟩ := bnd hp
      (have e := Option.some.inj hp; subst e)
      exact ⟨_, _, _, rfl, (RE.ixv rfl (RE.varR rfl) rfl (ix_T (c := cI) hx5)), by (repeat' (first | exact LeK.nil | apply LeK.cons | exact LeC.rfl | exact LeC.ur | exact LeC.uo | exact LeC.ro rfl))⟩) hx6) rfl) (WS.norm (K' := [.r ((cT cI).e a0), .r (cI.e a1), .r (cI.e a2), .o ((cL cI).e x6), .u, .u, .u, .u, .u, .u, .u, .u]) rfl ?_)
  obtain ⟨x7, hx7, h⟩ := bnd h
  refine WS.cons (RS.set (w := true) (RE.eq (c := (cL (cD (cP cI cI)))) (Option.some.inj hx7) (RE.lst (d := (cL (cD (cP cI cI))).e [[(0, (0, 0))]]) (REs.cons (RE.dic1 (c := (cP cI cI)) RE.int (RE.tup (d := (cP cI cI).e (0, 0)) (REs.cons RE.int (REs.cons RE.int REs.nil)) rfl)) REs.nil) rfl)) rfl) (WS.norm (K' := [.r ((cT cI).e a0), .r (cI.e a1), .r (cI.e a2), .o ((cL cI).e x6), .o ((cL (cD (cP cI cI))).e x7), .u, .u, .u, .u, .u, .u, .u]) rfl ?_)
  obtain ⟨x8, hx8, h⟩ := bnd h
  obtain ⟨s32, hs32, h⟩ := bnd h
  refine WS.frO (fun (s10 : (List (List (Int × (Int × Int))))) => [.r ((cT cI).e a0), .r (cI.e a1), .r (cI.e a2), .r ((cL cI).e x6), .o ((cL (cD (cP cI cI))).e s10), .u, .u, .u, .u, .u, .u, .u]) (RI.rng (REs.cons (RE.varR rfl) REs.nil) (rg_1 hx8)) (by (repeat' (first | exact LeK.nil | apply LeK.cons | exact LeC.rfl | exact LeC.ur | exact LeC.uo | exact LeC.ro rfl))) (fun x9 _ s10 t11 h => ⟨rfl, ?_⟩) hs32 ?_
  · refine (WS.norm (K' := [.r ((cT cI).e a0), .r (cI.e a1), .r (cI.e a2), .r ((cL cI).e x6), .o ((cL (cD (cP cI cI))).e s10), .r (cI.e x9), .u, .u, .u, .u, .u, .u]) rfl ?_)
    obtain ⟨x12, hx12, h⟩ := bnd h
    obtain ⟨x13, hx13, h⟩ := bnd h
    refine WS.cons (RS.par (RFs.cons (w := false) (RE.ixv rfl (RE.neg RE.int) rfl (ix_L (c := (cD (cP cI cI))) hx12)) (RFs.cons (w := true) (RE.eq (c := (cD (cP cI cI))) (Option.some.inj hx13) (RE.dic1 (c := (cP cI cI)) RE.int (RE.tup (d := (cP cI cI).e (0, 0)) (REs.cons RE.int (REs.cons RE.int REs.nil)) rfl))) RFs.nil)) rfl) (WS.norm (K' := [.r ((cT cI).e a0), .r (cI.e a1), .r (cI.e a2), .r ((cL cI).e x6), .o ((cL (cD (cP cI cI))).e s10), .r (cI.e x9), .u, .u, .r ((cD (cP cI cI)).e x12), .o ((cD (cP cI cI)).e x13), .u, .u]) rfl ?_)
    obtain ⟨x14, hx14, h⟩ := bnd h
    obtain ⟨s30, hs30, h⟩ := bnd h
    refine WS.frO (fun (s16 : (List (Int × (Int × Int)))) => [.r ((cT cI).e a0), .r (cI.e a1), .r (cI.e a2), .r ((cL cI).e x6), .o ((cL (cD (cP cI cI))).e s10), .r (cI.e x9), .u, .u, .r ((cD (cP cI cI)).e x12), .o ((cD (cP cI cI)).e s16), .u, .u]) (RI.rng (REs.cons RE.int (REs.cons (RE.bin (RE.sc (RE.v (RE.blt (REs.cons (RE.varR rfl) REs.nil) bl_lenL)) rfl) RE.int bv_add) REs.nil)) (rg_2 hx14)) (by (repeat' (first | exact LeK.nil | apply LeK.cons | exact LeC.rfl | exact LeC.ur | exact LeC.uo | exact LeC.ro rfl))) (fun x15 _ s16 t17 h => ⟨rfl, ?_⟩) hs30 ?_
    · refine (WS.norm (K' := [.r ((cT cI).e a0), .r (cI.e a1), .r (cI.e a2), .r ((cL cI).e x6), .o ((cL (cD (cP cI cI))).e s10), .r (cI.e x9), .r (cI.e x15), .u, .r ((cD (cP cI cI)).e x12), .o ((cD (cP cI cI)).e s16), .u, .u]) rfl ?_)
      obtain ⟨x18, hx18, h⟩ := bnd h
      refine WS.cons (RS.set (w := true) (RE.eq (c := (cL (cP cI cI))) (Option.some.inj hx18) (RE.lst (d := (cL (cP cI cI)).e []) REs.nil rfl)) rfl) (WS.norm (K' := [.r ((cT cI).e a0), .r (cI.e a1), .r (cI.e a2), .r ((cL cI).e x6), .o ((cL (cD (cP cI cI))).e s10), .r (cI.e x9), .r (cI.e x15), .u, .r ((cD (cP cI cI)).e x12), .o ((cD (cP cI cI)).e s16), .o ((cL (cP cI cI)).e x18), .u]) rfl ?_)
      obtain ⟨x19, hx19, h⟩ := bnd h
      obtain ⟨s27, hs27, h⟩ := bnd h
      refine WS.frO (fun (s21 : (List (Int × Int))) => [.r ((cT cI).e a0), .r (cI.e a1), .r (cI.e a2), .r ((cL cI).e x6), .o ((cL (cD (cP cI cI))).e s10), .r (cI.e x9), .r (cI.e x15), .u, .r ((cD (cP cI cI)).e x12), .o ((cD (cP cI cI)).e s16), .o ((cL (cP cI cI)).e s21), .u]) (RI.rng (REs.cons (RE.varR rfl) REs.nil) (rg_1 hx19)) (by (repeat' (first | exact LeK.nil | apply LeK.cons | exact LeC.rfl | exact LeC.ur | exact LeC.uo | exact LeC.ro rfl))) (fun x20 _ s21 t22 h => ⟨rfl, ?_⟩) hs27 ?_
      · refine (WS.norm (K' := [.r ((cT cI).e a0), .r (cI.e a1), .r (cI.e a2), .r ((cL cI).e x6), .o ((cL (cD (cP cI cI))).e s10), .r (cI.e x9), .r (cI.e x15), .u, .r ((cD (cP cI cI)).e x12), .o ((cD (cP cI cI)).e s16), .o ((cL (cP cI cI)).e s21), .r (cI.e x20)]) rfl ?_)
        obtain ⟨s23, hs23, h⟩ := bnd h
        refine WS.iteJ [.r ((cT cI).e a0), .r (cI.e a1), .r (cI.e a2), .r ((cL cI).e x6), .o ((cL (cD (cP cI cI))).e s10), .r (cI.e x9), .r (cI.e x15), .u, .r ((cD (cP cI cI)).e x12), .o ((cD (cP cI cI)).e s16), .o ((cL (cP cI cI)).e s23), .r (cI.e x20)] (RE.sc (RE.v (RE.cmp (RE.varR rfl) (RE.varR rfl) cv_inD)) rfl) (fun hb => ?_) (fun hb => ?_) ?_
        · have h := cond_t hb hs23
          obtain ⟨x24, hx24, h⟩ := bnd h
          obtain ⟨x25, hx25, h⟩ := bnd h
          obtain ⟨x26, hx26, h⟩ := bnd h
          refine WS.cons (RS.appL (c := (cP cI cI)) rfl (RE.tup (d := (cP cI cI).e ((x24.1 + x25), x20)) (REs.cons (RE.bin (RE.ix (RE.ixv rfl (RE.varR rfl) rfl (ix_D (c := (cP cI cI)) hx24)) RE.int (ix_P0 (a := cI) (b := cI))) (RE.call rfl rfl (REs.cons (RE.varR rfl) (REs.cons (RE.varR rfl) (REs.cons (RE.varR rfl) (REs.cons (RE.varR rfl) REs.nil)))) (c_block_saving hx25)) bv_add) (REs.cons (RE.varR rfl) REs.nil)) rfl) (.o rfl) hx26) (WS.norm (K' := [.r ((cT cI).e a0), .r (cI.e a1), .r (cI.e a2), .r ((cL cI).e x6), .o ((cL (cD (cP cI cI))).e s10), .r (cI.e x9), .r (cI.e x15), .u, .r ((cD (cP cI cI)).e x12), .o ((cD (cP cI cI)).e s16), .o ((cL (cP cI cI)).e x26), .r (cI.e x20)]) rfl ?_)
          (have e := Option.some.inj h; subst e)
          exact WS.nil0 (by (repeat' (first | exact LeK.nil | apply LeK.cons | exact LeC.rfl | exact LeC.ur | exact LeC.uo | exact LeC.ro rfl)))
        · have h := cond_f hb hs23
          (have e := Option.some.inj h; subst e)
          exact WS.nil0 (by (repeat' (first | exact LeK.nil | apply LeK.cons | exact LeC.rfl | exact LeC.ur | exact LeC.uo | exact LeC.ro rfl)))
        · (have e := Option.some.inj h; subst e)
          exact WS.nilN (by (repeat' (first | exact LeK.nil | apply LeK.cons | exact LeC.rfl | exact LeC.ur | exact LeC.uo | exact LeC.ro rfl)))
      · obtain ⟨x28, hx28, h⟩ := bnd h
        obtain ⟨x29, hx29, h⟩ := bnd h
        refine WS.cons (RS.stx (RE.blt (REs.cons (RE.varO rfl) REs.nil) (bl_maxP hx28)) rfl (RE.varR rfl) (.o rfl) (stx_D (c := (cP cI cI)) hx29)) (WS.norm (K' := [.r ((cT cI).e a0), .r (cI.e a1), .r (cI.e a2), .r ((cL cI).e x6), .o ((cL (cD (cP cI cI))).e s10), .r (cI.e x9), .r (cI.e x15), .u, .r ((cD (cP cI cI)).e x12), .o ((cD (cP cI cI)).e x29), .r ((cL (cP cI cI)).e s27), .u]) rfl ?_)
        (have e := Option.some.inj h; subst e)
        exact WS.nilN (by (repeat' (first | exact LeK.nil | apply LeK.cons | exact LeC.rfl | exact LeC.ur | exact LeC.uo | exact LeC.ro rfl)))
    · obtain ⟨x31, hx31, h⟩ := bnd h
      refine WS.cons (RS.appL (c := (cD (cP cI cI))) rfl (RE.varO rfl) (.o rfl) hx31) (WS.norm (K' := [.r ((cT cI).e a0), .r (cI.e a1), .r (cI.e a2), .r ((cL cI).e x6), .o ((cL (cD (cP cI cI))).e x31), .r (cI.e x9), .u, .u, .r ((cD (cP cI cI)).e x12), .r ((cD (cP cI cI)).e s30), .u, .u]) rfl ?_)
      (have e := Option.some.inj h; subst e)
      exact WS.nilN (by (repeat' (first | exact LeK.nil | apply LeK.cons | exact LeC.rfl | exact LeC.ur | exact LeC.uo | exact LeC.ro rfl)))
  · (have e := Option.some.inj h; subst e)
    exact WS.ret (RE.mvO rfl rfl) (fun _ _ q => q)
theorem c_all_values {a0 : (List Int)} {a1 : Int} {r : (List Int)} (h : F_all_values a0 a1 = some r) : RunOk g_all_values [(cT cI).e a0, cI.e a1] ((cL cI).e r) true .none := by
  refine run_fn rfl (WS.pre (K1 := [.r ((cT cI).e a0), .r (cI.e a1), .u, .u]) (by (repeat' (first | exact LeK.nil | apply LeK.cons | exact LeC.rfl | exact LeC.ur | exact LeC.uo | exact LeC.ro rfl))) ?_)
  unfold F_all_values at h
  obtain ⟨x1, hx1, h⟩ := bnd h
  refine WS.cons (RS.set (w := true) (RE.call rfl rfl (REs.cons (RE.varR rfl) (REs.cons (RE.varR rfl) (REs.cons (RE.sc (RE.v (RE.blt (REs.cons (RE.varR rfl) REs.nil) bl_lenT)) rfl) REs.nil))) (c_table_for hx1)) rfl) (WS.norm (K' := [.r ((cT cI).e a0), .r (cI.e a1), .o ((cL (cD (cP cI cI))).e x1), .u]) rfl ?_)
  obtain ⟨x6, hx6, h⟩ := bnd h
  (have e := Option.some.inj h; subst e)
  exact WS.ret (RE.lcO [.r ((cT cI).e a0), .r (cI.e a1), .o ((cL (cD (cP cI cI))).e x1), .u] (ce := cI) (g := fun (x2 : (List (Int × (Int × Int)))) => Option.bind (dget x2 ((a0.length : Int))) fun x5 => some (some (x5.1))) (RI.seqL (c := (cD (cP cI cI))) (RE.slv rfl (ROp.yes rfl RE.int) ROp.no rfl (sl_L (c := (cD (cP cI cI)))) (fun _ => rfl))) (by (repeat' (first | exact LeK.nil | apply LeK.cons | exact LeC.rfl | exact LeC.ur | exact LeC.uo | exact LeC.ro rfl))) (fun x2 p3 hp => by
      refine ⟨rfl, true, _, false, RE.bl, (fun hb => by cases hb), fun _ => ?_⟩
      obtain ⟨x5, hx5, hp⟩ := bnd hp
      (have e := Option.some.inj hp; subst e)
      exact ⟨_, _, _, rfl, (RE.ix (RE.ixv rfl (RE.sc (RE.v (RE.blt (REs.cons (RE.varR rfl) REs.nil) bl_lenT)) rfl) rfl (ix_D (c := (cP cI cI)) hx5)) RE.int (ix_P0 (a := cI) (b := cI))), by (repeat' (first | exact LeK.nil | apply LeK.cons | exact LeC.rfl | exact LeC.ur | exact LeC.uo | exact LeC.ro rfl))⟩) hx6) (fun _ _ q => q)
theorem c_trade_off {a0 : (List Int)} {a1 : Int} {r : (List Int)} (h : F_trade_off a0 a1 = some r) : RunOk g_trade_off [(cT cI).e a0, cI.e a1] ((cL cI).e r) true .none := by
  refine run_fn rfl (WS.pre (K1 := [.r ((cT cI).e a0), .r (cI.e a1), .u]) (by (repeat' (first | exact LeK.nil | apply LeK.cons | exact LeC.rfl | exact LeC.ur | exact LeC.uo | exact LeC.ro rfl))) ?_)
  unfold F_trade_off at h
  obtain ⟨x1, hx1, h⟩ := bnd h
  refine WS.cons (RS.exp (RE.call rfl rfl (REs.cons (RE.to (d' := cA.e ((cT cI).e a0)) (RE.varR rfl) rfl) (REs.cons (RE.to (d' := cA.e (cI.e a1)) (RE.varR rfl) rfl) REs.nil)) (c_check_offer hx1))) (WS.norm (K' := [.r ((cT cI).e a0), .r (cI.e a1), .u]) rfl ?_)
  obtain ⟨x2, hx2, h⟩ := bnd h
  refine WS.cons (RS.set (w := true) (RE.call rfl rfl (REs.cons (RE.varR rfl) (REs.cons (RE.varR rfl) REs.nil)) (c_all_values hx2)) rfl) (WS.norm (K' := [.r ((cT cI).e a0), .r (cI.e a1), .o ((cL cI).e x2)]) rfl ?_)
  obtain ⟨x3, hx3, h⟩ := bnd h
  obtain ⟨x4, hx4, h⟩ := bnd h
  (have e := Option.some.inj h; subst e)
  exact WS.ret (RE.slv rfl ROp.no (ROp.yes rfl (RE.bin (RE.idxL (c := cI) (RE.varO rfl) (RE.ixv rfl (RE.neg RE.int) rfl (ix_L (c := cI) hx3)) hx4) RE.int bv_add)) rfl (sl_L (c := cI)) (fun _ => rfl)) (fun _ _ q => q)
theorem c_check_saving {a0 : PD} {r : Unit} (h : F_check_saving a0 = some r) : RunOk g_check_saving [cA.e a0] (cN.e r) false .none := by
  refine run_fall rfl (WS.pre (K1 := [.r (cA.e a0)]) (by (repeat' (first | exact LeK.nil | apply LeK.cons | exact LeC.rfl | exact LeC.ur | exact LeC.uo | exact LeC.ro rfl))) ?_)
  unfold F_check_saving at h
  obtain ⟨x1, hx1, h⟩ := bnd h
  refine WS.ite (RE.sc (RE.v (RE.not (RE.call rfl rfl (REs.cons (RE.varR rfl) (REs.cons RE.int (REs.cons RE.gint REs.nil))) (c_is_between hx1)))) rfl) (fun hb => ?_) (fun hb => ?_)
  · have h := cond_t hb h
    cases h
  · have h := cond_f hb h
    refine WS.nilS ?_
    (have e := Option.some.inj h; subst e)
    exact WS.nilF
theorem c_fewest_receipts {a0 : (List Int)} {a1 : Int} {a2 : Int} {r : (Option Int)} (h : F_fewest_receipts a0 a1 a2 = some r) : RunOk g_fewest_receipts [(cT cI).e a0, cI.e a1, cI.e a2] ((cO cI).e r) false .none := by
  refine run_fn rfl (WS.pre (K1 := [.r ((cT cI).e a0), .r (cI.e a1), .r (cI.e a2), .u, .u, .u]) (by (repeat' (first | exact LeK.nil | apply LeK.cons | exact LeC.rfl | exact LeC.ur | exact LeC.uo | exact LeC.ro rfl))) ?_)
  unfold F_fewest_receipts at h
  obtain ⟨x1, hx1, h⟩ := bnd h
  refine WS.cons (RS.exp (RE.call rfl rfl (REs.cons (RE.to (d' := cA.e ((cT cI).e a0)) (RE.varR rfl) rfl) (REs.cons (RE.to (d' := cA.e (cI.e a1)) (RE.varR rfl) rfl) REs.nil)) (c_check_offer hx1))) (WS.norm (K' := [.r ((cT cI).e a0), .r (cI.e a1), .r (cI.e a2), .u, .u, .u]) rfl ?_)
  obtain ⟨x2, hx2, h⟩ := bnd h
  refine WS.cons (RS.exp (RE.call rfl rfl (REs.cons (RE.to (d' := cA.e (cI.e a2)) (RE.varR rfl) rfl) REs.nil) (c_check_saving hx2))) (WS.norm (K' := [.r ((cT cI).e a0), .r (cI.e a1), .r (cI.e a2), .u, .u, .u]) rfl ?_)
  obtain ⟨x3, hx3, h⟩ := bnd h
  obtain ⟨x7, hx7, h⟩ := bnd h
  refine WS.cons (RS.set (w := true) (RE.lcF [.r ((cT cI).e a0), .r (cI.e a1), .r (cI.e a2), .u, .u, .u] (ce := cI) (p := fun (x4 : (Int × Int)) => decide (a2 ≤ x4.2)) (f := fun (x4 : (Int × Int)) => (x4.1 + 1)) (RI.enuL (c := cI) (RE.call rfl rfl (REs.cons (RE.varR rfl) (REs.cons (RE.varR rfl) REs.nil)) (c_all_values hx3))) (by (repeat' (first | exact LeK.nil | apply LeK.cons | exact LeC.rfl | exact LeC.ur | exact LeC.uo | exact LeC.ro rfl))) (fun x4 => ⟨rfl, _, _, _, _, (RE.sc (RE.v (RE.cmp (RE.varR rfl) (RE.varR rfl) cv_ge)) rfl), by (repeat' (first | exact LeK.nil | apply LeK.cons | exact LeC.rfl | exact LeC.ur | exact LeC.uo | exact LeC.ro rfl)), (RE.bin (RE.varR rfl) RE.int bv_add), by (repeat' (first | exact LeK.nil | apply LeK.cons | exact LeC.rfl | exact LeC.ur | exact LeC.uo | exact LeC.ro rfl))⟩) hx7) rfl) (WS.norm (K' := [.r ((cT cI).e a0), .r (cI.e a1), .r (cI.e a2), .o ((cL cI).e x7), .u, .u]) rfl ?_)
  obtain ⟨x9, hx9, h⟩ := bnd h
  (have e := Option.some.inj h; subst e)
  exact WS.ret (RE.ite (K2 := [.r ((cT cI).e a0), .r (cI.e a1), .r (cI.e a2), .o ((cL cI).e x7), .u, .u]) (d := (cO cI).e x9) (RE.sc (RE.v (RE.cmp (RE.varO rfl) (RE.lst (d := (cL cI).e []) REs.nil rfl) (cv_ne (c := (cL cI))))) rfl) (fun hb => by
      have h := cond_t hb hx9
      obtain ⟨x8, hx8, h⟩ := bnd h
      (have e := Option.some.inj h; subst e)
      exact (RE.to (d' := (cO cI).e (some x8)) (RE.ixv rfl RE.int rfl (ix_L (c := cI) hx8)) rfl)) (fun hb => by
      have h := cond_f hb hx9
      (have e := Option.some.inj h; subst e)
      exact (RE.to (d' := (cO cI).e none) RE.non rfl))) (fun _ _ q => q)
theorem c_law_k07 {a0 : (List Int)} {r : Bool} (h : F_law_k07 a0 = some r) : RunOk g_law_k07 [(cL cI).e a0] (cB.e r) false .none := by
  refine run_fn rfl (WS.pre (K1 := [.r ((cL cI).e a0), .u, .u, .u, .u, .u, .u, .u, .u, .u, .u, .u]) (by (repeat' (first | exact LeK.nil | apply LeK.cons | exact LeC.rfl | exact LeC.ur | exact LeC.uo | exact LeC.ro rfl))) ?_)
  unfold F_law_k07 at h
  obtain ⟨x1, hx1, h⟩ := bnd h
  obtain ⟨t47, ht47, h⟩ := bnd h
  refine WS.frX (fun (s3 : Unit) => [.r ((cL cI).e a0), .u, .u, .u, .u, .u, .u, .u, .u, .u, .u, .u]) (R := fun (v : Bool) => RtQ (cB.e v) false none) (RI.seqL (c := cI) (RE.slc (RE.bin (RE.lst (d := (cL cI).e [0]) (REs.cons RE.int REs.nil) rfl) (RE.varR rfl) (bv_catL (c := cI) hx1) (fun _ => rfl)) ROp.no (ROp.yes rfl RE.int) (sl_L (c := cI)) (fun _ => rfl))) (by (repeat' (first | exact LeK.nil | apply LeK.cons | exact LeC.rfl | exact LeC.ur | exact LeC.uo | exact LeC.ro rfl))) RtQ.ends (fun x2 _ s3 t4 h => ⟨rfl, ?_⟩) ht47 (fun s43 e => ?_) (fun v e d fr ρ q => ?_)
  · refine (WS.norm (K' := [.r ((cL cI).e a0), .r (cI.e x2), .u, .u, .u, .u, .u, .u, .u, .u, .u, .u]) rfl ?_)
    obtain ⟨x5, hx5, h⟩ := bnd h
    refine WS.cons (RS.set (w := true) (RE.call rfl rfl (REs.cons (RE.varR rfl) (REs.cons RE.int REs.nil)) (c_law_source hx5)) rfl) (WS.norm (K' := [.r ((cL cI).e a0), .r (cI.e x2), .o (cSc.e x5), .u, .u, .u, .u, .u, .u, .u, .u, .u]) rfl ?_)
    obtain ⟨p6, hp6, h⟩ := bnd h
    obtain ⟨p7, hp7, h⟩ := bnd h
    obtain ⟨x8, hx8, h⟩ := bnd h
    refine WS.cons (RS.par (RFs.cons (w := false) (RE.callm rfl rfl rfl (REs.cons RE.int REs.nil) (.o rfl) (c_law_basket hp6)) (RFs.cons (w := false) (RE.eq (c := cI) (Option.some.inj hx8) (RE.bin RE.int (RE.callm rfl rfl rfl (REs.cons RE.int REs.nil) (.o rfl) (c_law_draw hp7)) bv_add)) RFs.nil)) rfl) (WS.norm (K' := [.r ((cL cI).e a0), .r (cI.e x2), .o (cSc.e p7.2), .u, .u, .u, .u, .r ((cT cI).e p6.1), .r (cI.e x8), .u, .u, .u]) rfl ?_)
    obtain ⟨x9, hx9, h⟩ := bnd h
    refine WS.cons (RS.set (w := true) (RE.call rfl rfl (REs.cons (RE.varR rfl) (REs.cons (RE.varR rfl) REs.nil)) (c_law_best hx9)) rfl) (WS.norm (K' := [.r ((cL cI).e a0), .r (cI.e x2), .o (cSc.e p7.2), .o ((cL cI).e x9), .u, .u, .u, .r ((cT cI).e p6.1), .r (cI.e x8), .u, .u, .u]) rfl ?_)
    obtain ⟨x16, hx16, h⟩ := bnd h
    refine WS.cons (RS.set (w := true) (RE.lcO [.r ((cL cI).e a0), .r (cI.e x2), .o (cSc.e p7.2), .r ((cL cI).e x9), .u, .u, .u, .r ((cT cI).e p6.1), .r (cI.e x8), .u, .u, .u] (ce := cI) (g := fun (x10 : (Int × Int)) => Option.bind (cond (decide (x10.1 = 0)) (some true) (Option.bind (atD x9 ((x10.1 - 1))) fun x13 => Option.bind (atD x9 ((-1))) fun x14 => some (decide (x13 < x14)))) fun b15 => cond (b15) (some (some (x10.2))) (some none)) (RI.enuL (c := cI) (RE.varO rfl)) (by (repeat' (first | exact LeK.nil | apply LeK.cons | exact LeC.rfl | exact LeC.ur | exact LeC.uo | exact LeC.ro rfl))) (fun x10 p11 hp => by
      obtain ⟨b15, hb15, hp⟩ := bnd hp
      refine ⟨rfl, _, _, _, (RE.sc (RE.v (RE.orC (z := b15) (RE.cmp (RE.varR rfl) RE.int (cv_eq (c := cI))) (fun hb => by
      have h := cond_f hb hb15
      obtain ⟨x13, hx13, h⟩ := bnd h
      obtain ⟨x14, hx14, h⟩ := bnd h
      (have e := Option.some.inj h; subst e)
      exact (RE.cmp (RE.ixv rfl (RE.bin (RE.varR rfl) RE.int bv_sub) rfl (ix_L (c := cI) hx13)) (RE.ixv rfl (RE.neg RE.int) rfl (ix_L (c := cI) hx14)) cv_lt)) (fun hb => by have h := cond_t hb hb15; (have e := Option.some.inj h; subst e); rfl))) rfl), fun hb => ?_, fun hb => ?_⟩
      · have hp := cond_f hb hp
        (have e := Option.some.inj hp; subst e)
        exact ⟨rfl, by (repeat' (first | exact LeK.nil | apply LeK.cons | exact LeC.rfl | exact LeC.ur | exact LeC.uo | exact LeC.ro rfl))⟩
      · have hp := cond_t hb hp
        (have e := Option.some.inj hp; subst e)
        exact ⟨_, _, _, rfl, (RE.varR rfl), by (repeat' (first | exact LeK.nil | apply LeK.cons | exact LeC.rfl | exact LeC.ur | exact LeC.uo | exact LeC.ro rfl))⟩) hx16) rfl) (WS.norm (K' := [.r ((cL cI).e a0), .r (cI.e x2), .o (cSc.e p7.2), .r ((cL cI).e x9), .o ((cL cI).e x16), .u, .u, .r ((cT cI).e p6.1), .r (cI.e x8), .u, .u, .u]) rfl ?_)
    obtain ⟨x17, hx17, h⟩ := bnd h
    refine WS.cons (RS.set (w := true) (RE.call rfl rfl (REs.cons (RE.varR rfl) (REs.cons (RE.varR rfl) REs.nil)) (c_trade_off hx17)) rfl) (WS.norm (K' := [.r ((cL cI).e a0), .r (cI.e x2), .o (cSc.e p7.2), .r ((cL cI).e x9), .o ((cL cI).e x16), .o ((cL cI).e x17), .u, .r ((cT cI).e p6.1), .r (cI.e x8), .u, .u, .u]) rfl ?_)
    obtain ⟨x18, hx18, h⟩ := bnd h
    refine WS.ite (RE.sc (RE.v (RE.orT (RE.not (RE.call rfl rfl (REs.cons (RE.to (d' := cA.e ((cL cI).e x17)) (RE.varO rfl) rfl) (REs.cons (RE.to (d' := cA.e ((cL cI).e x16)) (RE.varO rfl) rfl) REs.nil)) (c_law_equal hx18))) (RE.cmp (RE.varR rfl) (RE.blt (REs.cons (RE.varR rfl) REs.nil) bl_sortL (fun _ => rfl)) (cv_ne (c := (cL cI)))))) rfl) (fun hb => ?_) (fun hb => ?_)
    · have h := cond_t hb h
      (have e := Option.some.inj h; subst e)
      exact WS.ret RE.bl (fun _ _ q => q)
    · have h := cond_f hb h
      refine WS.nilS ?_
      obtain ⟨x19, hx19, h⟩ := bnd h
      refine WS.cons (RS.appL (c := cI) rfl RE.int (.o rfl) hx19) (WS.norm (K' := [.r ((cL cI).e a0), .r (cI.e x2), .o (cSc.e p7.2), .r ((cL cI).e x9), .o ((cL cI).e x16), .o ((cL cI).e x19), .u, .r ((cT cI).e p6.1), .r (cI.e x8), .u, .u, .u]) rfl ?_)
      obtain ⟨x20, hx20, h⟩ := bnd h
      refine WS.ite (RE.sc (RE.v (RE.cmp (RE.call rfl rfl (REs.cons (RE.varR rfl) (REs.cons (RE.varR rfl) REs.nil)) (c_trade_off hx20)) (RE.varO rfl) (cv_ne (c := (cL cI))))) rfl) (fun hb => ?_) (fun hb => ?_)
      · have h := cond_t hb h
        (have e := Option.some.inj h; subst e)
        exact WS.ret RE.bl (fun _ _ q => q)
      · have h := cond_f hb h
        refine WS.nilS ?_
        obtain ⟨x24, hx24, h⟩ := bnd h
        obtain ⟨x25, hx25, h⟩ := bnd h
        obtain ⟨x26, hx26, h⟩ := bnd h
        obtain ⟨x27, hx27, h⟩ := bnd h
        obtain ⟨p28, hp28, h⟩ := bnd h
        obtain ⟨x29, hx29, h⟩ := bnd h
        obtain ⟨t42, ht42, h⟩ := bnd h
        refine WS.frX (fun (s31 : Unit) => [.r ((cL cI).e a0), .r (cI.e x2), .o (cSc.e p28.2), .r ((cL cI).e x9), .o ((cL cI).e x16), .o ((cL cI).e x19), .u, .r ((cT cI).e p6.1), .r (cI.e x8), .u, .u, .u]) (R := fun (v : Bool) => RtQ (cB.e v) false none) (RI.seqL (c := cI) (RE.bin (RE.bin (RE.varR rfl) (RE.lcM [.r ((cL cI).e a0), .r (cI.e x2), .o (cSc.e p7.2), .r ((cL cI).e x9), .o ((cL cI).e x16), .o ((cL cI).e x19), .u, .r ((cT cI).e p6.1), .r (cI.e x8), .u, .u, .u] (ce := cI) (f := fun (x21 : Int) => (x21 + 1)) (RI.seqL (c := cI) (RE.varR rfl)) (by (repeat' (first | exact LeK.nil | apply LeK.cons | exact LeC.rfl | exact LeC.ur | exact LeC.uo | exact LeC.ro rfl))) (fun x21 => ⟨rfl, _, _, (RE.bin (RE.varR rfl) RE.int bv_add), by (repeat' (first | exact LeK.nil | apply LeK.cons | exact LeC.rfl | exact LeC.ur | exact LeC.uo | exact LeC.ro rfl))⟩) hx24) (bv_catL (c := cI) hx25) (fun _ => rfl)) (RE.lst (d := (cL cI).e [0, x26, p28.1]) (REs.cons RE.int (REs.cons (RE.bin RE.int RE.int (bv_pow hx26)) (REs.cons (RE.callm rfl rfl rfl (REs.cons (RE.bin (RE.ixv rfl (RE.neg RE.int) rfl (ix_L (c := cI) hx27)) RE.int bv_add) REs.nil) (.o rfl) (c_law_draw hp28)) REs.nil))) rfl) (bv_catL (c := cI) hx29) (fun _ => rfl))) (by (repeat' (first | exact LeK.nil | apply LeK.cons | exact LeC.rfl | exact LeC.ur | exact LeC.uo | exact LeC.ro rfl))) RtQ.ends (fun x30 _ s31 t32 h => ⟨rfl, ?_⟩) ht42 (fun s41 e => ?_) (fun v e d fr ρ q => ?_)
        · refine (WS.norm (K' := [.r ((cL cI).e a0), .r (cI.e x2), .o (cSc.e p28.2), .r ((cL cI).e x9), .o ((cL cI).e x16), .o ((cL cI).e x19), .r (cI.e x30), .r ((cT cI).e p6.1), .r (cI.e x8), .u, .u, .u]) rfl ?_)
          obtain ⟨x36, hx36, h⟩ := bnd h
          refine WS.cons (RS.set (w := true) (RE.lcF [.r ((cL cI).e a0), .r (cI.e x2), .o (cSc.e p28.2), .r ((cL cI).e x9), .o ((cL cI).e x16), .o ((cL cI).e x19), .r (cI.e x30), .r ((cT cI).e p6.1), .r (cI.e x8), .u, .u, .u] (ce := cI) (p := fun (x33 : (Int × Int)) => decide (x30 ≤ x33.2)) (f := fun (x33 : (Int × Int)) => (x33.1 + 1)) (RI.enuL (c := cI) (RE.varR rfl)) (by (repeat' (first | exact LeK.nil | apply LeK.cons | exact LeC.rfl | exact LeC.ur | exact LeC.uo | exact LeC.ro rfl))) (fun x33 => ⟨rfl, _, _, _, _, (RE.sc (RE.v (RE.cmp (RE.varR rfl) (RE.varR rfl) cv_ge)) rfl), by (repeat' (first | exact LeK.nil | apply LeK.cons | exact LeC.rfl | exact LeC.ur | exact LeC.uo | exact LeC.ro rfl)), (RE.bin (RE.varR rfl) RE.int bv_add), by (repeat' (first | exact LeK.nil | apply LeK.cons | exact LeC.rfl | exact LeC.ur | exact LeC.uo | exact LeC.ro rfl))⟩) hx36) rfl) (WS.norm (K' := [.r ((cL cI).e a0), .r (cI.e x2), .o (cSc.e p28.2), .r ((cL cI).e x9), .o ((cL cI).e x16), .o ((cL cI).e x19), .r (cI.e x30), .r ((cT cI).e p6.1), .r (cI.e x8), .o ((cL cI).e x36), .u, .u]) rfl ?_)
          obtain ⟨x37, hx37, h⟩ := bnd h
          obtain ⟨x39, hx39, h⟩ := bnd h
          obtain ⟨x40, hx40, h⟩ := bnd h
          refine WS.ite (RE.sc (RE.v (RE.not (RE.call rfl rfl (REs.cons (RE.to (d' := cA.e ((cO cI).e x37)) (RE.call rfl rfl (REs.cons (RE.varR rfl) (REs.cons (RE.varR rfl) (REs.cons (RE.varR rfl) REs.nil))) (c_fewest_receipts hx37)) rfl) (REs.cons (RE.to (d' := cA.e ((cO cI).e x39)) (RE.ite (K2 := [.r ((cL cI).e a0), .r (cI.e x2), .o (cSc.e p28.2), .r ((cL cI).e x9), .o ((cL cI).e x16), .o ((cL cI).e x19), .r (cI.e x30), .r ((cT cI).e p6.1), .r (cI.e x8), .o ((cL cI).e x36), .u, .u]) (d := (cO cI).e x39) (RE.sc (RE.v (RE.cmp (RE.varO rfl) (RE.lst (d := (cL cI).e []) REs.nil rfl) (cv_ne (c := (cL cI))))) rfl) (fun hb => by
      have h := cond_t hb hx39
      obtain ⟨x38, hx38, h⟩ := bnd h
      (have e := Option.some.inj h; subst e)
      exact (RE.to (d' := (cO cI).e (some x38)) (RE.ixv rfl RE.int rfl (ix_L (c := cI) hx38)) rfl)) (fun hb => by
      have h := cond_f hb hx39
      (have e := Option.some.inj h; subst e)
      exact (RE.to (d' := (cO cI).e none) RE.non rfl))) rfl) REs.nil)) (c_law_equal hx40)))) rfl) (fun hb => ?_) (fun hb => ?_)
          · have h := cond_t hb h
            (have e := Option.some.inj h; subst e)
            exact WS.ret RE.bl (fun _ _ q => q)
          · have h := cond_f hb h
            refine WS.nilS ?_
            (have e := Option.some.inj h; subst e)
            exact WS.nilX (by (repeat' (first | exact LeK.nil | apply LeK.cons | exact LeC.rfl | exact LeC.ur | exact LeC.uo | exact LeC.ro rfl)))
        · subst e
          have h := fin_nx h
          (have e := Option.some.inj h; subst e)
          exact WS.nilX (by (repeat' (first | exact LeK.nil | apply LeK.cons | exact LeC.rfl | exact LeC.ur | exact LeC.uo | exact LeC.ro rfl)))
        · subst e
          have h := fin_rt h
          (have e := Option.some.inj h; subst e)
          exact q
  · subst e
    have h := fin_nx h
    obtain ⟨x44, hx44, h⟩ := bnd h
    obtain ⟨b46, hb46, h⟩ := bnd h
    (have e := Option.some.inj h; subst e)
    exact WS.ret (RE.sc (RE.v (RE.andC (z := b46) (RE.cmp (RE.call rfl rfl (REs.cons (RE.tup (d := (cT cI).e [7]) (REs.cons RE.int REs.nil) rfl) (REs.cons RE.int (REs.cons RE.int REs.nil))) (c_fewest_receipts hx44)) (RE.to (d' := (cO cI).e (some 1)) RE.int rfl) (cv_eq (c := (cO cI)))) (fun hb => by
      have h := cond_t hb hb46
      obtain ⟨x45, hx45, h⟩ := bnd h
      (have e := Option.some.inj h; subst e)
      exact (RE.cmp (RE.call rfl rfl (REs.cons (RE.tup (d := (cT cI).e [7]) (REs.cons RE.int REs.nil) rfl) (REs.cons RE.int REs.nil)) (c_trade_off hx45)) (RE.lst (d := (cL cI).e [0]) (REs.cons RE.int REs.nil) rfl) (cv_eq (c := (cL cI))))) (fun hb => by have h := cond_f hb hb46; (have e := Option.some.inj h; subst e); rfl))) rfl) (fun _ _ q => q)
  · subst e
    have h := fin_rt h
    (have e := Option.some.inj h; subst e)
    exact q
end DD

-- part K07
set_option Elab.async false
set_option linter.all false
set_option maxRecDepth 100000
set_option maxHeartbeats 2000000
namespace DD.K07
open PySem PySem.Spec PyProof.Rows L2 DD.P
def top (i : Nat) : Stmt := PySem.Challenge.pw_cheapestfree_k07_trade_offs_and_fewest_r.main.body.getD i (.Pass ⟨0, 0, 0, 0⟩)
def q_is_between : FSem := s_is_between []
def q_is_basket : FSem := s_is_basket [q_is_between]
def q_check_basket : FSem := s_check_basket [q_is_basket]
def q_is_size : FSem := s_is_size [q_is_between]
def q_check_offer : FSem := s_check_offer [q_check_basket, q_is_size]
def q_row_of : FSem := s_row_of []
def q_block_saving : FSem := s_block_saving []
def q_table_for : FSem := s_table_for [q_row_of, q_block_saving]
def q_all_values : FSem := s_all_values [q_table_for]
def q_trade_off : FSem := s_trade_off [q_check_offer, q_all_values]
def q_check_saving : FSem := s_check_saving [q_is_between]
def q_fewest_receipts : FSem := s_fewest_receipts [q_check_offer, q_check_saving, q_all_values]
def q_law_source : FSem := s_law_source []
def q_law_draw : FSem := s_law_draw []
def q_law_choice : FSem := s_law_choice [q_law_draw]
def q_law_kind : FSem := s_law_kind []
def q_law_equal : Nat → FSem
  | 0 => noSem false
  | n + 1 => s_law_equal [q_law_kind, (q_law_equal n)]
def q_law_basket : FSem := s_law_basket [q_law_choice, q_law_draw]
def q_law_row : FSem := s_law_row []
def q_law_block : FSem := s_law_block []
def q_law_best : FSem := s_law_best [q_law_row, q_law_block]
def q_law_k07 : FSem := s_law_k07 [q_law_source, q_law_basket, q_law_draw, q_law_best, q_trade_off, (q_law_equal 6), q_fewest_receipts]
abbrev st_is_between : Stmt := top 8
theorem sc_is_between : FnScope t_is_between.N ["value", "low", "high"] (defScope st_is_between) := ⟨rfl, rfl, rfl, by decide +kernel, rfl, by decide +kernel, by decide +kernel⟩
theorem m_is_between : isSs t_is_between (defScope st_is_between) b_is_between (defBody st_is_between) = true := by decide +kernel
abbrev st_is_basket : Stmt := top 9
theorem sc_is_basket : FnScope t_is_basket.N ["value"] (defScope st_is_basket) := ⟨rfl, rfl, rfl, by decide +kernel, rfl, by decide +kernel, by decide +kernel⟩
theorem m_is_basket : isSs t_is_basket (defScope st_is_basket) b_is_basket (defBody st_is_basket) = true := by decide +kernel
abbrev st_check_basket : Stmt := top 10
theorem sc_check_basket : FnScope t_check_basket.N ["basket"] (defScope st_check_basket) := ⟨rfl, rfl, rfl, by decide +kernel, rfl, by decide +kernel, by decide +kernel⟩
theorem m_check_basket : isSs t_check_basket (defScope st_check_basket) b_check_basket (defBody st_check_basket) = true := by decide +kernel
abbrev st_is_size : Stmt := top 11
theorem sc_is_size : FnScope t_is_size.N ["value"] (defScope st_is_size) := ⟨rfl, rfl, rfl, by decide +kernel, rfl, by decide +kernel, by decide +kernel⟩
theorem m_is_size : isSs t_is_size (defScope st_is_size) b_is_size (defBody st_is_size) = true := by decide +kernel
abbrev st_check_offer : Stmt := top 12
theorem sc_check_offer : FnScope t_check_offer.N ["basket", "size"] (defScope st_check_offer) := ⟨rfl, rfl, rfl, by decide +kernel, rfl, by decide +kernel, by decide +kernel⟩
theorem m_check_offer : isSs t_check_offer (defScope st_check_offer) b_check_offer (defBody st_check_offer) = true := by decide +kernel
abbrev st_row_of : Stmt := top 13
theorem sc_row_of : FnScope t_row_of.N ["basket"] (defScope st_row_of) := ⟨rfl, rfl, rfl, by decide +kernel, rfl, by decide +kernel, by decide +kernel⟩
theorem m_row_of : isSs t_row_of (defScope st_row_of) b_row_of (defBody st_row_of) = true := by decide +kernel
abbrev st_block_saving : Stmt := top 16
theorem sc_block_saving : FnScope t_block_saving.N ["prices", "size", "first", "last"] (defScope st_block_saving) := ⟨rfl, rfl, rfl, by decide +kernel, rfl, by decide +kernel, by decide +kernel⟩
theorem m_block_saving : isSs t_block_saving (defScope st_block_saving) b_block_saving (defBody st_block_saving) = true := by decide +kernel
abbrev st_table_for : Stmt := top 17
theorem sc_table_for : FnScope t_table_for.N ["basket", "size", "receipts"] (defScope st_table_for) := ⟨rfl, rfl, rfl, by decide +kernel, rfl, by decide +kernel, by decide +kernel⟩
theorem m_table_for : isSs t_table_for (defScope st_table_for) b_table_for (defBody st_table_for) = true := by decide +kernel
abbrev st_all_values : Stmt := top 18
theorem sc_all_values : FnScope t_all_values.N ["basket", "size"] (defScope st_all_values) := ⟨rfl, rfl, rfl, by decide +kernel, rfl, by decide +kernel, by decide +kernel⟩
theorem m_all_values : isSs t_all_values (defScope st_all_values) b_all_values (defBody st_all_values) = true := by decide +kernel
abbrev st_trade_off : Stmt := top 19
theorem sc_trade_off : FnScope t_trade_off.N ["basket", "size"] (defScope st_trade_off) := ⟨rfl, rfl, rfl, by decide +kernel, rfl, by decide +kernel, by decide +kernel⟩
theorem m_trade_off : isSs t_trade_off (defScope st_trade_off) b_trade_off (defBody st_trade_off) = true := by decide +kernel
abbrev st_check_saving : Stmt := top 20
theorem sc_check_saving : FnScope t_check_saving.N ["wished"] (defScope st_check_saving) := ⟨rfl, rfl, rfl, by decide +kernel, rfl, by decide +kernel, by decide +kernel⟩
theorem m_check_saving : isSs t_check_saving (defScope st_check_saving) b_check_saving (defBody st_check_saving) = true := by decide +kernel
abbrev st_fewest_receipts : Stmt := top 21
theorem sc_fewest_receipts : FnScope t_fewest_receipts.N ["basket", "size", "wished"] (defScope st_fewest_receipts) := ⟨rfl, rfl, rfl, by decide +kernel, rfl, by decide +kernel, by decide +kernel⟩
theorem m_fewest_receipts : isSs t_fewest_receipts (defScope st_fewest_receipts) b_fewest_receipts (defBody st_fewest_receipts) = true := by decide +kernel
abbrev st_law_source : Stmt := top 23
theorem sc_law_source : FnScope t_law_source.N ["_law_cell", "_law_turn"] (defScope st_law_source) := ⟨rfl, rfl, rfl, by decide +kernel, rfl, by decide +kernel, by decide +kernel⟩
theorem m_law_source : isSs t_law_source (defScope st_law_source) b_law_source (defBody st_law_source) = true := by decide +kernel
abbrev st_law_draw : Stmt := top 24
theorem sc_law_draw : FnScope t_law_draw.N ["_law_source_here", "_law_size"] (defScope st_law_draw) := ⟨rfl, rfl, rfl, by decide +kernel, rfl, by decide +kernel, by decide +kernel⟩
theorem m_law_draw : isSs t_law_draw (defScope st_law_draw) b_law_draw (defBody st_law_draw) = true := by decide +kernel
abbrev st_law_choice : Stmt := top 25
theorem sc_law_choice : FnScope t_law_choice.N ["_law_source_here", "_law_items"] (defScope st_law_choice) := ⟨rfl, rfl, rfl, by decide +kernel, rfl, by decide +kernel, by decide +kernel⟩
theorem m_law_choice : isSs t_law_choice (defScope st_law_choice) b_law_choice (defBody st_law_choice) = true := by decide +kernel
abbrev st_law_kind : Stmt := top 26
theorem sc_law_kind : FnScope t_law_kind.N ["_law_value"] (defScope st_law_kind) := ⟨rfl, rfl, rfl, by decide +kernel, rfl, by decide +kernel, by decide +kernel⟩
theorem m_law_kind : isSs t_law_kind (defScope st_law_kind) b_law_kind (defBody st_law_kind) = true := by decide +kernel
abbrev st_law_equal : Stmt := top 27
theorem sc_law_equal : FnScope t_law_equal.N ["_law_value", "_law_expected"] (defScope st_law_equal) := ⟨rfl, rfl, rfl, by decide +kernel, rfl, by decide +kernel, by decide +kernel⟩
theorem m_law_equal : isSs t_law_equal (defScope st_law_equal) b_law_equal (defBody st_law_equal) = true := by decide +kernel
abbrev st_law_basket : Stmt := top 28
theorem sc_law_basket : FnScope t_law_basket.N ["_law_source_here", "_law_most"] (defScope st_law_basket) := ⟨rfl, rfl, rfl, by decide +kernel, rfl, by decide +kernel, by decide +kernel⟩
theorem m_law_basket : isSs t_law_basket (defScope st_law_basket) b_law_basket (defBody st_law_basket) = true := by decide +kernel
abbrev st_law_row : Stmt := top 29
theorem sc_law_row : FnScope t_law_row.N ["_law_basket_here"] (defScope st_law_row) := ⟨rfl, rfl, rfl, by decide +kernel, rfl, by decide +kernel, by decide +kernel⟩
theorem m_law_row : isSs t_law_row (defScope st_law_row) b_law_row (defBody st_law_row) = true := by decide +kernel
abbrev st_law_block : Stmt := top 30
theorem sc_law_block : FnScope t_law_block.N ["_law_prices", "_law_size", "_law_first", "_law_last"] (defScope st_law_block) := ⟨rfl, rfl, rfl, by decide +kernel, rfl, by decide +kernel, by decide +kernel⟩
theorem m_law_block : isSs t_law_block (defScope st_law_block) b_law_block (defBody st_law_block) = true := by decide +kernel
abbrev st_law_best : Stmt := top 31
theorem sc_law_best : FnScope t_law_best.N ["_law_basket_here", "_law_size"] (defScope st_law_best) := ⟨rfl, rfl, rfl, by decide +kernel, rfl, by decide +kernel, by decide +kernel⟩
theorem m_law_best : isSs t_law_best (defScope st_law_best) b_law_best (defBody st_law_best) = true := by decide +kernel
abbrev st_law_k07 : Stmt := top 32
theorem sc_law_k07 : FnScope t_law_k07.N ["_law_script"] (defScope st_law_k07) := ⟨rfl, rfl, rfl, by decide +kernel, rfl, by decide +kernel, by decide +kernel⟩
theorem m_law_k07 : isSs t_law_k07 (defScope st_law_k07) b_law_k07 (defBody st_law_k07) = true := by decide +kernel
theorem ok_is_between {P : Program} {w : World} {K : PySem.W.Frag} {mg : Str → Option Value} {base : Heap} {f : Addr} {fd : FuncData} (D : Def K mg "is_between" st_is_between f fd ["value", "low", "high"]) (hz : ∀ x ∈ bltNames, mg x = none) : FnOk P w K mg base (L2.CX P w) 1 f fd ["value", "low", "high"] (spF K mg q_is_between 3) :=
  mk_ok D rfl sc_is_between m_is_between hz .nil trivial trivial trivial
theorem ok_is_basket {P : Program} {w : World} {K : PySem.W.Frag} {mg : Str → Option Value} {base : Heap} {f : Addr} {fd : FuncData} (D : Def K mg "is_basket" st_is_basket f fd ["value"]) (hz : ∀ x ∈ bltNames, mg x = none) {g0 : FInfo} (c0 : Callee P w K mg base 1 ("is_between", false, 3) q_is_between g0) (h_MAX_ITEMS : ∃ t, mg "MAX_ITEMS" = some (.int 12 t)) (h_MAX_PRICE : ∃ t, mg "MAX_PRICE" = some (.int 10000 t)) : FnOk P w K mg base (L2.CX P w) 2 f fd ["value"] (spF K mg q_is_basket 1) :=
  mk_ok D rfl sc_is_basket m_is_basket hz (.cons c0 .nil) ⟨h_MAX_ITEMS, h_MAX_PRICE, trivial⟩ trivial trivial
theorem ok_check_basket {P : Program} {w : World} {K : PySem.W.Frag} {mg : Str → Option Value} {base : Heap} {f : Addr} {fd : FuncData} (D : Def K mg "check_basket" st_check_basket f fd ["basket"]) (hz : ∀ x ∈ bltNames, mg x = none) {g0 : FInfo} (c0 : Callee P w K mg base 2 ("is_basket", false, 1) q_is_basket g0) (h_InvalidBasket : ExnOk K mg "InvalidBasket") : FnOk P w K mg base (L2.CX P w) 3 f fd ["basket"] (spF K mg q_check_basket 1) :=
  mk_ok D rfl sc_check_basket m_check_basket hz (.cons c0 .nil) trivial trivial ⟨h_InvalidBasket, trivial⟩
theorem ok_is_size {P : Program} {w : World} {K : PySem.W.Frag} {mg : Str → Option Value} {base : Heap} {f : Addr} {fd : FuncData} (D : Def K mg "is_size" st_is_size f fd ["value"]) (hz : ∀ x ∈ bltNames, mg x = none) {g0 : FInfo} (c0 : Callee P w K mg base 1 ("is_between", false, 3) q_is_between g0) : FnOk P w K mg base (L2.CX P w) 2 f fd ["value"] (spF K mg q_is_size 1) :=
  mk_ok D rfl sc_is_size m_is_size hz (.cons c0 .nil) trivial trivial trivial
theorem ok_check_offer {P : Program} {w : World} {K : PySem.W.Frag} {mg : Str → Option Value} {base : Heap} {f : Addr} {fd : FuncData} (D : Def K mg "check_offer" st_check_offer f fd ["basket", "size"]) (hz : ∀ x ∈ bltNames, mg x = none) {g0 : FInfo} (c0 : Callee P w K mg base 3 ("check_basket", false, 1) q_check_basket g0) {g1 : FInfo} (c1 : Callee P w K mg base 3 ("is_size", false, 1) q_is_size g1) (h_InvalidSize : ExnOk K mg "InvalidSize") : FnOk P w K mg base (L2.CX P w) 4 f fd ["basket", "size"] (spF K mg q_check_offer 2) :=
  mk_ok D rfl sc_check_offer m_check_offer hz (.cons c0 (.cons c1 .nil)) trivial trivial ⟨h_InvalidSize, trivial⟩
theorem ok_row_of {P : Program} {w : World} {K : PySem.W.Frag} {mg : Str → Option Value} {base : Heap} {f : Addr} {fd : FuncData} (D : Def K mg "row_of" st_row_of f fd ["basket"]) (hz : ∀ x ∈ bltNames, mg x = none) : FnOk P w K mg base (L2.CX P w) 1 f fd ["basket"] (spF K mg q_row_of 1) :=
  mk_ok D rfl sc_row_of m_row_of hz .nil trivial trivial trivial
theorem ok_block_saving {P : Program} {w : World} {K : PySem.W.Frag} {mg : Str → Option Value} {base : Heap} {f : Addr} {fd : FuncData} (D : Def K mg "block_saving" st_block_saving f fd ["prices", "size", "first", "last"]) (hz : ∀ x ∈ bltNames, mg x = none) : FnOk P w K mg base (L2.CX P w) 1 f fd ["prices", "size", "first", "last"] (spF K mg q_block_saving 4) :=
  mk_ok D rfl sc_block_saving m_block_saving hz .nil trivial trivial trivial
theorem ok_table_for {P : Program} {w : World} {K : PySem.W.Frag} {mg : Str → Option Value} {base : Heap} {f : Addr} {fd : FuncData} (D : Def K mg "table_for" st_table_for f fd ["basket", "size", "receipts"]) (hz : ∀ x ∈ bltNames, mg x = none) {g0 : FInfo} (c0 : Callee P w K mg base 1 ("row_of", false, 1) q_row_of g0) {g1 : FInfo} (c1 : Callee P w K mg base 1 ("block_saving", false, 4) q_block_saving g1) : FnOk P w K mg base (L2.CX P w) 2 f fd ["basket", "size", "receipts"] (spF K mg q_table_for 3) :=
  mk_ok D rfl sc_table_for m_table_for hz (.cons c0 (.cons c1 .nil)) trivial trivial trivial
theorem ok_all_values {P : Program} {w : World} {K : PySem.W.Frag} {mg : Str → Option Value} {base : Heap} {f : Addr} {fd : FuncData} (D : Def K mg "all_values" st_all_values f fd ["basket", "size"]) (hz : ∀ x ∈ bltNames, mg x = none) {g0 : FInfo} (c0 : Callee P w K mg base 2 ("table_for", false, 3) q_table_for g0) : FnOk P w K mg base (L2.CX P w) 3 f fd ["basket", "size"] (spF K mg q_all_values 2) :=
  mk_ok D rfl sc_all_values m_all_values hz (.cons c0 .nil) trivial trivial trivial
theorem ok_trade_off {P : Program} {w : World} {K : PySem.W.Frag} {mg : Str → Option Value} {base : Heap} {f : Addr} {fd : FuncData} (D : Def K mg "trade_off" st_trade_off f fd ["basket", "size"]) (hz : ∀ x ∈ bltNames, mg x = none) {g0 : FInfo} (c0 : Callee P w K mg base 4 ("check_offer", false, 2) q_check_offer g0) {g1 : FInfo} (c1 : Callee P w K mg base 4 ("all_values", false, 2) q_all_values g1) : FnOk P w K mg base (L2.CX P w) 5 f fd ["basket", "size"] (spF K mg q_trade_off 2) :=
  mk_ok D rfl sc_trade_off m_trade_off hz (.cons c0 (.cons c1 .nil)) trivial trivial trivial
theorem ok_check_saving {P : Program} {w : World} {K : PySem.W.Frag} {mg : Str → Option Value} {base : Heap} {f : Addr} {fd : FuncData} (D : Def K mg "check_saving" st_check_saving f fd ["wished"]) (hz : ∀ x ∈ bltNames, mg x = none) {g0 : FInfo} (c0 : Callee P w K mg base 1 ("is_between", false, 3) q_is_between g0) (h_MAX_SAVING : ∃ t, mg "MAX_SAVING" = some (.int 1000000 t)) (h_InvalidSaving : ExnOk K mg "InvalidSaving") : FnOk P w K mg base (L2.CX P w) 2 f fd ["wished"] (spF K mg q_check_saving 1) :=
  mk_ok D rfl sc_check_saving m_check_saving hz (.cons c0 .nil) ⟨h_MAX_SAVING, trivial⟩ trivial ⟨h_InvalidSaving, trivial⟩
theorem ok_fewest_receipts {P : Program} {w : World} {K : PySem.W.Frag} {mg : Str → Option Value} {base : Heap} {f : Addr} {fd : FuncData} (D : Def K mg "fewest_receipts" st_fewest_receipts f fd ["basket", "size", "wished"]) (hz : ∀ x ∈ bltNames, mg x = none) {g0 : FInfo} (c0 : Callee P w K mg base 4 ("check_offer", false, 2) q_check_offer g0) {g1 : FInfo} (c1 : Callee P w K mg base 4 ("check_saving", false, 1) q_check_saving g1) {g2 : FInfo} (c2 : Callee P w K mg base 4 ("all_values", false, 2) q_all_values g2) : FnOk P w K mg base (L2.CX P w) 5 f fd ["basket", "size", "wished"] (spF K mg q_fewest_receipts 3) :=
  mk_ok D rfl sc_fewest_receipts m_fewest_receipts hz (.cons c0 (.cons c1 (.cons c2 .nil))) trivial trivial trivial
theorem ok_law_source {P : Program} {w : World} {K : PySem.W.Frag} {mg : Str → Option Value} {base : Heap} {f : Addr} {fd : FuncData} (D : Def K mg "_law_source" st_law_source f fd ["_law_cell", "_law_turn"]) (hz : ∀ x ∈ bltNames, mg x = none) : FnOk P w K mg base (L2.CX P w) 1 f fd ["_law_cell", "_law_turn"] (spF K mg q_law_source 2) :=
  mk_ok D rfl sc_law_source m_law_source hz .nil trivial trivial trivial
theorem ok_law_draw {P : Program} {w : World} {K : PySem.W.Frag} {mg : Str → Option Value} {base : Heap} {f : Addr} {fd : FuncData} (D : Def K mg "_law_draw" st_law_draw f fd ["_law_source_here", "_law_size"]) (hz : ∀ x ∈ bltNames, mg x = none) : FnOk P w K mg base (L2.CX P w) 1 f fd ["_law_source_here", "_law_size"] (spF K mg q_law_draw 2) :=
  mk_ok D rfl sc_law_draw m_law_draw hz .nil trivial trivial trivial
theorem ok_law_choice {P : Program} {w : World} {K : PySem.W.Frag} {mg : Str → Option Value} {base : Heap} {f : Addr} {fd : FuncData} (D : Def K mg "_law_choice" st_law_choice f fd ["_law_source_here", "_law_items"]) (hz : ∀ x ∈ bltNames, mg x = none) {g0 : FInfo} (c0 : Callee P w K mg base 1 ("_law_draw", true, 2) q_law_draw g0) : FnOk P w K mg base (L2.CX P w) 2 f fd ["_law_source_here", "_law_items"] (spF K mg q_law_choice 2) :=
  mk_ok D rfl sc_law_choice m_law_choice hz (.cons c0 .nil) trivial trivial trivial
theorem ok_law_kind {P : Program} {w : World} {K : PySem.W.Frag} {mg : Str → Option Value} {base : Heap} {f : Addr} {fd : FuncData} (D : Def K mg "_law_kind" st_law_kind f fd ["_law_value"]) (hz : ∀ x ∈ bltNames, mg x = none) : FnOk P w K mg base (L2.CX P w) 1 f fd ["_law_value"] (spF K mg q_law_kind 1) :=
  mk_ok D rfl sc_law_kind m_law_kind hz .nil trivial trivial trivial
theorem ok_law_equal {P : Program} {w : World} {K : PySem.W.Frag} {mg : Str → Option Value} {base : Heap} {f : Addr} {fd : FuncData} (D : Def K mg "_law_equal" st_law_equal f fd ["_law_value", "_law_expected"]) (hz : ∀ x ∈ bltNames, mg x = none) {g0 : FInfo} (c0 : Callee P w K mg base 1 ("_law_kind", false, 1) q_law_kind g0) : ∀ n : Nat, FnOk P w K mg base (L2.CX P w) (1 + n) f fd ["_law_value", "_law_expected"] (spF K mg (q_law_equal n) 2)
  | 0 => no_ok
  | n + 1 => mk_ok D rfl sc_law_equal m_law_equal hz (.cons (c0.up (Nat.le_add_right _ _)) (.cons (D.call (ok_law_equal D hz c0 n) (by cases n <;> rfl) rfl) .nil)) trivial trivial trivial
theorem ok_law_basket {P : Program} {w : World} {K : PySem.W.Frag} {mg : Str → Option Value} {base : Heap} {f : Addr} {fd : FuncData} (D : Def K mg "_law_basket" st_law_basket f fd ["_law_source_here", "_law_most"]) (hz : ∀ x ∈ bltNames, mg x = none) {g0 : FInfo} (c0 : Callee P w K mg base 2 ("_law_choice", true, 2) q_law_choice g0) {g1 : FInfo} (c1 : Callee P w K mg base 2 ("_law_draw", true, 2) q_law_draw g1) : FnOk P w K mg base (L2.CX P w) 3 f fd ["_law_source_here", "_law_most"] (spF K mg q_law_basket 2) :=
  mk_ok D rfl sc_law_basket m_law_basket hz (.cons c0 (.cons c1 .nil)) trivial trivial trivial
theorem ok_law_row {P : Program} {w : World} {K : PySem.W.Frag} {mg : Str → Option Value} {base : Heap} {f : Addr} {fd : FuncData} (D : Def K mg "_law_row" st_law_row f fd ["_law_basket_here"]) (hz : ∀ x ∈ bltNames, mg x = none) : FnOk P w K mg base (L2.CX P w) 1 f fd ["_law_basket_here"] (spF K mg q_law_row 1) :=
  mk_ok D rfl sc_law_row m_law_row hz .nil trivial trivial trivial
theorem ok_law_block {P : Program} {w : World} {K : PySem.W.Frag} {mg : Str → Option Value} {base : Heap} {f : Addr} {fd : FuncData} (D : Def K mg "_law_block" st_law_block f fd ["_law_prices", "_law_size", "_law_first", "_law_last"]) (hz : ∀ x ∈ bltNames, mg x = none) : FnOk P w K mg base (L2.CX P w) 1 f fd ["_law_prices", "_law_size", "_law_first", "_law_last"] (spF K mg q_law_block 4) :=
  mk_ok D rfl sc_law_block m_law_block hz .nil trivial trivial trivial
theorem ok_law_best {P : Program} {w : World} {K : PySem.W.Frag} {mg : Str → Option Value} {base : Heap} {f : Addr} {fd : FuncData} (D : Def K mg "_law_best" st_law_best f fd ["_law_basket_here", "_law_size"]) (hz : ∀ x ∈ bltNames, mg x = none) {g0 : FInfo} (c0 : Callee P w K mg base 1 ("_law_row", false, 1) q_law_row g0) {g1 : FInfo} (c1 : Callee P w K mg base 1 ("_law_block", false, 4) q_law_block g1) : FnOk P w K mg base (L2.CX P w) 2 f fd ["_law_basket_here", "_law_size"] (spF K mg q_law_best 2) :=
  mk_ok D rfl sc_law_best m_law_best hz (.cons c0 (.cons c1 .nil)) trivial trivial trivial
theorem ok_law_k07 {P : Program} {w : World} {K : PySem.W.Frag} {mg : Str → Option Value} {base : Heap} {f : Addr} {fd : FuncData} (D : Def K mg "law" st_law_k07 f fd ["_law_script"]) (hz : ∀ x ∈ bltNames, mg x = none) {g0 : FInfo} (c0 : Callee P w K mg base 8 ("_law_source", false, 2) q_law_source g0) {g1 : FInfo} (c1 : Callee P w K mg base 8 ("_law_basket", true, 2) q_law_basket g1) {g2 : FInfo} (c2 : Callee P w K mg base 8 ("_law_draw", true, 2) q_law_draw g2) {g3 : FInfo} (c3 : Callee P w K mg base 8 ("_law_best", false, 2) q_law_best g3) {g4 : FInfo} (c4 : Callee P w K mg base 8 ("trade_off", false, 2) q_trade_off g4) {g5 : FInfo} (c5 : Callee P w K mg base 8 ("_law_equal", false, 2) (q_law_equal 6) g5) {g6 : FInfo} (c6 : Callee P w K mg base 8 ("fewest_receipts", false, 3) q_fewest_receipts g6) : FnOk P w K mg base (L2.CX P w) 9 f fd ["_law_script"] (spF K mg q_law_k07 1) :=
  mk_ok D rfl sc_law_k07 m_law_k07 hz (.cons c0 (.cons c1 (.cons c2 (.cons c3 (.cons c4 (.cons c5 (.cons c6 .nil))))))) trivial trivial trivial
theorem all_mk {l : PySem.W.OpenLaw} {w : World} {K : PySem.W.Frag} {h : Heap} {mg : Str → Option Value} {fa : Addr} (hp : Plain q_law_k07) (X : K.In h) (G : h.Ns mainGlobals mg) (hfa : mg "law" = some (.ref fa))
    {f0 : Addr} {od0 an0 : Option Addr} {sl0 : Array (Option Value)} {oc0 kV0 dc0 pm0 cd0 ct0 : Value} (a0 : PySem.W.nsIn K mainGlobals "is_between" = some (some (.ref f0))) (l0 : K.lookup f0 = some ⟨oc0, od0, .func (PySem.W.fnOf "is_between" "is_between" (defArgs st_is_between) (defBody st_is_between) (defScope st_is_between) .none kV0 dc0 pm0 an0 cd0 ct0), sl0⟩) (c0 : PySem.W.codeIn K cd0 "is_between" = true) (k0 : PySem.W.keepIn K (.ref f0) = true)
    {f1 : Addr} {od1 an1 : Option Addr} {sl1 : Array (Option Value)} {oc1 kV1 dc1 pm1 cd1 ct1 : Value} (a1 : PySem.W.nsIn K mainGlobals "is_basket" = some (some (.ref f1))) (l1 : K.lookup f1 = some ⟨oc1, od1, .func (PySem.W.fnOf "is_basket" "is_basket" (defArgs st_is_basket) (defBody st_is_basket) (defScope st_is_basket) .none kV1 dc1 pm1 an1 cd1 ct1), sl1⟩) (c1 : PySem.W.codeIn K cd1 "is_basket" = true) (k1 : PySem.W.keepIn K (.ref f1) = true)
    {f2 : Addr} {od2 an2 : Option Addr} {sl2 : Array (Option Value)} {oc2 kV2 dc2 pm2 cd2 ct2 : Value} (a2 : PySem.W.nsIn K mainGlobals "check_basket" = some (some (.ref f2))) (l2 : K.lookup f2 = some ⟨oc2, od2, .func (PySem.W.fnOf "check_basket" "check_basket" (defArgs st_check_basket) (defBody st_check_basket) (defScope st_check_basket) .none kV2 dc2 pm2 an2 cd2 ct2), sl2⟩) (c2 : PySem.W.codeIn K cd2 "check_basket" = true) (k2 : PySem.W.keepIn K (.ref f2) = true)
    {f3 : Addr} {od3 an3 : Option Addr} {sl3 : Array (Option Value)} {oc3 kV3 dc3 pm3 cd3 ct3 : Value} (a3 : PySem.W.nsIn K mainGlobals "is_size" = some (some (.ref f3))) (l3 : K.lookup f3 = some ⟨oc3, od3, .func (PySem.W.fnOf "is_size" "is_size" (defArgs st_is_size) (defBody st_is_size) (defScope st_is_size) .none kV3 dc3 pm3 an3 cd3 ct3), sl3⟩) (c3 : PySem.W.codeIn K cd3 "is_size" = true) (k3 : PySem.W.keepIn K (.ref f3) = true)
    {f4 : Addr} {od4 an4 : Option Addr} {sl4 : Array (Option Value)} {oc4 kV4 dc4 pm4 cd4 ct4 : Value} (a4 : PySem.W.nsIn K mainGlobals "check_offer" = some (some (.ref f4))) (l4 : K.lookup f4 = some ⟨oc4, od4, .func (PySem.W.fnOf "check_offer" "check_offer" (defArgs st_check_offer) (defBody st_check_offer) (defScope st_check_offer) .none kV4 dc4 pm4 an4 cd4 ct4), sl4⟩) (c4 : PySem.W.codeIn K cd4 "check_offer" = true) (k4 : PySem.W.keepIn K (.ref f4) = true)
    {f5 : Addr} {od5 an5 : Option Addr} {sl5 : Array (Option Value)} {oc5 kV5 dc5 pm5 cd5 ct5 : Value} (a5 : PySem.W.nsIn K mainGlobals "row_of" = some (some (.ref f5))) (l5 : K.lookup f5 = some ⟨oc5, od5, .func (PySem.W.fnOf "row_of" "row_of" (defArgs st_row_of) (defBody st_row_of) (defScope st_row_of) .none kV5 dc5 pm5 an5 cd5 ct5), sl5⟩) (c5 : PySem.W.codeIn K cd5 "row_of" = true) (k5 : PySem.W.keepIn K (.ref f5) = true)
    {f6 : Addr} {od6 an6 : Option Addr} {sl6 : Array (Option Value)} {oc6 kV6 dc6 pm6 cd6 ct6 : Value} (a6 : PySem.W.nsIn K mainGlobals "block_saving" = some (some (.ref f6))) (l6 : K.lookup f6 = some ⟨oc6, od6, .func (PySem.W.fnOf "block_saving" "block_saving" (defArgs st_block_saving) (defBody st_block_saving) (defScope st_block_saving) .none kV6 dc6 pm6 an6 cd6 ct6), sl6⟩) (c6 : PySem.W.codeIn K cd6 "block_saving" = true) (k6 : PySem.W.keepIn K (.ref f6) = true)
    {f7 : Addr} {od7 an7 : Option Addr} {sl7 : Array (Option Value)} {oc7 kV7 dc7 pm7 cd7 ct7 : Value} (a7 : PySem.W.nsIn K mainGlobals "table_for" = some (some (.ref f7))) (l7 : K.lookup f7 = some ⟨oc7, od7, .func (PySem.W.fnOf "table_for" "table_for" (defArgs st_table_for) (defBody st_table_for) (defScope st_table_for) .none kV7 dc7 pm7 an7 cd7 ct7), sl7⟩) (c7 : PySem.W.codeIn K cd7 "table_for" = true) (k7 : PySem.W.keepIn K (.ref f7) = true)
    {f8 : Addr} {od8 an8 : Option Addr} {sl8 : Array (Option Value)} {oc8 kV8 dc8 pm8 cd8 ct8 : Value} (a8 : PySem.W.nsIn K mainGlobals "all_values" = some (some (.ref f8))) (l8 : K.lookup f8 = some ⟨oc8, od8, .func (PySem.W.fnOf "all_values" "all_values" (defArgs st_all_values) (defBody st_all_values) (defScope st_all_values) .none kV8 dc8 pm8 an8 cd8 ct8), sl8⟩) (c8 : PySem.W.codeIn K cd8 "all_values" = true) (k8 : PySem.W.keepIn K (.ref f8) = true)
    {f9 : Addr} {od9 an9 : Option Addr} {sl9 : Array (Option Value)} {oc9 kV9 dc9 pm9 cd9 ct9 : Value} (a9 : PySem.W.nsIn K mainGlobals "trade_off" = some (some (.ref f9))) (l9 : K.lookup f9 = some ⟨oc9, od9, .func (PySem.W.fnOf "trade_off" "trade_off" (defArgs st_trade_off) (defBody st_trade_off) (defScope st_trade_off) .none kV9 dc9 pm9 an9 cd9 ct9), sl9⟩) (c9 : PySem.W.codeIn K cd9 "trade_off" = true) (k9 : PySem.W.keepIn K (.ref f9) = true)
    {f10 : Addr} {od10 an10 : Option Addr} {sl10 : Array (Option Value)} {oc10 kV10 dc10 pm10 cd10 ct10 : Value} (a10 : PySem.W.nsIn K mainGlobals "check_saving" = some (some (.ref f10))) (l10 : K.lookup f10 = some ⟨oc10, od10, .func (PySem.W.fnOf "check_saving" "check_saving" (defArgs st_check_saving) (defBody st_check_saving) (defScope st_check_saving) .none kV10 dc10 pm10 an10 cd10 ct10), sl10⟩) (c10 : PySem.W.codeIn K cd10 "check_saving" = true) (k10 : PySem.W.keepIn K (.ref f10) = true)
    {f11 : Addr} {od11 an11 : Option Addr} {sl11 : Array (Option Value)} {oc11 kV11 dc11 pm11 cd11 ct11 : Value} (a11 : PySem.W.nsIn K mainGlobals "fewest_receipts" = some (some (.ref f11))) (l11 : K.lookup f11 = some ⟨oc11, od11, .func (PySem.W.fnOf "fewest_receipts" "fewest_receipts" (defArgs st_fewest_receipts) (defBody st_fewest_receipts) (defScope st_fewest_receipts) .none kV11 dc11 pm11 an11 cd11 ct11), sl11⟩) (c11 : PySem.W.codeIn K cd11 "fewest_receipts" = true) (k11 : PySem.W.keepIn K (.ref f11) = true)
    {f12 : Addr} {od12 an12 : Option Addr} {sl12 : Array (Option Value)} {oc12 kV12 dc12 pm12 cd12 ct12 : Value} (a12 : PySem.W.nsIn K mainGlobals "_law_source" = some (some (.ref f12))) (l12 : K.lookup f12 = some ⟨oc12, od12, .func (PySem.W.fnOf "_law_source" "_law_source" (defArgs st_law_source) (defBody st_law_source) (defScope st_law_source) .none kV12 dc12 pm12 an12 cd12 ct12), sl12⟩) (c12 : PySem.W.codeIn K cd12 "_law_source" = true) (k12 : PySem.W.keepIn K (.ref f12) = true)
    {f13 : Addr} {od13 an13 : Option Addr} {sl13 : Array (Option Value)} {oc13 kV13 dc13 pm13 cd13 ct13 : Value} (a13 : PySem.W.nsIn K mainGlobals "_law_draw" = some (some (.ref f13))) (l13 : K.lookup f13 = some ⟨oc13, od13, .func (PySem.W.fnOf "_law_draw" "_law_draw" (defArgs st_law_draw) (defBody st_law_draw) (defScope st_law_draw) .none kV13 dc13 pm13 an13 cd13 ct13), sl13⟩) (c13 : PySem.W.codeIn K cd13 "_law_draw" = true) (k13 : PySem.W.keepIn K (.ref f13) = true)
    {f14 : Addr} {od14 an14 : Option Addr} {sl14 : Array (Option Value)} {oc14 kV14 dc14 pm14 cd14 ct14 : Value} (a14 : PySem.W.nsIn K mainGlobals "_law_choice" = some (some (.ref f14))) (l14 : K.lookup f14 = some ⟨oc14, od14, .func (PySem.W.fnOf "_law_choice" "_law_choice" (defArgs st_law_choice) (defBody st_law_choice) (defScope st_law_choice) .none kV14 dc14 pm14 an14 cd14 ct14), sl14⟩) (c14 : PySem.W.codeIn K cd14 "_law_choice" = true) (k14 : PySem.W.keepIn K (.ref f14) = true)
    {f15 : Addr} {od15 an15 : Option Addr} {sl15 : Array (Option Value)} {oc15 kV15 dc15 pm15 cd15 ct15 : Value} (a15 : PySem.W.nsIn K mainGlobals "_law_kind" = some (some (.ref f15))) (l15 : K.lookup f15 = some ⟨oc15, od15, .func (PySem.W.fnOf "_law_kind" "_law_kind" (defArgs st_law_kind) (defBody st_law_kind) (defScope st_law_kind) .none kV15 dc15 pm15 an15 cd15 ct15), sl15⟩) (c15 : PySem.W.codeIn K cd15 "_law_kind" = true) (k15 : PySem.W.keepIn K (.ref f15) = true)
    {f16 : Addr} {od16 an16 : Option Addr} {sl16 : Array (Option Value)} {oc16 kV16 dc16 pm16 cd16 ct16 : Value} (a16 : PySem.W.nsIn K mainGlobals "_law_equal" = some (some (.ref f16))) (l16 : K.lookup f16 = some ⟨oc16, od16, .func (PySem.W.fnOf "_law_equal" "_law_equal" (defArgs st_law_equal) (defBody st_law_equal) (defScope st_law_equal) .none kV16 dc16 pm16 an16 cd16 ct16), sl16⟩) (c16 : PySem.W.codeIn K cd16 "_law_equal" = true) (k16 : PySem.W.keepIn K (.ref f16) = true)
    {f17 : Addr} {od17 an17 : Option Addr} {sl17 : Array (Option Value)} {oc17 kV17 dc17 pm17 cd17 ct17 : Value} (a17 : PySem.W.nsIn K mainGlobals "_law_basket" = some (some (.ref f17))) (l17 : K.lookup f17 = some ⟨oc17, od17, .func (PySem.W.fnOf "_law_basket" "_law_basket" (defArgs st_law_basket) (defBody st_law_basket) (defScope st_law_basket) .none kV17 dc17 pm17 an17 cd17 ct17), sl17⟩) (c17 : PySem.W.codeIn K cd17 "_law_basket" = true) (k17 : PySem.W.keepIn K (.ref f17) = true)
    {f18 : Addr} {od18 an18 : Option Addr} {sl18 : Array (Option Value)} {oc18 kV18 dc18 pm18 cd18 ct18 : Value} (a18 : PySem.W.nsIn K mainGlobals "_law_row" = some (some (.ref f18))) (l18 : K.lookup f18 = some ⟨oc18, od18, .func (PySem.W.fnOf "_law_row" "_law_row" (defArgs st_law_row) (defBody st_law_row) (defScope st_law_row) .none kV18 dc18 pm18 an18 cd18 ct18), sl18⟩) (c18 : PySem.W.codeIn K cd18 "_law_row" = true) (k18 : PySem.W.keepIn K (.ref f18) = true)
    {f19 : Addr} {od19 an19 : Option Addr} {sl19 : Array (Option Value)} {oc19 kV19 dc19 pm19 cd19 ct19 : Value} (a19 : PySem.W.nsIn K mainGlobals "_law_block" = some (some (.ref f19))) (l19 : K.lookup f19 = some ⟨oc19, od19, .func (PySem.W.fnOf "_law_block" "_law_block" (defArgs st_law_block) (defBody st_law_block) (defScope st_law_block) .none kV19 dc19 pm19 an19 cd19 ct19), sl19⟩) (c19 : PySem.W.codeIn K cd19 "_law_block" = true) (k19 : PySem.W.keepIn K (.ref f19) = true)
    {f20 : Addr} {od20 an20 : Option Addr} {sl20 : Array (Option Value)} {oc20 kV20 dc20 pm20 cd20 ct20 : Value} (a20 : PySem.W.nsIn K mainGlobals "_law_best" = some (some (.ref f20))) (l20 : K.lookup f20 = some ⟨oc20, od20, .func (PySem.W.fnOf "_law_best" "_law_best" (defArgs st_law_best) (defBody st_law_best) (defScope st_law_best) .none kV20 dc20 pm20 an20 cd20 ct20), sl20⟩) (c20 : PySem.W.codeIn K cd20 "_law_best" = true) (k20 : PySem.W.keepIn K (.ref f20) = true)
    {f21 : Addr} {od21 an21 : Option Addr} {sl21 : Array (Option Value)} {oc21 kV21 dc21 pm21 cd21 ct21 : Value} (a21 : PySem.W.nsIn K mainGlobals "law" = some (some (.ref f21))) (l21 : K.lookup f21 = some ⟨oc21, od21, .func (PySem.W.fnOf "law" "law" (defArgs st_law_k07) (defBody st_law_k07) (defScope st_law_k07) .none kV21 dc21 pm21 an21 cd21 ct21), sl21⟩) (c21 : PySem.W.codeIn K cd21 "law" = true) (k21 : PySem.W.keepIn K (.ref f21) = true)
    {C0 : Addr} (ea0 : PySem.W.nsIn K mainGlobals "InvalidBasket" = some (some (.ref C0))) (ex0 : PySem.W.excIn K C0 [.type "ValueError", .type "Exception", .type "BaseException", .type "object"] "ValueError.__new__" = true) (ek0 : PySem.W.keepIn K (.ref C0) = true) (eb0 : PySem.W.subIn K (.ref C0) (.type "BaseException") = some true) (et0 : PySem.W.typeIn K (.ref C0) = some (.type "type"))
    {C1 : Addr} (ea1 : PySem.W.nsIn K mainGlobals "InvalidSize" = some (some (.ref C1))) (ex1 : PySem.W.excIn K C1 [.type "ValueError", .type "Exception", .type "BaseException", .type "object"] "ValueError.__new__" = true) (ek1 : PySem.W.keepIn K (.ref C1) = true) (eb1 : PySem.W.subIn K (.ref C1) (.type "BaseException") = some true) (et1 : PySem.W.typeIn K (.ref C1) = some (.type "type"))
    {C2 : Addr} (ea2 : PySem.W.nsIn K mainGlobals "InvalidSaving" = some (some (.ref C2))) (ex2 : PySem.W.excIn K C2 [.type "ValueError", .type "Exception", .type "BaseException", .type "object"] "ValueError.__new__" = true) (ek2 : PySem.W.keepIn K (.ref C2) = true) (eb2 : PySem.W.subIn K (.ref C2) (.type "BaseException") = some true) (et2 : PySem.W.typeIn K (.ref C2) = some (.type "type"))
    {t0 : Tok} (con0 : PySem.W.nsIn K mainGlobals "MAX_ITEMS" = some (some (.int 12 t0)))
    {t1 : Tok} (con1 : PySem.W.nsIn K mainGlobals "MAX_PRICE" = some (some (.int 10000 t1)))
    {t2 : Tok} (con2 : PySem.W.nsIn K mainGlobals "MAX_SAVING" = some (some (.int 1000000 t2)))
    (z0 : PySem.W.nsIn K mainGlobals "len" = some none)
    (z1 : PySem.W.nsIn K mainGlobals "sum" = some none)
    (z2 : PySem.W.nsIn K mainGlobals "max" = some none)
    (z3 : PySem.W.nsIn K mainGlobals "min" = some none)
    (z4 : PySem.W.nsIn K mainGlobals "sorted" = some none)
    (z5 : PySem.W.nsIn K mainGlobals "all" = some none)
    (z6 : PySem.W.nsIn K mainGlobals "any" = some none)
    (z7 : PySem.W.nsIn K mainGlobals "tuple" = some none)
    (z8 : PySem.W.nsIn K mainGlobals "list" = some none)
    (z9 : PySem.W.nsIn K mainGlobals "set" = some none)
    (z10 : PySem.W.nsIn K mainGlobals "int" = some none)
    (z11 : PySem.W.nsIn K mainGlobals "str" = some none)
    (z12 : PySem.W.nsIn K mainGlobals "bool" = some none)
    (z13 : PySem.W.nsIn K mainGlobals "isinstance" = some none)
    (z14 : PySem.W.nsIn K mainGlobals "range" = some none)
    (z15 : PySem.W.nsIn K mainGlobals "enumerate" = some none)
    (z16 : PySem.W.nsIn K mainGlobals "zip" = some none) :
    ∃ fd : FuncData, (∀ (s : Shared) (v : Value), BindsTo s fd ⟨[v], []⟩ [("_law_script", v)]) ∧ ∀ base : Heap, K.In base → base.Ns mainGlobals mg → FnOk l.prog w K mg base (L2.CX l.prog w) 9 fa fd ["_law_script"] (spL K) := by
  have e := hfa.symm.trans (PySem.W.mg_of X G a21)
  have ef : fa = f21 := Value.ref.inj (Option.some.inj e)
  rw [ef]
  have hz : ∀ x ∈ bltNames, mg x = none := by
    intro x hx
    simp only [bltNames, List.mem_cons, List.not_mem_nil, or_false] at hx
    rcases hx with rfl | rfl | rfl | rfl | rfl | rfl | rfl | rfl | rfl | rfl | rfl | rfl | rfl | rfl | rfl | rfl | rfl
    · exact PySem.W.mg_none_of X G z0
    · exact PySem.W.mg_none_of X G z1
    · exact PySem.W.mg_none_of X G z2
    · exact PySem.W.mg_none_of X G z3
    · exact PySem.W.mg_none_of X G z4
    · exact PySem.W.mg_none_of X G z5
    · exact PySem.W.mg_none_of X G z6
    · exact PySem.W.mg_none_of X G z7
    · exact PySem.W.mg_none_of X G z8
    · exact PySem.W.mg_none_of X G z9
    · exact PySem.W.mg_none_of X G z10
    · exact PySem.W.mg_none_of X G z11
    · exact PySem.W.mg_none_of X G z12
    · exact PySem.W.mg_none_of X G z13
    · exact PySem.W.mg_none_of X G z14
    · exact PySem.W.mg_none_of X G z15
    · exact PySem.W.mg_none_of X G z16
  have h_InvalidBasket : ExnOk K mg "InvalidBasket" := ⟨⟨C0, PySem.W.mg_of X G ea0, ex0, ek0, eb0, et0⟩⟩
  have h_InvalidSize : ExnOk K mg "InvalidSize" := ⟨⟨C1, PySem.W.mg_of X G ea1, ex1, ek1, eb1, et1⟩⟩
  have h_InvalidSaving : ExnOk K mg "InvalidSaving" := ⟨⟨C2, PySem.W.mg_of X G ea2, ex2, ek2, eb2, et2⟩⟩
  have h_MAX_ITEMS : ∃ t, mg "MAX_ITEMS" = some (.int 12 t) := ⟨t0, PySem.W.mg_of X G con0⟩
  have h_MAX_PRICE : ∃ t, mg "MAX_PRICE" = some (.int 10000 t) := ⟨t1, PySem.W.mg_of X G con1⟩
  have h_MAX_SAVING : ∃ t, mg "MAX_SAVING" = some (.int 1000000 t) := ⟨t2, PySem.W.mg_of X G con2⟩
  have F0 := fun_mk (st := st_is_between) l0 c0 k0
  have D0 : Def K mg "is_between" st_is_between f0 _ ["value", "low", "high"] := ⟨F0, PySem.W.mg_of X G a0, F0.binds (ps := ["value", "low", "high"]) fun _ _ _ _ _ _ us hl => match us, hl with | [_, _, _], _ => rfl⟩
  have F1 := fun_mk (st := st_is_basket) l1 c1 k1
  have D1 : Def K mg "is_basket" st_is_basket f1 _ ["value"] := ⟨F1, PySem.W.mg_of X G a1, F1.binds (ps := ["value"]) fun _ _ _ _ _ _ us hl => match us, hl with | [_], _ => rfl⟩
  have F2 := fun_mk (st := st_check_basket) l2 c2 k2
  have D2 : Def K mg "check_basket" st_check_basket f2 _ ["basket"] := ⟨F2, PySem.W.mg_of X G a2, F2.binds (ps := ["basket"]) fun _ _ _ _ _ _ us hl => match us, hl with | [_], _ => rfl⟩
  have F3 := fun_mk (st := st_is_size) l3 c3 k3
  have D3 : Def K mg "is_size" st_is_size f3 _ ["value"] := ⟨F3, PySem.W.mg_of X G a3, F3.binds (ps := ["value"]) fun _ _ _ _ _ _ us hl => match us, hl with | [_], _ => rfl⟩
  have F4 := fun_mk (st := st_check_offer) l4 c4 k4
  have D4 : Def K mg "check_offer" st_check_offer f4 _ ["basket", "size"] := ⟨F4, PySem.W.mg_of X G a4, F4.binds (ps := ["basket", "size"]) fun _ _ _ _ _ _ us hl => match us, hl with | [_, _], _ => rfl⟩
  have F5 := fun_mk (st := st_row_of) l5 c5 k5
  have D5 : Def K mg "row_of" st_row_of f5 _ ["basket"] := ⟨F5, PySem.W.mg_of X G a5, F5.binds (ps := ["basket"]) fun _ _ _ _ _ _ us hl => match us, hl with | [_], _ => rfl⟩
  have F6 := fun_mk (st := st_block_saving) l6 c6 k6
  have D6 : Def K mg "block_saving" st_block_saving f6 _ ["prices", "size", "first", "last"] := ⟨F6, PySem.W.mg_of X G a6, F6.binds (ps := ["prices", "size", "first", "last"]) fun _ _ _ _ _ _ us hl => match us, hl with | [_, _, _, _], _ => rfl⟩
  have F7 := fun_mk (st := st_table_for) l7 c7 k7
  have D7 : Def K mg "table_for" st_table_for f7 _ ["basket", "size", "receipts"] := ⟨F7, PySem.W.mg_of X G a7, F7.binds (ps := ["basket", "size", "receipts"]) fun _ _ _ _ _ _ us hl => match us, hl with | [_, _, _], _ => rfl⟩
  have F8 := fun_mk (st := st_all_values) l8 c8 k8
  have D8 : Def K mg "all_values" st_all_values f8 _ ["basket", "size"] := ⟨F8, PySem.W.mg_of X G a8, F8.binds (ps := ["basket", "size"]) fun _ _ _ _ _ _ us hl => match us, hl with | [_, _], _ => rfl⟩
  have F9 := fun_mk (st := st_trade_off) l9 c9 k9
  have D9 : Def K mg "trade_off" st_trade_off f9 _ ["basket", "size"] := ⟨F9, PySem.W.mg_of X G a9, F9.binds (ps := ["basket", "size"]) fun _ _ _ _ _ _ us hl => match us, hl with | [_, _], _ => rfl⟩
  have F10 := fun_mk (st := st_check_saving) l10 c10 k10
  have D10 : Def K mg "check_saving" st_check_saving f10 _ ["wished"] := ⟨F10, PySem.W.mg_of X G a10, F10.binds (ps := ["wished"]) fun _ _ _ _ _ _ us hl => match us, hl with | [_], _ => rfl⟩
  have F11 := fun_mk (st := st_fewest_receipts) l11 c11 k11
  have D11 : Def K mg "fewest_receipts" st_fewest_receipts f11 _ ["basket", "size", "wished"] := ⟨F11, PySem.W.mg_of X G a11, F11.binds (ps := ["basket", "size", "wished"]) fun _ _ _ _ _ _ us hl => match us, hl with | [_, _, _], _ => rfl⟩
  have F12 := fun_mk (st := st_law_source) l12 c12 k12
  have D12 : Def K mg "_law_source" st_law_source f12 _ ["_law_cell", "_law_turn"] := ⟨F12, PySem.W.mg_of X G a12, F12.binds (ps := ["_law_cell", "_law_turn"]) fun _ _ _ _ _ _ us hl => match us, hl with | [_, _], _ => rfl⟩
  have F13 := fun_mk (st := st_law_draw) l13 c13 k13
  have D13 : Def K mg "_law_draw" st_law_draw f13 _ ["_law_source_here", "_law_size"] := ⟨F13, PySem.W.mg_of X G a13, F13.binds (ps := ["_law_source_here", "_law_size"]) fun _ _ _ _ _ _ us hl => match us, hl with | [_, _], _ => rfl⟩
  have F14 := fun_mk (st := st_law_choice) l14 c14 k14
  have D14 : Def K mg "_law_choice" st_law_choice f14 _ ["_law_source_here", "_law_items"] := ⟨F14, PySem.W.mg_of X G a14, F14.binds (ps := ["_law_source_here", "_law_items"]) fun _ _ _ _ _ _ us hl => match us, hl with | [_, _], _ => rfl⟩
  have F15 := fun_mk (st := st_law_kind) l15 c15 k15
  have D15 : Def K mg "_law_kind" st_law_kind f15 _ ["_law_value"] := ⟨F15, PySem.W.mg_of X G a15, F15.binds (ps := ["_law_value"]) fun _ _ _ _ _ _ us hl => match us, hl with | [_], _ => rfl⟩
  have F16 := fun_mk (st := st_law_equal) l16 c16 k16
  have D16 : Def K mg "_law_equal" st_law_equal f16 _ ["_law_value", "_law_expected"] := ⟨F16, PySem.W.mg_of X G a16, F16.binds (ps := ["_law_value", "_law_expected"]) fun _ _ _ _ _ _ us hl => match us, hl with | [_, _], _ => rfl⟩
  have F17 := fun_mk (st := st_law_basket) l17 c17 k17
  have D17 : Def K mg "_law_basket" st_law_basket f17 _ ["_law_source_here", "_law_most"] := ⟨F17, PySem.W.mg_of X G a17, F17.binds (ps := ["_law_source_here", "_law_most"]) fun _ _ _ _ _ _ us hl => match us, hl with | [_, _], _ => rfl⟩
  have F18 := fun_mk (st := st_law_row) l18 c18 k18
  have D18 : Def K mg "_law_row" st_law_row f18 _ ["_law_basket_here"] := ⟨F18, PySem.W.mg_of X G a18, F18.binds (ps := ["_law_basket_here"]) fun _ _ _ _ _ _ us hl => match us, hl with | [_], _ => rfl⟩
  have F19 := fun_mk (st := st_law_block) l19 c19 k19
  have D19 : Def K mg "_law_block" st_law_block f19 _ ["_law_prices", "_law_size", "_law_first", "_law_last"] := ⟨F19, PySem.W.mg_of X G a19, F19.binds (ps := ["_law_prices", "_law_size", "_law_first", "_law_last"]) fun _ _ _ _ _ _ us hl => match us, hl with | [_, _, _, _], _ => rfl⟩
  have F20 := fun_mk (st := st_law_best) l20 c20 k20
  have D20 : Def K mg "_law_best" st_law_best f20 _ ["_law_basket_here", "_law_size"] := ⟨F20, PySem.W.mg_of X G a20, F20.binds (ps := ["_law_basket_here", "_law_size"]) fun _ _ _ _ _ _ us hl => match us, hl with | [_, _], _ => rfl⟩
  have F21 := fun_mk (st := st_law_k07) l21 c21 k21
  have D21 : Def K mg "law" st_law_k07 f21 _ ["_law_script"] := ⟨F21, PySem.W.mg_of X G a21, F21.binds (ps := ["_law_script"]) fun _ _ _ _ _ _ us hl => match us, hl with | [_], _ => rfl⟩
  refine ⟨PySem.W.fnOf "law" "law" (defArgs st_law_k07) (defBody st_law_k07) (defScope st_law_k07) .none kV21 dc21 pm21 an21 cd21 ct21, fun s v => .of_eq rfl, fun base _ _ => ?_⟩
  have o0 := ok_is_between (P := l.prog) (w := w) (base := base) D0 hz
  have o1 := ok_is_basket (P := l.prog) (w := w) (base := base) D1 hz ((D0.call o0 rfl rfl).up (by decide)) h_MAX_ITEMS h_MAX_PRICE
  have o2 := ok_check_basket (P := l.prog) (w := w) (base := base) D2 hz ((D1.call o1 rfl rfl).up (by decide)) h_InvalidBasket
  have o3 := ok_is_size (P := l.prog) (w := w) (base := base) D3 hz ((D0.call o0 rfl rfl).up (by decide))
  have o4 := ok_check_offer (P := l.prog) (w := w) (base := base) D4 hz ((D2.call o2 rfl rfl).up (by decide)) ((D3.call o3 rfl rfl).up (by decide)) h_InvalidSize
  have o5 := ok_row_of (P := l.prog) (w := w) (base := base) D5 hz
  have o6 := ok_block_saving (P := l.prog) (w := w) (base := base) D6 hz
  have o7 := ok_table_for (P := l.prog) (w := w) (base := base) D7 hz ((D5.call o5 rfl rfl).up (by decide)) ((D6.call o6 rfl rfl).up (by decide))
  have o8 := ok_all_values (P := l.prog) (w := w) (base := base) D8 hz ((D7.call o7 rfl rfl).up (by decide))
  have o9 := ok_trade_off (P := l.prog) (w := w) (base := base) D9 hz ((D4.call o4 rfl rfl).up (by decide)) ((D8.call o8 rfl rfl).up (by decide))
  have o10 := ok_check_saving (P := l.prog) (w := w) (base := base) D10 hz ((D0.call o0 rfl rfl).up (by decide)) h_MAX_SAVING h_InvalidSaving
  have o11 := ok_fewest_receipts (P := l.prog) (w := w) (base := base) D11 hz ((D4.call o4 rfl rfl).up (by decide)) ((D10.call o10 rfl rfl).up (by decide)) ((D8.call o8 rfl rfl).up (by decide))
  have o12 := ok_law_source (P := l.prog) (w := w) (base := base) D12 hz
  have o13 := ok_law_draw (P := l.prog) (w := w) (base := base) D13 hz
  have o14 := ok_law_choice (P := l.prog) (w := w) (base := base) D14 hz ((D13.call o13 rfl rfl).up (by decide))
  have o15 := ok_law_kind (P := l.prog) (w := w) (base := base) D15 hz
  have o16 := ok_law_equal (P := l.prog) (w := w) (base := base) D16 hz ((D15.call o15 rfl rfl).up (by decide)) 6
  have o17 := ok_law_basket (P := l.prog) (w := w) (base := base) D17 hz ((D14.call o14 rfl rfl).up (by decide)) ((D13.call o13 rfl rfl).up (by decide))
  have o18 := ok_law_row (P := l.prog) (w := w) (base := base) D18 hz
  have o19 := ok_law_block (P := l.prog) (w := w) (base := base) D19 hz
  have o20 := ok_law_best (P := l.prog) (w := w) (base := base) D20 hz ((D18.call o18 rfl rfl).up (by decide)) ((D19.call o19 rfl rfl).up (by decide))
  exact (ok_law_k07 (P := l.prog) (w := w) (base := base) D21 hz ((D12.call o12 rfl rfl).up (by decide)) ((D17.call o17 rfl rfl).up (by decide)) ((D13.call o13 rfl rfl).up (by decide)) ((D20.call o20 rfl rfl).up (by decide)) ((D9.call o9 rfl rfl).up (by decide)) ((D16.call o16 rfl rfl).up (by decide)) ((D11.call o11 rfl rfl).up (by decide))).imp (spL_imp rfl hp)
theorem plain : Plain q_law_k07 := fun ns hn => by
  obtain ⟨fr, e, _⟩ := DD.c_law_k07 (DD.M.law_k07 ns hn)
  exact ⟨fr, _, e⟩
end DD.K07
open PySem PySem.W PyProof.Rows
set_option maxHeartbeats 0 in
theorem PySem.Challenge.cw_cheapestfree_k07_trade_offs_and_fewest_r_holds : PySem.Challenge.rw_cheapestfree_k07_trade_offs_and_fewest_r.Holds := by
  w_on; o_law; k_head; (case hw => w_witness2)
  k_fill
  refine L2.walk_of (l := PySem.Challenge.rw_cheapestfree_k07_trade_offs_and_fewest_r) (n := 63) (k := 9) (x := "_law_script") (CX := fun w => L2.CX PySem.Challenge.rw_cheapestfree_k07_trade_offs_and_fewest_r.prog w) (sp := fun w => DD.spL _) rfl (by decide) rfl ⟨rfl, by decide, by decide⟩ (fun w h Y => PySem.W.kIn_of Y) ?F (fun _ _ a ns hl _ hS => ⟨a, ns, rfl, hl, hS, fun _ => rfl⟩) (fun _ _ _ _ _ h => DD.cx_false h)
  case F =>
    intro w mg fa h KX G hmg
    refine' DD.K07.all_mk DD.K07.plain KX G hmg ?a0 ?l0 ?c0 ?k0 ?a1 ?l1 ?c1 ?k1 ?a2 ?l2 ?c2 ?k2 ?a3 ?l3 ?c3 ?k3 ?a4 ?l4 ?c4 ?k4 ?a5 ?l5 ?c5 ?k5 ?a6 ?l6 ?c6 ?k6 ?a7 ?l7 ?c7 ?k7 ?a8 ?l8 ?c8 ?k8 ?a9 ?l9 ?c9 ?k9 ?a10 ?l10 ?c10 ?k10 ?a11 ?l11 ?c11 ?k11 ?a12 ?l12 ?c12 ?k12 ?a13 ?l13 ?c13 ?k13 ?a14 ?l14 ?c14 ?k14 ?a15 ?l15 ?c15 ?k15 ?a16 ?l16 ?c16 ?k16 ?a17 ?l17 ?c17 ?k17 ?a18 ?l18 ?c18 ?k18 ?a19 ?l19 ?c19 ?k19 ?a20 ?l20 ?c20 ?k20 ?a21 ?l21 ?c21 ?k21 ?ea0 ?ex0 ?ek0 ?eb0 ?et0 ?ea1 ?ex1 ?ek1 ?eb1 ?et1 ?ea2 ?ex2 ?ek2 ?eb2 ?et2 ?con0 ?con1 ?con2 ?z0 ?z1 ?z2 ?z3 ?z4 ?z5 ?z6 ?z7 ?z8 ?z9 ?z10 ?z11 ?z12 ?z13 ?z14 ?z15 ?z16
    (case a0 => k_is); (case l0 => k_is); (case c0 => k_is); (case k0 => k_is); (case a1 => k_is); (case l1 => k_is)
    (case c1 => k_is); (case k1 => k_is); (case a2 => k_is); (case l2 => k_is); (case c2 => k_is); (case k2 => k_is)
    (case a3 => k_is); (case l3 => k_is); (case c3 => k_is); (case k3 => k_is); (case a4 => k_is); (case l4 => k_is)
    (case c4 => k_is); (case k4 => k_is); (case a5 => k_is); (case l5 => k_is); (case c5 => k_is); (case k5 => k_is)
    (case a6 => k_is); (case l6 => k_is); (case c6 => k_is); (case k6 => k_is); (case a7 => k_is); (case l7 => k_is)
    (case c7 => k_is); (case k7 => k_is); (case a8 => k_is); (case l8 => k_is); (case c8 => k_is); (case k8 => k_is)
    (case a9 => k_is); (case l9 => k_is); (case c9 => k_is); (case k9 => k_is); (case a10 => k_is); (case l10 => k_is)
    (case c10 => k_is); (case k10 => k_is); (case a11 => k_is); (case l11 => k_is); (case c11 => k_is); (case k11 => k_is)
    (case a12 => k_is); (case l12 => k_is); (case c12 => k_is); (case k12 => k_is); (case a13 => k_is); (case l13 => k_is)
    (case c13 => k_is); (case k13 => k_is); (case a14 => k_is); (case l14 => k_is); (case c14 => k_is); (case k14 => k_is)
    (case a15 => k_is); (case l15 => k_is); (case c15 => k_is); (case k15 => k_is); (case a16 => k_is); (case l16 => k_is)
    (case c16 => k_is); (case k16 => k_is); (case a17 => k_is); (case l17 => k_is); (case c17 => k_is); (case k17 => k_is)
    (case a18 => k_is); (case l18 => k_is); (case c18 => k_is); (case k18 => k_is); (case a19 => k_is); (case l19 => k_is)
    (case c19 => k_is); (case k19 => k_is); (case a20 => k_is); (case l20 => k_is); (case c20 => k_is); (case k20 => k_is)
    (case a21 => k_is); (case l21 => k_is); (case c21 => k_is); (case k21 => k_is); (case ea0 => k_is); (case ex0 => k_exc)
    (case ek0 => k_is); (case eb0 => k_is); (case et0 => k_is); (case ea1 => k_is); (case ex1 => k_exc); (case ek1 => k_is)
    (case eb1 => k_is); (case et1 => k_is); (case ea2 => k_is); (case ex2 => k_exc); (case ek2 => k_is); (case eb2 => k_is)
    (case et2 => k_is); (case con0 => k_is); (case con1 => k_is); (case con2 => k_is); (case z0 => k_is); (case z1 => k_is)
    (case z2 => k_is); (case z3 => k_is); (case z4 => k_is); (case z5 => k_is); (case z6 => k_is); (case z7 => k_is)
    (case z8 => k_is); (case z9 => k_is); (case z10 => k_is); (case z11 => k_is); (case z12 => k_is); (case z13 => k_is)
    (case z14 => k_is); (case z15 => k_is); (case z16 => k_is)


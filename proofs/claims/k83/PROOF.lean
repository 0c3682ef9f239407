import PyProof.Rows.All
import Wide.All
import OpenK.AllK
import Wide.FinOn
import HandS.ForMost
import HandS.Deep
import HandS.TupAny
import HandS.TupLe
import KE.DataCmp
import KE.DataEq
import KE.DataFind
import KE.DataMinMax
import KE.SortData
import HandS.TupMul
import HandS.IsInst
import HandS.Exc
import HandS.ExcOwn
import HandS.CallSlots
import HandS.WordsExc
import HandS.Style
import HandS.Conv
import HandS.Zip
import HandS.Flow
import PySem.Challenge.RW_siegeworks_k83_whole_rounds_that_meet
set_option Elab.async false
set_option linter.all false
set_option maxRecDepth 100000
/-! Z1: a small language of values, its syntax and its evaluator -/
namespace Z
open PySem
inductive D where
  | non | bl (b : Bool) | int (i : Int) | str (x : Str)
  | tup (xs : List D) | lst (xs : List D) | own (xs : List D)
  | dct (ks vs : List D) | odc (ks vs : List D)
  | loc (n : Nat)
  | ex (c : Nat) (fs : List D)
abbrev Hs := List (List D)
abbrev En := List (Option D)
inductive R where
  | ok (d : D) (h : Hs) | exc (x : D) (h : Hs) | err
inductive SR where
  | next (e : En) (h : Hs) | ret (d : D) (h : Hs) | brk (e : En) (h : Hs) | exc (x : D) (e : En) (h : Hs) | err
def R.bind (r : R) (f : D → Hs → R) : R := match r with
  | .ok d h => f d h
  | .exc x h => .exc x h
  | .err => .err
def R.toS (r : R) (e : En) (f : D → Hs → SR) : SR := match r with
  | .ok d h => f d h
  | .exc x h => .exc x e h
  | .err => .err
def R.ofO (h : Hs) : Option D → R
  | some d => .ok d h
  | none => .err
def SR.andThen (r : SR) (f : En → Hs → SR) : SR := match r with
  | .next e h => f e h
  | r => r
inductive Bop where | add | sub | mul | fdiv | mod | pow | shl
inductive Cop where | eq | ne | lt | le | gt | ge | is | isn | mem | nmem
inductive Ty where | int | bool | str | tup | lst | dct
inductive Bi where
  | len | abs | int | min | max | sum | all | any | tuple | list | sorted | range | zip | enum | isinst (ts : List Ty) | min2 | max2
inductive Me where | count | index | get | items | values | keys | join | split | upper
inductive E where
  | nil | cons (a r : E)
  | c (d : D) | v (i : Nat) | b (i : Nat) | g (n : Nat)
  | bin (o : Bop) (a b : E) | neg (a : E)
  | cmp (o : Cop) (a b : E) | chain (o p : Cop) (a b c : E)
  | and (a b : E) | or (a b : E) | not (a : E) | ite (c a b : E)
  | tup (l : E) | lst (l : E) | dsp (ks vs : E)
  | idx (a i : E) | slc (a lo hi : E) | rev (a : E)
  | bi (f : Bi) (l : E) | me (m : Me) (a l : E)
  | call (f : Nat) (l : E)
  | lc (tg it cd el : E) | dc (tg it cd k v : E)
inductive S where
  | never | skip | seq (a b : S)
  | set (i : Nat) (m : E) | seto (i : Nat) (m : E) | setl (i : Nat) (m : E) | asg (tg m : E)
  | par (tg m : E)
  | idxs (i : Nat) (k m : E)
  | aug (i : Nat) (o : Bop) (m : E)
  | app (i : Nat) (m : E) | ext (i : Nat) (m : E) | pop (tg : E) (i : Nat)
  | ex (m : E)
  | ret (m : E) | retv (i : Nat)
  | ife (c : E) (a b : S)
  | for (tg it : E) (b : S) | whl (c : E) (b : S)
  | brk
  | raise (c : Nat) (l : E)
  | fz (i : Nat) | fg (i : Nat)
/-! ### data -/
def D.frz : D → D
  | .own xs => .lst xs
  | .odc ks vs => .dct ks vs
  | d => d
def D.isOwn : D → Bool
  | .own _ => true
  | .odc _ _ => true
  | _ => false
def strLt (x y : Str) : Bool := decide (x.cps.toList < y.cps.toList)
mutual
/-- == -/
def D.eqv : D → D → Bool
  | .non, .non => true
  | .bl a, .bl b => a == b
  | .bl a, .int j => (if a then (1 : Int) else 0) == j
  | .int i, .bl b => i == (if b then (1 : Int) else 0)
  | .int i, .int j => i == j
  | .str x, .str y => decide (x = y)
  | .tup xs, .tup ys => eqvL xs ys
  | .lst xs, .lst ys => eqvL xs ys
  | .lst xs, .own ys => eqvL xs ys
  | .own xs, .lst ys => eqvL xs ys
  | .own xs, .own ys => eqvL xs ys
  | _, _ => false
def eqvL : List D → List D → Bool
  | [], [] => true
  | x :: xs, y :: ys => D.eqv x y && eqvL xs ys
  | _, _ => false
end
mutual
/-- comparable, place by place -/
def D.alike : D → D → Bool
  | .bl _, .bl _ => true
  | .int _, .int _ => true
  | .str _, .str _ => true
  | .non, .non => true
  | .tup xs, .tup ys => alikeL xs ys
  | .lst xs, .lst ys => alikeL xs ys
  | _, _ => false
def alikeL : List D → List D → Bool
  | x :: xs, y :: ys => D.alike x y && alikeL xs ys
  | _, _ => true
end
mutual
/-- < of alike data -/
def D.lt : D → D → Bool
  | .bl a, .bl b => !a && b
  | .int i, .int j => decide (i < j)
  | .str x, .str y => strLt x y
  | .tup xs, .tup ys => ltL xs ys
  | .lst xs, .lst ys => ltL xs ys
  | _, _ => false
def ltL : List D → List D → Bool
  | [], _ :: _ => true
  | x :: xs, y :: ys => if D.eqv x y then ltL xs ys else D.lt x y
  | _, _ => false
end
/-- the items of a sequence -/
def D.seq? : D → Option (List D)
  | .tup xs => some xs
  | .lst xs => some xs
  | .own xs => some xs
  | _ => none
def at? (xs : List D) (i : Int) : Option D :=
  if 0 ≤ i then xs[i.toNat]? else if 0 ≤ (xs.length : Int) + i then xs[((xs.length : Int) + i).toNat]? else none
def rng (lo hi : Int) : List D := (List.range (hi - lo).toNat).map fun (k : Nat) => D.int (lo + k)
def rng3 (lo hi st : Int) : List D :=
  if 0 < st then (List.range ((hi - lo + st - 1) / st).toNat).map fun (k : Nat) => D.int (lo + k * st)
  else if st < 0 then (List.range ((lo - hi - st - 1) / (-st)).toNat).map fun (k : Nat) => D.int (lo + k * st) else []
def dget (ks vs : List D) (k : D) : Option D := match ks, vs with
  | x :: ks, v :: vs => if D.eqv x k then some v else dget ks vs k
  | _, _ => none
def dput (ks vs : List D) (k v : D) : List D × List D := match ks, vs with
  | x :: ks, w :: vs => if D.eqv x k then (x :: ks, v :: vs) else let r := dput ks vs k v; (x :: r.1, w :: r.2)
  | _, _ => ([k], [v])
/-- the place of a bound in a slice -/
def sIx (n : Nat) (d : Nat) : Option Int → Nat
  | none => d
  | some i => if i < 0 then ((n : Int) + i).toNat else min i.toNat n
def cut (xs : List D) (lo hi : Option Int) : List D :=
  let a := sIx xs.length 0 lo
  let b := sIx xs.length xs.length hi
  (xs.drop a).take (b - a)
def D.ints? : List D → Option (List Int)
  | [] => some []
  | .int i :: r => (D.ints? r).map (i :: ·)
  | _ => none
def D.bools? : List D → Option (List Bool)
  | [] => some []
  | .bl i :: r => (D.bools? r).map (i :: ·)
  | _ => none
/-- the first least -/
def leastD : D → List D → D
  | m, [] => m
  | m, x :: r => if D.lt x m then leastD x r else leastD m r
def mostD : D → List D → D
  | m, [] => m
  | m, x :: r => if D.lt m x then mostD x r else mostD m r
def allAlike (xs : List D) : Bool := xs.all fun x => xs.all fun y => D.alike x y
/-- sorted, stable -/
def sortD (xs : List D) : List D := xs.mergeSort fun x y => !D.lt y x
def noNon : D → Bool
  | .non => false
  | _ => true
mutual
/-- plain data, at most n deep -/
def D.pl : D → Nat → Bool
  | .non, _ => true
  | .bl _, _ => true
  | .int _, _ => true
  | .str _, _ => true
  | .tup xs, n => n != 0 && plL xs (n - 1)
  | .lst xs, n => n != 0 && plL xs (n - 1)
  | .own xs, n => n != 0 && plL xs (n - 1)
  | .dct _ _, _ => false
  | .odc _ _, _ => false
  | .loc _, _ => false
  | .ex _ _, _ => false
def plL : List D → Nat → Bool
  | [], _ => true
  | x :: xs, n => D.pl x n && plL xs n
end
def isTup1 : D → Bool
  | .tup (_ :: _) => true
  | _ => false
def noTup : D → Bool
  | .non => false
  | .tup _ => false
  | _ => true
/-- all are tuples with an item, or none is a tuple or None -/
def sortable (xs : List D) : Bool := xs.all isTup1 || xs.all noTup
def lim (n : Nat) : Bool := decide (n ≤ 16777216)
/-! ### operations -/
def small64 (i : Int) : Bool := decide (i.natAbs < 18446744073709551616)
def opB (o : Bop) (x y : D) : Option D := match o, x, y with
  | .add, .int i, .int j => some (.int (i + j))
  | .add, .tup a, .tup b => if lim (a.length + b.length) then some (.tup (a ++ b)) else none
  | .add, .str a, .str b => if lim (a.length + b.length) then some (.str (a ++ b)) else none
  | .add, .lst a, .lst b => if lim (a.length + b.length) then some (.own (a ++ b)) else none
  | .add, .lst a, .own b => if lim (a.length + b.length) then some (.own (a ++ b)) else none
  | .add, .own a, .lst b => if lim (a.length + b.length) then some (.own (a ++ b)) else none
  | .add, .own a, .own b => if lim (a.length + b.length) then some (.own (a ++ b)) else none
  | .sub, .int i, .int j => some (.int (i - j))
  | .mul, .int i, .int j => if small64 i || small64 j then some (.int (i * j)) else none
  | .mul, .tup a, .int j => if 2 ≤ j && j ≤ 1000 && !a.isEmpty && a.length ≤ 1000 then some (.tup (List.replicate j.toNat a).flatten) else none
  | .mul, .own a, .int j => if j ≤ 16777216 && lim (a.length * j.toNat) && -16777216 ≤ j then some (.own (List.replicate j.toNat a).flatten) else none
  | .fdiv, .int i, .int j => if 0 < j then (if j < 1073741824 then some (.int (i / j)) else none) else none
  | .mod, .int i, .int j => if 0 < j then some (.int (i % j)) else none
  | .pow, .int i, .int j => if 0 ≤ j && j ≤ 1000000 && small64 i then some (.int (i ^ j.toNat)) else none
  | .shl, .int i, .int j => if 0 ≤ j && j ≤ 1000000 && small64 i then some (.int (i * 2 ^ j.toNat)) else none
  | _, _, _ => none
def opC (o : Cop) (x y : D) : Option Bool := match o with
  | .eq => if D.pl x 60 && D.pl y 60 then some (D.eqv x y) else none
  | .ne => if D.pl x 60 && D.pl y 60 then some (!D.eqv x y) else none
  | .lt => if D.alike x y && noNon x && D.pl x 60 && D.pl y 60 then some (D.lt x y) else none
  | .gt => if D.alike x y && noNon x && D.pl x 60 && D.pl y 60 then some (D.lt y x) else none
  | .le => if D.alike x y && noNon x && D.pl x 60 && D.pl y 60 then some (!D.lt y x) else none
  | .ge => if D.alike x y && noNon x && D.pl x 60 && D.pl y 60 then some (!D.lt x y) else none
  | .is => match y, x with
    | .non, .non => some true
    | .non, _ => some false
    | .bl b, .bl c => some (c == b)
    | _, _ => none
  | .isn => match y, x with
    | .non, .non => some false
    | .non, _ => some true
    | .bl b, .bl c => some (!(c == b))
    | _, _ => none
  | .mem => match y with
    | .dct ks vs => some (dget ks vs x).isSome
    | .odc ks vs => some (dget ks vs x).isSome
    | y => match y.seq? with
      | some ys => if D.pl x 60 && plL ys 60 then some (ys.any fun z => D.eqv z x) else none
      | none => none
  | .nmem => match y with
    | .dct ks vs => some (!(dget ks vs x).isSome)
    | .odc ks vs => some (!(dget ks vs x).isSome)
    | y => match y.seq? with
      | some ys => if D.pl x 60 && plL ys 60 then some (!(ys.any fun z => D.eqv z x)) else none
      | none => none
def truth : D → Option Bool
  | .non => some false
  | .bl b => some b
  | .int i => some (i != 0)
  | .str x => if lim x.length then some ((x.length : Int) != 0) else none
  | .tup xs => some (!xs.isEmpty)
  | .lst xs => some (!xs.isEmpty)
  | .own xs => some (!xs.isEmpty)
  | .dct ks _ => some (!ks.isEmpty)
  | .odc ks _ => some (!ks.isEmpty)
  | _ => none
def isTy : D → Ty → Bool
  | .int _, .int => true
  | .bl _, .int => true
  | .bl _, .bool => true
  | .str _, .str => true
  | .tup _, .tup => true
  | .lst _, .lst => true
  | .own _, .lst => true
  | .dct _ _, .dct => true
  | .odc _ _, .dct => true
  | _, _ => false
def zipD : List D → List D → List D
  | x :: xs, y :: ys => .tup [x, y] :: zipD xs ys
  | _, _ => []
def enumD : Int → List D → List D
  | _, [] => []
  | k, x :: xs => .tup [.int k, x] :: enumD (k + 1) xs
/-- what a loop walks -/
def D.iter : D → Option (List D)
  | .tup xs => some xs
  | .lst xs => some xs
  | .own xs => some xs
  | .dct ks _ => some ks
  | .odc ks _ => some ks
  | _ => none
def opBi (f : Bi) (l : List D) (h : Hs) : Option D := match f, l with
  | .len, [x] => match x with
    | .str y => if lim y.length then some (.int y.length) else none
    | .dct ks _ => some (.int ks.length)
    | .odc ks _ => some (.int ks.length)
    | .loc n => (h[n]?).map fun xs => .int xs.length
    | x => (x.seq?).map fun xs => .int xs.length
  | .abs, [.int i] => some (.int (if i < 0 then -i else i))
  | .int, [.int i] => some (.int i)
  | .int, [.bl b] => some (.int (if b then 1 else 0))
  | .min, [x] => match x.seq? with
    | some (y :: ys) => if allAlike (y :: ys) && noNon y && plL (y :: ys) 60 then some (leastD y ys) else none
    | _ => none
  | .max, [x] => match x.seq? with
    | some (y :: ys) => if allAlike (y :: ys) && noNon y && plL (y :: ys) 60 then some (mostD y ys) else none
    | _ => none
  | .min2, [.int i, .int j] => some (.int (if j < i then j else i))
  | .max2, [.int i, .int j] => some (.int (if j > i then j else i))
  | .sum, [x] => match x with
    | .lst xs => (D.ints? xs).map fun ns => .int ns.sum
    | .own xs => (D.ints? xs).map fun ns => .int ns.sum
    | _ => none
  | .all, [x] => match x with
    | .lst xs => (D.bools? xs).map fun bs => .bl (bs.all id)
    | .own xs => (D.bools? xs).map fun bs => .bl (bs.all id)
    | _ => none
  | .any, [x] => match x with
    | .lst xs => (D.bools? xs).map fun bs => .bl (bs.any id)
    | .own xs => (D.bools? xs).map fun bs => .bl (bs.any id)
    | _ => none
  | .tuple, [x] => (x.seq?).map .tup
  | .list, [x] => (x.seq?).map .own
  | .sorted, [x] => match x with
    | .lst xs => if allAlike xs && sortable xs && plL xs 60 then some (.own (sortD xs)) else none
    | .own xs => if allAlike xs && sortable xs && plL xs 60 then some (.own (sortD xs)) else none
    | _ => none
  | .range, [.int j] => if -4611686018427387904 ≤ j && j ≤ 16777216 then some (.lst (rng 0 j)) else none
  | .range, [.int i, .int j] => if -4611686018427387904 ≤ i && i < 4611686018427387904 && -4611686018427387904 ≤ j && j < 4611686018427387904 && j - i ≤ 16777216 then some (.lst (rng i j)) else none
  | .range, [.int i, .int j, .int s] => if s ≠ 0 && s.natAbs < 1073741824 && -4611686018427387904 ≤ i && i < 4611686018427387904 && -4611686018427387904 ≤ j && j < 4611686018427387904 then some (.lst (rng3 i j s)) else none
  | .zip, [x, y] => match x.frz, y.frz with
    | .tup xs, .tup ys => some (.lst (zipD xs ys))
    | .lst xs, .lst ys => some (.lst (zipD xs ys))
    | _, _ => none
  | .enum, [x] => match x.frz with
    | .lst xs => some (.lst (enumD 0 xs))
    | _ => none
  | .isinst ts, [x] => match x with
    | .loc _ => none
    | .ex _ _ => none
    | x => some (.bl (ts.any fun t => isTy x t))
  | _, _ => none
def opMe (m : Me) (x : D) (l : List D) (h : Hs) : Option D := match m, l with
  | .count, [y] => match x.seq? with
    | some xs => if D.pl y 60 && plL xs 60 then some (.int ((xs.filter fun z => D.eqv z y).length : Nat)) else none
    | none => none
  | .index, [y] => match x.seq? with
    | some xs => if D.pl y 60 && plL xs 60 then (xs.findIdx? fun z => D.eqv z y).map fun (n : Nat) => .int n else none
    | none => none
  | .get, [k, d] => match x with
    | .dct ks vs => some ((dget ks vs k).getD d)
    | .odc ks vs => some ((dget ks vs k).getD d)
    | _ => none
  | .items, [] => match x with
    | .dct ks vs => some (.lst (zipD ks vs))
    | .odc ks vs => some (.lst (zipD ks vs))
    | _ => none
  | .values, [] => match x with
    | .dct _ vs => some (.lst vs)
    | .odc _ vs => some (.lst vs)
    | _ => none
  | _, _ => none
def opIdx (x i : D) (h : Hs) : Option D := match x with
  | .dct ks vs => dget ks vs i
  | .odc ks vs => dget ks vs i
  | .loc n => match h[n]?, i with
    | some xs, .int k => at? xs k
    | _, _ => none
  | x => match x.seq?, i with
    | some xs, .int k => at? xs k
    | _, _ => none
def oInt : D → Option (Option Int)
  | .int i => some (some i)
  | .non => some none
  | _ => none
def opSlc (x lo hi : D) : Option D := match oInt lo, oInt hi, x with
  | some a, some b, .tup xs => some (.tup (cut xs a b))
  | some a, some b, .lst xs => some (.own (cut xs a b))
  | some a, some b, .own xs => some (.own (cut xs a b))
  | _, _, _ => none
def opRev : D → Option D
  | .lst xs => some (.own xs.reverse)
  | .own xs => some (.own xs.reverse)
  | _ => none
/-! ### the evaluator -/
structure Fn where
  np : Nat
  ns : Nat
  body : S
structure Tbl where
  fns : List Fn
  gcs : List D
def D.items : D → List D
  | .tup xs => xs
  | _ => []
/-- a target takes a value -/
def asgT : E → D → En → Option En
  | .v i, d, e => some (e.set i (some d))
  | .tup l, .tup xs, e => asgT l (.tup xs) e
  | .nil, .tup [], e => some e
  | .cons a r, .tup (x :: xs), e => match asgT a x e with
    | some e' => asgT r (.tup xs) e'
    | none => none
  | _, _, _ => none
/-- the slots of a target are forgotten -/
def wipeT : E → En → En
  | .v i, e => e.set i none
  | .tup l, e => wipeT l e
  | .cons a r, e => wipeT r (wipeT a e)
  | _, e => e
def isBl : D → Option Bool
  | .bl b => some b
  | _ => none
/-- the turns of a comprehension -/
def lcF (turn : D → Hs → R) : List D → Hs → List D → R
  | [], h, acc => .ok (.own acc) h
  | x :: xs, h, acc => match turn x h with
    | .ok (.tup [y]) h => lcF turn xs h (acc ++ [y])
    | .ok _ h => lcF turn xs h acc
    | _ => .err
/-- the turns of a loop -/
def forF (turn : D → En → Hs → SR) : List D → En → Hs → SR
  | [], e, h => .next e h
  | x :: xs, e, h => match turn x e h with
    | .next e h => forF turn xs e h
    | .brk e h => .next e h
    | r => r
def whlF (c : En → Hs → R) (b : En → Hs → SR) : Nat → En → Hs → SR
  | 0, _, _ => .err
  | n + 1, e, h => (c e h).toS e fun d h => match d with
    | .bl true => match b e h with
      | .next e h => whlF c b n e h
      | .brk e h => .next e h
      | r => r
    | .bl false => .next e h
    | _ => .err
/-- the turns that a while may take -/
def fuel : Nat := 1152921504606846976
def bool1 (h : Hs) : Option Bool → R
  | some b => .ok (.bl b) h
  | none => .err
/-- a part of a slice: written, then a number, or not written -/
def prt (m : E) (r : R) (h : Hs) : R := match m with
  | .nil => .ok .non h
  | _ => r.bind fun d h => match d with
    | .int i => .ok (.int i) h
    | _ => .err
section
variable (T : Tbl) (cal : Nat → List D → Hs → R)
/-- an expression's value; t: by its truth alone -/
def ev : E → Bool → En → Hs → R
  | .nil, _, _, h => .ok (.tup []) h
  | .cons a r, _, e, h => (ev a false e h).bind fun x h => (ev r false e h).bind fun l h => .ok (.tup (x :: l.items)) h
  | .and a b, t, e, h => (ev a t e h).bind fun x h => match x with
    | .bl true => ev b t e h
    | .bl false => .ok (.bl false) h
    | _ => .err
  | .or a b, t, e, h => (ev a t e h).bind fun x h => match x with
    | .bl false => ev b t e h
    | .bl true => .ok (.bl true) h
    | _ => .err
  | .not a, t, e, h => (ev a t e h).bind fun x h => match (if t then isBl x else truth x) with
    | some b => .ok (.bl (!b)) h
    | none => .err
  | .ite c a b, t, e, h => (ev c true e h).bind fun x h => match x with
    | .bl true => (ev a false e h).bind fun x h => if t then bool1 h (truth x) else .ok x h
    | .bl false => (ev b false e h).bind fun x h => if t then bool1 h (truth x) else .ok x h
    | _ => .err
  | .c d, t, _, h => if t then bool1 h (truth d) else .ok d h
  | .v i, t, e, h => match e[i]? with
    | some (some d) => if d.isOwn then .err else if t then bool1 h (truth d) else .ok d h
    | _ => .err
  | .b i, t, e, h => match e[i]? with
    | some (some d) => if t then bool1 h (truth d) else .ok d h
    | _ => .err
  | .g n, t, _, h => match T.gcs[n]? with
    | some d => if t then bool1 h (truth d) else .ok d h
    | _ => .err
  | .bin o a b, t, e, h => (ev a false e h).bind fun x h => (ev b false e h).bind fun y h =>
      (R.ofO h (opB o x y)).bind fun x h => if t then bool1 h (truth x) else .ok x h
  | .neg a, t, e, h => (ev a false e h).bind fun x h => match x with
    | .int i => if t then bool1 h (truth (.int (-i))) else .ok (.int (-i)) h
    | _ => .err
  | .cmp o a b, _, e, h => (ev a false e h).bind fun x h => (ev b false e h).bind fun y h => bool1 h (opC o x y)
  | .chain o p a b c, _, e, h => (ev a false e h).bind fun x h => (ev b false e h).bind fun y h => match opC o x y with
    | some true => (ev c false e h).bind fun z h => bool1 h (opC p y z)
    | some false => .ok (.bl false) h
    | none => .err
  | .tup l, t, e, h => (ev l false e h).bind fun x h => if t then bool1 h (truth (.tup (x.items.map D.frz))) else .ok (.tup (x.items.map D.frz)) h
  | .lst l, t, e, h => (ev l false e h).bind fun x h => if t then bool1 h (truth (.own (x.items.map D.frz))) else .ok (.own (x.items.map D.frz)) h
  | .dsp ks vs, t, e, h => (ev ks false e h).bind fun x h => (ev vs false e h).bind fun y h =>
      if t then bool1 h (truth (.odc (x.items.map D.frz) (y.items.map D.frz))) else .ok (.odc (x.items.map D.frz) (y.items.map D.frz)) h
  | .idx a i, t, e, h => (ev a false e h).bind fun x h => (ev i false e h).bind fun y h =>
      (R.ofO h (opIdx x y h)).bind fun x h => if t then bool1 h (truth x) else .ok x h
  | .slc a lo hi, t, e, h => (ev a false e h).bind fun x h => (prt lo (ev lo false e h) h).bind fun l h => (prt hi (ev hi false e h) h).bind fun r h =>
      (R.ofO h (opSlc x l r)).bind fun x h => if t then bool1 h (truth x) else .ok x h
  | .rev a, t, e, h => (ev a false e h).bind fun x h => (R.ofO h (opRev x)).bind fun x h => if t then bool1 h (truth x) else .ok x h
  | .bi f l, t, e, h => (ev l false e h).bind fun x h => (R.ofO h (opBi f x.items h)).bind fun x h => if t then bool1 h (truth x) else .ok x h
  | .me m a l, t, e, h => (ev a false e h).bind fun x h => (ev l false e h).bind fun y h => (R.ofO h (opMe m x y.items h)).bind fun x h => if t then bool1 h (truth x) else .ok x h
  | .call f l, t, e, h => (ev l false e h).bind fun x h => (cal f (x.items.map D.frz) h).bind fun x h => if t then bool1 h (truth x) else .ok x h
  | .lc tg it cd el, t, e, h => (ev it false e h).bind fun x h => match x.iter with
    | some xs => (lcF (fun x h => match asgT tg x (wipeT tg e) with
        | some e1 => (ev cd true e1 h).bind fun b h => match b with
          | .bl true => (ev el false e1 h).bind fun y h => .ok (.tup [y.frz]) h
          | .bl false => .ok (.tup []) h
          | _ => .err
        | none => .err) xs h []).bind fun x h => if t then bool1 h (truth x) else .ok x h
    | none => .err
  | .dc tg it cd k v, t, e, h => .err
/-- the slot i holds a list of its own: what becomes of it -/
def onOwn (e : En) (i : Nat) (h : Hs) (f : List D → Option (List D)) : SR := match e[i]? with
  | some (some (.own xs)) => match f xs with
    | some ys => .next (e.set i (some (.own ys))) h
    | none => .err
  | some (some (.loc n)) => match h[n]? with
    | some xs => match f xs with
      | some ys => .next e (h.set n ys)
      | none => .err
    | none => .err
  | _ => .err
def setAt (xs : List D) (i : Int) (d : D) : Option (List D) :=
  if 0 ≤ i then (if i.toNat < xs.length then some (xs.set i.toNat d) else none)
  else if 0 ≤ (xs.length : Int) + i then some (xs.set ((xs.length : Int) + i).toNat d) else none
/-- the list that the slot i holds -/
def listOwn (e : En) (i : Nat) (h : Hs) : Option (List D) := match e[i]? with
  | some (some (.own xs)) => some xs
  | some (some (.loc n)) => h[n]?
  | _ => none
/-- the slot i holds a list -/
def hasOwn (e : En) (i : Nat) (h : Hs) : Bool := match e[i]? with
  | some (some (.own _)) => true
  | some (some (.loc n)) => (h[n]?).isSome
  | _ => false
def evS : S → En → Hs → SR
  | .never, _, _ => .err
  | .skip, e, h => .next e h
  | .seq a b, e, h => (evS a e h).andThen fun e h => evS b e h
  | .set i m, e, h => (ev T cal m false e h).toS e fun d h => .next (e.set i (some d.frz)) h
  | .seto i m, e, h => (ev T cal m false e h).toS e fun d h => .next (e.set i (some d)) h
  | .setl i m, e, h => (ev T cal m false e h).toS e fun d h => match d with
    | .own xs => .next (e.set i (some (.loc h.length))) (h ++ [xs])
    | _ => .err
  | .asg tg m, e, h => (ev T cal m false e h).toS e fun d h => match asgT tg d.frz e with
    | some e => .next e h
    | none => .err
  | .par tg m, e, h => (ev T cal m false e h).toS e fun d h => match asgT tg d e with
    | some e => .next e h
    | none => .err
  | .idxs i k m, e, h => (ev T cal m false e h).toS e fun d h => if hasOwn e i h then (ev T cal k false e h).toS e fun k h => match k with
    | .int j => onOwn e i h fun xs => setAt xs j d.frz
    | _ => .err else .err
  | .aug i o m, e, h => match e[i]? with
    | some (some x) => (ev T cal m false e h).toS e fun y h => match x, y with
      | .int a, .int b => match opB o (.int a) (.int b) with
        | some z => .next (e.set i (some z)) h
        | none => .err
      | _, _ => .err
    | _ => .err
  | .app i m, e, h => if hasOwn e i h then (ev T cal m false e h).toS e fun d h => onOwn e i h fun xs => if lim (xs.length + 1) then some (xs ++ [d.frz]) else none else .err
  | .ext i m, e, h => if hasOwn e i h then (ev T cal m false e h).toS e fun d h => match d.frz with
    | .lst ys => onOwn e i h fun xs => if lim (xs.length + ys.length) then some (xs ++ ys) else none
    | _ => .err else .err
  | .pop tg i, e, h => match (listOwn e i h).bind List.getLast? with
    | some d => (onOwn e i h fun xs => some xs.dropLast).andThen fun e h => match asgT tg d e with
      | some e => .next e h
      | none => .err
    | none => .err
  | .ex m, e, h => (ev T cal m false e h).toS e fun _ h => .next e h
  | .ret m, e, h => (ev T cal m false e h).toS e fun d h => .ret d h
  | .retv i, e, h => match e[i]? with
    | some (some d) => .ret d h
    | _ => .err
  | .ife c a b, e, h => (ev T cal c true e h).toS e fun x h => match x with
    | .bl true => evS a e h
    | .bl false => evS b e h
    | _ => .err
  | .for tg it b, e, h => (ev T cal it false e h).toS e fun x h => match x.iter with
    | some xs => forF (fun x e h => match asgT tg x e with
      | some e => evS b e h
      | none => .err) xs e h
    | none => .err
  | .whl c b, e, h => whlF (fun e h => ev T cal c true e h) (fun e h => evS b e h) fuel e h
  | .brk, e, h => .brk e h
  | .raise c l, e, h => (ev T cal l false e h).toS e fun x h => .exc (.ex c (x.items.map D.frz)) e h
  | .fz i, e, h => match e[i]? with
    | some (some d) => .next (e.set i (some d.frz)) h
    | _ => .next e h
  | .fg i, e, h => .next (e.set i none) h
end
def fin : SR → R
  | .next _ h => .ok .non h
  | .ret d h => .ok d h
  | .exc x _ h => .exc x h
  | _ => .err
def runN (T : Tbl) : Nat → Nat → List D → Hs → R
  | 0, _, _, _ => .err
  | d + 1, f, args, h => match T.fns[f]? with
    | some F => if args.length = F.np then fin (evS T (runN T d) F.body (args.map some ++ List.replicate (F.ns - F.np) none) h) else .err
    | none => .err
end Z
/-! Z2: how data lie in the abstract heap -/
namespace Z
open PySem PySem.Spec PyProof.Rows L2
section
variable (K : PySem.W.Frag)
mutual
def Rep (la : List Addr) (H : Hp) : D → V → Prop
  | .non, v => v = .non
  | .bl b, v => v = .bl b
  | .int i, v => v = .int i
  | .str x, v => v = .str x
  | .tup ds, v => ∃ a vs, v = .ref a ∧ SqT K H a vs ∧ RepL la H ds vs
  | .lst ds, v => ∃ a vs o, v = .ref a ∧ H a = some (.frz o (.lst vs)) ∧ RepL la H ds vs
  | .loc n, v => ∃ a, la[n]? = some a ∧ v = .ref a
  | .own _, _ => False
  | .dct _ _, _ => False
  | .odc _ _, _ => False
  | .ex _ _, _ => False
def RepL (la : List Addr) (H : Hp) : List D → List V → Prop
  | [], vs => vs = []
  | d :: ds, vs => ∃ v ws, vs = v :: ws ∧ Rep la H d v ∧ RepL la H ds ws
end
/-- what an owned list is -/
def OwnAt (la : List Addr) (H : Hp) (ds : List D) (a : Addr) : Prop := ∃ vs, H a = some (.lst vs) ∧ RepL K la H ds vs ∧ a ∉ la
/-- a slot's, an operand's value -/
def RepS (la : List Addr) (H : Hp) (d : D) (v : V) : Prop := match d with
  | .own ds => ∃ a, v = .ref a ∧ OwnAt K la H ds a
  | .odc _ _ => False
  | d => Rep K la H d v
/-- a value just made: an owned one is new since H0 -/
def RepT (la : List Addr) (H0 H : Hp) (d : D) (v : V) : Prop := RepS K la H d v ∧ ∀ a, d.isOwn = true → v = .ref a → H0 a = none
/-- the lists that are shared by their place -/
structure LocOk (la : List Addr) (hs : Hs) (H : Hp) : Prop where
  nd : la.Nodup
  len : la.length = hs.length
  at_ : ∀ (n : Nat) (ds : List D), hs[n]? = some ds → ∃ a vs, la[n]? = some a ∧ H a = some (.lst vs) ∧ RepL K la H ds vs
structure EnvOk (la : List Addr) (H : Hp) (env : En) (σ : L2.St) : Prop where
  len : env.length = σ.length
  slot : ∀ (i : Nat) (d : D), env[i]? = some (some d) → ∃ v, σ[i]? = some (some v) ∧ RepS K la H d v
  sep : ∀ (i j : Nat) (d e : D), i ≠ j → env[i]? = some (some d) → env[j]? = some (some e) → d.isOwn = true → e.isOwn = true → σ[i]? ≠ σ[j]?
end
/-- tuples and locked objects stay -/
def Kp (H H' : Hp) : Prop := ∀ b, (∀ xs, H b = some (.tup xs) → H' b = some (.tup xs)) ∧ ∀ o u, H b = some (.frz o u) → H' b = some (.frz o u)
/-- from one heap to a later one, by an expression -/
structure Step (la : List Addr) (H : Hp) (la' : List Addr) (H' : Hp) : Prop where
  ext : ∀ b o, b ∉ la → H b = some o → H' b = some o
  pre : la <+: la'
  new : ∀ a, a ∈ la' → a ∉ la → H a = none
theorem Step.refl {la H} : Step la H la H := ⟨fun _ _ _ h => h, List.prefix_refl _, fun _ a b => absurd a b⟩
theorem Step.trans {la H la1 H1 la2 H2} (s : Step la H la1 H1) (t : Step la1 H1 la2 H2) : Step la H la2 H2 := by
  have q : ∀ b o, b ∉ la → H b = some o → b ∉ la1 := fun b o n e m => by
    rw [s.new b m n] at e; cases e
  refine ⟨fun b o n e => t.ext b o (q b o n e) (s.ext b o n e), s.pre.trans t.pre, fun a m n => ?_⟩
  by_cases m1 : a ∈ la1
  · exact s.new a m1 n
  · cases e : H a with
    | none => rfl
    | some o =>
      have := t.new a m m1
      rw [s.ext a o n e] at this; cases this
theorem Step.upd {la H p o} (hp : H p = none) : Step la H la (upd H p o) :=
  ⟨fun b u _ e => by rw [upd_ne (ne_of_none e hp)]; exact e, List.prefix_refl _, fun _ a b => absurd a b⟩
theorem Step.same {la H H'} (s : Same H H') : Step la H la H' := ⟨fun b o _ e => s b o e, List.prefix_refl _, fun _ a b => absurd a b⟩
theorem Kp.trans {H H1 H2} (a : Kp H H1) (b : Kp H1 H2) : Kp H H2 := fun c => ⟨fun xs e => (b c).1 xs ((a c).1 xs e), fun o u e => (b c).2 o u ((a c).2 o u e)⟩
section
variable {K : PySem.W.Frag} {la la' la1 la2 : List Addr} {hs hs' : Hs} {H H0 H' H1 H2 : Hp} {env : En} {σ : L2.St}
theorem SqT.kp {a : Addr} {vs : List V} (k : Kp H H') (h : SqT K H a vs) : SqT K H' a vs := by
  rcases h with (h | ⟨o, h⟩) | h
  · exact .inl (.inl ((k a).1 _ h))
  · exact .inl (.inr ⟨o, (k a).2 _ _ h⟩)
  · exact .inr h
theorem pre_get {n : Nat} {a : Addr} (p : la <+: la') (e : la[n]? = some a) : la'[n]? = some a := by
  obtain ⟨t, rfl⟩ := p
  have := (List.getElem?_eq_some_iff.mp e).1
  rw [List.getElem?_append_left this]; exact e
mutual
theorem Rep.kp (k : Kp H H') (p : la <+: la') : ∀ (d : D) (v : V), Rep K la H d v → Rep K la' H' d v
  | .non, _, h => h
  | .bl _, _, h => h
  | .int _, _, h => h
  | .str _, _, h => h
  | .tup ds, v, h => by
    rw [Rep] at h ⊢
    obtain ⟨a, vs, e, q, r⟩ := h
    exact ⟨a, vs, e, SqT.kp k q, RepL.kp k p ds vs r⟩
  | .lst ds, v, h => by
    rw [Rep] at h ⊢
    obtain ⟨a, vs, o, e, q, r⟩ := h
    exact ⟨a, vs, o, e, (k a).2 _ _ q, RepL.kp k p ds vs r⟩
  | .loc n, v, h => by
    rw [Rep] at h ⊢
    obtain ⟨a, e, r⟩ := h
    exact ⟨a, pre_get p e, r⟩
  | .own _, _, h => by rw [Rep] at h; exact h.elim
  | .dct _ _, _, h => by rw [Rep] at h; exact h.elim
  | .odc _ _, _, h => by rw [Rep] at h; exact h.elim
  | .ex _ _, _, h => by rw [Rep] at h; exact h.elim
theorem RepL.kp (k : Kp H H') (p : la <+: la') : ∀ (ds : List D) (vs : List V), RepL K la H ds vs → RepL K la' H' ds vs
  | [], _, h => by rw [RepL] at h ⊢; exact h
  | d :: ds, vs, h => by
    rw [RepL] at h ⊢
    obtain ⟨v, ws, e, r, rs⟩ := h
    exact ⟨v, ws, e, Rep.kp k p d v r, RepL.kp k p ds ws rs⟩
end
theorem RepL.len : ∀ {ds : List D} {vs : List V}, RepL K la H ds vs → ds.length = vs.length
  | [], _, h => by rw [RepL] at h; subst h; rfl
  | d :: ds, vs, h => by
    rw [RepL] at h
    obtain ⟨v, ws, e, r, rs⟩ := h
    subst e
    rw [List.length_cons, List.length_cons, RepL.len rs]
theorem RepL.get : ∀ {ds : List D} {vs : List V} {i : Nat} {d : D}, RepL K la H ds vs → ds[i]? = some d → ∃ v, vs[i]? = some v ∧ Rep K la H d v
  | [], _, i, d, h, e => by simp at e
  | x :: ds, vs, 0, d, h, e => by
    rw [RepL] at h
    obtain ⟨v, ws, e1, r, rs⟩ := h
    subst e1
    simp at e; subst e
    exact ⟨v, rfl, r⟩
  | x :: ds, vs, i + 1, d, h, e => by
    rw [RepL] at h
    obtain ⟨v, ws, e1, r, rs⟩ := h
    subst e1
    have e' : ds[i]? = some d := by simpa using e
    obtain ⟨u, e2, q⟩ := RepL.get rs e'
    exact ⟨u, by simpa using e2, q⟩
theorem RepL.get' : ∀ {ds : List D} {vs : List V} {i : Nat} {v : V}, RepL K la H ds vs → vs[i]? = some v → ∃ d, ds[i]? = some d ∧ Rep K la H d v
  | [], _, i, d, h, e => by rw [RepL] at h; subst h; simp at e
  | x :: ds, vs, 0, d, h, e => by
    rw [RepL] at h
    obtain ⟨v, ws, e1, r, rs⟩ := h
    subst e1
    simp at e; subst e
    exact ⟨x, rfl, r⟩
  | x :: ds, vs, i + 1, d, h, e => by
    rw [RepL] at h
    obtain ⟨v, ws, e1, r, rs⟩ := h
    subst e1
    have e' : ws[i]? = some d := by simpa using e
    obtain ⟨u, e2, q⟩ := RepL.get' rs e'
    exact ⟨u, by simpa using e2, q⟩
theorem RepL.append : ∀ {ds es : List D} {vs ws : List V}, RepL K la H ds vs → RepL K la H es ws → RepL K la H (ds ++ es) (vs ++ ws)
  | [], es, vs, ws, h, r => by rw [RepL] at h; subst h; exact r
  | d :: ds, es, vs, ws, h, r => by
    rw [RepL] at h
    obtain ⟨v, us, e1, q, rs⟩ := h
    subst e1
    show RepL K la H (d :: (ds ++ es)) (v :: (us ++ ws))
    rw [RepL]
    exact ⟨v, _, rfl, q, RepL.append rs r⟩
theorem RepL.one {d : D} {v : V} (h : Rep K la H d v) : RepL K la H [d] [v] := by
  rw [RepL]; exact ⟨v, [], rfl, h, by rw [RepL]⟩
theorem RepL.set : ∀ {ds : List D} {vs : List V} {d : D} {v : V} (i : Nat), RepL K la H ds vs → Rep K la H d v → RepL K la H (ds.set i d) (vs.set i v)
  | [], vs, d, v, i, h, r => by rw [RepL] at h; subst h; simp; rw [RepL]
  | x :: ds, vs, d, v, 0, h, r => by
    rw [RepL] at h
    obtain ⟨u, us, e1, q, rs⟩ := h
    subst e1
    show RepL K la H (d :: ds) (v :: us)
    rw [RepL]; exact ⟨v, us, rfl, r, rs⟩
  | x :: ds, vs, d, v, i + 1, h, r => by
    rw [RepL] at h
    obtain ⟨u, us, e1, q, rs⟩ := h
    subst e1
    show RepL K la H (x :: ds.set i d) (u :: us.set i v)
    rw [RepL]; exact ⟨u, _, rfl, q, RepL.set i rs r⟩
theorem RepL.take : ∀ {ds : List D} {vs : List V} (n : Nat), RepL K la H ds vs → RepL K la H (ds.take n) (vs.take n)
  | _, _, 0, h => by simp; rw [RepL]
  | [], vs, n + 1, h => by rw [RepL] at h; subst h; simp; rw [RepL]
  | x :: ds, vs, n + 1, h => by
    rw [RepL] at h
    obtain ⟨u, us, e1, q, rs⟩ := h
    subst e1
    show RepL K la H (x :: ds.take n) (u :: us.take n)
    rw [RepL]; exact ⟨u, _, rfl, q, RepL.take n rs⟩
theorem RepL.drop : ∀ {ds : List D} {vs : List V} (n : Nat), RepL K la H ds vs → RepL K la H (ds.drop n) (vs.drop n)
  | _, _, 0, h => by simpa using h
  | [], vs, n + 1, h => by rw [RepL] at h; subst h; simp; rw [RepL]
  | x :: ds, vs, n + 1, h => by
    rw [RepL] at h
    obtain ⟨u, us, e1, q, rs⟩ := h
    subst e1
    exact RepL.drop n rs
theorem RepL.dropLast {ds : List D} {vs : List V} (h : RepL K la H ds vs) : RepL K la H ds.dropLast vs.dropLast := by
  rw [List.dropLast_eq_take, List.dropLast_eq_take, ← h.len]
  exact h.take _
theorem RepL.reverse : ∀ {ds : List D} {vs : List V}, RepL K la H ds vs → RepL K la H ds.reverse vs.reverse
  | [], vs, h => by rw [RepL] at h; subst h; simp; rw [RepL]
  | x :: ds, vs, h => by
    rw [RepL] at h
    obtain ⟨u, us, e1, q, rs⟩ := h
    subst e1
    rw [List.reverse_cons, List.reverse_cons]
    exact RepL.append (RepL.reverse rs) (RepL.one q)
theorem RepL.ints : ∀ ns : List Int, RepL K la H (ns.map D.int) (ns.map V.int)
  | [] => by simp; rw [RepL]
  | n :: ns => by
    show RepL K la H (D.int n :: ns.map D.int) (V.int n :: ns.map V.int)
    rw [RepL]; exact ⟨_, _, rfl, by rw [Rep], RepL.ints ns⟩
theorem RepL.ints_of : ∀ {ds : List D} {vs : List V} {ns : List Int}, RepL K la H ds vs → D.ints? ds = some ns → vs = ns.map V.int
  | [], vs, ns, h, e => by
    rw [RepL] at h; rw [D.ints?] at e; cases e; exact h
  | d :: ds, vs, ns, h, e => by
    rw [RepL] at h
    obtain ⟨u, us, e1, q, rs⟩ := h
    subst e1
    cases d <;> try (simp [D.ints?] at e; done)
    rename_i i
    rw [D.ints?] at e
    cases h2 : D.ints? ds with
    | none => rw [h2] at e; cases e
    | some ms =>
      rw [h2] at e
      have e' : i :: ms = ns := by simpa using e
      subst e'
      rw [Rep] at q; subst q
      rw [RepL.ints_of rs h2]; rfl
theorem RepL.bools_of : ∀ {ds : List D} {vs : List V} {ns : List Bool}, RepL K la H ds vs → D.bools? ds = some ns → vs = ns.map V.bl
  | [], vs, ns, h, e => by
    rw [RepL] at h; rw [D.bools?] at e; cases e; exact h
  | d :: ds, vs, ns, h, e => by
    rw [RepL] at h
    obtain ⟨u, us, e1, q, rs⟩ := h
    subst e1
    cases d <;> try (simp [D.bools?] at e; done)
    rename_i i
    rw [D.bools?] at e
    cases h2 : D.bools? ds with
    | none => rw [h2] at e; cases e
    | some ms =>
      rw [h2] at e
      have e' : i :: ms = ns := by simpa using e
      subst e'
      rw [Rep] at q; subst q
      rw [RepL.bools_of rs h2]; rfl
theorem LocOk.lst (lo : LocOk K la hs H) {a : Addr} (h : a ∈ la) : ∃ vs, H a = some (.lst vs) := by
  obtain ⟨n, hn, e⟩ := List.getElem_of_mem h
  have hn' : n < hs.length := by rw [← lo.len]; exact hn
  obtain ⟨b, vs, e1, e2, _⟩ := lo.at_ n hs[n] (by simp [hn'])
  rw [List.getElem?_eq_getElem hn] at e1
  have : a = b := e.symm.trans (Option.some.inj e1)
  exact ⟨vs, this ▸ e2⟩
theorem Step.kp (lo : LocOk K la hs H) (s : Step la H la' H') : Kp H H' := fun b => by
  have n : ∀ o, H b = some o → (∀ vs, o ≠ .lst vs) → b ∉ la := fun o e ne m => by
    obtain ⟨vs, q⟩ := lo.lst m
    rw [e] at q; exact ne vs (Option.some.inj q)
  exact ⟨fun xs e => s.ext b _ (n _ e fun _ z => by cases z) e, fun o u e => s.ext b _ (n _ e fun _ z => by cases z) e⟩
theorem Rep.step (lo : LocOk K la hs H) (s : Step la H la' H') {d v} (h : Rep K la H d v) : Rep K la' H' d v := Rep.kp (s.kp lo) s.pre d v h
theorem RepL.step (lo : LocOk K la hs H) (s : Step la H la' H') {d v} (h : RepL K la H d v) : RepL K la' H' d v := RepL.kp (s.kp lo) s.pre d v h
theorem OwnAt.step (lo : LocOk K la hs H) (s : Step la H la' H') {ds a} (h : OwnAt K la H ds a) : OwnAt K la' H' ds a := by
  obtain ⟨vs, e, r, n⟩ := h
  refine ⟨vs, s.ext _ _ n e, r.step lo s, fun m => ?_⟩
  rw [s.new _ m n] at e; cases e
theorem RepS.rep {d : D} {v : V} (h : RepS K la H d v) (n : d.isOwn = false) : Rep K la H d v := by
  cases d <;> first | exact h | cases n
theorem RepS.of {d : D} {v : V} (h : Rep K la H d v) : RepS K la H d v := by
  cases d <;> first | exact h | (rw [Rep] at h; exact h.elim)
theorem RepS.step (lo : LocOk K la hs H) (s : Step la H la' H') {d v} (h : RepS K la H d v) : RepS K la' H' d v := by
  cases d
  case own ds => exact let ⟨a, e, o⟩ := h; ⟨a, e, o.step lo s⟩
  case odc => exact h
  all_goals exact RepS.of (Rep.step lo s (RepS.rep h rfl))
theorem EnvOk.step (lo : LocOk K la hs H) (s : Step la H la' H') (h : EnvOk K la H env σ) : EnvOk K la' H' env σ :=
  ⟨h.len, fun i d e => let ⟨v, e1, r⟩ := h.slot i d e; ⟨v, e1, r.step lo s⟩, h.sep⟩
theorem RepT.of {d : D} {v : V} (h : Rep K la H d v) : RepT K la H0 H d v := ⟨.of h, fun a e _ => by
  cases d <;> first | (rw [Rep] at h; exact h.elim) | (cases e; done)⟩
/-- a value made later is new since before -/
theorem RepT.base (s : Step la H la1 H1) {d v} (h : RepT K la2 H1 H2 d v) (s2 : Step la1 H1 la2 H2) : RepT K la2 H H2 d v := by
  refine ⟨h.1, fun a e q => ?_⟩
  have z := h.2 a e q
  cases e0 : H a with
  | none => rfl
  | some o =>
    by_cases m : a ∈ la
    · have : a ∈ la2 := (s.pre.trans s2.pre).subset m
      cases d
      case own ds =>
        obtain ⟨b, e1, vs, _, _, n⟩ := h.1
        rw [q] at e1; cases e1
        exact absurd this n
      case odc => exact h.1.elim
      all_goals cases e
    · rw [s.ext a o m e0] at z; cases z
theorem RepT.step {d v} (lo : LocOk K la1 hs H1) (h : RepT K la1 H H1 d v) (s : Step la1 H1 la2 H2) : RepT K la2 H H2 d v := ⟨h.1.step lo s, h.2⟩
theorem LocOk.kp (lo : LocOk K la hs H) (k : Kp H H') (e : ∀ a ∈ la, H' a = H a) : LocOk K la hs H' :=
  ⟨lo.nd, lo.len, fun n ds h => by
    obtain ⟨a, vs, e1, e2, r⟩ := lo.at_ n ds h
    exact ⟨a, vs, e1, (e a (List.mem_of_getElem? e1)).trans e2, RepL.kp k (List.prefix_refl _) _ _ r⟩⟩
theorem LocOk.upd (lo : LocOk K la hs H) {p o} (hp : H p = none) : LocOk K la hs (upd H p o) :=
  lo.kp ((Step.upd hp).kp lo) fun a m => by
    obtain ⟨vs, e⟩ := lo.lst m
    exact upd_ne (ne_of_none e hp)
theorem LocOk.same (lo : LocOk K la hs H) (s : Same H H') : LocOk K la hs H' :=
  lo.kp ((Step.same s).kp lo) fun a m => by
    obtain ⟨vs, e⟩ := lo.lst m
    rw [e]; exact s a _ e
/-! ### what follows a value -/
/-- the wish of a value d, made at H, the shared lists being hs -/
def Res (K : PySem.W.Frag) (la : List Addr) (hs : Hs) (H : Hp) (d : D) (Q : VK) : Prop :=
  ∀ v la' H', Step la H la' H' → LocOk K la' hs H' → RepT K la' H H' d v → Q v H'
theorem Res.scal {d : D} {v : V} {Q : VK} (lo : LocOk K la hs H) (r : Rep K la H d v) (h : Res K la hs H d Q) : Q v H := h v la H .refl lo (.of r)
theorem Res.tup {ds : List D} {vs : List V} {Q : VK} (lo : LocOk K la hs H) (r : RepL K la H ds vs) (h : Res K la hs H (.tup ds) Q) : ∀ p, H p = none → Q (.ref p) (L2.upd H p (.tup vs)) := fun p hp =>
  h (.ref p) la _ (.upd hp) (lo.upd hp) (.of (by
    rw [Rep]; exact ⟨p, vs, rfl, .inl (.inl upd_same), r.step lo (.upd hp)⟩))
theorem Res.own {ds : List D} {vs : List V} {Q : VK} (lo : LocOk K la hs H) (r : RepL K la H ds vs) (h : Res K la hs H (.own ds) Q) : ∀ p, H p = none → Q (.ref p) (L2.upd H p (.lst vs)) := fun p hp =>
  h (.ref p) la _ (.upd hp) (lo.upd hp) ⟨⟨p, rfl, vs, upd_same, r.step lo (.upd hp), fun m => by
    obtain ⟨_, e⟩ := lo.lst m
    rw [hp] at e; cases e⟩, fun a _ e => by cases e; exact hp⟩
end
/-! ### a list is locked -/
section
variable {X : Cx} {pins : List (Addr × Obj)} {σ : L2.St} {H : Hp} {s : Shared} {a : Addr} {vs : List V}
theorem inv_lock (I : Inv X pins σ H s) (h : H a = some (.lst vs)) : ∃ o, Inv X pins σ (upd H a (.frz o (.lst vs))) s := by
  have ok := I.hok a _ h
  obtain ⟨hz, its, n, r, e⟩ := id ok
  refine ⟨{ cls := .type "list", data := .seq its.toArray n }, ⟨I.ok, I.os, I.bare, ⟨I.base.keep, I.base.slot, fun b o q n x => ?_, I.base.there, fun b xs q => ?_, fun b o u q => ?_, fun b ps q => ?_⟩, I.loc, I.cell, ?_, fun x c q => ?_, fun p hp => ?_, ?_, I.len⟩⟩
  · have z := I.base.free b o q n x
    rw [upd_ne (show b ≠ a from fun w => by rw [w, h] at z; cases z)]; exact z
  · have z := I.base.tups b xs q
    rw [upd_ne (show b ≠ a from fun w => by rw [w, h] at z; cases z)]; exact z
  · have z := I.base.frzs b o u q
    rw [upd_ne (show b ≠ a from fun w => by rw [w, h] at z; cases z)]; exact z
  · obtain ⟨m, z⟩ := I.base.tbls b ps q
    refine ⟨m, ?_⟩
    rw [upd_ne (show b ≠ a from fun w => by rw [w, h] at z; cases z)]; exact z
  · rw [upd_ne (show X.env.locals ≠ a from fun w => by have := I.free; rw [w, h] at this; cases this)]; exact I.free
  · rw [upd_ne (show c ≠ a from fun w => by have := I.freeC x c q; rw [w, h] at this; cases this)]; exact I.freeC x c q
  · obtain ⟨e1, n1, ne, nf, d⟩ := I.pin p hp
    refine ⟨e1, ?_, ne, nf, d⟩
    rw [upd_ne (show p.1 ≠ a from fun w => by rw [w, h] at n1; cases n1)]; exact n1
  · intro b o q
    by_cases hb : b = a
    · subst hb
      rw [upd_same] at q; cases q
      exact ⟨e, hz, its, n, r, e⟩
    · rw [upd_ne hb] at q
      refine (I.hok b o q).stay (fun _ _ _ z => z) (fun c z => ?_) fun c xs z => ?_
      · rw [upd_ne (show c ≠ a from fun w => by rw [w, h] at z; cases z)]; exact z
      · rw [upd_ne (show c ≠ a from fun w => by rw [w, h] at z; cases z)]; exact z
end
end Z
/-! Z3: operations on data, by values -/
namespace Z
open PySem PySem.Spec PyProof.Rows L2
/-! ### data as the library says them -/
mutual
def toPy : D → PyData
  | .bl b => .bool b
  | .int i => .int i
  | .str x => .str x
  | .tup xs => .tuple (toPyL xs)
  | .lst xs => .list (toPyL xs)
  | .own xs => .list (toPyL xs)
  | .non => .none
  | .dct _ _ => .none
  | .odc _ _ => .none
  | .loc _ => .none
  | .ex _ _ => .none
def toPyL : List D → List PyData
  | [] => []
  | x :: xs => toPy x :: toPyL xs
end
theorem toPyL_map : ∀ xs : List D, toPyL xs = xs.map toPy
  | [] => by rw [toPyL]; rfl
  | x :: xs => by rw [toPyL, toPyL_map xs]; rfl
mutual
theorem plain_toPy : ∀ d : D, (toPy d).plain = true
  | .bl _ => by rw [toPy]; rfl
  | .int _ => by rw [toPy]; rfl
  | .str _ => by rw [toPy]; rfl
  | .tup xs => by rw [toPy, PyData.plain]; exact plain_toPyL xs
  | .lst xs => by rw [toPy, PyData.plain]; exact plain_toPyL xs
  | .own xs => by rw [toPy, PyData.plain]; exact plain_toPyL xs
  | .non => by rw [toPy]; rfl
  | .dct _ _ => by rw [toPy]; rfl
  | .odc _ _ => by rw [toPy]; rfl
  | .loc _ => by rw [toPy]; rfl
  | .ex _ _ => by rw [toPy]; rfl
theorem plain_toPyL : ∀ ds : List D, PyData.plainAll (toPyL ds) = true
  | [] => by rw [toPyL]; rfl
  | d :: ds => by rw [toPyL, PyData.plainAll, plain_toPy d, plain_toPyL ds]; rfl
end
theorem pl_seq {xs : List D} {n : Nat} (h : (n != 0 && plL xs (n - 1)) = true) : ∃ k, n = k + 1 ∧ plL xs k = true := by
  rw [Bool.and_eq_true] at h
  cases n with
  | zero => simp at h
  | succ k => exact ⟨k, rfl, h.2⟩
mutual
theorem depth_toPy : ∀ (d : D) (n : Nat), D.pl d n = true → (toPy d).depth ≤ n
  | .bl _, n, _ => by rw [toPy]; exact Nat.zero_le _
  | .int _, n, _ => by rw [toPy]; exact Nat.zero_le _
  | .str _, n, _ => by rw [toPy]; exact Nat.zero_le _
  | .non, n, _ => by rw [toPy]; exact Nat.zero_le _
  | .tup xs, n, h => by
    rw [D.pl] at h
    obtain ⟨k, rfl, h⟩ := pl_seq h
    rw [toPy, PyData.depth]; exact Nat.succ_le_succ (depth_toPyL xs k h)
  | .lst xs, n, h => by
    rw [D.pl] at h
    obtain ⟨k, rfl, h⟩ := pl_seq h
    rw [toPy, PyData.depth]; exact Nat.succ_le_succ (depth_toPyL xs k h)
  | .own xs, n, h => by
    rw [D.pl] at h
    obtain ⟨k, rfl, h⟩ := pl_seq h
    rw [toPy, PyData.depth]; exact Nat.succ_le_succ (depth_toPyL xs k h)
  | .dct _ _, n, h => by rw [D.pl] at h; cases h
  | .odc _ _, n, h => by rw [D.pl] at h; cases h
  | .loc _, n, h => by rw [D.pl] at h; cases h
  | .ex _ _, n, h => by rw [D.pl] at h; cases h
theorem depth_toPyL : ∀ (ds : List D) (n : Nat), plL ds n = true → PyData.depthAll (toPyL ds) ≤ n
  | [], n, _ => by rw [toPyL]; exact Nat.zero_le _
  | d :: ds, n, h => by
    rw [plL, Bool.and_eq_true] at h
    rw [toPyL, PyData.depthAll]
    exact Nat.max_le.mpr ⟨depth_toPy d n h.1, depth_toPyL ds n h.2⟩
end
mutual
theorem eqv_toPy : ∀ (x y : D) (n m : Nat), D.pl x n = true → D.pl y m = true → PyData.eqv (toPy x) (toPy y) = D.eqv x y
  | .tup xs, .tup ys, n, m, h, g => by
    rw [D.pl] at h; rw [D.pl] at g
    obtain ⟨k, rfl, h⟩ := pl_seq h
    obtain ⟨j, rfl, g⟩ := pl_seq g
    rw [toPy, toPy, PyData.eqv, D.eqv]; exact eqv_toPyL xs ys k j h g
  | .lst xs, .lst ys, n, m, h, g => by
    rw [D.pl] at h; rw [D.pl] at g
    obtain ⟨k, rfl, h⟩ := pl_seq h
    obtain ⟨j, rfl, g⟩ := pl_seq g
    rw [toPy, toPy, PyData.eqv, D.eqv]; exact eqv_toPyL xs ys k j h g
  | .lst xs, .own ys, n, m, h, g => by
    rw [D.pl] at h; rw [D.pl] at g
    obtain ⟨k, rfl, h⟩ := pl_seq h
    obtain ⟨j, rfl, g⟩ := pl_seq g
    rw [toPy, toPy, PyData.eqv, D.eqv]; exact eqv_toPyL xs ys k j h g
  | .own xs, .lst ys, n, m, h, g => by
    rw [D.pl] at h; rw [D.pl] at g
    obtain ⟨k, rfl, h⟩ := pl_seq h
    obtain ⟨j, rfl, g⟩ := pl_seq g
    rw [toPy, toPy, PyData.eqv, D.eqv]; exact eqv_toPyL xs ys k j h g
  | .own xs, .own ys, n, m, h, g => by
    rw [D.pl] at h; rw [D.pl] at g
    obtain ⟨k, rfl, h⟩ := pl_seq h
    obtain ⟨j, rfl, g⟩ := pl_seq g
    rw [toPy, toPy, PyData.eqv, D.eqv]; exact eqv_toPyL xs ys k j h g
  | .str x, .str y, n, m, _, _ => by
    rw [toPy, toPy, PyData.eqv, D.eqv]
    by_cases e : x = y
    · subst e; simp
    · rw [beq_eq_false_iff_ne.mpr e, decide_eq_false e]
  | .non, .non, n, m, _, _ => by simp [toPy, PyData.eqv, D.eqv]
  | .non, .bl _, n, m, _, _ => by simp [toPy, PyData.eqv, D.eqv]
  | .non, .int _, n, m, _, _ => by simp [toPy, PyData.eqv, D.eqv]
  | .non, .str _, n, m, _, _ => by simp [toPy, PyData.eqv, D.eqv]
  | .non, .tup _, n, m, _, _ => by simp [toPy, PyData.eqv, D.eqv]
  | .non, .lst _, n, m, _, _ => by simp [toPy, PyData.eqv, D.eqv]
  | .non, .own _, n, m, _, _ => by simp [toPy, PyData.eqv, D.eqv]
  | .bl _, .non, n, m, _, _ => by simp [toPy, PyData.eqv, D.eqv]
  | .bl _, .bl _, n, m, _, _ => by simp [toPy, PyData.eqv, D.eqv]
  | .bl _, .int _, n, m, _, _ => by simp [toPy, PyData.eqv, D.eqv]
  | .bl _, .str _, n, m, _, _ => by simp [toPy, PyData.eqv, D.eqv]
  | .bl _, .tup _, n, m, _, _ => by simp [toPy, PyData.eqv, D.eqv]
  | .bl _, .lst _, n, m, _, _ => by simp [toPy, PyData.eqv, D.eqv]
  | .bl _, .own _, n, m, _, _ => by simp [toPy, PyData.eqv, D.eqv]
  | .int _, .non, n, m, _, _ => by simp [toPy, PyData.eqv, D.eqv]
  | .int _, .bl _, n, m, _, _ => by simp [toPy, PyData.eqv, D.eqv]
  | .int _, .int _, n, m, _, _ => by simp [toPy, PyData.eqv, D.eqv]
  | .int _, .str _, n, m, _, _ => by simp [toPy, PyData.eqv, D.eqv]
  | .int _, .tup _, n, m, _, _ => by simp [toPy, PyData.eqv, D.eqv]
  | .int _, .lst _, n, m, _, _ => by simp [toPy, PyData.eqv, D.eqv]
  | .int _, .own _, n, m, _, _ => by simp [toPy, PyData.eqv, D.eqv]
  | .str _, .non, n, m, _, _ => by simp [toPy, PyData.eqv, D.eqv]
  | .str _, .bl _, n, m, _, _ => by simp [toPy, PyData.eqv, D.eqv]
  | .str _, .int _, n, m, _, _ => by simp [toPy, PyData.eqv, D.eqv]
  | .str _, .tup _, n, m, _, _ => by simp [toPy, PyData.eqv, D.eqv]
  | .str _, .lst _, n, m, _, _ => by simp [toPy, PyData.eqv, D.eqv]
  | .str _, .own _, n, m, _, _ => by simp [toPy, PyData.eqv, D.eqv]
  | .tup _, .non, n, m, _, _ => by simp [toPy, PyData.eqv, D.eqv]
  | .tup _, .bl _, n, m, _, _ => by simp [toPy, PyData.eqv, D.eqv]
  | .tup _, .int _, n, m, _, _ => by simp [toPy, PyData.eqv, D.eqv]
  | .tup _, .str _, n, m, _, _ => by simp [toPy, PyData.eqv, D.eqv]
  | .tup _, .lst _, n, m, _, _ => by simp [toPy, PyData.eqv, D.eqv]
  | .tup _, .own _, n, m, _, _ => by simp [toPy, PyData.eqv, D.eqv]
  | .lst _, .non, n, m, _, _ => by simp [toPy, PyData.eqv, D.eqv]
  | .lst _, .bl _, n, m, _, _ => by simp [toPy, PyData.eqv, D.eqv]
  | .lst _, .int _, n, m, _, _ => by simp [toPy, PyData.eqv, D.eqv]
  | .lst _, .str _, n, m, _, _ => by simp [toPy, PyData.eqv, D.eqv]
  | .lst _, .tup _, n, m, _, _ => by simp [toPy, PyData.eqv, D.eqv]
  | .own _, .non, n, m, _, _ => by simp [toPy, PyData.eqv, D.eqv]
  | .own _, .bl _, n, m, _, _ => by simp [toPy, PyData.eqv, D.eqv]
  | .own _, .int _, n, m, _, _ => by simp [toPy, PyData.eqv, D.eqv]
  | .own _, .str _, n, m, _, _ => by simp [toPy, PyData.eqv, D.eqv]
  | .own _, .tup _, n, m, _, _ => by simp [toPy, PyData.eqv, D.eqv]
  | x, .dct _ _, n, m, _, g => by simp [D.pl] at g
  | x, .odc _ _, n, m, _, g => by simp [D.pl] at g
  | x, .loc _, n, m, _, g => by simp [D.pl] at g
  | x, .ex _ _, n, m, _, g => by simp [D.pl] at g
  | .dct _ _, y, n, m, h, _ => by simp [D.pl] at h
  | .odc _ _, y, n, m, h, _ => by simp [D.pl] at h
  | .loc _, y, n, m, h, _ => by simp [D.pl] at h
  | .ex _ _, y, n, m, h, _ => by simp [D.pl] at h
theorem eqv_toPyL : ∀ (x y : List D) (n m : Nat), plL x n = true → plL y m = true → PyData.eqvAll (toPyL x) (toPyL y) = eqvL x y
  | [], [], n, m, _, _ => by rw [toPyL, PyData.eqvAll, eqvL]
  | x :: xs, y :: ys, n, m, h, g => by
    rw [plL, Bool.and_eq_true] at h g
    rw [toPyL, toPyL, PyData.eqvAll, eqvL, eqv_toPy x y n m h.1 g.1, eqv_toPyL xs ys n m h.2 g.2]
  | [], y :: ys, n, m, _, _ => by simp [toPyL, PyData.eqvAll, eqvL]
  | x :: xs, [], n, m, _, _ => by simp [toPyL, PyData.eqvAll, eqvL]
end
mutual
theorem alike_toPy : ∀ (x y : D), D.alike x y = true → PySem.W.alike (toPy x) (toPy y) = true
  | .bl _, .bl _, _ => by simp [toPy, PySem.W.alike]
  | .int _, .int _, _ => by simp [toPy, PySem.W.alike]
  | .str _, .str _, _ => by simp [toPy, PySem.W.alike]
  | .non, .non, _ => by simp [toPy, PySem.W.alike]
  | .tup xs, .tup ys, h => by rw [D.alike] at h; rw [toPy, toPy, PySem.W.alike]; exact alike_toPyL xs ys h
  | .lst xs, .lst ys, h => by rw [D.alike] at h; rw [toPy, toPy, PySem.W.alike]; exact alike_toPyL xs ys h
  | .bl _, .non, h | .bl _, .int _, h | .bl _, .str _, h | .bl _, .tup _, h | .bl _, .lst _, h | .bl _, .own _, h | .bl _, .dct _ _, h | .bl _, .odc _ _, h | .bl _, .loc _, h | .bl _, .ex _ _, h => by simp [D.alike] at h
  | .int _, .non, h | .int _, .bl _, h | .int _, .str _, h | .int _, .tup _, h | .int _, .lst _, h | .int _, .own _, h | .int _, .dct _ _, h | .int _, .odc _ _, h | .int _, .loc _, h | .int _, .ex _ _, h => by simp [D.alike] at h
  | .str _, .non, h | .str _, .bl _, h | .str _, .int _, h | .str _, .tup _, h | .str _, .lst _, h | .str _, .own _, h | .str _, .dct _ _, h | .str _, .odc _ _, h | .str _, .loc _, h | .str _, .ex _ _, h => by simp [D.alike] at h
  | .non, .str _, h | .non, .bl _, h | .non, .int _, h | .non, .tup _, h | .non, .lst _, h | .non, .own _, h | .non, .dct _ _, h | .non, .odc _ _, h | .non, .loc _, h | .non, .ex _ _, h => by simp [D.alike] at h
  | .tup _, .non, h | .tup _, .bl _, h | .tup _, .int _, h | .tup _, .str _, h | .tup _, .lst _, h | .tup _, .own _, h | .tup _, .dct _ _, h | .tup _, .odc _ _, h | .tup _, .loc _, h | .tup _, .ex _ _, h => by simp [D.alike] at h
  | .lst _, .non, h | .lst _, .bl _, h | .lst _, .int _, h | .lst _, .str _, h | .lst _, .tup _, h | .lst _, .own _, h | .lst _, .dct _ _, h | .lst _, .odc _ _, h | .lst _, .loc _, h | .lst _, .ex _ _, h => by simp [D.alike] at h
  | .own _, _, h | .dct _ _, _, h | .odc _ _, _, h | .loc _, _, h | .ex _ _, _, h => by simp [D.alike] at h
theorem alike_toPyL : ∀ (x y : List D), alikeL x y = true → PySem.W.alikeAll (toPyL x) (toPyL y) = true
  | [], y, _ => by rw [toPyL]; simp [PySem.W.alikeAll]
  | x :: xs, [], _ => by rw [toPyL, toPyL]; simp [PySem.W.alikeAll]
  | x :: xs, y :: ys, h => by
    rw [alikeL, Bool.and_eq_true] at h
    rw [toPyL, toPyL, PySem.W.alikeAll, alike_toPy x y h.1, alike_toPyL xs ys h.2]; rfl
end
mutual
theorem lt_toPy : ∀ (x y : D) (n m : Nat), D.pl x n = true → D.pl y m = true → D.alike x y = true → PySem.W.dataLt (toPy x) (toPy y) = D.lt x y
  | .bl a, .bl b, _, _, _, _, _ => by rw [toPy, toPy, PySem.W.dataLt_bool, D.lt]; cases a <;> cases b <;> decide
  | .int a, .int b, _, _, _, _, _ => by rw [toPy, toPy, PySem.W.dataLt_int, D.lt]
  | .str a, .str b, _, _, _, _, _ => by rw [toPy, toPy, PySem.W.dataLt_str, D.lt]; rfl
  | .non, .non, _, _, _, _, _ => by simp [toPy, D.lt]; rfl
  | .tup xs, .tup ys, n, m, h, g, q => by
    rw [D.pl] at h; rw [D.pl] at g; rw [D.alike] at q
    obtain ⟨k, rfl, h⟩ := pl_seq h
    obtain ⟨j, rfl, g⟩ := pl_seq g
    rw [toPy, toPy, PySem.W.dataLt_tuple, D.lt]; exact lt_toPyL xs ys k j h g q
  | .lst xs, .lst ys, n, m, h, g, q => by
    rw [D.pl] at h; rw [D.pl] at g; rw [D.alike] at q
    obtain ⟨k, rfl, h⟩ := pl_seq h
    obtain ⟨j, rfl, g⟩ := pl_seq g
    rw [toPy, toPy, PySem.W.dataLt_list, D.lt]; exact lt_toPyL xs ys k j h g q
  | .non, .bl _, _, _, _, _, h => by simp [D.alike] at h
  | .non, .int _, _, _, _, _, h => by simp [D.alike] at h
  | .non, .str _, _, _, _, _, h => by simp [D.alike] at h
  | .non, .tup _, _, _, _, _, h => by simp [D.alike] at h
  | .non, .lst _, _, _, _, _, h => by simp [D.alike] at h
  | .non, .own _, _, _, _, _, h => by simp [D.alike] at h
  | .non, .dct _ _, _, _, _, _, h => by simp [D.alike] at h
  | .non, .odc _ _, _, _, _, _, h => by simp [D.alike] at h
  | .non, .loc _, _, _, _, _, h => by simp [D.alike] at h
  | .non, .ex _ _, _, _, _, _, h => by simp [D.alike] at h
  | .bl _, .non, _, _, _, _, h => by simp [D.alike] at h
  | .bl _, .int _, _, _, _, _, h => by simp [D.alike] at h
  | .bl _, .str _, _, _, _, _, h => by simp [D.alike] at h
  | .bl _, .tup _, _, _, _, _, h => by simp [D.alike] at h
  | .bl _, .lst _, _, _, _, _, h => by simp [D.alike] at h
  | .bl _, .own _, _, _, _, _, h => by simp [D.alike] at h
  | .bl _, .dct _ _, _, _, _, _, h => by simp [D.alike] at h
  | .bl _, .odc _ _, _, _, _, _, h => by simp [D.alike] at h
  | .bl _, .loc _, _, _, _, _, h => by simp [D.alike] at h
  | .bl _, .ex _ _, _, _, _, _, h => by simp [D.alike] at h
  | .int _, .non, _, _, _, _, h => by simp [D.alike] at h
  | .int _, .bl _, _, _, _, _, h => by simp [D.alike] at h
  | .int _, .str _, _, _, _, _, h => by simp [D.alike] at h
  | .int _, .tup _, _, _, _, _, h => by simp [D.alike] at h
  | .int _, .lst _, _, _, _, _, h => by simp [D.alike] at h
  | .int _, .own _, _, _, _, _, h => by simp [D.alike] at h
  | .int _, .dct _ _, _, _, _, _, h => by simp [D.alike] at h
  | .int _, .odc _ _, _, _, _, _, h => by simp [D.alike] at h
  | .int _, .loc _, _, _, _, _, h => by simp [D.alike] at h
  | .int _, .ex _ _, _, _, _, _, h => by simp [D.alike] at h
  | .str _, .non, _, _, _, _, h => by simp [D.alike] at h
  | .str _, .bl _, _, _, _, _, h => by simp [D.alike] at h
  | .str _, .int _, _, _, _, _, h => by simp [D.alike] at h
  | .str _, .tup _, _, _, _, _, h => by simp [D.alike] at h
  | .str _, .lst _, _, _, _, _, h => by simp [D.alike] at h
  | .str _, .own _, _, _, _, _, h => by simp [D.alike] at h
  | .str _, .dct _ _, _, _, _, _, h => by simp [D.alike] at h
  | .str _, .odc _ _, _, _, _, _, h => by simp [D.alike] at h
  | .str _, .loc _, _, _, _, _, h => by simp [D.alike] at h
  | .str _, .ex _ _, _, _, _, _, h => by simp [D.alike] at h
  | .tup _, .non, _, _, _, _, h => by simp [D.alike] at h
  | .tup _, .bl _, _, _, _, _, h => by simp [D.alike] at h
  | .tup _, .int _, _, _, _, _, h => by simp [D.alike] at h
  | .tup _, .str _, _, _, _, _, h => by simp [D.alike] at h
  | .tup _, .lst _, _, _, _, _, h => by simp [D.alike] at h
  | .tup _, .own _, _, _, _, _, h => by simp [D.alike] at h
  | .tup _, .dct _ _, _, _, _, _, h => by simp [D.alike] at h
  | .tup _, .odc _ _, _, _, _, _, h => by simp [D.alike] at h
  | .tup _, .loc _, _, _, _, _, h => by simp [D.alike] at h
  | .tup _, .ex _ _, _, _, _, _, h => by simp [D.alike] at h
  | .lst _, .non, _, _, _, _, h => by simp [D.alike] at h
  | .lst _, .bl _, _, _, _, _, h => by simp [D.alike] at h
  | .lst _, .int _, _, _, _, _, h => by simp [D.alike] at h
  | .lst _, .str _, _, _, _, _, h => by simp [D.alike] at h
  | .lst _, .tup _, _, _, _, _, h => by simp [D.alike] at h
  | .lst _, .own _, _, _, _, _, h => by simp [D.alike] at h
  | .lst _, .dct _ _, _, _, _, _, h => by simp [D.alike] at h
  | .lst _, .odc _ _, _, _, _, _, h => by simp [D.alike] at h
  | .lst _, .loc _, _, _, _, _, h => by simp [D.alike] at h
  | .lst _, .ex _ _, _, _, _, _, h => by simp [D.alike] at h
  | .own _, y, _, _, _, _, h => by simp [D.alike] at h
  | .dct _ _, y, _, _, _, _, h => by simp [D.alike] at h
  | .odc _ _, y, _, _, _, _, h => by simp [D.alike] at h
  | .loc _, y, _, _, _, _, h => by simp [D.alike] at h
  | .ex _ _, y, _, _, _, _, h => by simp [D.alike] at h
theorem lt_toPyL : ∀ (x y : List D) (n m : Nat), plL x n = true → plL y m = true → alikeL x y = true → PyProof.Rows.lexLt itemOrd (PySem.W.keyToksAll (toPyL x)) (PySem.W.keyToksAll (toPyL y)) = ltL x y
  | [], [], _, _, _, _, _ => by simp only [toPyL, ltL]; exact lex_irrefl _
  | [], y :: ys, _, _, _, _, _ => by
    rw [toPyL, toPyL, ltL, PySem.W.keyToksAll, PySem.W.keyToksAll, lex_diff (by simp)]
    simp [PySem.W.lex_atom, PySem.W.lex_one]; decide
  | x :: xs, [], _, _, _, _, _ => by
    rw [toPyL, toPyL]; simp only [ltL]
    rw [PySem.W.keyToksAll, PySem.W.keyToksAll, lex_diff (by simp)]
    decide
  | x :: xs, y :: ys, n, m, h, g, q => by
    rw [plL, Bool.and_eq_true] at h g; rw [alikeL, Bool.and_eq_true] at q
    rw [toPyL, toPyL, PySem.W.dataLt_cons (alike_toPy x y q.1), eqv_toPy x y n m h.1 g.1, lt_toPyL xs ys n m h.2 g.2 q.2, lt_toPy x y n m h.1 g.1 q.1, ltL]
end
mutual
theorem alikeC : ∀ (x y : D), D.alike x y = true → D.alike y x = true
  | .tup xs, .tup ys, h => by rw [D.alike] at h ⊢; exact alikeCL xs ys h
  | .lst xs, .lst ys, h => by rw [D.alike] at h ⊢; exact alikeCL xs ys h
  | .non, .non, _ => by simp [D.alike]
  | .bl _, .bl _, _ => by simp [D.alike]
  | .int _, .int _, _ => by simp [D.alike]
  | .str _, .str _, _ => by simp [D.alike]
  | .non, .bl _, h => by simp [D.alike] at h
  | .non, .int _, h => by simp [D.alike] at h
  | .non, .str _, h => by simp [D.alike] at h
  | .non, .tup _, h => by simp [D.alike] at h
  | .non, .lst _, h => by simp [D.alike] at h
  | .non, .own _, h => by simp [D.alike] at h
  | .non, .dct _ _, h => by simp [D.alike] at h
  | .non, .odc _ _, h => by simp [D.alike] at h
  | .non, .loc _, h => by simp [D.alike] at h
  | .non, .ex _ _, h => by simp [D.alike] at h
  | .bl _, .non, h => by simp [D.alike] at h
  | .bl _, .int _, h => by simp [D.alike] at h
  | .bl _, .str _, h => by simp [D.alike] at h
  | .bl _, .tup _, h => by simp [D.alike] at h
  | .bl _, .lst _, h => by simp [D.alike] at h
  | .bl _, .own _, h => by simp [D.alike] at h
  | .bl _, .dct _ _, h => by simp [D.alike] at h
  | .bl _, .odc _ _, h => by simp [D.alike] at h
  | .bl _, .loc _, h => by simp [D.alike] at h
  | .bl _, .ex _ _, h => by simp [D.alike] at h
  | .int _, .non, h => by simp [D.alike] at h
  | .int _, .bl _, h => by simp [D.alike] at h
  | .int _, .str _, h => by simp [D.alike] at h
  | .int _, .tup _, h => by simp [D.alike] at h
  | .int _, .lst _, h => by simp [D.alike] at h
  | .int _, .own _, h => by simp [D.alike] at h
  | .int _, .dct _ _, h => by simp [D.alike] at h
  | .int _, .odc _ _, h => by simp [D.alike] at h
  | .int _, .loc _, h => by simp [D.alike] at h
  | .int _, .ex _ _, h => by simp [D.alike] at h
  | .str _, .non, h => by simp [D.alike] at h
  | .str _, .bl _, h => by simp [D.alike] at h
  | .str _, .int _, h => by simp [D.alike] at h
  | .str _, .tup _, h => by simp [D.alike] at h
  | .str _, .lst _, h => by simp [D.alike] at h
  | .str _, .own _, h => by simp [D.alike] at h
  | .str _, .dct _ _, h => by simp [D.alike] at h
  | .str _, .odc _ _, h => by simp [D.alike] at h
  | .str _, .loc _, h => by simp [D.alike] at h
  | .str _, .ex _ _, h => by simp [D.alike] at h
  | .tup _, .non, h => by simp [D.alike] at h
  | .tup _, .bl _, h => by simp [D.alike] at h
  | .tup _, .int _, h => by simp [D.alike] at h
  | .tup _, .str _, h => by simp [D.alike] at h
  | .tup _, .lst _, h => by simp [D.alike] at h
  | .tup _, .own _, h => by simp [D.alike] at h
  | .tup _, .dct _ _, h => by simp [D.alike] at h
  | .tup _, .odc _ _, h => by simp [D.alike] at h
  | .tup _, .loc _, h => by simp [D.alike] at h
  | .tup _, .ex _ _, h => by simp [D.alike] at h
  | .lst _, .non, h => by simp [D.alike] at h
  | .lst _, .bl _, h => by simp [D.alike] at h
  | .lst _, .int _, h => by simp [D.alike] at h
  | .lst _, .str _, h => by simp [D.alike] at h
  | .lst _, .tup _, h => by simp [D.alike] at h
  | .lst _, .own _, h => by simp [D.alike] at h
  | .lst _, .dct _ _, h => by simp [D.alike] at h
  | .lst _, .odc _ _, h => by simp [D.alike] at h
  | .lst _, .loc _, h => by simp [D.alike] at h
  | .lst _, .ex _ _, h => by simp [D.alike] at h
  | .own _, y, h => by simp [D.alike] at h
  | .dct _ _, y, h => by simp [D.alike] at h
  | .odc _ _, y, h => by simp [D.alike] at h
  | .loc _, y, h => by simp [D.alike] at h
  | .ex _ _, y, h => by simp [D.alike] at h
theorem alikeCL : ∀ (x y : List D), alikeL x y = true → alikeL y x = true
  | [], [], _ => by simp [alikeL]
  | [], y :: ys, _ => by simp [alikeL]
  | x :: xs, [], _ => by simp [alikeL]
  | x :: xs, y :: ys, h => by
    rw [alikeL, Bool.and_eq_true] at h
    rw [alikeL, alikeC x y h.1, alikeCL xs ys h.2]; rfl
end
theorem lt_comm_toPy {d e : D} (h : D.alike d e = true) (h3 : D.pl d 60 = true) (h4 : D.pl e 60 = true) : PySem.W.dataLt (toPy e) (toPy d) = D.lt e d := lt_toPy e d 60 60 h4 h3 (alikeC d e h)
end Z
/-! Z4: operators, by values -/
namespace Z
open PySem PySem.Spec PyProof.Rows L2
section
variable {K : PySem.W.Frag} {la : List Addr} {H : Hp}
mutual
theorem Rep.dp : ∀ (d : D) (n : Nat) (v : V), D.pl d n = true → Rep K la H d v → Dp K H v (toPy d)
  | .bl _, n, v, _, r => by rw [Rep] at r; subst r; rw [toPy]; exact .bl _
  | .int _, n, v, _, r => by rw [Rep] at r; subst r; rw [toPy]; exact .int _
  | .str _, n, v, _, r => by rw [Rep] at r; subst r; rw [toPy]; exact .str _
  | .non, n, v, _, r => by rw [Rep] at r; subst r; rw [toPy]; exact .non
  | .tup xs, n, v, h, r => by
    rw [D.pl] at h; obtain ⟨k, rfl, h⟩ := pl_seq h
    rw [Rep] at r
    obtain ⟨a, vs, rfl, q, r⟩ := r
    rw [toPy]; exact .tup q (RepL.dp xs k vs h r)
  | .lst xs, n, v, h, r => by
    rw [D.pl] at h; obtain ⟨k, rfl, h⟩ := pl_seq h
    rw [Rep] at r
    obtain ⟨a, vs, o, rfl, q, r⟩ := r
    rw [toPy]; exact .lst (.inl (.inr ⟨o, q⟩)) (RepL.dp xs k vs h r)
  | .own xs, n, v, h, r => by rw [Rep] at r; exact r.elim
  | .dct _ _, n, v, h, r => by rw [Rep] at r; exact r.elim
  | .odc _ _, n, v, h, r => by rw [Rep] at r; exact r.elim
  | .ex _ _, n, v, h, r => by rw [Rep] at r; exact r.elim
  | .loc _, n, v, h, r => by rw [D.pl] at h; cases h
theorem RepL.dp : ∀ (ds : List D) (n : Nat) (vs : List V), plL ds n = true → RepL K la H ds vs → DpAll K H vs (toPyL ds)
  | [], n, vs, _, r => by rw [RepL] at r; subst r; rw [toPyL]; exact .nil
  | d :: ds, n, vs, h, r => by
    rw [plL, Bool.and_eq_true] at h
    rw [RepL] at r
    obtain ⟨v, ws, rfl, r, rs⟩ := r
    rw [toPyL]; exact .cons (Rep.dp d n v h.1 r) (RepL.dp ds n ws h.2 rs)
end
theorem RepS.dp {d : D} {n : Nat} {v : V} (h : D.pl d n = true) (r : RepS K la H d v) : Dp K H v (toPy d) := by
  cases d
  case own xs =>
    obtain ⟨a, rfl, vs, q, r, _⟩ := r
    rw [D.pl] at h; obtain ⟨k, rfl, h⟩ := pl_seq h
    rw [toPy]; exact .lst (.inl (.inl q)) (RepL.dp xs k vs h r)
  case odc => exact r.elim
  all_goals exact Rep.dp _ _ _ h (RepS.rep r rfl)
/-- a sequence's items -/
theorem RepS.seq {d : D} {xs : List D} {v : V} (r : RepS K la H d v) (e : d.seq? = some xs) :
    ∃ a vs, v = .ref a ∧ RepL K la H xs vs ∧ ((SqT K H a vs ∧ d = .tup xs) ∨ (SqL K H a vs ∧ (d = .lst xs ∨ d = .own xs))) := by
  cases d <;> try (cases e; done)
  · cases e
    have r := RepS.rep r rfl
    rw [Rep] at r
    obtain ⟨a, vs, rfl, q, r⟩ := r
    exact ⟨a, vs, rfl, r, .inl ⟨q, rfl⟩⟩
  · cases e
    have r := RepS.rep r rfl
    rw [Rep] at r
    obtain ⟨a, vs, o, rfl, q, r⟩ := r
    exact ⟨a, vs, rfl, r, .inr ⟨.inl (.inr ⟨o, q⟩), .inl rfl⟩⟩
  · cases e
    obtain ⟨a, rfl, vs, q, r, _⟩ := r
    exact ⟨a, vs, rfl, r, .inr ⟨.inl (.inl q), .inr rfl⟩⟩
end
section
variable {X : Cx} {pins : List (Addr × Obj)} {σ : L2.St} {H : Hp} {s : Shared} {la : List Addr} {hs : Hs}
/-- a list's object -/
theorem lst_at {d : D} {xs : List D} {v : V} {u : Value} (I : L2.Inv X pins σ H s) (r : RepS X.K la H d v) (e : d = .lst xs ∨ d = .own xs) (ru : RelV v u) :
    ∃ a vs its n, v = .ref a ∧ u = .ref a ∧ RepL X.K la H xs vs ∧ Vals vs its ∧ vs.length ≤ sizeLine ∧ s.heap.get? a = some { cls := .type "list", data := .seq its.toArray n } := by
  rcases e with rfl | rfl
  · have r := RepS.rep r rfl
    rw [Rep] at r
    obtain ⟨a, vs, o, rfl, q, r⟩ := r
    cases ru
    obtain ⟨e, z, its, n, rv, e2⟩ := I.hok a _ q
    exact ⟨a, vs, its, n, rfl, rfl, r, rv, z, e2⟩
  · obtain ⟨a, rfl, vs, q, r, _⟩ := r
    cases ru
    obtain ⟨z, its, n, rv, e2⟩ := I.hok a _ q
    exact ⟨a, vs, its, n, rfl, rfl, r, rv, z, e2⟩
def pyB : Bop → Operator
  | .add => .Add | .sub => .Sub | .mul => .Mult | .fdiv => .FloorDiv | .mod => .Mod | .pow => .Pow | .shl => .LShift
def rB (K : PySem.W.Frag) (o : Bop) : R2 := fun x y H Q => ∃ la hs d e r, RepS K la H d x ∧ RepS K la H e y ∧ LocOk K la hs H ∧ opB o d e = some r ∧ Res K la hs H r Q
theorem of_lim {n : Nat} (h : lim n = true) : n ≤ sizeLine := by
  have := of_decide_eq_true h
  rw [sizeLine_eq]; exact this
theorem of_small {i : Int} (h : small64 i = true) : i.natAbs < 2 ^ 64 := of_decide_eq_true h
theorem RepS.int {i : Int} {v : V} {K : PySem.W.Frag} (h : RepS K la H (.int i) v) : v = .int i := by
  have := RepS.rep h rfl; rw [Rep] at this; exact this
theorem RepS.str {i : Str} {v : V} {K : PySem.W.Frag} (h : RepS K la H (.str i) v) : v = .str i := by
  have := RepS.rep h rfl; rw [Rep] at this; exact this
theorem RepS.bl {i : Bool} {v : V} {K : PySem.W.Frag} (h : RepS K la H (.bl i) v) : v = .bl i := by
  have := RepS.rep h rfl; rw [Rep] at this; exact this
theorem add_lists {d e : D} {xs ys : List D} {x y : V} {v u : Value} {Q : VK} (I : L2.Inv X pins σ H s) (rx : RelV x v) (ry : RelV y u) (r1 : RepS X.K la H d x) (r2 : RepS X.K la H e y) (lo : LocOk X.K la hs H)
    (hd : d = .lst xs ∨ d = .own xs) (he : e = .lst ys ∨ e = .own ys) (hl : lim (xs.length + ys.length) = true) (h : Res X.K la hs H (.own (xs ++ ys)) Q) : wpAny (model X.prog X.w) X.A (binaryOp .Add v u) (EP X pins σ Q) X.xe s := by
  obtain ⟨a, vs, its, n, rfl, rfl, q1, v1, z1, e1⟩ := lst_at I r1 hd rx
  obtain ⟨b, ws, its2, n2, rfl, rfl, q2, v2, z2, e2⟩ := lst_at I r2 he ry
  have hl' := of_lim hl
  have l1 := q1.len
  have l2 := q2.len
  have l3 := v1.length
  have l4 := v2.length
  refine PySem.P.add_list e1 e2 ?_ (by rw [List.size_toArray, List.size_toArray]; omega)
  have ea : its.toArray ++ its2.toArray = (its ++ its2).toArray := by simp
  rw [ea]
  exact ⟨.ref _, _, I.lnew (t' := s.toks) (v1.append v2) (by rw [List.length_append]; omega), rfl, Res.own lo (q1.append q2) h _ I.fresh⟩
theorem op_B (o : Bop) : OpR X (binaryOp (pyB o)) (rB X.K o) := by
  intro pins s σ H x y v u Q I rx ry h
  obtain ⟨la, hs, d, e, r, r1, r2, lo, ho, h⟩ := h
  unfold opB at ho
  split at ho
  · cases ho
    exact op_add pins s σ H x y v u Q I rx ry ⟨_, _, r1.int, r2.int, Res.scal lo (by rw [Rep]) h⟩
  · split at ho
    · rename_i a b hl
      cases ho
      have r1 := RepS.rep r1 rfl
      have r2 := RepS.rep r2 rfl
      rw [Rep] at r1 r2
      obtain ⟨p, vs, rfl, q1, r1⟩ := r1
      obtain ⟨p2, ws, rfl, q2, r2⟩ := r2
      have l1 := r1.len
      have l2 := r2.len
      have hl' := of_lim hl
      refine op_catA pins s σ H _ _ v u Q I rx ry ⟨p, p2, vs, ws, rfl, rfl, q1, q2, by omega, fun e => ?_, fun _ e => ?_, fun _ _ => Res.tup lo (r1.append r2) h⟩
      · subst e
        have : a = [] := List.eq_nil_of_length_eq_zero (by simpa using l1)
        subst this
        exact Res.scal lo (by rw [Rep]; exact ⟨p2, ws, rfl, q2, r2⟩) h
      · subst e
        have : b = [] := List.eq_nil_of_length_eq_zero (by simpa using l2)
        subst this
        rw [List.append_nil] at h
        exact Res.scal lo (by rw [Rep]; exact ⟨p, vs, rfl, q1, r1⟩) h
    · cases ho
  · split at ho
    · rename_i hl
      cases ho
      exact op_add_str pins s σ H x y v u Q I rx ry ⟨_, _, r1.str, r2.str, of_lim hl, Res.scal lo (by rw [Rep]) h⟩
    · cases ho
  · split at ho
    · rename_i hl
      cases ho
      exact add_lists I rx ry r1 r2 lo (.inl rfl) (.inl rfl) hl h
    · cases ho
  · split at ho
    · rename_i hl
      cases ho
      exact add_lists I rx ry r1 r2 lo (.inl rfl) (.inr rfl) hl h
    · cases ho
  · split at ho
    · rename_i hl
      cases ho
      exact add_lists I rx ry r1 r2 lo (.inr rfl) (.inl rfl) hl h
    · cases ho
  · split at ho
    · rename_i hl
      cases ho
      exact add_lists I rx ry r1 r2 lo (.inr rfl) (.inr rfl) hl h
    · cases ho
  · cases ho
    exact op_sub pins s σ H x y v u Q I rx ry ⟨_, _, r1.int, r2.int, Res.scal lo (by rw [Rep]) h⟩
  · split at ho
    · rename_i i j hl
      cases ho
      rw [Bool.or_eq_true] at hl
      refine op_mul pins s σ H x y v u Q I rx ry ⟨_, _, r1.int, r2.int, ?_, Res.scal lo (by rw [Rep]) h⟩
      rcases hl with hl | hl
      · have := of_small hl
        exact .inl ⟨by omega, by omega⟩
      · have := of_small hl
        exact .inr ⟨by omega, by omega⟩
    · cases ho
  · split at ho
    · rename_i a j hl
      cases ho
      simp only [Bool.and_eq_true, decide_eq_true_eq, Bool.not_eq_true'] at hl
      obtain ⟨⟨⟨h1, h2⟩, h3⟩, h4⟩ := hl
      have r1 := RepS.rep r1 rfl
      rw [Rep] at r1
      obtain ⟨p, vs, rfl, q1, r1⟩ := r1
      have l1 := r1.len
      have e2 := r2.int
      subst e2
      have hr : ∀ k : Nat, RepL X.K la H (List.replicate k a).flatten (List.replicate k vs).flatten := fun k => by
        induction k with
        | zero => simp; rw [RepL]
        | succ k ih => rw [List.replicate_succ, List.replicate_succ, List.flatten_cons, List.flatten_cons]; exact r1.append ih
      refine op_repT pins s σ H _ _ v u Q I rx ry ⟨p, j, vs, rfl, rfl, q1, fun e => ?_, h1, h2, by omega, Res.tup lo (hr _) h⟩
      subst e
      have : a = [] := List.eq_nil_of_length_eq_zero (by simpa using l1)
      subst this
      cases h3
    · cases ho
  · split at ho
    · rename_i a j hl
      cases ho
      simp only [Bool.and_eq_true, decide_eq_true_eq] at hl
      obtain ⟨⟨h1, h2⟩, h3⟩ := hl
      have h2 := of_lim h2
      obtain ⟨p, rfl, vs, q1, r1, _⟩ := r1
      have l1 := r1.len
      have e2 := r2.int
      subst e2
      have hr : ∀ k : Nat, RepL X.K la H (List.replicate k a).flatten (List.replicate k vs).flatten := fun k => by
        induction k with
        | zero => simp; rw [RepL]
        | succ k ih => rw [List.replicate_succ, List.replicate_succ, List.flatten_cons, List.flatten_cons]; exact r1.append ih
      exact op_rep pins s σ H _ _ v u Q I rx ry ⟨p, j, vs, rfl, rfl, q1, by omega, by omega, by rw [← l1]; exact h2, Res.own lo (hr _) h⟩
    · cases ho
  · split at ho
    · rename_i i j h0
      split at ho
      · rename_i h1
        cases ho
        exact op_fdiv pins s σ H x y v u Q I rx ry ⟨_, _, r1.int, r2.int, ⟨h0, h1⟩, Res.scal lo (by rw [Rep]) h⟩
      · cases ho
    · cases ho
  · split at ho
    · rename_i i j h0
      cases ho
      exact op_mod pins s σ H x y v u Q I rx ry ⟨_, _, r1.int, r2.int, h0, Res.scal lo (by rw [Rep]) h⟩
    · cases ho
  · split at ho
    · rename_i i j hl
      cases ho
      simp only [Bool.and_eq_true, decide_eq_true_eq] at hl
      exact op_pow pins s σ H x y v u Q I rx ry ⟨_, _, r1.int, r2.int, ⟨hl.1.1, hl.1.2, of_small hl.2⟩, Res.scal lo (by rw [Rep]) h⟩
    · cases ho
  · split at ho
    · rename_i i j hl
      cases ho
      simp only [Bool.and_eq_true, decide_eq_true_eq] at hl
      exact op_shl pins s σ H x y v u Q I rx ry ⟨_, _, r1.int, r2.int, ⟨hl.1.1, hl.1.2, of_small hl.2⟩, Res.scal lo (by rw [Rep]) h⟩
    · cases ho
  · cases ho
/-- unary minus -/
theorem op_neg {i : Int} {x : V} {v : Value} {Q : VK} (I : L2.Inv X pins σ H s) (rx : RelV x v) (r : RepS X.K la H (.int i) x) (h : Q (.int (-i)) H) : wpAny (model X.prog X.w) X.A (unaryOp .USub v) (EP X pins σ Q) X.xe s :=
  un_neg pins s σ H x v Q I rx ⟨i, r.int, h⟩
/-! ### comparisons -/
def pyC : Cop → CmpOp
  | .eq => .Eq | .ne => .NotEq | .lt => .Lt | .le => .LtE | .gt => .Gt | .ge => .GtE | .is => .Is | .isn => .IsNot | .mem => .In | .nmem => .NotIn
def rC (K : PySem.W.Frag) (o : Cop) : R2 := fun x y H Q => ∃ la hs d e r, RepS K la H d x ∧ RepS K la H e y ∧ LocOk K la hs H ∧ opC o d e = some r ∧ Q (.bl r) H
theorem noNon_ne {d : D} {n : Nat} (h : noNon d = true) (p : D.pl d n = true) : toPy d ≠ .none := by
  cases d <;> simp [noNon, toPy] at h ⊢ <;> simp [D.pl] at p
theorem units60 {A : Around} {x y : D} {n : Nat} (hu : A.units + 64 < cLine) (px : D.pl x 60 = true) : A.units + min (toPy x).depth n < cLine := by
  have := depth_toPy x 60 px
  omega
theorem op_C (hu : X.A.units + 64 < cLine) (o : Cop) : OpR X (compareOp (pyC o)) (rC X.K o) := by
  intro pins s σ H x y v u Q I rx ry h
  obtain ⟨la, hs, d, e, r, r1, r2, lo, ho, h⟩ := h
  have fin : ∀ b, r = b → EP X pins σ Q (.bool b) s := fun b q => ⟨.bl r, H, I, by rw [q]; rfl, h⟩
  have rd : ∀ {d : D} {v : V} {u : Value}, RepS X.K la H d v → RelV v u → D.pl d 60 = true → ∃ as, Reads s.heap u (toPy d) as := fun r ru p => Dp.reads I _ _ _ (r.dp p) ru
  have seqs : ∀ {ys : List D}, e.seq? = some ys → D.pl d 60 = true → plL ys 60 = true → (∀ b, b = (ys.any fun z => D.eqv z d) → r = b → wpAny (model X.prog X.w) X.A (compareOp .In v u) (EP X pins σ Q) X.xe s) ∧
      (∀ b, b = (!ys.any fun z => D.eqv z d) → r = b → wpAny (model X.prog X.w) X.A (compareOp .NotIn v u) (EP X pins σ Q) X.xe s) := fun {ys} hq p1 p2 => by
    obtain ⟨a1, q1⟩ := rd r1 rx p1
    have dp := depth_toPyL ys 60 p2
    have an : ((toPyL ys).any fun y => PyData.eqv y (toPy d)) = ys.any fun z => D.eqv z d := by
      have : ∀ zs : List D, plL zs 60 = true → ((toPyL zs).any fun y => PyData.eqv y (toPy d)) = zs.any fun z => D.eqv z d := fun zs => by
        induction zs with
        | nil => intro _; rw [toPyL]; rfl
        | cons z zs ih =>
          intro hz
          rw [plL, Bool.and_eq_true] at hz
          rw [toPyL, List.any_cons, List.any_cons, eqv_toPy z d 60 60 hz.1 p1, ih hz.2]
      exact this ys p2
    have hu2 : X.A.units + 1 + min (PyData.depthAll (toPyL ys)) (toPy d).depth < cLine := by omega
    obtain ⟨a, vs, ey, rl, w⟩ := r2.seq hq
    have pe : D.pl e 61 = true := by rcases w with ⟨_, rfl⟩ | ⟨_, rfl | rfl⟩ <;> (rw [D.pl]; simpa using p2)
    obtain ⟨a2, q2⟩ := Dp.reads I _ _ _ (r2.dp pe) ry
    rcases w with ⟨_, rfl⟩ | ⟨_, rfl | rfl⟩
    · rw [toPy] at q2
      exact ⟨fun b hb e => PySem.SeqAt.in_tuple_data q2 q1 (plain_toPyL _) (plain_toPy _) hu2 (by rw [an]; exact fin _ (e.trans hb)),
        fun b hb e => PySem.SeqAt.notIn_tuple_data q2 q1 (plain_toPyL _) (plain_toPy _) hu2 (by rw [an]; exact fin _ (e.trans hb))⟩
    · rw [toPy] at q2
      exact ⟨fun b hb e => PySem.SeqAt.in_list_data q2 q1 (plain_toPyL _) (plain_toPy _) hu2 (by rw [an]; exact fin _ (e.trans hb)),
        fun b hb e => PySem.SeqAt.notIn_list_data q2 q1 (plain_toPyL _) (plain_toPy _) hu2 (by rw [an]; exact fin _ (e.trans hb))⟩
    · rw [toPy] at q2
      exact ⟨fun b hb e => PySem.SeqAt.in_list_data q2 q1 (plain_toPyL _) (plain_toPy _) hu2 (by rw [an]; exact fin _ (e.trans hb)),
        fun b hb e => PySem.SeqAt.notIn_list_data q2 q1 (plain_toPyL _) (plain_toPy _) hu2 (by rw [an]; exact fin _ (e.trans hb))⟩
  cases o
  · -- eq
    simp only [opC] at ho
    split at ho
    · rename_i hp
      rw [Bool.and_eq_true] at hp
      cases ho
      obtain ⟨a1, q1⟩ := rd r1 rx hp.1
      obtain ⟨a2, q2⟩ := rd r2 ry hp.2
      exact PySem.SeqAt.eq_plain q1 q2 (plain_toPy _) (plain_toPy _) (units60 (y := d) hu hp.1) (fin _ (eqv_toPy d e 60 60 hp.1 hp.2).symm)
    · cases ho
  · -- ne
    simp only [opC] at ho
    split at ho
    · rename_i hp
      rw [Bool.and_eq_true] at hp
      cases ho
      obtain ⟨a1, q1⟩ := rd r1 rx hp.1
      obtain ⟨a2, q2⟩ := rd r2 ry hp.2
      exact PySem.SeqAt.ne_plain q1 q2 (plain_toPy _) (plain_toPy _) (units60 (y := d) hu hp.1) (fin _ (by rw [eqv_toPy d e 60 60 hp.1 hp.2]))
    · cases ho
  · simp only [opC] at ho
    split at ho
    · rename_i hp
      simp only [Bool.and_eq_true] at hp
      obtain ⟨⟨⟨h1, h2⟩, h3⟩, h4⟩ := hp
      cases ho
      obtain ⟨a1, q1⟩ := rd r1 rx h3
      obtain ⟨a2, q2⟩ := rd r2 ry h4
      exact PySem.W.lt_data q1 q2 (alike_toPy _ _ h1) (noNon_ne h2 h3) (units60 (y := d) hu h3) (fin _ (lt_toPy d e 60 60 h3 h4 h1).symm)
    · cases ho
  · simp only [opC] at ho
    split at ho
    · rename_i hp
      simp only [Bool.and_eq_true] at hp
      obtain ⟨⟨⟨h1, h2⟩, h3⟩, h4⟩ := hp
      cases ho
      obtain ⟨a1, q1⟩ := rd r1 rx h3
      obtain ⟨a2, q2⟩ := rd r2 ry h4
      have h5 : PySem.W.dataLt (toPy e) (toPy d) = D.lt e d := lt_comm_toPy h1 h3 h4
      exact PySem.W.le_data q1 q2 (alike_toPy _ _ h1) (noNon_ne h2 h3) (units60 (y := d) hu h3) (fin _ (by rw [h5]))
    · cases ho
  · simp only [opC] at ho
    split at ho
    · rename_i hp
      simp only [Bool.and_eq_true] at hp
      obtain ⟨⟨⟨h1, h2⟩, h3⟩, h4⟩ := hp
      cases ho
      obtain ⟨a1, q1⟩ := rd r1 rx h3
      obtain ⟨a2, q2⟩ := rd r2 ry h4
      have h5 : PySem.W.dataLt (toPy e) (toPy d) = D.lt e d := lt_comm_toPy h1 h3 h4
      exact PySem.W.gt_data q1 q2 (alike_toPy _ _ h1) (noNon_ne h2 h3) (units60 (y := d) hu h3) (fin _ (by rw [h5]))
    · cases ho
  · simp only [opC] at ho
    split at ho
    · rename_i hp
      simp only [Bool.and_eq_true] at hp
      obtain ⟨⟨⟨h1, h2⟩, h3⟩, h4⟩ := hp
      cases ho
      obtain ⟨a1, q1⟩ := rd r1 rx h3
      obtain ⟨a2, q2⟩ := rd r2 ry h4
      exact PySem.W.ge_data q1 q2 (alike_toPy _ _ h1) (noNon_ne h2 h3) (units60 (y := d) hu h3) (fin _ (by rw [lt_toPy d e 60 60 h3 h4 h1]))
    · cases ho
  · -- is
    have q0 : e = .non → r = decide (x = .non) → wpAny (model X.prog X.w) X.A (compareOp .Is v u) (EP X pins σ Q) X.xe s := fun e1 e2 => by
      subst e1
      have := RepS.rep r2 rfl
      rw [Rep] at this
      exact op_isN pins s σ H x y v u Q I rx ry ⟨this, by rw [← e2]; exact h⟩
    simp only [opC] at ho
    split at ho
    · cases ho
      refine q0 rfl ?_
      have := RepS.rep r1 rfl
      rw [Rep] at this; rw [this]; rfl
    · rename_i hn
      cases ho
      refine q0 rfl (decide_eq_false fun hx => ?_).symm
      subst hx
      cases d
      case non => exact hn rfl
      case own => obtain ⟨a, z, _⟩ := r1; cases z
      case odc => exact r1.elim
      all_goals (have r1 := RepS.rep r1 rfl; rw [Rep] at r1)
      case tup => obtain ⟨_, _, z, _⟩ := r1; cases z
      case lst => obtain ⟨_, _, _, z, _⟩ := r1; cases z
      case loc => obtain ⟨_, _, z⟩ := r1; cases z
      all_goals first | cases r1 | exact r1.elim
    · cases ho
      exact op_is_bl pins s σ H x y v u Q I rx ry ⟨_, _, r1.bl, r2.bl, by rw [← Bool.beq_eq_decide_eq]; exact h⟩
    · cases ho
  · have q0 : e = .non → r = !decide (x = .non) → wpAny (model X.prog X.w) X.A (compareOp .IsNot v u) (EP X pins σ Q) X.xe s := fun e1 e2 => by
      subst e1
      have := RepS.rep r2 rfl
      rw [Rep] at this
      exact op_notN pins s σ H x y v u Q I rx ry ⟨this, by rw [← e2]; exact h⟩
    simp only [opC] at ho
    split at ho
    · cases ho
      refine q0 rfl ?_
      have := RepS.rep r1 rfl
      rw [Rep] at this; rw [this]; rfl
    · rename_i hn
      cases ho
      refine q0 rfl ?_
      rw [decide_eq_false]; · rfl
      intro hx
      subst hx
      cases d
      case non => exact hn rfl
      case own => obtain ⟨a, z, _⟩ := r1; cases z
      case odc => exact r1.elim
      all_goals (have r1 := RepS.rep r1 rfl; rw [Rep] at r1)
      case tup => obtain ⟨_, _, z, _⟩ := r1; cases z
      case lst => obtain ⟨_, _, _, z, _⟩ := r1; cases z
      case loc => obtain ⟨_, _, z⟩ := r1; cases z
      all_goals first | cases r1 | exact r1.elim
    · cases ho
      exact op_isnot_bl pins s σ H x y v u Q I rx ry ⟨_, _, r1.bl, r2.bl, by rw [← Bool.beq_eq_decide_eq]; exact h⟩
    · cases ho
  · simp only [opC] at ho
    split at ho
    · have r2 := RepS.rep r2 rfl
      rw [Rep] at r2; exact r2.elim
    · exact r2.elim
    · split at ho
      · rename_i ys hq
        split at ho
        · rename_i hp
          rw [Bool.and_eq_true] at hp
          cases ho
          exact (seqs hq hp.1 hp.2).1 _ rfl rfl
        · cases ho
      · cases ho
  · simp only [opC] at ho
    split at ho
    · have r2 := RepS.rep r2 rfl
      rw [Rep] at r2; exact r2.elim
    · exact r2.elim
    · split at ho
      · rename_i ys hq
        split at ho
        · rename_i hp
          rw [Bool.and_eq_true] at hp
          cases ho
          exact (seqs hq hp.1 hp.2).2 _ rfl rfl
        · cases ho
      · cases ho
end
end Z
/-! Z5: built-ins, by values -/
namespace Z
open PySem PySem.Spec PyProof.Rows L2
section
variable {K : PySem.W.Frag} {la : List Addr} {H : Hp}
mutual
/-- frozen plain data are known by what the library reads -/
theorem toPy_inj : ∀ (x y : D) (n m : Nat) (v w : V), Rep K la H x v → Rep K la H y w → D.pl x n = true → D.pl y m = true → toPy x = toPy y → x = y
  | .bl _, y, n, m, v, w, rx, ry, h, g, e => by
    cases y <;> simp [toPy] at e ⊢
    exact e
  | .int _, y, n, m, v, w, rx, ry, h, g, e => by
    cases y <;> simp [toPy] at e ⊢
    exact e
  | .str _, y, n, m, v, w, rx, ry, h, g, e => by
    cases y <;> simp [toPy] at e ⊢
    exact e
  | .non, y, n, m, v, w, rx, ry, h, g, e => by
    cases y <;> first | rfl | (simp [toPy] at e; done) | (rw [Rep] at ry; exact ry.elim) | (rw [D.pl] at g; cases g)
  | .tup xs, y, n, m, v, w, rx, ry, h, g, e => by
    cases y
    case tup ys =>
      rw [toPy, toPy] at e
      rw [D.pl] at h; rw [D.pl] at g
      obtain ⟨k, rfl, h⟩ := pl_seq h
      obtain ⟨j, rfl, g⟩ := pl_seq g
      rw [Rep] at rx; rw [Rep] at ry
      obtain ⟨_, vs, _, _, rx⟩ := rx
      obtain ⟨_, ws, _, _, ry⟩ := ry
      rw [toPyL_inj xs ys k j vs ws rx ry h g (by injection e)]
    all_goals (rw [toPy, toPy] at e; cases e)
  | .lst xs, y, n, m, v, w, rx, ry, h, g, e => by
    cases y
    case lst ys =>
      rw [toPy, toPy] at e
      rw [D.pl] at h; rw [D.pl] at g
      obtain ⟨k, rfl, h⟩ := pl_seq h
      obtain ⟨j, rfl, g⟩ := pl_seq g
      rw [Rep] at rx; rw [Rep] at ry
      obtain ⟨_, vs, _, _, _, rx⟩ := rx
      obtain ⟨_, ws, _, _, _, ry⟩ := ry
      rw [toPyL_inj xs ys k j vs ws rx ry h g (by injection e)]
    case own ys => rw [Rep] at ry; exact ry.elim
    all_goals (rw [toPy, toPy] at e; cases e)
  | .own _, y, n, m, v, w, rx, ry, h, g, e => by rw [Rep] at rx; exact rx.elim
  | .dct _ _, y, n, m, v, w, rx, ry, h, g, e => by rw [Rep] at rx; exact rx.elim
  | .odc _ _, y, n, m, v, w, rx, ry, h, g, e => by rw [Rep] at rx; exact rx.elim
  | .ex _ _, y, n, m, v, w, rx, ry, h, g, e => by rw [Rep] at rx; exact rx.elim
  | .loc _, y, n, m, v, w, rx, ry, h, g, e => by rw [D.pl] at h; cases h
theorem toPyL_inj : ∀ (x y : List D) (n m : Nat) (v w : List V), RepL K la H x v → RepL K la H y w → plL x n = true → plL y m = true → toPyL x = toPyL y → x = y
  | [], [], n, m, v, w, rx, ry, h, g, e => rfl
  | [], y :: ys, n, m, v, w, rx, ry, h, g, e => by rw [toPyL, toPyL] at e; cases e
  | x :: xs, [], n, m, v, w, rx, ry, h, g, e => by rw [toPyL, toPyL] at e; cases e
  | x :: xs, y :: ys, n, m, v, w, rx, ry, h, g, e => by
    rw [toPyL, toPyL] at e
    rw [plL, Bool.and_eq_true] at h; rw [plL, Bool.and_eq_true] at g
    rw [RepL] at rx; rw [RepL] at ry
    obtain ⟨v1, vs, _, r1, rs1⟩ := rx
    obtain ⟨w1, ws, _, r2, rs2⟩ := ry
    injection e with e1 e2
    rw [toPy_inj x y n m v1 w1 r1 r2 h.1 g.1 e1, toPyL_inj xs ys n m vs ws rs1 rs2 h.2 g.2 e2]
end
end
section
variable {X : Cx} {pins : List (Addr × Obj)} {σ : L2.St} {H : Hp} {s : Shared} {la : List Addr} {hs : Hs}
def pyBi : Bi → Value
  | .len => .builtin "len" | .abs => .builtin "abs" | .int => .type "int" | .min => .builtin "min" | .max => .builtin "max" | .sum => .builtin "sum"
  | .all => .builtin "all" | .any => .builtin "any" | .tuple => .type "tuple" | .list => .type "list" | .sorted => .builtin "sorted"
  | .min2 => .builtin "min" | .max2 => .builtin "max" | _ => .none
/-- those that are called by their values -/
def byVal : Bi → Bool
  | .len | .abs | .int | .min | .max | .sum | .all | .any | .tuple | .list | .sorted | .min2 | .max2 => true
  | _ => false
def rBi (K : PySem.W.Frag) (f : Bi) : List V → Hp → VK → Prop := fun xs H Q => ∃ la hs ds r, Paired (RepS K la H) ds xs ∧ LocOk K la hs H ∧ opBi f ds hs = some r ∧ Res K la hs H r Q
theorem pairs1 {R : D → V → Prop} {d : D} {xs : List V} (h : Paired R [d] xs) : ∃ v, xs = [v] ∧ R d v := by
  cases h with
  | cons r t => cases t; exact ⟨_, rfl, r⟩
theorem pairs2 {R : D → V → Prop} {d e : D} {xs : List V} (h : Paired R [d, e] xs) : ∃ v w, xs = [v, w] ∧ R d v ∧ R e w := by
  cases h with
  | cons r t => cases t with | cons r' t => cases t; exact ⟨_, _, rfl, r, r'⟩
theorem mem_toPyL {p : PyData} : ∀ {xs : List D}, p ∈ toPyL xs → ∃ d, d ∈ xs ∧ p = toPy d
  | [], h => by rw [toPyL] at h; cases h
  | x :: xs, h => by
    rw [toPyL] at h
    rcases List.mem_cons.mp h with rfl | h
    · exact ⟨x, List.mem_cons_self, rfl⟩
    · obtain ⟨d, h1, h2⟩ := mem_toPyL h
      exact ⟨d, List.mem_cons_of_mem _ h1, h2⟩
theorem plL_mem : ∀ {xs : List D} {n : Nat}, plL xs n = true → ∀ d ∈ xs, D.pl d n = true
  | x :: xs, n, h, d, hd => by
    rw [plL, Bool.and_eq_true] at h
    rcases List.mem_cons.mp hd with rfl | hd
    · exact h.1
    · exact plL_mem h.2 d hd
theorem allAlike_mem {xs : List D} (h : allAlike xs = true) : ∀ x ∈ xs, ∀ y ∈ xs, D.alike x y = true := fun x hx y hy =>
  List.all_eq_true.mp (List.all_eq_true.mp h x hx) y hy
theorem toPyL_get : ∀ (xs : List D) (i : Nat), (toPyL xs).getD i .none = toPy (xs.getD i .non)
  | [], i => by rw [toPyL]; simp [toPy]
  | x :: xs, 0 => by rw [toPyL]; rfl
  | x :: xs, i + 1 => by rw [toPyL]; simpa using toPyL_get xs i
theorem noNon_of_alike {x y : D} (h : D.alike x y = true) (n : noNon x = true) : noNon y = true := by
  cases x <;> cases y <;> simp [D.alike, noNon] at h n ⊢
theorem min_fold (f g : D → D → Bool) (pf : PyData → PyData → Bool) : ∀ (m : D) (xs : List D), (∀ a ∈ m :: xs, ∀ b ∈ m :: xs, pf (toPy a) (toPy b) = f a b) →
    (toPyL xs).foldl (fun a y => if pf y a then y else a) (toPy m) = toPy (xs.foldl (fun a y => if f y a then y else a) m)
  | m, [], _ => by rw [toPyL]; rfl
  | m, x :: xs, h => by
    rw [toPyL, List.foldl_cons, List.foldl_cons, h x (by simp) m (by simp)]
    cases f x m with
    | true =>
      rw [if_pos rfl, if_pos rfl]
      exact min_fold f g pf x xs fun a ha b hb => h a (List.mem_cons_of_mem _ ha) b (List.mem_cons_of_mem _ hb)
    | false =>
      rw [if_neg Bool.false_ne_true, if_neg Bool.false_ne_true]
      exact min_fold f g pf m xs fun a ha b hb => h a (by rcases List.mem_cons.mp ha with rfl | ha <;> simp [*]) b (by rcases List.mem_cons.mp hb with rfl | hb <;> simp [*])
theorem leastD_fold : ∀ (m : D) (xs : List D), leastD m xs = xs.foldl (fun a y => if D.lt y a then y else a) m
  | m, [] => rfl
  | m, x :: xs => by
    rw [leastD, List.foldl_cons]
    cases D.lt x m <;> simp [leastD_fold]
theorem mostD_fold : ∀ (m : D) (xs : List D), mostD m xs = xs.foldl (fun a y => if D.lt a y then y else a) m
  | m, [] => rfl
  | m, x :: xs => by
    rw [mostD, List.foldl_cons]
    cases D.lt m x <;> simp [mostD_fold]
/-- the chosen item of a sequence, by its place -/
theorem pick_at {ys : List D} {vs : List V} {its : List Value} {best : D} {i : Nat} {v : Value} {h' : Heap} {bs : List Addr} {d : D} {Q : VK} {tk : Nat}
    (I : L2.Inv X pins σ H s) (lo : LocOk X.K la hs H) (rl : RepL X.K la H ys vs) (rv : Vals vs its) (pl : plL ys 60 = true) (hb : best ∈ ys) (hi : its.toArray[i]? = some v) (rd : Reads h' v (toPy best) bs)
    (hk : ∀ b o, s.heap.get? b = some o → h'.get? b = some o) (h : Res X.K la hs H best Q) : EP X pins σ Q v { s with heap := h', toks := tk } := by
  have hi' : its[i]? = some v := by simpa using hi
  have hlen := rv.length
  have hlen2 := rl.len
  obtain ⟨hi2, _⟩ := List.getElem?_eq_some_iff.mp hi'
  obtain ⟨x, hx⟩ : ∃ x, vs[i]? = some x := ⟨vs[i]'(by omega), by simp [show i < vs.length by omega]⟩
  obtain ⟨u, hu, ru⟩ := rv.get hx
  rw [hi'] at hu; cases hu
  obtain ⟨e, he, re⟩ := rl.get' hx
  have hm := List.mem_of_getElem? he
  obtain ⟨as, rd2⟩ := Dp.reads I _ _ _ (Rep.dp e 60 x (plL_mem pl e hm) re) ru
  have e1 : toPy e = toPy best := SeqAt.plain_unique _ _ v as bs (plain_toPy _) (PyProof.Rows.Reads.keeps hk rd2) rd
  obtain ⟨j, hj⟩ := List.getElem?_of_mem hb
  obtain ⟨w, hw, rw'⟩ := rl.get hj
  have e2 : e = best := toPy_inj e best 60 60 x w re rw' (plL_mem pl e hm) (plL_mem pl best hb) e1
  subst e2
  exact ⟨x, H, I.kept (t' := tk) hk, ru, Res.scal lo re h⟩
theorem least_mem : ∀ (m : D) (xs : List D), leastD m xs ∈ m :: xs
  | m, [] => by simp [leastD]
  | m, x :: xs => by
    rw [leastD]
    cases D.lt x m with
    | true => rw [if_pos rfl]; exact List.mem_cons_of_mem _ (least_mem x xs)
    | false =>
      rw [if_neg Bool.false_ne_true]
      rcases List.mem_cons.mp (least_mem m xs) with h | h <;> simp [h]
theorem most_mem : ∀ (m : D) (xs : List D), mostD m xs ∈ m :: xs
  | m, [] => by simp [mostD]
  | m, x :: xs => by
    rw [mostD]
    cases D.lt m x with
    | true => rw [if_pos rfl]; exact List.mem_cons_of_mem _ (most_mem x xs)
    | false =>
      rw [if_neg Bool.false_ne_true]
      rcases List.mem_cons.mp (most_mem m xs) with h | h <;> simp [h]
theorem alikeAll_of {xs : List D} {y : D} (h : allAlike (y :: xs) = true) (n : noNon y = true) (p : plL (y :: xs) 60 = true) : PySem.W.AlikeAll (toPyL (y :: xs)) := by
  refine ⟨fun a ha b hb => ?_, fun a ha => ?_⟩
  · obtain ⟨x, hx, rfl⟩ := mem_toPyL ha
    obtain ⟨z, hz, rfl⟩ := mem_toPyL hb
    exact alike_toPy x z (allAlike_mem h x hx z hz)
  · obtain ⟨x, hx, rfl⟩ := mem_toPyL ha
    exact noNon_ne (noNon_of_alike (allAlike_mem h y (by simp) x hx) n) (plL_mem p x hx)
/-- reads of a list, of a tuple -/
theorem seq_reads {d : D} {ys : List D} {a : Addr} {vs : List V} (I : L2.Inv X pins σ H s) (rl : RepL X.K la H ys vs) (p : plL ys 60 = true) {its : List Value} (rv : Vals vs its) :
    ∃ as, ReadsAll s.heap its.toArray.toList (toPyL ys) as := by
  have := Dp.readsAll I _ _ _ (RepL.dp ys 60 vs p rl) rv
  simpa using this
theorem Vals.split {vs : List V} {R : V → D → Prop} : ∀ {out : List Value} {ds : List D}, PySem.W.EachIs (fun (u : Value) (d : D) => ∃ v, RelV v u ∧ Rep X.K la H d v) out ds → ∃ vs, Vals vs out ∧ RepL X.K la H ds vs
  | _, _, .nil => ⟨[], .nil, by rw [RepL]⟩
  | _, _, .cons r t => by
    obtain ⟨v, r1, r2⟩ := r
    obtain ⟨vs, q1, q2⟩ := Vals.split (vs := vs) (R := R) t
    exact ⟨v :: vs, .cons r1 q1, by rw [RepL]; exact ⟨v, vs, rfl, r2, q2⟩⟩
theorem each_of : ∀ {vs : List V} {its : List Value} {ds : List D}, Vals vs its → RepL X.K la H ds vs → PySem.W.EachIs (fun (u : Value) (d : D) => ∃ v, RelV v u ∧ Rep X.K la H d v) its ds
  | _, _, [], rv, rl => by
    rw [RepL] at rl; subst rl
    cases rv; exact .nil
  | _, _, d :: ds, rv, rl => by
    rw [RepL] at rl
    obtain ⟨v, ws, rfl, r, rs⟩ := rl
    cases rv with
    | cons q t => exact .cons ⟨v, q, r⟩ (each_of t rs)
theorem sorted_ok (hu : X.A.units + 64 < cLine) {d : D} {ys : List D} {v : V} {u : Value} {Q : VK} (I : L2.Inv X pins σ H s) (lo : LocOk X.K la hs H) (r : RepS X.K la H d v) (hd : d = .lst ys ∨ d = .own ys) (ru : RelV v u)
    (h1 : allAlike ys = true) (h2 : sortable ys = true) (h3 : plL ys 60 = true) (h : Res X.K la hs H (.own (sortD ys)) Q) : wpAny (model X.prog X.w) X.A (call (.builtin "sorted") [u]) (EP X pins σ Q) X.xe s := by
  obtain ⟨a, vs, its, n, rfl, rfl, rl, rv, hz, e⟩ := lst_at I r hd ru
  have hl : s.heap.IsList a its.toArray := ⟨_, e, rfl, n, rfl⟩
  have l1 := rl.len
  have l2 := rv.length
  have E := each_of rv rl
  refine PySem.W.sorted_data (bs := ys) (enc := toPy) hl E ?_ ?_ ?_ (by omega) (fun b hb => ?_) fun out ho hE => ?_
  · have : ∀ {us : List Value} {ds : List D}, plL ds 60 = true → PySem.W.EachIs (fun (u : Value) (d : D) => ∃ v, RelV v u ∧ Rep X.K la H d v) us ds → PySem.W.EachIs (fun v b => ∃ as, Reads s.heap v (toPy b) as) us ds := by
      intro us ds p E
      induction E with
      | nil => exact .nil
      | cons q t ih =>
        rw [plL, Bool.and_eq_true] at p
        obtain ⟨v, q1, q2⟩ := q
        exact .cons (Dp.reads I _ _ _ (Rep.dp _ 60 v p.1 q2) q1) (ih p.2)
    exact this h3 E
  · intro x hx y hy
    obtain ⟨x', hx', rfl⟩ := List.mem_map.mp hx
    obtain ⟨y', hy', rfl⟩ := List.mem_map.mp hy
    exact alike_toPy _ _ (allAlike_mem h1 _ hx' _ hy')
  · unfold sortable at h2
    rw [Bool.or_eq_true] at h2
    rcases h2 with h2 | h2
    · refine .inl fun x hx => ?_
      obtain ⟨x', hx', rfl⟩ := List.mem_map.mp hx
      have := List.all_eq_true.mp h2 x' hx'
      cases x' <;> try (cases this; done)
      rename_i zs
      cases zs with
      | nil => cases this
      | cons z zs => exact ⟨toPy z, toPyL zs, by rw [toPy, toPyL]⟩
    · refine .inr fun x hx => ?_
      obtain ⟨x', hx', rfl⟩ := List.mem_map.mp hx
      have := List.all_eq_true.mp h2 x' hx'
      have p := plL_mem h3 x' hx'
      cases x' <;> first | (cases this; done) | (rw [D.pl] at p; cases p; done) | (rw [toPy]; exact ⟨(fun z => by cases z), fun _ z => by cases z⟩)
  · have := depth_toPy b 60 (plL_mem h3 b hb)
    omega
  · have es : ys.mergeSort (PySem.W.dataLe false toPy) = sortD ys := by
      unfold sortD
      refine PySem.W.sort_congr fun x hx y hy => ?_
      rw [PySem.W.dataLe_eq]
      show (!PySem.W.dataLt (toPy y) (toPy x)) = !D.lt y x
      rw [lt_toPy y x 60 60 (plL_mem h3 y hy) (plL_mem h3 x hx) (allAlike_mem h1 y hy x hx)]
    rw [es] at hE
    obtain ⟨ws, q1, q2⟩ := Vals.split (vs := vs) (R := fun _ _ => True) hE
    obtain ⟨c, ha⟩ := sortedAll_at s.heap its out.toArray
    have hlw := q1.length
    have hf : H (s.heap.objs.size + 1) = none := I.hok.fresh (Nat.le_succ _)
    refine ⟨.ref (s.heap.objs.size + 1), upd H (s.heap.objs.size + 1) (.lst ws), ?_, rfl, Res.own lo q2 h _ hf⟩
    refine I.laid (t' := s.toks) (fun b o hb => sortedAll_old hb) (Nat.le_succ _) ?_
    exact ⟨by omega, out, c, q1, ha⟩
theorem op_Bi (hu : X.A.units + 64 < cLine) (hc : X.calm = true) (f : Bi) (hf : byVal f = true) : CallR X (pyBi f) (rBi X.K f) := by
  intro pins s σ H xs us Q I rxs h
  obtain ⟨la, hs, ds, r, rp, lo, ho, h⟩ := h
  unfold opBi at ho
  split at ho
  · -- len
    obtain ⟨v, rfl, rd⟩ := pairs1 rp
    obtain ⟨u, rfl, ru⟩ := vals1 rxs
    split at ho
    · split at ho
      · rename_i hl
        cases ho
        exact call_len_str pins s σ H _ _ Q I (.cons ru .nil) ⟨_, by rw [rd.str], of_lim hl, Res.scal lo (by rw [Rep]) h⟩
      · cases ho
    · have rd := RepS.rep rd rfl
      rw [Rep] at rd; exact rd.elim
    · exact rd.elim
    · rename_i n
      have rd := RepS.rep rd rfl
      rw [Rep] at rd
      obtain ⟨a, e1, rfl⟩ := rd
      cases e2 : hs[n]? with
      | none => rw [e2] at ho; cases ho
      | some ds =>
        rw [e2] at ho; cases ho
        obtain ⟨b, vs, e3, e4, rl⟩ := lo.at_ n ds e2
        rw [e1] at e3; cases e3
        simp only [rl.len] at h
        exact call_len_seq pins s σ H [.ref a] [u] Q I (.cons ru .nil) ⟨a, vs, rfl, .inl (.of e4), Res.scal lo (by rw [Rep]) h⟩
    · rename_i x _ _ _ _ _
      cases e2 : x.seq? with
      | none => rw [e2] at ho; cases ho
      | some ys =>
        rw [e2] at ho; cases ho
        obtain ⟨a, vs, rfl, rl, w⟩ := rd.seq e2
        simp only [rl.len] at h
        exact call_len_seq pins s σ H [.ref a] [u] Q I (.cons ru .nil) ⟨a, vs, rfl, w.elim (fun q => .inr q.1) (fun q => .inl q.1), Res.scal lo (by rw [Rep]) h⟩
  · obtain ⟨v, rfl, rd⟩ := pairs1 rp
    cases ho
    exact call_abs pins s σ H _ us Q I rxs ⟨_, by rw [rd.int], Res.scal lo (by rw [Rep]) h⟩
  · obtain ⟨v, rfl, rd⟩ := pairs1 rp
    cases ho
    exact call_int1 pins s σ H _ us Q I rxs (.inl ⟨_, by rw [rd.int], Res.scal lo (by rw [Rep]) h⟩)
  · obtain ⟨v, rfl, rd⟩ := pairs1 rp
    cases ho
    exact call_int1 pins s σ H _ us Q I rxs (.inr ⟨_, by rw [rd.bl], Res.scal lo (by rw [Rep]) h⟩)
  · -- min
    obtain ⟨v, rfl, rd⟩ := pairs1 rp
    obtain ⟨u, rfl, ru⟩ := vals1 rxs
    split at ho
    · rename_i y ys e2
      split at ho
      · rename_i hp
        cases ho
        simp only [Bool.and_eq_true] at hp
        obtain ⟨⟨h1, h2⟩, h3⟩ := hp
        obtain ⟨a, vs, rfl, rl, w⟩ := rd.seq e2
        cases ru
        have al := alikeAll_of h1 h2 h3
        have dp := depth_toPyL (y :: ys) 60 h3
        have hu2 : X.A.units + 1 + PyData.depthAll (toPyL (y :: ys)) < cLine := by omega
        have ef : PySem.W.minD (toPy y) (toPyL ys) = toPy (leastD y ys) := by
          rw [leastD_fold]
          exact min_fold D.lt D.lt PySem.W.dataLt y ys fun a ha b hb => lt_toPy a b 60 60 (plL_mem h3 a ha) (plL_mem h3 b hb) (allAlike_mem h1 a ha b hb)
        rcases w with ⟨q, _⟩ | ⟨q, _⟩
        · obtain ⟨its, rv, ht, _⟩ := I.tuple q
          obtain ⟨as, rd2⟩ := seq_reads (d := y) (a := a) I rl h3 rv
          rw [toPyL] at rd2 al hu2
          refine PySem.W.min_tuple_data (I.ok.hd hc) ht rd2 al hu2 fun i v h' tk bs hi hr hk => ?_
          rw [ef] at hr
          exact pick_at I lo rl rv h3 (least_mem y ys) hi hr hk h (d := y)
        · obtain ⟨its, rv, ht, _⟩ := I.list q
          obtain ⟨as, rd2⟩ := seq_reads (d := y) (a := a) I rl h3 rv
          rw [toPyL] at rd2 al hu2
          refine PySem.W.min_list_data (I.ok.hd hc) ht.isList rd2 al hu2 fun i v h' tk bs hi hr hk => ?_
          rw [ef] at hr
          exact pick_at I lo rl rv h3 (least_mem y ys) hi hr hk h (d := y)
      · cases ho
    · cases ho
  · -- max
    obtain ⟨v, rfl, rd⟩ := pairs1 rp
    obtain ⟨u, rfl, ru⟩ := vals1 rxs
    split at ho
    · rename_i y ys e2
      split at ho
      · rename_i hp
        cases ho
        simp only [Bool.and_eq_true] at hp
        obtain ⟨⟨h1, h2⟩, h3⟩ := hp
        obtain ⟨a, vs, rfl, rl, w⟩ := rd.seq e2
        cases ru
        have al := alikeAll_of h1 h2 h3
        have dp := depth_toPyL (y :: ys) 60 h3
        have hu2 : X.A.units + 1 + PyData.depthAll (toPyL (y :: ys)) < cLine := by omega
        have ef : PySem.W.maxD (toPy y) (toPyL ys) = toPy (mostD y ys) := by
          rw [mostD_fold]
          exact min_fold (fun a b => D.lt b a) D.lt (fun a b => PySem.W.dataLt b a) y ys fun a ha b hb => lt_toPy b a 60 60 (plL_mem h3 b hb) (plL_mem h3 a ha) (allAlike_mem h1 b hb a ha)
        rcases w with ⟨q, _⟩ | ⟨q, _⟩
        · obtain ⟨its, rv, ht, _⟩ := I.tuple q
          obtain ⟨as, rd2⟩ := seq_reads (d := y) (a := a) I rl h3 rv
          rw [toPyL] at rd2 al hu2
          refine PySem.W.max_tuple_data (I.ok.hd hc) ht rd2 al hu2 fun i v h' tk bs hi hr hk => ?_
          rw [ef] at hr
          exact pick_at I lo rl rv h3 (most_mem y ys) hi hr hk h (d := y)
        · obtain ⟨its, rv, ht, _⟩ := I.list q
          obtain ⟨as, rd2⟩ := seq_reads (d := y) (a := a) I rl h3 rv
          rw [toPyL] at rd2 al hu2
          refine PySem.W.max_list_data (I.ok.hd hc) ht.isList rd2 al hu2 fun i v h' tk bs hi hr hk => ?_
          rw [ef] at hr
          exact pick_at I lo rl rv h3 (most_mem y ys) hi hr hk h (d := y)
      · cases ho
    · cases ho
  · obtain ⟨v, w, rfl, r1, r2⟩ := pairs2 rp
    cases ho
    exact call_min2 hc pins s σ H _ us Q I rxs ⟨_, _, by rw [r1.int, r2.int], Res.scal lo (by rw [Rep]) h⟩
  · obtain ⟨v, w, rfl, r1, r2⟩ := pairs2 rp
    cases ho
    exact call_max2 hc pins s σ H _ us Q I rxs ⟨_, _, by rw [r1.int, r2.int], Res.scal lo (by rw [Rep]) h⟩
  · -- sum
    obtain ⟨v, rfl, rd⟩ := pairs1 rp
    have go : ∀ {ys : List D}, rd = rd → (∃ a vs, v = .ref a ∧ SqL X.K H a vs ∧ RepL X.K la H ys vs) → (D.ints? ys).map (fun ns => D.int ns.sum) = some r → wpAny (model X.prog X.w) X.A (call (.builtin "sum") us) (EP X pins σ Q) X.xe s := fun {ys} _ hq ho => by
      obtain ⟨a, vs, rfl, q, rl⟩ := hq
      cases e2 : D.ints? ys with
      | none => rw [e2] at ho; cases ho
      | some ns =>
        rw [e2] at ho; cases ho
        have := rl.ints_of e2
        subst this
        exact cr_sum hc pins s σ H _ us Q I rxs ⟨a, ns, rfl, q, Res.scal lo (by rw [Rep]) h⟩
    split at ho
    · obtain ⟨a, vs, e, rl, w⟩ := rd.seq rfl
      rcases w with ⟨_, z⟩ | ⟨q, _⟩
      · cases z
      · exact go rfl ⟨a, vs, e, q, rl⟩ ho
    · obtain ⟨a, vs, e, rl, w⟩ := rd.seq rfl
      rcases w with ⟨_, z⟩ | ⟨q, _⟩
      · cases z
      · exact go rfl ⟨a, vs, e, q, rl⟩ ho
    · cases ho
  · obtain ⟨v, rfl, rd⟩ := pairs1 rp
    have go : ∀ {ys : List D}, rd = rd → (∃ a vs, v = .ref a ∧ SqL X.K H a vs ∧ RepL X.K la H ys vs) → (D.bools? ys).map (fun bs => D.bl (bs.all id)) = some r → wpAny (model X.prog X.w) X.A (call (.builtin "all") us) (EP X pins σ Q) X.xe s := fun {ys} _ hq ho => by
      obtain ⟨a, vs, rfl, q, rl⟩ := hq
      cases e2 : D.bools? ys with
      | none => rw [e2] at ho; cases ho
      | some ns =>
        rw [e2] at ho; cases ho
        have := rl.bools_of e2
        subst this
        exact cr_all hc pins s σ H _ us Q I rxs ⟨a, ns, rfl, q, Res.scal lo (by rw [Rep]) h⟩
    split at ho
    · obtain ⟨a, vs, e, rl, w⟩ := rd.seq rfl
      rcases w with ⟨_, z⟩ | ⟨q, _⟩
      · cases z
      · exact go rfl ⟨a, vs, e, q, rl⟩ ho
    · obtain ⟨a, vs, e, rl, w⟩ := rd.seq rfl
      rcases w with ⟨_, z⟩ | ⟨q, _⟩
      · cases z
      · exact go rfl ⟨a, vs, e, q, rl⟩ ho
    · cases ho
  · obtain ⟨v, rfl, rd⟩ := pairs1 rp
    have go : ∀ {ys : List D}, rd = rd → (∃ a vs, v = .ref a ∧ SqL X.K H a vs ∧ RepL X.K la H ys vs) → (D.bools? ys).map (fun bs => D.bl (bs.any id)) = some r → wpAny (model X.prog X.w) X.A (call (.builtin "any") us) (EP X pins σ Q) X.xe s := fun {ys} _ hq ho => by
      obtain ⟨a, vs, rfl, q, rl⟩ := hq
      cases e2 : D.bools? ys with
      | none => rw [e2] at ho; cases ho
      | some ns =>
        rw [e2] at ho; cases ho
        have := rl.bools_of e2
        subst this
        exact cr_any hc pins s σ H _ us Q I rxs ⟨a, ns, rfl, q, Res.scal lo (by rw [Rep]) h⟩
    split at ho
    · obtain ⟨a, vs, e, rl, w⟩ := rd.seq rfl
      rcases w with ⟨_, z⟩ | ⟨q, _⟩
      · cases z
      · exact go rfl ⟨a, vs, e, q, rl⟩ ho
    · obtain ⟨a, vs, e, rl, w⟩ := rd.seq rfl
      rcases w with ⟨_, z⟩ | ⟨q, _⟩
      · cases z
      · exact go rfl ⟨a, vs, e, q, rl⟩ ho
    · cases ho
  · -- tuple
    obtain ⟨v, rfl, rd⟩ := pairs1 rp
    rename_i x
    cases e2 : x.seq? with
    | none => rw [e2] at ho; cases ho
    | some ys =>
      rw [e2] at ho; cases ho
      obtain ⟨a, vs, rfl, rl, w⟩ := rd.seq e2
      rcases w with ⟨q, _⟩ | ⟨q, _⟩
      · exact call_tuple_of pins s σ H _ us Q I rxs ⟨a, vs, rfl, .inr ⟨q, Res.scal lo (by rw [Rep]; exact ⟨a, vs, rfl, q, rl⟩) h⟩⟩
      · exact call_tuple_of pins s σ H _ us Q I rxs ⟨a, vs, rfl, .inl ⟨q, Res.tup lo rl h⟩⟩
  · obtain ⟨v, rfl, rd⟩ := pairs1 rp
    rename_i x
    cases e2 : x.seq? with
    | none => rw [e2] at ho; cases ho
    | some ys =>
      rw [e2] at ho; cases ho
      obtain ⟨a, vs, rfl, rl, w⟩ := rd.seq e2
      exact call_list_of pins s σ H _ us Q I rxs ⟨a, vs, rfl, w.elim (fun q => .inr q.1) (fun q => .inl q.1), Res.own lo rl h⟩
  · -- sorted
    obtain ⟨v, rfl, rd⟩ := pairs1 rp
    obtain ⟨u, rfl, ru⟩ := vals1 rxs
    split at ho
    · split at ho
      · rename_i hp
        simp only [Bool.and_eq_true] at hp
        cases ho
        exact sorted_ok hu I lo rd (.inl rfl) ru hp.1.1 hp.1.2 hp.2 h
      · cases ho
    · split at ho
      · rename_i hp
        simp only [Bool.and_eq_true] at hp
        cases ho
        exact sorted_ok hu I lo rd (.inr rfl) ru hp.1.1 hp.1.2 hp.2 h
      · cases ho
    · cases ho
  all_goals first | (cases ho; done) | (cases hf; done)
end
end Z
/-! Z6: what an expression's evaluation says of the code -/
namespace Z
open PySem PySem.Spec PyProof.Rows L2
/-- the program's names, its classes' addresses -/
structure GI where
  fns : List Str
  cs : List Str
  ca : Nat → Option Addr
def ExR (G : GI) (x : D) (c : Value) (dd : Option Addr) (H : Hp) : Prop := ∃ n C, x = .ex n [] ∧ G.ca n = some C ∧ c = .ref C ∧ dd = none
def RepB (K : PySem.W.Frag) (b : Bool) (la : List Addr) (H0 H : Hp) (d : D) (v : V) : Prop := RepS K la H d v ∧ (b = false → ∀ a, d.isOwn = true → v = .ref a → H0 a = none)
/-- what is wanted behind a result -/
def Then (K : PySem.W.Frag) (G : GI) (W : L2.WX) (σ : L2.St) (la : List Addr) (H : Hp) (b : Bool) (r : R) (Q : VK) : Prop := match r with
  | .ok d hs => ∀ v la' H', Step la H la' H' → LocOk K la' hs H' → RepB K b la' H H' d v → Q v H'
  | .exc x hs => ∀ c dd la' H', Step la H la' H' → LocOk K la' hs H' → ExR G x c dd H' → W c dd σ H'
  | .err => False
section
variable {K : PySem.W.Frag} {G : GI} {W : L2.WX} {σ : L2.St} {la la1 la2 : List Addr} {H H1 H2 : Hp} {hs hs1 : Hs} {b b0 : Bool} {r : R} {f : D → Hs → R} {Q Q' : VK}
theorem RepB.t {d : D} {v : V} (h : RepB K false la H H1 d v) : RepT K la H H1 d v := ⟨h.1, h.2 rfl⟩
theorem RepB.of {d : D} {v : V} (h : RepT K la H H1 d v) : RepB K b la H H1 d v := ⟨h.1, fun _ => h.2⟩
theorem RepB.base {d : D} {v : V} (s : Step la H la1 H1) (h : RepB K b la2 H1 H2 d v) (s2 : Step la1 H1 la2 H2) : RepB K b la2 H H2 d v :=
  ⟨h.1, fun e => (RepT.base s (⟨h.1, h.2 e⟩ : RepT K la2 H1 H2 d v) s2).2⟩
theorem Then.rebase (s : Step la H la1 H1) (h : Then K G W σ la H b r Q) : Then K G W σ la1 H1 b r Q := by
  cases r with
  | ok d hs => exact fun v la' H' s2 lo rb => h v la' H' (s.trans s2) lo (rb.base s s2)
  | exc x hs => exact fun c dd la' H' s2 lo rb => h c dd la' H' (s.trans s2) lo rb
  | err => exact h
theorem Then.bind (h : Then K G W σ la H b (r.bind f) Q)
    (k : ∀ d hs' v la' H', Step la H la' H' → LocOk K la' hs' H' → RepB K b0 la' H H' d v → Then K G W σ la' H' b (f d hs') Q → Q' v H') : Then K G W σ la H b0 r Q' := by
  cases r with
  | ok d hs => exact fun v la' H' s lo rb => k d hs v la' H' s lo rb (Then.rebase s h)
  | exc x hs => exact h
  | err => exact h
/-- a pure result -/
theorem Then.res {d : D} (h : Then K G W σ la H b (.ok d hs) Q) : Res K la hs H d Q := fun v la' H' s lo rt => h v la' H' s lo (.of rt)
theorem Then.ofO {o : Option D} (h : Then K G W σ la H b (R.ofO hs o) Q) : ∃ d, o = some d ∧ Res K la hs H d Q := by
  cases o with
  | none => exact h.elim
  | some d => exact ⟨d, rfl, h.res⟩
theorem Then.bool {o : Option Bool} (h : Then K G W σ la H b (bool1 hs o) Q) (lo : LocOk K la hs H) : ∃ k, o = some k ∧ Q (.bl k) H := by
  cases o with
  | none => exact h.elim
  | some d => exact ⟨d, rfl, h.res.scal lo (by rw [Rep])⟩
theorem Then.mono (h : Then K G W σ la H b r Q) (hQ : ∀ v H', Q v H' → Q' v H') : Then K G W σ la H b r Q' := by
  cases r with
  | ok d hs => exact fun v la' H' s lo rb => hQ _ _ (h v la' H' s lo rb)
  | exc x hs => exact h
  | err => exact h
end
/-! ### what the written code has to be -/
def isBE : E → Bool
  | .b _ => true
  | _ => false
def visB (sc : Scope) (x : Str) : Bool := match sc.names.lookup x with
  | some .local => true
  | some .cell => true
  | some .free => true
  | _ => false
def glB (sc : Scope) (x : Str) : Bool := match sc.names.lookup x with
  | some .globalImplicit => true
  | _ => false
def nameOk (x : Str) : Bool := !(x == ("__debug__" : Str)) && !(x == ("__classdict__" : Str)) && decide (x ≠ "__name__")
def biName : Bi → Str
  | .len => "len" | .abs => "abs" | .int => "int" | .min => "min" | .max => "max" | .sum => "sum" | .all => "all" | .any => "any" | .tuple => "tuple" | .list => "list"
  | .sorted => "sorted" | .range => "range" | .zip => "zip" | .enum => "enumerate" | .isinst _ => "isinstance" | .min2 => "min" | .max2 => "max"
def biArgs : Bi → Nat → Bool
  | .min2, n => n == 2
  | .max2, n => n == 2
  | _, n => n == 1
def opB? : Bop → Operator → Bool
  | .add, .Add | .sub, .Sub | .mul, .Mult | .fdiv, .FloorDiv | .mod, .Mod | .pow, .Pow | .shl, .LShift => true
  | _, _ => false
def opC? : Cop → CmpOp → Bool
  | .eq, .Eq | .ne, .NotEq | .lt, .Lt | .le, .LtE | .gt, .Gt | .ge, .GtE | .is, .Is | .isn, .IsNot | .mem, .In | .nmem, .NotIn => true
  | _, _ => false
def noStar : PySem.Expr → Bool
  | .Starred _ _ => false
  | _ => true
def noSet : PySem.Expr → Bool
  | .Set _ _ _ => false
  | _ => true
def noSlice : PySem.Expr → Bool
  | .Slice _ _ _ _ => false
  | _ => true
def constOk : D → Const → Bool
  | .non, .none => true
  | .bl b, .bool c => b == c
  | .int i, .int j => i == j
  | .str x, .str y => decide (x = y)
  | _, _ => false
/-- the ones whose test is their value's truth -/
def plainT : E → Bool
  | .and _ _ | .or _ _ | .not _ | .ite _ _ _ | .cmp _ _ _ | .chain _ _ _ _ _ | .nil | .cons _ _ => false
  | _ => true
/-- whether the expression e is the m; t: as a test -/
def tySlot : Ty → Str
  | .int => "int" | .bool => "bool" | .str => "str" | .tup => "tuple" | .lst => "list" | .dct => "dict"
def isTyName (sc : Scope) (t : Ty) : PySem.Expr → Bool
  | .Name x _ => decide (x = tySlot t) && glB sc x
  | _ => false
def isTyNames (sc : Scope) : List Ty → List PySem.Expr → Bool
  | [], [] => true
  | t :: ts, e :: es => isTyName sc t e && noStar e && isTyNames sc ts es
  | _, _ => false
def isTys (sc : Scope) (ts : List Ty) : PySem.Expr → Bool
  | .Name x p => (match ts with | [ty] => isTyName sc ty (.Name x p) | _ => false)
  | .Tuple es _ _ => isTyNames sc ts es && decide (es.length ≤ 1000)
  | _ => false
/-! ### targets -/
def slots : E → List Nat
  | .v i => [i]
  | .tup l => slots l
  | .cons a r => slots a ++ slots r
  | _ => []
/-- the target e is the m -/
def chkG (N : List Str) (fo : Str → Bool) : E → (Scope → PySem.Expr → Bool) × (Scope → List PySem.Expr → Bool)
  | .v i => (fun sc e => match e with
    | .Name x _ => decide (N[i]? = some x) && (match sc.names.lookup x with | some .local => true | some .cell => fo x | _ => false)
    | _ => false, fun _ _ => false)
  | .tup l => (fun sc e => match e with
    | .Tuple es _ _ => (chkG N fo l).2 sc es
    | _ => false, fun _ _ => false)
  | .nil => (fun _ _ => false, fun _ es => es.isEmpty)
  | .cons a r => (fun _ _ => false, fun sc es => match es with
    | e :: es => noStar e && (chkG N fo a).1 sc e && (chkG N fo r).2 sc es
    | [] => false)
  | _ => (fun _ _ => false, fun _ _ => false)
def isTupE : PySem.Expr → Bool
  | .Tuple _ _ _ => true
  | _ => false
structure Chk where
  val : Scope → PySem.Expr → Bool
  tst : Scope → PySem.Expr → Bool
  lst : Scope → List PySem.Expr → Bool
def noBs : E → Bool
  | .cons a r => !isBE a && noBs r
  | _ => true
def lenE : E → Nat
  | .cons _ r => lenE r + 1
  | _ => 0
def isNilE : E → Bool
  | .nil => true
  | _ => false
def isTrueE : E → Bool
  | .c (.bl true) => true
  | _ => false
def Chk.one (f : Scope → PySem.Expr → Bool) : Chk := ⟨f, f, fun _ _ => false⟩
def Chk.many (f : Scope → List PySem.Expr → Bool) : Chk := ⟨fun _ _ => false, fun _ _ => false, f⟩
/-- an and, an or -/
def isAO : E → Bool
  | .and _ _ => true
  | .or _ _ => true
  | _ => false
/-- what is walked: range(..), or a value -/
structure ItC where
  kind : Nat
  val : Scope → PySem.Expr → Bool
  lst : Scope → List PySem.Expr → Bool
def itRng (lst : Scope → List PySem.Expr → Bool) (sc : Scope) : PySem.Expr → Bool
  | .Call (.Name x _) es [] _ => decide (x = "range") && glB sc x && (es.length == 1 || es.length == 2) && lst sc es
  | _ => false
def itZip (lst : Scope → List PySem.Expr → Bool) (sc : Scope) : PySem.Expr → Bool
  | .Call (.Name x _) [a, b] [] _ => decide (x = "zip") && glB sc x && lst sc [a, b]
  | _ => false
def itEnum (lst : Scope → List PySem.Expr → Bool) (sc : Scope) : PySem.Expr → Bool
  | .Call (.Name x _) [a] [] _ => decide (x = "enumerate") && glB sc x && lst sc [a]
  | _ => false
def itOk (it : ItC) (sc : Scope) (t e : PySem.Expr) : Bool := match it.kind with
  | 0 => it.val sc e && noSet e
  | 1 => itRng it.lst sc e
  | 2 => isTupE t && itZip it.lst sc e
  | 3 => isTupE t && itEnum it.lst sc e
  | _ => false
/-- a comprehension -/
def lcOk (N : List Str) (tg : E) (it : ItC) (cdT : Bool) (cd el : Chk) (bel : Bool) (sc : Scope) : PySem.Expr → Bool
  | .ListComp elt [⟨t, i, ifs, 0⟩] scope _ => !bel && blkC N sc scope ((slots tg).map fun i => (N.getD i "", i)) && (chkG N (fun x => scope.names.lookup x == some .cell) tg).1 (relS scope sc) t && itOk it sc t i &&
    (match ifs with | [] => cdT | [c] => cd.tst (relS scope sc) c | _ => false) && el.val (relS scope sc) elt
  | _ => false
/-- the expression e is the m, as a value; the expressions es are the list m -/
def chk (N : List Str) (G : GI) : E → Chk
  | .nil => .many fun _ es => es.isEmpty
  | .cons a r => .many fun sc es => match es with
    | e :: es => noStar e && (chk N G a).val sc e && (chk N G r).lst sc es
    | [] => false
  | .c d => Chk.one fun _ e => match e with
    | .Constant c _ _ => constOk d c
    | _ => false
  | .v i => Chk.one fun sc e => match e with
    | .Name x _ => decide (N[i]? = some x) && visB sc x && nameOk x
    | _ => false
  | .b i => Chk.one fun sc e => match e with
    | .Name x _ => decide (N[i]? = some x) && visB sc x && nameOk x
    | _ => false
  | .g n => Chk.one fun sc e => match e with
    | .Name x _ => decide (G.cs[n]? = some x) && glB sc x && nameOk x
    | _ => false
  | .bin o a b => Chk.one fun sc e => match e with
    | .BinOp l p r _ => opB? o p && (chk N G a).val sc l && (chk N G b).val sc r
    | _ => false
  | .neg a => Chk.one fun sc e => match e with
    | .UnaryOp .USub x _ => (chk N G a).val sc x
    | _ => false
  | .cmp o a b => Chk.one fun sc e => match e with
    | .Compare l [p] [r] _ => opC? o p && noSet r && (chk N G a).val sc l && (chk N G b).val sc r
    | _ => false
  | .chain o q a b c => Chk.one fun sc e => match e with
    | .Compare l [p, p'] [r, r'] _ => opC? o p && opC? q p' && noSet r && noSet r' && (chk N G a).val sc l && (chk N G b).val sc r && (chk N G c).val sc r'
    | _ => false
  | .and a b => ⟨fun sc e => match e with
    | .BoolOp .And [x, y] _ => !isBE a && !isBE b && (chk N G a).val sc x && (chk N G b).val sc y
    | .BoolOp .And (x :: y :: z :: r) p => !isBE a && !isBE b && (chk N G a).val sc x && (chk N G b).val sc (.BoolOp .And (y :: z :: r) p)
    | _ => false, fun sc e => match e with
    | .BoolOp .And [x, y] _ => (chk N G a).tst sc x && (chk N G b).tst sc y
    | .BoolOp .And (x :: y :: z :: r) p => isAO b && (chk N G a).tst sc x && (chk N G b).tst sc (.BoolOp .And (y :: z :: r) p)
    | _ => false, fun _ _ => false⟩
  | .or a b => ⟨fun sc e => match e with
    | .BoolOp .Or [x, y] _ => !isBE a && !isBE b && (chk N G a).val sc x && (chk N G b).val sc y
    | .BoolOp .Or (x :: y :: z :: r) p => !isBE a && !isBE b && (chk N G a).val sc x && (chk N G b).val sc (.BoolOp .Or (y :: z :: r) p)
    | _ => false, fun sc e => match e with
    | .BoolOp .Or [x, y] _ => (chk N G a).tst sc x && (chk N G b).tst sc y
    | .BoolOp .Or (x :: y :: z :: r) p => isAO b && (chk N G a).tst sc x && (chk N G b).tst sc (.BoolOp .Or (y :: z :: r) p)
    | _ => false, fun _ _ => false⟩
  | .not a => ⟨fun sc e => match e with
    | .UnaryOp .Not x _ => (chk N G a).val sc x
    | _ => false, fun sc e => match e with
    | .UnaryOp .Not x _ => (chk N G a).tst sc x
    | _ => false, fun _ _ => false⟩
  | .ite c a b => ⟨fun sc e => match e with
    | .IfExp t x y _ => !isBE a && !isBE b && (chk N G c).tst sc t && (chk N G a).val sc x && (chk N G b).val sc y
    | _ => false, fun _ _ => false, fun _ _ => false⟩
  | .tup l => Chk.one fun sc e => match e with
    | .Tuple es _ _ => (chk N G l).lst sc es && noBs l && decide (lenE l ≤ 1000)
    | _ => false
  | .lst l => Chk.one fun sc e => match e with
    | .List es _ => (chk N G l).lst sc es && noBs l && decide (lenE l ≤ 1000)
    | _ => false
  | .dsp _ _ => .many fun _ _ => false
  | .idx a i => Chk.one fun sc e => match e with
    | .Subscript x y _ => noSlice y && (chk N G a).val sc x && (chk N G i).val sc y
    | _ => false
  | .slc a lo hi => Chk.one fun sc e => match e with
    | .Subscript x (.Slice l h none _) _ => (match l with | none => isNilE lo | some l => !isNilE lo && (chk N G lo).val sc l) && (match h with | none => isNilE hi | some h => !isNilE hi && (chk N G hi).val sc h) && (chk N G a).val sc x
    | _ => false
  | .rev a => Chk.one fun sc e => match e with
    | .Subscript x (.Slice none none (some (.UnaryOp .USub (.Constant (.int 1) _ _) _)) _) _ => (chk N G a).val sc x
    | _ => false
  | .bi (.isinst ts) (.cons m .nil) => Chk.one fun sc e => match e with
    | .Call (.Name x _) [a, t] [] _ => decide (x = "isinstance") && glB sc x && noStar a && noStar t && (chk N G m).val sc a && isTys sc ts t
    | _ => false
  | .bi f l => Chk.one fun sc e => match e with
    | .Call (.Name x _) (a :: es) [] _ => byVal f && decide (x = biName f) && glB sc x && biArgs f (es.length + 1) && (chk N G l).lst sc (a :: es)
    | _ => false
  | .me _ _ _ => .many fun _ _ => false
  | .call f l => Chk.one fun sc e => match e with
    | .Call (.Name x _) (a :: es) [] _ => decide (G.fns[f]? = some x) && glB sc x && nameOk x && (chk N G l).lst sc (a :: es) && noBs l
    | _ => false
  | .lc tg it cd el => Chk.one (lcOk N tg (match it with
    | .bi .range l => ⟨1, fun _ _ => false, (chk N G l).lst⟩
    | .bi .zip l => ⟨if noBs l then 2 else 9, fun _ _ => false, (chk N G l).lst⟩
    | .bi .enum l => ⟨if noBs l then 3 else 9, fun _ _ => false, (chk N G l).lst⟩
    | it => ⟨0, (chk N G it).val, fun _ _ => false⟩) (isTrueE cd) (chk N G cd) (chk N G el) (isBE el))
  | .dc _ _ _ _ _ => .many fun _ _ => false
end Z
/-! Z7: locks, the context's facts, small steps -/
namespace Z
open PySem PySem.Spec PyProof.Rows L2
/-! ### several lists are locked -/
def LockOf (as : List Addr) (H H2 : Hp) : Prop := (∀ b, b ∉ as → H2 b = H b) ∧ ∀ a ∈ as, ∃ o vs, H a = some (.lst vs) ∧ H2 a = some (.frz o (.lst vs))
section
variable {X : Cx} {pins : List (Addr × Obj)} {σ : L2.St} {H : Hp} {s : Shared}
theorem inv_locks : ∀ (as : List Addr) (H : Hp), L2.Inv X pins σ H s → (∀ a ∈ as, ∃ vs, H a = some (.lst vs)) → ∃ H2, L2.Inv X pins σ H2 s ∧ LockOf as H H2
  | [], H, I, _ => ⟨H, I, fun _ _ => rfl, fun _ h => by cases h⟩
  | a :: as, H, I, h => by
    obtain ⟨H1, I1, l1, l2⟩ := inv_locks as H I fun b hb => h b (List.mem_cons_of_mem _ hb)
    by_cases ha : a ∈ as
    · refine ⟨H1, I1, fun b hb => l1 b fun z => hb (List.mem_cons_of_mem _ z), fun b hb => ?_⟩
      rcases List.mem_cons.mp hb with rfl | hb
      · exact l2 _ ha
      · exact l2 b hb
    · obtain ⟨vs, e⟩ := h a List.mem_cons_self
      have e1 : H1 a = some (.lst vs) := (l1 a ha).trans e
      obtain ⟨o, I2⟩ := inv_lock I1 e1
      refine ⟨_, I2, fun b hb => ?_, fun b hb => ?_⟩
      · rw [upd_ne (show b ≠ a from fun z => hb (z ▸ List.mem_cons_self))]
        exact l1 b fun z => hb (List.mem_cons_of_mem _ z)
      · by_cases hba : b = a
        · subst hba
          exact ⟨o, vs, e, upd_same⟩
        · rw [upd_ne hba]
          exact l2 b ((List.mem_cons.mp hb).resolve_left hba)
theorem PA.lock {es : List PySem.Expr} {t : TA} (h : PA X es t) : PA X es fun σ H Q => t σ H fun vs H1 => ∃ as, (∀ a ∈ as, ∃ xs, H1 a = some (.lst xs)) ∧ ∀ H2, LockOf as H1 H2 → Q vs H2 := by
  refine ⟨fun pos pins s σ H Q I hq => ?_⟩
  refine thn (h.run pos pins s σ H _ I hq) fun us s1 ⟨vs, H1, I1, r1, as, q1, q2⟩ => ?_
  obtain ⟨H2, I2, l⟩ := inv_locks as H1 I1 q1
  exact ⟨vs, H2, I2, r1, q2 H2 l⟩
theorem PE.lock {e : PySem.Expr} {t : TE} (h : PE X e t) : PE X e fun σ H Q => t σ H fun v H1 => ∃ as, (∀ a ∈ as, ∃ xs, H1 a = some (.lst xs)) ∧ ∀ H2, LockOf as H1 H2 → Q v H2 := by
  refine ⟨fun pins s σ H Q I hq => ?_⟩
  refine thn (h.run pins s σ H _ I hq) fun us s1 ⟨vs, H1, I1, r1, as, q1, q2⟩ => ?_
  obtain ⟨H2, I2, l⟩ := inv_locks as H1 I1 q1
  exact ⟨vs, H2, I2, r1, q2 H2 l⟩
theorem PE.mono {e : PySem.Expr} {t t' : TE} (h : PE X e t) (i : ∀ σ H Q, t' σ H Q → t σ H Q) : PE X e t' := ⟨fun pins s σ H Q I hq => h.run pins s σ H Q I (i σ H Q hq)⟩
theorem PT.mono {e : PySem.Expr} {t t' : TT} (h : PT X e t) (i : ∀ σ H Q, t' σ H Q → t σ H Q) : PT X e t' := ⟨fun pins s σ H Q I hq => h.run pins s σ H Q I (i σ H Q hq)⟩
theorem PA.mono {e : List PySem.Expr} {t t' : TA} (h : PA X e t) (i : ∀ σ H Q, t' σ H Q → t σ H Q) : PA X e t' := ⟨fun pos pins s σ H Q I hq => h.run pos pins s σ H Q I (i σ H Q hq)⟩
theorem PS.mono {e : PySem.Stmt} {t t' : TS} (h : PS X e t) (i : ∀ D σ H, t' D σ H → t D σ H) : PS X e t' := ⟨fun pins s σ H D I hq => h.run pins s σ H D I (i D σ H hq)⟩
theorem PSs.mono {e : List PySem.Stmt} {t t' : TS} (h : PSs X e t) (i : ∀ D σ H, t' D σ H → t D σ H) : PSs X e t' := ⟨fun pins s σ H D I hq => h.run pins s σ H D I (i D σ H hq)⟩
end
/-! ### owned values, locked -/
def ownA : D → V → List Addr
  | .own _, .ref a => [a]
  | _, _ => []
def ownsA : List D → List V → List Addr
  | d :: ds, v :: vs => ownA d v ++ ownsA ds vs
  | _, _ => []
section
variable {K : PySem.W.Frag} {G : GI} {W : L2.WX} {σ : L2.St} {la la1 la2 : List Addr} {H H1 H2 : Hp} {hs hs1 : Hs} {b b0 : Bool}
/-- the relation of a locked heap to the start -/
theorem Step.lock {as : List Addr} (s : Step la H la1 H1) (n : ∀ a ∈ as, H a = none) (l : LockOf as H1 H2) : Step la H la1 H2 :=
  ⟨fun b o hb e => by
    rw [l.1 b fun z => by rw [n b z] at e; cases e]
    exact s.ext b o hb e, s.pre, s.new⟩
theorem Kp.lock {as : List Addr} (l : LockOf as H1 H2) : Kp H1 H2 := fun b => by
  by_cases hb : b ∈ as
  · obtain ⟨o, vs, e, _⟩ := l.2 b hb
    refine ⟨fun xs z => ?_, fun o u z => ?_⟩ <;> (rw [e] at z; cases z)
  · rw [l.1 b hb]
    exact ⟨fun _ z => z, fun _ _ z => z⟩
theorem LocOk.lock {as : List Addr} (lo : LocOk K la hs H1) (n : ∀ a ∈ as, a ∉ la) (l : LockOf as H1 H2) : LocOk K la hs H2 :=
  lo.kp (.lock l) fun a m => l.1 a fun z => n a z m
theorem ownA_spec {d : D} {v : V} (r : RepS K la H1 d v) : ∀ a ∈ ownA d v, (∃ xs, H1 a = some (.lst xs)) ∧ a ∉ la ∧ d.isOwn = true ∧ v = .ref a := fun a ha => by
  cases d <;> try (cases ha; done)
  obtain ⟨b, rfl, vs, e, _, n⟩ := r
  have : a = b := by simpa [ownA] using ha
  subst this
  exact ⟨⟨vs, e⟩, n, rfl, rfl⟩
theorem frz_lock {as : List Addr} {d : D} {v : V} (r : RepS K la H1 d v) (l : LockOf as H1 H2) (h : ∀ a ∈ ownA d v, a ∈ as) : Rep K la H2 d.frz v := by
  cases d
  case own xs =>
    obtain ⟨a, rfl, vs, e, rl, n⟩ := r
    obtain ⟨o, ws, e1, e2⟩ := l.2 a (h a (by simp [ownA]))
    rw [e] at e1; cases e1
    show Rep K la H2 (.lst xs) _
    rw [Rep]
    exact ⟨a, vs, o, rfl, e2, RepL.kp (.lock l) (List.prefix_refl _) _ _ rl⟩
  case odc => exact r.elim
  all_goals exact Rep.kp (.lock l) (List.prefix_refl _) _ _ (RepS.rep r rfl)
/-- values of a list of expressions; nb: none is an owned name -/
def RepsB (K : PySem.W.Frag) (nb : Bool) (la : List Addr) (H H1 : Hp) (ds : List D) (vs : List V) : Prop :=
  Paired (fun d v => RepS K la H1 d v ∧ (nb = true → ∀ a, d.isOwn = true → v = V.ref a → H a = none)) ds vs
theorem owns_spec {nb : Bool} : ∀ {ds : List D} {vs : List V}, RepsB K nb la H H1 ds vs → ∀ a ∈ ownsA ds vs, (∃ xs, H1 a = some (.lst xs)) ∧ a ∉ la ∧ (nb = true → H a = none)
  | _, _, .nil, a, h => by cases h
  | _, _, .cons r t, a, h => by
    rcases List.mem_append.mp h with h | h
    · obtain ⟨q1, q2, q3, q4⟩ := ownA_spec r.1 a h
      exact ⟨q1, q2, fun e => r.2 e a q3 q4⟩
    · exact owns_spec t a h
theorem frzs_lock {nb : Bool} {as : List Addr} (l : LockOf as H1 H2) : ∀ {ds : List D} {vs : List V}, RepsB K nb la H H1 ds vs → (∀ a ∈ ownsA ds vs, a ∈ as) → RepL K la H2 (ds.map D.frz) vs
  | _, _, .nil, _ => by simp; rw [RepL]
  | _, _, .cons r t, h => by
    rw [List.map_cons, RepL]
    exact ⟨_, _, rfl, frz_lock r.1 l fun a ha => h a (List.mem_append_left _ ha), frzs_lock l t fun a ha => h a (List.mem_append_right _ ha)⟩
theorem RepsB.step {nb : Bool} {ds : List D} {vs : List V} (lo : LocOk K la1 hs1 H1) (s : Step la1 H1 la2 H2) (h : RepsB K nb la1 H H1 ds vs) : RepsB K nb la2 H H2 ds vs := by
  induction h with
  | nil => exact .nil
  | cons r t ih => exact .cons ⟨r.1.step lo s, r.2⟩ ih
/-- what is wanted behind a list of results -/
def ThenL (K : PySem.W.Frag) (G : GI) (W : L2.WX) (σ : L2.St) (la : List Addr) (H : Hp) (nb : Bool) (r : R) (Q : List V → Hp → Prop) : Prop := match r with
  | .ok d hs => ∀ vs la' H', Step la H la' H' → LocOk K la' hs H' → RepsB K nb la' H H' d.items vs → Q vs H'
  | .exc x hs => ∀ c dd la' H', Step la H la' H' → LocOk K la' hs H' → ExR G x c dd H' → W c dd σ H'
  | .err => False
/-- the results, locked -/
theorem ThenL.locked {r : R} {f : D → Hs → R} {Q : VK} {Q' : List V → Hp → Prop} (h : Then K G W σ la H b (r.bind f) Q)
    (k : ∀ d hs' vs la' H2, Step la H la' H2 → LocOk K la' hs' H2 → RepL K la' H2 (d.items.map D.frz) vs → r = .ok d hs' → Then K G W σ la' H2 b (f d hs') Q → Q' vs H2) :
    ThenL K G W σ la H true r fun vs H1 => ∃ as, (∀ a ∈ as, ∃ xs, H1 a = some (.lst xs)) ∧ ∀ H2, LockOf as H1 H2 → Q' vs H2 := by
  cases r with
  | ok d hs =>
    refine fun vs la' H' s lo rb => ⟨ownsA d.items vs, fun a ha => (owns_spec rb a ha).1, fun H2 l => ?_⟩
    have s2 := s.lock (fun a ha => (owns_spec rb a ha).2.2 rfl) l
    exact k d hs vs la' H2 s2 (lo.lock (fun a ha => (owns_spec rb a ha).2.1) l) (frzs_lock l rb fun a ha => ha) rfl (Then.rebase s2 h)
  | exc x hs => exact h
  | err => exact h
theorem ThenL.bind {r : R} {f : D → Hs → R} {nb : Bool} {Q : VK} {Q' : List V → Hp → Prop} (h : Then K G W σ la H b (r.bind f) Q)
    (k : ∀ d hs' vs la' H', Step la H la' H' → LocOk K la' hs' H' → RepsB K nb la' H H' d.items vs → Then K G W σ la' H' b (f d hs') Q → Q' vs H') : ThenL K G W σ la H nb r Q' := by
  cases r with
  | ok d hs => exact fun vs la' H' s lo rb => k d hs vs la' H' s lo rb (Then.rebase s h)
  | exc x hs => exact h
  | err => exact h
/-- a result, locked -/
theorem Then.locked {r : R} {f : D → Hs → R} {Q Q' : VK} (h : Then K G W σ la H b (r.bind f) Q)
    (k : ∀ d hs' v la' H2, r = .ok d hs' → Step la H la' H2 → LocOk K la' hs' H2 → Rep K la' H2 d.frz v → Then K G W σ la' H2 b (f d hs') Q → Q' v H2) :
    Then K G W σ la H false r fun v H1 => ∃ as, (∀ a ∈ as, ∃ xs, H1 a = some (.lst xs)) ∧ ∀ H2, LockOf as H1 H2 → Q' v H2 := by
  cases r with
  | ok d hs =>
    refine fun v la' H' s lo rb => ⟨ownA d v, fun a ha => (ownA_spec rb.1 a ha).1, fun H2 l => ?_⟩
    have s2 := s.lock (fun a ha => let ⟨_, _, q3, q4⟩ := ownA_spec rb.1 a ha; rb.2 rfl a q3 q4) l
    exact k d hs v la' H2 rfl s2 (lo.lock (fun a ha => (ownA_spec rb.1 a ha).2.1) l) (frz_lock rb.1 l fun a ha => ha) (Then.rebase s2 h)
  | exc x hs => exact h
  | err => exact h
/-- the wishes of a statement behind a result -/
def ThenS (K : PySem.W.Frag) (G : GI) (W : L2.WX) (σ : L2.St) (la : List Addr) (H : Hp) (r : R) (P : D → Hs → V → List Addr → Hp → Prop) : Prop := match r with
  | .ok d hs => ∀ v la' H', Step la H la' H' → LocOk K la' hs H' → RepT K la' H H' d v → P d hs v la' H'
  | .exc x hs => ∀ c dd la' H', Step la H la' H' → LocOk K la' hs H' → ExR G x c dd H' → W c dd σ H'
  | .err => False
theorem Rep.noOwn {d : D} {v : V} (h : Rep K la H d v) : d.isOwn = false := by
  cases d <;> first | rfl | (rw [Rep] at h; exact h.elim)
end
/-! ### the context -/
/-- a call's promise by its evaluation -/
def spOf (K : PySem.W.Frag) (G : GI) (cal : Nat → List D → Hs → R) (f : Nat) : Sp := fun vs H Q E => ∃ la hs ds, RepL K la H ds vs ∧ LocOk K la hs H ∧ Then K G (fun c dd _ H' => E c dd H') [] la H false (cal f ds hs) Q
structure Good (T : Tbl) (cal : Nat → List D → Hs → R) (G : GI) (k : Nat) (X : Cx) (W : L2.WX) : Prop where
  calm : X.calm = true
  nd : X.N.Nodup
  room : Room k X.A
  tk : Takes X W
  fn : ∀ (f : Nat) (x : Str), G.fns[f]? = some x → ∃ a fd ps, X.mg x = some (.ref a) ∧ PySem.W.keepIn X.K (.ref a) = true ∧ Binds X.K fd ps [] ∧ FnOk X.prog X.w X.K X.mg X.base (L2.CX X.prog X.w) k a fd ps (spOf X.K G cal f)
  cst : ∀ (n : Nat) (x : Str) (d : D), G.cs[n]? = some x → T.gcs[n]? = some d → ∃ u v, X.mg x = some u ∧ RelV v u ∧ ∀ la H, Rep X.K la H d v
  blt : ∀ x ∈ (["len", "abs", "int", "min", "max", "sum", "all", "any", "tuple", "list", "sorted", "range", "zip", "enumerate", "isinstance", "bool", "str", "dict"] : List Str), X.mg x = none
theorem Good.units {T cal G k X W} (g : Good T cal G k X W) : X.A.units + 64 < cLine := g.room.units
theorem Good.blk {T cal G k X W} (g : Good T cal G k X W) (s : Shared) (H : Hp) (scope : Scope) (cenv : Env) (fp : List Addr) : Good T cal G k (X.blk s H scope cenv fp) fun _ _ _ _ => False :=
  ⟨g.calm, g.nd, g.room, takes0, g.fn, g.cst, g.blt⟩
section
variable (T : Tbl) (cal : Nat → List D → Hs → R) (G : GI) (K : PySem.W.Frag) (W : L2.WX)
def RdE (m : E) : TE := fun σ H Q => ∃ la hs env, EnvOk K la H env σ ∧ LocOk K la hs H ∧ Then K G W σ la H (isBE m) (ev T cal m false env hs) Q
def RdT (m : E) : TT := fun σ H Q => ∃ la hs env, EnvOk K la H env σ ∧ LocOk K la hs H ∧ Then K G W σ la H false (ev T cal m true env hs) fun v H' => ∃ k, v = .bl k ∧ Q k H'
def RdA (m : E) : TA := fun σ H Q => ∃ la hs env, EnvOk K la H env σ ∧ LocOk K la hs H ∧ ThenL K G W σ la H (noBs m) (ev T cal m false env hs) Q
end
/-! ### small steps -/
section
variable {K : PySem.W.Frag} {la : List Addr} {H : Hp}
theorem RepL.empty : ∀ {xs : List D} {vs : List V}, RepL K la H xs vs → (!vs.isEmpty) = !xs.isEmpty
  | [], _, h => by rw [RepL] at h; subst h; rfl
  | x :: xs, vs, h => by
    rw [RepL] at h
    obtain ⟨v, ws, rfl, _⟩ := h
    rfl
theorem truth_ok {d : D} {v : V} {k : Bool} (r : RepS K la H d v) (h : truth d = some k) : TruV K v H k := by
  cases d
  case own xs =>
    obtain ⟨a, rfl, vs, e, rl, _⟩ := r
    cases h
    refine .inl ⟨vs, .of e, rl.empty.symm⟩
  case odc => exact r.elim
  all_goals (have r := RepS.rep r rfl; rw [Rep] at r)
  case non => subst r; cases h; rfl
  case bl => subst r; cases h; rfl
  case int => subst r; cases h; rfl
  case str x =>
    subst r
    rw [truth] at h
    split at h
    · rename_i hl
      cases h
      exact ⟨of_lim hl, rfl⟩
    · cases h
  case tup xs =>
    obtain ⟨a, vs, rfl, q, rl⟩ := r
    cases h
    refine .inr (.inl ⟨vs, q, rl.empty.symm⟩)
  case lst xs =>
    obtain ⟨a, vs, o, rfl, q, rl⟩ := r
    cases h
    refine .inl ⟨vs, .inl (.inr ⟨o, q⟩), rl.empty.symm⟩
  case dct => exact r.elim
  case loc => cases h
  case ex => exact r.elim
theorem at?_eq (xs : List D) (i : Int) : at? xs i = atI xs i := by
  unfold at? atI ixN
  by_cases h0 : 0 ≤ i
  · rw [if_pos h0, if_pos h0]
    by_cases h1 : i < xs.length
    · rw [if_pos h1]; rfl
    · rw [if_neg h1, List.getElem?_eq_none (by omega)]; rfl
  · rw [if_neg h0, if_neg h0]
    by_cases h1 : -(xs.length : Int) ≤ i
    · rw [if_pos (by omega), if_pos h1, Int.add_comm]; rfl
    · rw [if_neg (by omega), if_neg h1]; rfl
theorem at_rep {xs : List D} {vs : List V} {i : Int} {d : D} (rl : RepL K la H xs vs) (h : at? xs i = some d) : ∃ v, atI vs i = some v ∧ Rep K la H d v := by
  rw [at?_eq] at h
  unfold atI at h ⊢
  rw [← rl.len]
  cases e : ixN xs.length i with
  | none => rw [e] at h; cases h
  | some j =>
    rw [e] at h
    exact rl.get (show xs[j]? = some d from h)
theorem sIx_eq (n d : Nat) (o : Option Int) : sIx n d o = HT.sIx n d o := by
  cases o with
  | none => rfl
  | some i => unfold sIx HT.sIx; simp only [Int.add_comm]
theorem cut_rep {xs : List D} {vs : List V} (lo hi : Option Int) (rl : RepL K la H xs vs) : RepL K la H (cut xs lo hi) (cutV vs lo hi) := by
  unfold cut cutV
  simp only [sIx_eq, rl.len]
  exact (rl.drop _).take _
theorem isNilE_of {m : E} (h : isNilE m = true) : m = .nil := by cases m <;> first | rfl | (cases h)
theorem prt_some {m : E} {r : R} {h : Hs} (n : isNilE m = false) : prt m r h = r.bind fun d h => match d with | .int i => .ok (.int i) h | _ => .err := by cases m <;> first | rfl | (cases n)
theorem isTrueE_of {m : E} (h : isTrueE m = true) : m = .c (.bl true) := by
  cases m <;> try (cases h; done)
  rename_i d
  cases d <;> try (cases h; done)
  rename_i b
  cases b <;> first | rfl | (cases h)
end
theorem vis_of {sc : Scope} {x : Str} (h : visB sc x = true) : Vis sc x := by
  unfold visB at h
  unfold Vis
  split at h <;> simp_all
theorem gl_of {X : Cx} {x : Str} (h : glB X.env.scope x = true) : Gl X x := by
  unfold glB at h
  show X.env.scope.names.lookup x = _
  split at h <;> simp_all
theorem nameOk_of {x : Str} (h : nameOk x = true) : (x == ("__debug__" : Str)) = false ∧ (x == ("__classdict__" : Str)) = false ∧ x ≠ "__name__" := by
  unfold nameOk at h
  simp only [Bool.and_eq_true, Bool.not_eq_true', decide_eq_true_eq] at h
  exact ⟨h.1.1, h.1.2, h.2⟩
theorem star_cons {e : PySem.Expr} {es : List PySem.Expr} {env : Env} (h : noStar e = true) : starEach (e :: es) env = (false, eval e env) :: starEach es env := by
  cases e <;> first | rfl | (cases h)
theorem chk_bi {N : List Str} {G : GI} {f : Bi} {l : E} {sc : Scope} {es : List PySem.Expr} (h : (chk N G (.bi f l)).lst sc es = true) : False := by
  cases f <;> try (cases h; done)
  cases l <;> try (cases h; done)
  rename_i a r
  cases r <;> cases h
theorem chk_lc {N : List Str} {G : GI} {tg it cd el : E} {sc : Scope} {es : List PySem.Expr} (h : (chk N G (.lc tg it cd el)).lst sc es = true) : False := by
  unfold chk at h
  exact Bool.noConfusion h
theorem ev_lst {T : Tbl} {cal : Nat → List D → Hs → R} : ∀ (m : E) (env : En) (hs : Hs) (d : D) (hs' : Hs), (∃ N G sc es, (chk N G m).lst sc es = true) → ev T cal m false env hs = .ok d hs' → ∃ ds, d = .tup ds ∧ ds.length = lenE m := by
  intro m
  induction m with
  | nil => intro env hs d hs' _ h; cases h; exact ⟨[], rfl, rfl⟩
  | cons a r ih1 ih2 =>
    intro env hs d hs' hc h
    obtain ⟨N, G, sc, es, hc⟩ := hc
    cases es with
    | nil => cases hc
    | cons e es =>
      have hc' : (noStar e && (chk N G a).val sc e && (chk N G r).lst sc es) = true := hc
      rw [Bool.and_eq_true] at hc'
      rw [ev] at h
      cases e1 : ev T cal a false env hs with
      | ok x h1 =>
        rw [e1] at h
        simp only [R.bind] at h
        cases e2 : ev T cal r false env h1 with
        | ok l h2 =>
          rw [e2] at h
          simp only [R.bind] at h
          obtain ⟨ds, rfl, hl⟩ := ih2 env h1 l h2 ⟨N, G, sc, es, hc'.2⟩ e2
          cases h
          exact ⟨x :: ds, rfl, by rw [List.length_cons, hl, lenE]⟩
        | exc x h2 => rw [e2] at h; cases h
        | err => rw [e2] at h; cases h
      | exc x h1 => rw [e1] at h; cases h
      | err => rw [e1] at h; cases h
  | bi f l _ =>
    intro env hs d hs' hc h
    obtain ⟨N, G, sc, es, hc⟩ := hc
    exact (chk_bi hc).elim
  | lc tg it cd el _ _ _ _ =>
    intro env hs d hs' hc h
    obtain ⟨N, G, sc, es, hc⟩ := hc
    exact (chk_lc hc).elim
  | _ => intro env hs d hs' hc h; obtain ⟨N, G, sc, es, hc⟩ := hc; cases hc
end Z
/-! Z8: each kind of expression -/
namespace Z
open PySem PySem.Spec PyProof.Rows L2
section
variable {T : Tbl} {cal : Nat → List D → Hs → R} {G : GI} {k : Nat} {X : Cx} {W : L2.WX} {a b c l : E} {x y z : PySem.Expr} {es : List PySem.Expr} {pos : Pos}
theorem isB_lt {m : E} (h : isBE m = false) {K σ la H r Q} : Then K G W σ la H (isBE m) r Q ↔ Then K G W σ la H false r Q := by rw [h]
theorem s_c {d : D} {q : Const} {j : Nat} (h : constOk d q = true) : PE X (.Constant q j pos) (RdE T cal G X.K W (.c d)) := by
  cases d <;> try (cases q <;> cases h; done)
  · cases q <;> try (cases h; done)
    exact PE.mono pe_non fun σ H Q ⟨la, hs, env, eo, lo, t⟩ => t.res.scal lo (by rw [Rep])
  · cases q <;> try (cases h; done)
    rename_i p q
    have : p = q := by simpa [constOk] using h
    subst this
    exact PE.mono pe_bl fun σ H Q ⟨la, hs, env, eo, lo, t⟩ => t.res.scal lo (by rw [Rep])
  · cases q <;> try (cases h; done)
    rename_i p q
    have : p = q := by simpa [constOk] using h
    subst this
    exact PE.mono pe_int fun σ H Q ⟨la, hs, env, eo, lo, t⟩ => t.res.scal lo (by rw [Rep])
  · cases q <;> try (cases h; done)
    rename_i p q
    have : p = q := by simpa [constOk] using h
    subst this
    exact PE.mono pe_str fun σ H Q ⟨la, hs, env, eo, lo, t⟩ => t.res.scal lo (by rw [Rep])
theorem s_v {i : Nat} {n : Str} (h1 : X.N[i]? = some n) (h2 : visB X.env.scope n = true) (h3 : nameOk n = true) : PE X (.Name n pos) (RdE T cal G X.K W (.v i)) := by
  obtain ⟨d1, d2, _⟩ := nameOk_of h3
  refine PE.mono (pe_var h1 (vis_of h2) d1 d2) fun σ H Q ⟨la, hs, env, eo, lo, t⟩ => ?_
  rw [ev] at t
  split at t
  · rename_i d e
    obtain ⟨v, e1, r⟩ := eo.slot i d e
    refine ⟨v, e1, ?_⟩
    split at t
    · exact t.elim
    · rename_i ho
      exact t.res.scal lo (r.rep (by simpa using ho))
  · exact t.elim
theorem s_b {i : Nat} {n : Str} (h1 : X.N[i]? = some n) (h2 : visB X.env.scope n = true) (h3 : nameOk n = true) : PE X (.Name n pos) (RdE T cal G X.K W (.b i)) := by
  obtain ⟨d1, d2, _⟩ := nameOk_of h3
  refine PE.mono (pe_var h1 (vis_of h2) d1 d2) fun σ H Q ⟨la, hs, env, eo, lo, t⟩ => ?_
  rw [ev] at t
  split at t
  · rename_i d e
    obtain ⟨v, e1, r⟩ := eo.slot i d e
    exact ⟨v, e1, t v la H .refl lo ⟨r, fun z => by cases z⟩⟩
  · exact t.elim
theorem s_g {i : Nat} {n : Str} (g : Good T cal G k X W) (h1 : G.cs[i]? = some n) (h2 : glB X.env.scope n = true) (h3 : nameOk n = true) : PE X (.Name n pos) (RdE T cal G X.K W (.g i)) := by
  obtain ⟨d1, d2, _⟩ := nameOk_of h3
  by_cases hd : ∃ d, T.gcs[i]? = some d
  · obtain ⟨d, hd⟩ := hd
    obtain ⟨u, v, e1, r1, r2⟩ := g.cst i n d h1 hd
    refine PE.mono (pe_glob (gl_of h2) e1 r1 d1) fun σ H Q ⟨la, hs, env, eo, lo, t⟩ => ?_
    rw [ev, hd] at t
    exact t.res.scal lo (r2 la H)
  · refine ⟨fun pins s σ H Q I ⟨la, hs, env, eo, lo, t⟩ => ?_⟩
    rw [ev] at t
    split at t
    · rename_i d e
      exact (hd ⟨d, e⟩).elim
    · exact t.elim
theorem opB?_eq {o : Bop} {p : Operator} (h : opB? o p = true) : p = pyB o := by cases o <;> cases p <;> first | rfl | (cases h)
theorem opC?_eq {o : Cop} {p : CmpOp} (h : opC? o p = true) : p = pyC o := by cases o <;> cases p <;> first | rfl | (cases h)
theorem s_bin {o : Bop} {p : Operator} (ho : opB? o p = true) (ha : PE X x (RdE T cal G X.K W a)) (hb : PE X y (RdE T cal G X.K W b)) : PE X (.BinOp x p y pos) (RdE T cal G X.K W (.bin o a b)) := by
  rw [opB?_eq ho]
  refine PE.mono (pe_op (op_B o) ha hb) fun σ H Q ⟨la, hs, env, eo, lo, t⟩ => ?_
  refine ⟨la, hs, env, eo, lo, Then.bind t fun d hs1 v la1 H1 s1 lo1 r1 t1 => ⟨la1, hs1, env, eo.step lo s1, lo1, Then.bind t1 fun d2 hs2 w la2 H2 s2 lo2 r2 t2 => ?_⟩⟩
  cases e : opB o d d2 with
  | none => rw [e] at t2; exact t2.elim
  | some r =>
    rw [e] at t2
    exact ⟨la2, hs2, d, d2, r, r1.1.step lo1 s2, r2.1, lo2, e, Then.res t2⟩
theorem s_neg (ha : PE X x (RdE T cal G X.K W a)) : PE X (.UnaryOp .USub x pos) (RdE T cal G X.K W (.neg a)) := by
  refine PE.mono (pe_un un_neg ha) fun σ H Q ⟨la, hs, env, eo, lo, t⟩ => ⟨la, hs, env, eo, lo, Then.bind t fun d hs1 v la1 H1 s1 lo1 r1 t1 => ?_⟩
  cases d <;> try (exact t1.elim)
  exact ⟨_, r1.1.int, Then.res t1 |>.scal lo1 (by rw [Rep])⟩
theorem nomark' {p : CmpOp} (h : noSet y = true) : behindInMarks p y = false := by
  cases y <;> first | rfl | (cases h)
theorem cmp_go {o : Cop} {σ H Q} {t : Bool} (h : ∃ la hs env, EnvOk X.K la H env σ ∧ LocOk X.K la hs H ∧ Then X.K G W σ la H false (ev T cal (.cmp o a b) t env hs) Q) :
    tOp (rC X.K o) (RdE T cal G X.K W a) (RdE T cal G X.K W b) σ H Q := by
  obtain ⟨la, hs, env, eo, lo, t⟩ := h
  refine ⟨la, hs, env, eo, lo, Then.bind t fun d hs1 v la1 H1 s1 lo1 r1 t1 => ⟨la1, hs1, env, eo.step lo s1, lo1, Then.bind t1 fun d2 hs2 w la2 H2 s2 lo2 r2 t2 => ?_⟩⟩
  obtain ⟨k, e, q⟩ := Then.bool t2 lo2
  exact ⟨la2, hs2, d, d2, k, r1.1.step lo1 s2, r2.1, lo2, e, q⟩
theorem s_cmp {o : Cop} {p : CmpOp} (g : Good T cal G k X W) (ho : opC? o p = true) (hs : noSet y = true) (ha : PE X x (RdE T cal G X.K W a)) (hb : PE X y (RdE T cal G X.K W b)) : PE X (.Compare x [p] [y] pos) (RdE T cal G X.K W (.cmp o a b)) := by
  rw [opC?_eq ho]
  exact PE.mono (pe_cmpR (op_C g.units o) ha hb (nomark' hs)) fun σ H Q h => cmp_go h
theorem t_cmp {o : Cop} {p : CmpOp} (g : Good T cal G k X W) (ho : opC? o p = true) (hs : noSet y = true) (ha : PE X x (RdE T cal G X.K W a)) (hb : PE X y (RdE T cal G X.K W b)) : PT X (.Compare x [p] [y] pos) (RdT T cal G X.K W (.cmp o a b)) := by
  rw [opC?_eq ho]
  exact PT.mono (pt_cmpR (op_C g.units o) ha hb (nomark' hs)) fun σ H Q h => cmp_go h
theorem chain_go {o q : Cop} {σ H Q} {t : Bool} (h : ∃ la hs env, EnvOk X.K la H env σ ∧ LocOk X.K la hs H ∧ Then X.K G W σ la H false (ev T cal (.chain o q a b c) t env hs) Q) :
    tChain (rC X.K o) (rC X.K q) (RdE T cal G X.K W a) (RdE T cal G X.K W b) (RdE T cal G X.K W c) σ H Q := by
  obtain ⟨la, hs, env, eo, lo, t⟩ := h
  refine ⟨la, hs, env, eo, lo, Then.bind t fun d hs1 v la1 H1 s1 lo1 r1 t1 => ⟨la1, hs1, env, eo.step lo s1, lo1, Then.bind t1 fun d2 hs2 w la2 H2 s2 lo2 r2 t2 => ?_⟩⟩
  have eo2 := (eo.step lo s1).step lo1 s2
  cases e : opC o d d2 with
  | none => rw [e] at t2; exact t2.elim
  | some k =>
    rw [e] at t2
    refine ⟨la2, hs2, d, d2, k, r1.1.step lo1 s2, r2.1, lo2, e, k, rfl, ?_⟩
    cases k with
    | false => exact Then.res t2 |>.scal lo2 (by rw [Rep])
    | true =>
      rw [if_pos rfl]
      refine ⟨la2, hs2, env, eo2, lo2, Then.bind t2 fun d3 hs3 w3 la3 H3 s3 lo3 r3 t3 => ?_⟩
      obtain ⟨k3, e3, q3⟩ := Then.bool t3 lo3
      exact ⟨la3, hs3, d2, d3, k3, r2.1.step lo2 s3, r3.1, lo3, e3, q3⟩
theorem lastM {p p' : CmpOp} (h1 : noSet y = true) (h2 : noSet z = true) : lastMarks [p, p'] [y, z] = false := by
  show behindInMarks p' z = false
  exact nomark' h2
theorem s_chain {o q : Cop} {p p' : CmpOp} (g : Good T cal G k X W) (ho : opC? o p = true) (ho' : opC? q p' = true) (h1 : noSet y = true) (h2 : noSet z = true) (ha : PE X x (RdE T cal G X.K W a)) (hb : PE X y (RdE T cal G X.K W b)) (hc : PE X z (RdE T cal G X.K W c)) :
    PE X (.Compare x [p, p'] [y, z] pos) (RdE T cal G X.K W (.chain o q a b c)) := by
  rw [opC?_eq ho, opC?_eq ho']
  exact PE.mono (pe_chain (op_C g.units o) (op_C g.units q) ha hb hc (lastM h1 h2)) fun σ H Q h => chain_go h
theorem t_chain {o q : Cop} {p p' : CmpOp} (g : Good T cal G k X W) (ho : opC? o p = true) (ho' : opC? q p' = true) (h1 : noSet y = true) (h2 : noSet z = true) (ha : PE X x (RdE T cal G X.K W a)) (hb : PE X y (RdE T cal G X.K W b)) (hc : PE X z (RdE T cal G X.K W c)) :
    PT X (.Compare x [p, p'] [y, z] pos) (RdT T cal G X.K W (.chain o q a b c)) := by
  rw [opC?_eq ho, opC?_eq ho']
  exact PT.mono (pt_chain (op_C g.units o) (op_C g.units q) ha hb hc (lastM h1 h2)) fun σ H Q h => chain_go h
/-- and, or: the value -/
theorem s_and {w : PySem.Expr} {r : List PySem.Expr} (h1 : isBE a = false) (h2 : isBE b = false) (ha : PE X x (RdE T cal G X.K W a)) (hb : PE X (.BoolOp .And (w :: r) pos) (RdE T cal G X.K W b)) : PE X (.BoolOp .And (x :: w :: r) pos) (RdE T cal G X.K W (.and a b)) := by
  refine PE.mono (pe_and ha hb) fun σ H Q ⟨la, hs, env, eo, lo, t⟩ => ⟨la, hs, env, eo, lo, Then.bind t fun d hs1 v la1 H1 s1 lo1 r1 t1 => ?_⟩
  cases d <;> try (exact t1.elim)
  rename_i k
  refine ⟨k, r1.1.bl, ?_⟩
  cases k with
  | true => rw [if_pos rfl]; exact ⟨la1, hs1, env, eo.step lo s1, lo1, by rw [h2]; exact t1⟩
  | false => exact Then.res t1 |>.scal lo1 (by rw [Rep])
theorem s_or {w : PySem.Expr} {r : List PySem.Expr} (h1 : isBE a = false) (h2 : isBE b = false) (ha : PE X x (RdE T cal G X.K W a)) (hb : PE X (.BoolOp .Or (w :: r) pos) (RdE T cal G X.K W b)) : PE X (.BoolOp .Or (x :: w :: r) pos) (RdE T cal G X.K W (.or a b)) := by
  refine PE.mono (pe_or ha hb) fun σ H Q ⟨la, hs, env, eo, lo, t⟩ => ⟨la, hs, env, eo, lo, Then.bind t fun d hs1 v la1 H1 s1 lo1 r1 t1 => ?_⟩
  cases d <;> try (exact t1.elim)
  rename_i k
  refine ⟨k, r1.1.bl, ?_⟩
  cases k with
  | false => rw [if_neg Bool.false_ne_true]; exact ⟨la1, hs1, env, eo.step lo s1, lo1, by rw [h2]; exact t1⟩
  | true => rw [if_pos rfl]; exact Then.res t1 |>.scal lo1 (by rw [Rep])
/-- and, or: the test -/
theorem t_and1 (hb : PT X y (RdT T cal G X.K W b)) : PW X (.BoolOp .And [y] pos) (RdT T cal G X.K W b) := pw_and1 hb
theorem and_go {tb : TT} {σ H Q} (hb : ∀ σ H Q, RdT T cal G X.K W b σ H Q → tb σ H Q) (h : RdT T cal G X.K W (.and a b) σ H Q) : tAnd (RdT T cal G X.K W a) tb σ H Q := by
  obtain ⟨la, hs, env, eo, lo, t⟩ := h
  refine ⟨la, hs, env, eo, lo, Then.bind t fun d hs1 v la1 H1 s1 lo1 r1 t1 => ?_⟩
  cases d <;> try (exact t1.elim)
  rename_i k
  refine ⟨k, r1.1.bl, ?_⟩
  cases k with
  | true => rw [if_pos rfl]; exact hb _ _ _ ⟨la1, hs1, env, eo.step lo s1, lo1, t1⟩
  | false =>
    rw [if_neg Bool.false_ne_true]
    obtain ⟨k, e, q⟩ := Then.res t1 |>.scal lo1 (by rw [Rep])
    cases e; exact q
theorem or_go {tb : TT} {σ H Q} (hb : ∀ σ H Q, RdT T cal G X.K W b σ H Q → tb σ H Q) (h : RdT T cal G X.K W (.or a b) σ H Q) : tOr (RdT T cal G X.K W a) tb σ H Q := by
  obtain ⟨la, hs, env, eo, lo, t⟩ := h
  refine ⟨la, hs, env, eo, lo, Then.bind t fun d hs1 v la1 H1 s1 lo1 r1 t1 => ?_⟩
  cases d <;> try (exact t1.elim)
  rename_i k
  refine ⟨k, r1.1.bl, ?_⟩
  cases k with
  | false => rw [if_neg Bool.false_ne_true]; exact hb _ _ _ ⟨la1, hs1, env, eo.step lo s1, lo1, t1⟩
  | true =>
    rw [if_pos rfl]
    obtain ⟨k, e, q⟩ := Then.res t1 |>.scal lo1 (by rw [Rep])
    cases e; exact q
theorem PW.mono {e : PySem.Expr} {t t' : TT} (h : PW X e t) (i : ∀ σ H Q, t' σ H Q → t σ H Q) : PW X e t' := ⟨fun wh pins s σ H Q I hq => h.run wh pins s σ H Q I (i σ H Q hq)⟩
theorem t_and {w : PySem.Expr} {r : List PySem.Expr} (ha : PT X x (RdT T cal G X.K W a)) (hb : PW X (.BoolOp .And (w :: r) pos) (RdT T cal G X.K W b)) : PW X (.BoolOp .And (x :: w :: r) pos) (RdT T cal G X.K W (.and a b)) :=
  PW.mono (pw_and ha hb) fun _ _ _ h => and_go (fun _ _ _ h => h) h
theorem t_or {w : PySem.Expr} {r : List PySem.Expr} (ha : PT X x (RdT T cal G X.K W a)) (hb : PW X (.BoolOp .Or (w :: r) pos) (RdT T cal G X.K W b)) : PW X (.BoolOp .Or (x :: w :: r) pos) (RdT T cal G X.K W (.or a b)) :=
  PW.mono (pw_or ha hb) fun _ _ _ h => or_go (fun _ _ _ h => h) h
theorem s_not (ha : PE X x (RdE T cal G X.K W a)) : PE X (.UnaryOp .Not x pos) (RdE T cal G X.K W (.not a)) := by
  refine PE.mono (pe_notT ha) fun σ H Q ⟨la, hs, env, eo, lo, t⟩ => ⟨la, hs, env, eo, lo, Then.bind t fun d hs1 v la1 H1 s1 lo1 r1 t1 => ?_⟩
  rw [if_neg Bool.false_ne_true] at t1
  cases e : truth d with
  | none => rw [e] at t1; exact t1.elim
  | some k =>
    rw [e] at t1
    exact ⟨k, truth_ok r1.1 e, Then.res t1 |>.scal lo1 (by rw [Rep])⟩
theorem t_not (ha : PT X x (RdT T cal G X.K W a)) : PT X (.UnaryOp .Not x pos) (RdT T cal G X.K W (.not a)) := by
  refine PT.mono (pt_not ha) fun σ H Q ⟨la, hs, env, eo, lo, t⟩ => ⟨la, hs, env, eo, lo, Then.bind t fun d hs1 v la1 H1 s1 lo1 r1 t1 => ?_⟩
  rw [if_pos rfl] at t1
  cases d <;> try (exact t1.elim)
  obtain ⟨k, e, q⟩ := Then.res t1 |>.scal lo1 (by rw [Rep])
  cases e
  exact ⟨_, r1.1.bl, q⟩
end
end Z
/-! Z9: displays, subscripts, calls -/
namespace Z
open PySem PySem.Spec PyProof.Rows L2
section
variable {T : Tbl} {cal : Nat → List D → Hs → R} {G : GI} {k : Nat} {X : Cx} {W : L2.WX} {a b c l : E} {x y z : PySem.Expr} {es : List PySem.Expr} {pos : Pos}
theorem s_ite (h1 : isBE a = false) (h2 : isBE b = false) (hc : PT X z (RdT T cal G X.K W c)) (ha : PE X x (RdE T cal G X.K W a)) (hb : PE X y (RdE T cal G X.K W b)) : PE X (.IfExp z x y pos) (RdE T cal G X.K W (.ite c a b)) := by
  refine PE.mono (pe_ifExp hc ha hb) fun σ H Q ⟨la, hs, env, eo, lo, t⟩ => ⟨la, hs, env, eo, lo, Then.bind t fun d hs1 v la1 H1 s1 lo1 r1 t1 => ?_⟩
  have idb : ∀ (r : R) Q, Then X.K G W σ la1 H1 false (r.bind fun x h => if false = true then bool1 h (truth x) else .ok x h) Q → Then X.K G W σ la1 H1 false r Q := fun r Q h => by
    cases r <;> exact h
  cases d <;> try (exact t1.elim)
  rename_i k
  refine ⟨k, r1.1.bl, ?_⟩
  cases k with
  | true => rw [if_pos rfl]; exact ⟨la1, hs1, env, eo.step lo s1, lo1, by rw [h1]; exact idb _ _ t1⟩
  | false => rw [if_neg Bool.false_ne_true]; exact ⟨la1, hs1, env, eo.step lo s1, lo1, by rw [h2]; exact idb _ _ t1⟩
theorem a_nil : PA X [] (RdA T cal G X.K W .nil) := by
  refine PA.mono pa_nil fun σ H Q ⟨la, hs, env, eo, lo, t⟩ => ?_
  exact t [] la H .refl lo .nil
theorem a_cons (hs : noStar x = true) (ha : PE X x (RdE T cal G X.K W a)) (hl : PA X es (RdA T cal G X.K W l)) : PA X (x :: es) (RdA T cal G X.K W (.cons a l)) := by
  refine PA.mono (pa_cons ha hl (star_cons hs)) fun σ H Q ⟨la, hs, env, eo, lo, t⟩ => ⟨la, hs, env, eo, lo, ?_⟩
  rw [ev] at t
  cases e1 : ev T cal a false env hs with
  | err => rw [e1] at t; exact t
  | exc x h1 => rw [e1] at t; exact t
  | ok d h1 =>
    rw [e1] at t
    intro v la1 H1 s1 lo1 r1
    refine ⟨la1, h1, env, eo.step lo s1, lo1, ?_⟩
    have t : ThenL X.K G W σ la H (noBs (.cons a l)) ((ev T cal l false env h1).bind fun l h => .ok (.tup (d :: l.items)) h) Q := t
    cases e2 : ev T cal l false env h1 with
    | err => rw [e2] at t; exact t
    | exc x h2 => rw [e2] at t; exact fun c dd la2 H2 s2 lo2 r2 => t c dd la2 H2 (s1.trans s2) lo2 r2
    | ok d2 h2 =>
      rw [e2] at t
      intro vs la2 H2 s2 lo2 r2
      refine t (v :: vs) la2 H2 (s1.trans s2) lo2 (.cons ⟨r1.1.step lo1 s2, fun nb => ?_⟩ ?_)
      · have nb : (!isBE a && noBs l) = true := nb
        rw [Bool.and_eq_true] at nb
        exact r1.2 (by simpa using nb.1)
      · have up : ∀ {ds : List D} {vs : List V}, Paired (fun d v => RepS X.K la2 H2 d v ∧ (noBs l = true → ∀ a, d.isOwn = true → v = V.ref a → H1 a = none)) ds vs →
            Paired (fun d v => RepS X.K la2 H2 d v ∧ (noBs (.cons a l) = true → ∀ a, d.isOwn = true → v = V.ref a → H a = none)) ds vs := fun h => by
          induction h with
          | nil => exact .nil
          | cons r t ih =>
            refine .cons ⟨r.1, fun nb => ?_⟩ ih
            have nb : (!isBE a && noBs l) = true := nb
            rw [Bool.and_eq_true] at nb
            exact (RepT.base s1 (⟨r.1, r.2 nb.2⟩ : RepT X.K la2 H1 H2 _ _) s2).2
        exact up r2
theorem s_tup {j : Nat} (hn : noBs l = true) (hc : (chk X.N G l).lst X.env.scope es = true) (hl : lenE l ≤ 1000) (ha : PA X es (RdA T cal G X.K W l)) : PE X (.Tuple es j pos) (RdE T cal G X.K W (.tup l)) := by
  refine PE.mono (pe_tup (PA.lock ha)) fun σ H Q ⟨la, hs, env, eo, lo, t⟩ => ⟨la, hs, env, eo, lo, ?_⟩
  rw [hn]
  refine ThenL.locked t fun d hs1 vs la1 H2 s1 lo1 rl he t1 => ?_
  obtain ⟨ds, rfl, hd⟩ := ev_lst l env hs d hs1 ⟨_, _, _, _, hc⟩ he
  refine ⟨?_, Res.tup lo1 rl (Then.res t1)⟩
  have h1 := rl.len
  rw [List.length_map] at h1
  have h2 : ds.length = vs.length := h1
  rw [sizeLine_eq]; omega
theorem s_lst (hn : noBs l = true) (hc : (chk X.N G l).lst X.env.scope es = true) (hl : lenE l ≤ 1000) (ha : PA X es (RdA T cal G X.K W l)) : PE X (.List es pos) (RdE T cal G X.K W (.lst l)) := by
  refine PE.mono (pe_lst (PA.lock ha)) fun σ H Q ⟨la, hs, env, eo, lo, t⟩ => ⟨la, hs, env, eo, lo, ?_⟩
  rw [hn]
  refine ThenL.locked t fun d hs1 vs la1 H2 s1 lo1 rl he t1 => ?_
  obtain ⟨ds, rfl, hd⟩ := ev_lst l env hs d hs1 ⟨_, _, _, _, hc⟩ he
  refine ⟨?_, Res.own lo1 rl (Then.res t1)⟩
  have h1 := rl.len
  rw [List.length_map] at h1
  have h2 : ds.length = vs.length := h1
  rw [sizeLine_eq]; omega
/-- a subscript -/
def rIx (K : PySem.W.Frag) : R2 := fun x y H Q => ∃ la hs d e r, RepS K la H d x ∧ RepS K la H e y ∧ LocOk K la hs H ∧ opIdx d e hs = some r ∧ Res K la hs H r Q
theorem ix_all : IxR X (rIx X.K) := by
  intro value slice pins s σ H x y v u Q I rx ry h hs
  obtain ⟨la, hs', d, e, r, r1, r2, lo, ho, h⟩ := h
  have viaSeq : ∀ {xs : List D} {i : Int}, d.seq? = some xs → e = .int i → at? xs i = some r → wpAny (model X.prog X.w) X.A (subscriptTail value slice v u) (EP X pins σ Q) X.xe s := fun {xs i} hq he ha => by
    subst he
    obtain ⟨a, vs, rfl, rl, w⟩ := r1.seq hq
    obtain ⟨z, hz, rz⟩ := at_rep rl ha
    have hQ := Res.scal lo rz h
    rcases w with ⟨q, _⟩ | ⟨q, _⟩
    · exact ix_tup value slice pins s σ H _ _ v u Q I rx ry ⟨a, vs, i, z, rfl, r2.int, q, hz, hQ⟩ hs
    · exact ix_list value slice pins s σ H _ _ v u Q I rx ry ⟨a, vs, i, z, rfl, r2.int, q, hz, hQ⟩ hs
  unfold opIdx at ho
  split at ho
  · have r1 := RepS.rep r1 rfl
    rw [Rep] at r1; exact r1.elim
  · exact r1.elim
  · rename_i n
    split at ho
    · rename_i xs i e1
      obtain ⟨a, vs, e2, e3, rl⟩ := lo.at_ n xs e1
      have r1 := RepS.rep r1 rfl
      rw [Rep] at r1
      obtain ⟨b, e4, rfl⟩ := r1
      rw [e2] at e4; cases e4
      obtain ⟨z, hz, rz⟩ := at_rep rl ho
      exact ix_list value slice pins s σ H _ _ v u Q I rx ry ⟨a, vs, i, z, rfl, r2.int, .of e3, hz, Res.scal lo rz h⟩ hs
    · cases ho
  · split at ho
    · rename_i xs i e1
      exact viaSeq e1 rfl ho
    · cases ho
theorem plainIx_of (h : noSlice y = true) : PlainIx y := fun o i => by cases y <;> first | rfl | (cases h)
theorem s_idx (hn : noSlice y = true) (ha : PE X x (RdE T cal G X.K W a)) (hb : PE X y (RdE T cal G X.K W b)) : PE X (.Subscript x y pos) (RdE T cal G X.K W (.idx a b)) := by
  refine PE.mono (pe_ix ix_all ha hb (plainIx_of hn)) fun σ H Q ⟨la, hs, env, eo, lo, t⟩ => ?_
  refine ⟨la, hs, env, eo, lo, Then.bind t fun d hs1 v la1 H1 s1 lo1 r1 t1 => ⟨la1, hs1, env, eo.step lo s1, lo1, Then.bind t1 fun d2 hs2 w la2 H2 s2 lo2 r2 t2 => ?_⟩⟩
  cases e : opIdx d d2 hs2 with
  | none => rw [e] at t2; exact t2.elim
  | some r =>
    rw [e] at t2
    exact ⟨la2, hs2, d, d2, r, r1.1.step lo1 s2, r2.1, lo2, e, Then.res t2⟩
/-- a slice -/
def rSlc (K : PySem.W.Frag) : V → Option Int → Option Int → Hp → VK → Prop := fun x lo hi H Q => ∃ la hs d r xs, RepS K la H d x ∧ LocOk K la hs H ∧ d.seq? = some xs ∧ Res K la hs H r Q ∧ ((d = .tup xs ∧ r = .tup (cut xs lo hi)) ∨ ((d = .lst xs ∨ d = .own xs) ∧ r = .own (cut xs lo hi)))
theorem cut_whole {xs : List D} {lo hi : Option Int} (h : HT.sIx xs.length 0 lo = 0 ∧ HT.sIx xs.length xs.length hi = xs.length) : cut xs lo hi = xs := by
  unfold cut
  simp only [sIx_eq, h.1, h.2]
  simp
theorem sl_all : SlR X (rSlc X.K) := by
  intro pins s σ H x v vl vu lo hi sl Q I rx hs pl pu h
  obtain ⟨la, hs', d, r, xs, r1, lo1, hq, h, w⟩ := h
  obtain ⟨a, vs, rfl, rl, w2⟩ := r1.seq hq
  rcases w with ⟨rfl, rfl⟩ | ⟨w, rfl⟩
  · have q : SqT X.K H a vs := by
      rcases w2 with ⟨q, _⟩ | ⟨_, z⟩
      · exact q
      · rcases z with z | z <;> cases z
    refine sl_tupA pins s σ H _ v vl vu lo hi sl Q I rx hs pl pu ⟨a, vs, rfl, q, fun hw => ?_, fun hw => Res.tup lo1 (cut_rep lo hi rl) h⟩
    rw [← rl.len] at hw
    rw [cut_whole hw] at h
    exact Res.scal lo1 (by rw [Rep]; exact ⟨a, vs, rfl, q, rl⟩) h
  · have q : SqL X.K H a vs := by
      rcases w2 with ⟨_, z⟩ | ⟨q, _⟩
      · rcases w with w | w <;> (rw [z] at w; cases w)
      · exact q
    exact sl_list pins s σ H _ v vl vu lo hi sl Q I rx hs pl pu ⟨a, vs, rfl, q, Res.own lo1 (cut_rep lo hi rl) h⟩
theorem PO.mono {e : Option PySem.Expr} {t t' : TO} (h : PO X e t) (i : ∀ σ H Q, t' σ H Q → t σ H Q) : PO X e t' := ⟨fun pins s σ H Q I hq => h.run pins s σ H Q I (i σ H Q hq)⟩
/-- a part of a slice -/
def RdP (T : Tbl) (cal : Nat → List D → Hs → R) (G : GI) (K : PySem.W.Frag) (W : L2.WX) (m : E) : TO := fun σ H Q => ∃ la hs env, EnvOk K la H env σ ∧ LocOk K la hs H ∧
  Then K G W σ la H false (prt m (ev T cal m false env hs) hs) fun v H' => (v = .non ∧ Q none H') ∨ ∃ i, v = .int i ∧ Q (some i) H'
theorem s_part (m : E) (p : Option PySem.Expr) (hm : (match p with | none => isNilE m | some l => !isNilE m && (chk X.N G m).val X.env.scope l) = true) (hp : ∀ e, p = some e → PE X e (RdE T cal G X.K W m)) : PO X p (RdP T cal G X.K W m) := by
  cases p with
  | none =>
    obtain rfl := isNilE_of hm
    refine PO.mono po_none fun σ H Q ⟨la, hs, env, eo, lo, t⟩ => ?_
    rcases Then.res t |>.scal lo (by rw [Rep]) with ⟨_, q⟩ | ⟨i, e, _⟩
    · exact q
    · cases e
  | some e =>
    rw [Bool.and_eq_true] at hm
    refine PO.mono (po_some (hp e rfl)) fun σ H Q ⟨la, hs, env, eo, lo, t⟩ => ⟨la, hs, env, eo, lo, ?_⟩
    rw [prt_some (by simpa using hm.1)] at t
    refine Then.bind t fun d hs1 v la1 H1 s1 lo1 r1 t1 => ?_
    cases d <;> try (exact t1.elim)
    rename_i i
    have e2 := r1.1.int
    subst e2
    rcases Then.res t1 |>.scal lo1 (by rw [Rep]) with ⟨e, _⟩ | ⟨j, e, q⟩
    · cases e
    · cases e; exact ⟨i, rfl, q⟩
/-- what a part gives is None or an int -/
theorem prt_int {m : E} {r : R} {h h' : Hs} {d : D} (e : prt m r h = .ok d h') : ∃ o, oInt d = some o := by
  cases hm : isNilE m with
  | true =>
    obtain rfl := isNilE_of hm
    cases e; exact ⟨none, rfl⟩
  | false =>
    rw [prt_some hm] at e
    cases r with
    | ok x h2 => cases x <;> first | (cases e; done) | (cases e; exact ⟨_, rfl⟩)
    | exc x h2 => cases e
    | err => cases e
theorem Then.part {m : E} {r : R} {K : PySem.W.Frag} {σ : L2.St} {la : List Addr} {H : Hp} {hs : Hs} {b : Bool} {f : D → Hs → R} {Q : VK} {Q' : Option Int → Hp → Prop}
    (h : Then K G W σ la H b ((prt m r hs).bind f) Q) (kk : ∀ d o hs' la' H', oInt d = some o → Step la H la' H' → LocOk K la' hs' H' → Then K G W σ la' H' b (f d hs') Q → Q' o H') :
    Then K G W σ la H false (prt m r hs) fun v H' => (v = .non ∧ Q' none H') ∨ ∃ i, v = .int i ∧ Q' (some i) H' := by
  cases e : prt m r hs with
  | ok d h1 =>
    rw [e] at h
    obtain ⟨o, ho⟩ := prt_int e
    intro v la' H' s lo rb
    have t1 := Then.rebase s h
    cases d <;> try (cases ho; done)
    · cases ho
      have := RepS.rep rb.1 rfl
      rw [Rep] at this
      exact .inl ⟨this, kk _ _ h1 la' H' rfl s lo t1⟩
    · cases ho
      exact .inr ⟨_, rb.1.int, kk _ _ h1 la' H' rfl s lo t1⟩
  | exc x h1 => rw [e] at h; exact h
  | err => rw [e] at h; exact h
theorem s_slc {lo hi : E} {pl ph : Option PySem.Expr} {p2 : Pos} (hlo : (match pl with | none => isNilE lo | some l => !isNilE lo && (chk X.N G lo).val X.env.scope l) = true) (hhi : (match ph with | none => isNilE hi | some l => !isNilE hi && (chk X.N G hi).val X.env.scope l) = true)
    (ha : PE X x (RdE T cal G X.K W a)) (hl : ∀ e, pl = some e → PE X e (RdE T cal G X.K W lo)) (hh : ∀ e, ph = some e → PE X e (RdE T cal G X.K W hi)) : PE X (.Subscript x (.Slice pl ph none p2) pos) (RdE T cal G X.K W (.slc a lo hi)) := by
  refine PE.mono (pe_slice sl_all ha (s_part lo pl hlo hl) (s_part hi ph hhi hh)) fun σ H Q ⟨la, hs, env, eo, lo0, t⟩ => ?_
  refine ⟨la, hs, env, eo, lo0, Then.bind t fun d hs1 v la1 H1 s1 lo1 r1 t1 => ⟨la1, hs1, env, eo.step lo0 s1, lo1, ?_⟩⟩
  refine Then.part (Q' := fun l H2 => RdP T cal G X.K W hi σ H2 fun u H3 => rSlc X.K v l u H3 Q) t1 fun d2 o2 hs2 la2 H2 ho2 s2 lo2 t2 => ?_
  refine ⟨la2, hs2, env, (eo.step lo0 s1).step lo1 s2, lo2, ?_⟩
  refine Then.part (Q' := fun u H3 => rSlc X.K v o2 u H3 Q) t2 fun d3 o3 hs3 la3 H3 ho3 s3 lo3 t3 => ?_
  have rd := (r1.1.step lo1 s2).step lo2 s3
  unfold opSlc at t3
  rw [ho2, ho3] at t3
  cases d <;> try (exact t3.elim)
  · exact ⟨la3, hs3, _, _, _, rd, lo3, rfl, Then.res t3, .inl ⟨rfl, rfl⟩⟩
  · exact ⟨la3, hs3, _, _, _, rd, lo3, rfl, Then.res t3, .inr ⟨.inl rfl, rfl⟩⟩
  · exact ⟨la3, hs3, _, _, _, rd, lo3, rfl, Then.res t3, .inr ⟨.inr rfl, rfl⟩⟩
/-- the test of a value -/
theorem ev_plain {m : E} (h : plainT m = true) (env : En) (hs : Hs) : ev T cal m true env hs = (ev T cal m false env hs).bind fun d h => bool1 h (truth d) := by
  have as : ∀ (r : R) (f g : D → Hs → R), (r.bind f).bind g = r.bind fun d h => (f d h).bind g := fun r f g => by cases r <;> rfl
  cases m <;> try (cases h; done)
  case c d => rfl
  case v i =>
    simp only [ev]
    split
    · split <;> rfl
    · rfl
  case b i =>
    simp only [ev]
    split <;> rfl
  case g n =>
    simp only [ev]
    split <;> rfl
  case neg a =>
    simp only [ev, as]
    congr 1; funext d h
    split <;> rfl
  case lc tg it cd el =>
    simp only [ev, as]
    congr 1; funext d h
    split
    · rw [as]; rfl
    · rfl
  case dc => rfl
  all_goals (simp only [ev, as]; rfl)
theorem plain_isTrue {e : PySem.Expr} {env : Env} (h : (match e with | .UnaryOp .Not _ _ | .BoolOp _ _ _ | .IfExp _ _ _ _ | .Compare _ _ _ _ => false | _ => true) = true) : ∀ whole, isTrue e env whole = (do let v ← whole; standAt e.pos; holding [v] (truthy v)) := fun whole => by
  cases e <;> first | rfl | (cases h; done) | (rename_i o _ _; cases o <;> first | rfl | (cases h))
theorem t_plain {m : E} {e : PySem.Expr} (h : plainT m = true) (he : (match e with | .UnaryOp .Not _ _ | .BoolOp _ _ _ | .IfExp _ _ _ _ | .Compare _ _ _ _ => false | _ => true) = true) (hm : PE X e (RdE T cal G X.K W m)) : PT X e (RdT T cal G X.K W m) := by
  refine PT.mono (pt_truth hm (plain_isTrue he)) fun σ H Q ⟨la, hs, env, eo, lo, t⟩ => ⟨la, hs, env, eo, lo, ?_⟩
  rw [ev_plain h] at t
  refine Then.bind t fun d hs1 v la1 H1 s1 lo1 r1 t1 => ?_
  obtain ⟨k, e1, k2, e2, q⟩ := Then.bool t1 lo1
  cases e2
  exact ⟨k, truth_ok r1.1 e1, q⟩
/-- a call of a def -/
theorem back_false {es : List PySem.Expr} {env : Env} (h : es.all noStar = true) : (backTo pos (starEach es env)).any (·.1) = false := by
  induction es with
  | nil => rfl
  | cons e es ih =>
    rw [List.all_cons, Bool.and_eq_true] at h
    rw [star_cons h.1]
    show (false || (backTo pos (starEach es env)).any (·.1)) = false
    rw [ih h.2]; rfl
theorem lst_star : ∀ {m : E} {sc : Scope} {es : List PySem.Expr}, (chk X.N G m).lst sc es = true → es.all noStar = true := by
  intro m
  induction m with
  | nil => intro sc es h; cases es with | nil => rfl | cons => cases h
  | cons a r ih1 ih2 =>
    intro sc es h
    cases es with
    | nil => rfl
    | cons e es =>
      have h' : (noStar e && (chk X.N G a).val sc e && (chk X.N G r).lst sc es) = true := h
      rw [Bool.and_eq_true, Bool.and_eq_true] at h'
      rw [List.all_cons, h'.1.1, ih2 h'.2]; rfl
  | bi f l _ => intro sc es hc; exact (chk_bi hc).elim
  | lc tg it cd el _ _ _ _ => intro sc es hc; exact (chk_lc hc).elim
  | _ => intro sc es hc; cases hc
theorem s_call {f : Nat} {n : Str} {p : Pos} (g : Good T cal G k X W) (h1 : G.fns[f]? = some n) (h2 : glB X.env.scope n = true) (h3 : nameOk n = true) (hc : (chk X.N G l).lst X.env.scope (x :: es) = true) (hn : noBs l = true) (ha : PA X (x :: es) (RdA T cal G X.K W l)) :
    PE X (.Call (.Name n p) (x :: es) [] pos) (RdE T cal G X.K W (.call f l)) := by
  obtain ⟨d1, d2, _⟩ := nameOk_of h3
  obtain ⟨ad, fd, ps, e1, kp, bs, F⟩ := g.fn f n h1
  have st := lst_star hc
  rw [List.all_cons, Bool.and_eq_true] at st
  refine PE.mono (pe_callS F g.room (gl_of h2) e1 kp bs (fun σ => passAt g.tk σ) (PA.lock ha) d1 (star_cons st.1) (back_false st.2)) fun σ H Q ⟨la, hs, env, eo, lo, t⟩ => ⟨la, hs, env, eo, lo, ?_⟩
  rw [hn]
  have t : Then X.K G W σ la H false ((ev T cal l false env hs).bind fun x h => (cal f (x.items.map D.frz) h).bind fun x h => .ok x h) Q := t
  refine ThenL.locked t fun d hs1 vs la1 H2 s1 lo1 rl he t1 => ⟨la1, hs1, _, rl, lo1, ?_⟩
  cases e : cal f (d.items.map D.frz) hs1 with
  | ok d h => rw [e] at t1; exact t1
  | exc x h => rw [e] at t1; exact t1
  | err => rw [e] at t1; exact t1
theorem s_bi {f : Bi} {n : Str} {p : Pos} (g : Good T cal G k X W) (hf : byVal f = true) (h1 : n = biName f) (h2 : glB X.env.scope n = true) (hc : (chk X.N G l).lst X.env.scope (x :: es) = true) (ha : PA X (x :: es) (RdA T cal G X.K W l)) :
    PE X (.Call (.Name n p) (x :: es) [] pos) (RdE T cal G X.K W (.bi f l)) := by
  have st := lst_star hc
  rw [List.all_cons, Bool.and_eq_true] at st
  have go : PE X (.Call (.Name n p) (x :: es) [] pos) (tCB (rBi X.K f) (RdA T cal G X.K W l)) := by
    subst h1
    cases f <;> try (cases hf; done)
    case len => exact pe_callB (op_Bi g.units g.calm .len rfl) (gl_of h2) (g.blt _ (by decide)) (by decide +kernel) ha (by decide) (by decide) (star_cons st.1) (back_false st.2)
    case abs => exact pe_callB (op_Bi g.units g.calm .abs rfl) (gl_of h2) (g.blt _ (by decide)) (by decide +kernel) ha (by decide) (by decide) (star_cons st.1) (back_false st.2)
    case min => exact pe_callB (op_Bi g.units g.calm .min rfl) (gl_of h2) (g.blt _ (by decide)) (by decide +kernel) ha (by decide) (by decide) (star_cons st.1) (back_false st.2)
    case max => exact pe_callB (op_Bi g.units g.calm .max rfl) (gl_of h2) (g.blt _ (by decide)) (by decide +kernel) ha (by decide) (by decide) (star_cons st.1) (back_false st.2)
    case sum => exact pe_callB (op_Bi g.units g.calm .sum rfl) (gl_of h2) (g.blt _ (by decide)) (by decide +kernel) ha (by decide) (by decide) (star_cons st.1) (back_false st.2)
    case all => exact pe_callB (op_Bi g.units g.calm .all rfl) (gl_of h2) (g.blt _ (by decide)) (by decide +kernel) ha (by decide) (by decide) (star_cons st.1) (back_false st.2)
    case any => exact pe_callB (op_Bi g.units g.calm .any rfl) (gl_of h2) (g.blt _ (by decide)) (by decide +kernel) ha (by decide) (by decide) (star_cons st.1) (back_false st.2)
    case sorted => exact pe_callB (op_Bi g.units g.calm .sorted rfl) (gl_of h2) (g.blt _ (by decide)) (by decide +kernel) ha (by decide) (by decide) (star_cons st.1) (back_false st.2)
    case min2 => exact pe_callB (op_Bi g.units g.calm .min2 rfl) (gl_of h2) (g.blt _ (by decide)) (by decide +kernel) ha (by decide) (by decide) (star_cons st.1) (back_false st.2)
    case max2 => exact pe_callB (op_Bi g.units g.calm .max2 rfl) (gl_of h2) (g.blt _ (by decide)) (by decide +kernel) ha (by decide) (by decide) (star_cons st.1) (back_false st.2)
    case int => exact pe_callTy (op_Bi g.units g.calm .int rfl) (gl_of h2) (g.blt _ (by decide)) (by decide +kernel) ha (by decide) (by decide) (star_cons st.1) (back_false st.2)
    case tuple => exact pe_callTy (op_Bi g.units g.calm .tuple rfl) (gl_of h2) (g.blt _ (by decide)) (by decide +kernel) ha (by decide) (by decide) (star_cons st.1) (back_false st.2)
    case list => exact pe_callTy (op_Bi g.units g.calm .list rfl) (gl_of h2) (g.blt _ (by decide)) (by decide +kernel) ha (by decide) (by decide) (star_cons st.1) (back_false st.2)
  refine PE.mono go fun σ H Q ⟨la, hs, env, eo, lo, t⟩ => ⟨la, hs, env, eo, lo, ?_⟩
  refine ThenL.bind t fun d hs1 vs la1 H1 s1 lo1 rb t1 => ?_
  cases e : opBi f d.items hs1 with
  | none => rw [e] at t1; exact t1.elim
  | some r =>
    rw [e] at t1
    refine ⟨la1, hs1, d.items, r, ?_, lo1, e, Then.res t1⟩
    exact Paired.mapP rb fun _ _ q => q.1
end
end Z
/-! Z10: isinstance, targets, what is walked -/
namespace Z
open PySem PySem.Spec PyProof.Rows L2
section
variable {T : Tbl} {cal : Nat → List D → Hs → R} {G : GI} {k : Nat} {X : Cx} {W : L2.WX} {a b c l : E} {x y z : PySem.Expr} {es : List PySem.Expr} {pos : Pos}
def tyStr : Ty → String
  | .int => "int" | .bool => "bool" | .str => "str" | .tup => "tuple" | .lst => "list" | .dct => "dict"
def kindOf : D → Option String
  | .non => some "NoneType" | .bl _ => some "bool" | .int _ => some "int" | .str _ => some "str" | .tup _ => some "tuple" | .lst _ => some "list" | .own _ => some "list"
  | _ => none
theorem ty_of {la : List Addr} {H : Hp} {d : D} {v : V} {n : String} (r : RepS X.K la H d v) (h : kindOf d = some n) : TyX X.K H v (.type n) := by
  cases d
  case own xs =>
    obtain ⟨a, rfl, vs, e, _⟩ := r
    cases h; exact .base (.lst e)
  case odc => exact r.elim
  all_goals (have r := RepS.rep r rfl; rw [Rep] at r)
  case non => subst r; cases h; exact .base .non
  case bl => subst r; cases h; exact .base (.bl _)
  case int => subst r; cases h; exact .base (.int _)
  case str => subst r; cases h; exact .base (.str _)
  case tup =>
    obtain ⟨a, vs, rfl, q, _⟩ := r
    cases h
    rcases q with (q | ⟨o, q⟩) | ⟨o, its, n, q1, q2, _⟩
    · exact .base (.tup q)
    · exact .fTuple q
    · exact .kTuple q1 q2
  case lst =>
    obtain ⟨a, vs, o, rfl, q, _⟩ := r
    cases h; exact .base (.frz q)
  case dct => exact r.elim
  case loc => cases h
  case ex => exact r.elim
def tyB (n : String) (t : Ty) : Bool := n == tyStr t || (n == "bool" && tyStr t == "int")
theorem kit_tab : ∀ n ∈ ["NoneType", "bool", "int", "str", "tuple", "list", "dict"], ∀ t ∈ [Ty.int, .bool, .str, .tup, .lst, .dct], kitB n (tyStr t) = some (tyB n t) := by decide +kernel
theorem ty_mem (t : Ty) : t ∈ [Ty.int, .bool, .str, .tup, .lst, .dct] := by cases t <;> simp
theorem kit_one {K : PySem.W.Frag} {d : D} {n : String} {t : Ty} (h : kindOf d = some n) : PySem.W.kitOne K (.type n) (.type (tyStr t)) = some (isTy d t) := by
  cases d <;> (first | (cases h; done) | (cases h; rw [kit_ty (kit_tab _ (by simp) t (ty_mem t))]; cases t <;> rfl))
theorem kit_any {K : PySem.W.Frag} {d : D} {n : String} (h : kindOf d = some n) : ∀ ts : List Ty, PySem.W.kitAny K (.type n) (ts.map fun t => .type (tyStr t)) = some (ts.any fun t => isTy d t)
  | [] => rfl
  | t :: ts => by
    rw [List.map_cons, List.any_cons]
    unfold PySem.W.kitAny
    rw [kit_one h]
    cases isTy d t with
    | true => rfl
    | false => exact kit_any h ts
theorem ty_name {t : Ty} (g : Good T cal G k X W) (h : isTyName X.env.scope t y = true) : PE X y (tC (.ty (tyStr t))) := by
  cases y <;> try (cases h; done)
  have h' := h
  simp only [isTyName, Bool.and_eq_true, decide_eq_true_eq] at h'
  obtain ⟨rfl, h2⟩ := h'
  cases t
  · exact pe_bltn (gl_of h2) (g.blt _ (by decide)) (by decide +kernel : bootBuiltins _ = some (.type "int")) rfl
  · exact pe_bltn (gl_of h2) (g.blt _ (by decide)) (by decide +kernel : bootBuiltins _ = some (.type "bool")) rfl
  · exact pe_bltn (gl_of h2) (g.blt _ (by decide)) (by decide +kernel : bootBuiltins _ = some (.type "str")) rfl
  · exact pe_bltn (gl_of h2) (g.blt _ (by decide)) (by decide +kernel : bootBuiltins _ = some (.type "tuple")) rfl
  · exact pe_bltn (gl_of h2) (g.blt _ (by decide)) (by decide +kernel : bootBuiltins _ = some (.type "list")) rfl
  · exact pe_bltn (gl_of h2) (g.blt _ (by decide)) (by decide +kernel : bootBuiltins _ = some (.type "dict")) rfl
theorem ty_names (g : Good T cal G k X W) : ∀ (ts : List Ty) (es : List PySem.Expr), isTyNames X.env.scope ts es = true → PA X es (fun _ H Q => Q (ts.map fun t => V.ty (tyStr t)) H)
  | [], [], _ => pa_nil
  | t :: ts, e :: es, h => by
    rw [isTyNames, Bool.and_eq_true, Bool.and_eq_true] at h
    exact PA.mono (pa_cons (ty_name g h.1.1) (ty_names g ts es h.2) (star_cons h.1.2)) fun _ _ _ q => q
theorem isinst_go {ts : List Ty} {σ : L2.St} {H : Hp} {Q : VK} (h : RdE T cal G X.K W (.bi (.isinst ts) (.cons a .nil)) σ H Q) :
    RdE T cal G X.K W a σ H fun v H1 => ∃ la1 hs1 d, RepS X.K la1 H1 d v ∧ LocOk X.K la1 hs1 H1 ∧ (∃ n, kindOf d = some n) ∧ ∀ H2, Same H1 H2 → Q (.bl (ts.any fun t => isTy d t)) H2 := by
  obtain ⟨la, hs, env, eo, lo, t⟩ := h
  have t : Then X.K G W σ la H false ((ev T cal a false env hs).bind fun x h => (R.ofO h (opBi (.isinst ts) [x] h)).bind fun x h => .ok x h) Q := by
    have e : ev T cal (.bi (.isinst ts) (.cons a .nil)) false env hs = (ev T cal a false env hs).bind fun x h => (R.ofO h (opBi (.isinst ts) [x] h)).bind fun x h => .ok x h := by
      simp only [ev]
      cases ev T cal a false env hs <;> rfl
    rw [← e]; exact t
  refine ⟨la, hs, env, eo, lo, Then.bind t fun d hs1 v la1 H1 s1 lo1 r1 t1 => ?_⟩
  have fin : ∀ b, opBi (.isinst ts) [d] hs1 = some (.bl b) → ∀ H2, Same H1 H2 → Q (.bl b) H2 := fun b e H2 sm => by
    rw [e] at t1
    exact t1 (.bl b) la1 H2 (.same sm) (lo1.same sm) (.of (.of (by rw [Rep])))
  refine ⟨la1, hs1, d, r1.1, lo1, ?_, fun H2 sm => ?_⟩
  · cases d <;> first | exact ⟨_, rfl⟩ | exact t1.elim | exact r1.1.elim | (have := RepS.rep r1.1 rfl; rw [Rep] at this; exact this.elim)
  · cases d <;> first | exact fin _ rfl H2 sm | exact t1.elim
theorem s_isinst {ts : List Ty} {t : PySem.Expr} {p : Pos} (g : Good T cal G k X W) (h2 : glB X.env.scope "isinstance" = true) (hx : noStar x = true) (ht : noStar t = true) (ha : PE X x (RdE T cal G X.K W a))
    (h : isTys X.env.scope ts t = true) :
    PE X (.Call (.Name "isinstance" p) [x, t] [] pos) (RdE T cal G X.K W (.bi (.isinst ts) (.cons a .nil))) := by
  have st : starEach [t] X.env = [(false, eval t X.env)] := star_cons (es := []) ht
  cases t <;> try (cases h; done)
  case Tuple es j tp =>
    have h : (isTyNames X.env.scope ts es && decide (es.length ≤ 1000)) = true := h
    rw [Bool.and_eq_true] at h
    have hl : ts.length = es.length := by
      have : ∀ (ts : List Ty) (es : List PySem.Expr), isTyNames X.env.scope ts es = true → ts.length = es.length := fun ts => by
        induction ts with
        | nil => intro es h; cases es with | nil => rfl | cons => cases h
        | cons t ts ih =>
          intro es h
          cases es with
          | nil => cases h
          | cons e es =>
            rw [isTyNames, Bool.and_eq_true] at h
            rw [List.length_cons, List.length_cons, ih es h.2]
      exact this ts es h.1
    have hl2 := of_decide_eq_true h.2
    refine PE.mono (pe_callB call_isiT (gl_of h2) (g.blt _ (by decide)) (by decide +kernel) (pa_cons ha (pa_cons (pe_tup (ty_names g ts es h.1)) pa_nil (star_cons ht)) (star_cons hx)) (by decide) (by decide) (star_cons hx) (back_false (by simp [ht]))) fun σ H Q q => ?_
    obtain ⟨la, hs, env, eo, lo, t⟩ := isinst_go q
    refine ⟨la, hs, env, eo, lo, Then.mono t fun v H1 ⟨la1, hs1, d, r1, lo1, ⟨n, hn⟩, q2⟩ => ?_⟩
    refine ⟨by rw [List.length_map, sizeLine_eq]; omega, fun p hp => ⟨v, p, _, _, _, _, rfl, upd_same, ?_, ty_of (r1.step lo1 (.upd hp)) hn, kit_any hn ts, q2 _ fun b o e => ?_⟩⟩
    · have : ∀ ts : List Ty, Paired ClsV (ts.map fun t => V.ty (tyStr t)) (ts.map fun t => Value.type (tyStr t)) := fun ts => by
        induction ts with
        | nil => exact .nil
        | cons t ts ih => exact .cons (.ty _) ih
      exact this ts
    · rw [upd_ne (ne_of_none e hp)]; exact e
  case Name n0 p0 =>
    cases ts with
    | nil => cases h
    | cons ty r =>
      cases r with
      | cons => cases h
      | nil =>
        refine PE.mono (pe_callB call_isi (gl_of h2) (g.blt _ (by decide)) (by decide +kernel) (pa_cons ha (pa_cons (ty_name g h) pa_nil (star_cons ht)) (star_cons hx)) (by decide) (by decide) (star_cons hx) (back_false (by simp [ht]))) fun σ H Q q => ?_
        obtain ⟨la, hs, env, eo, lo, t⟩ := isinst_go q
        refine ⟨la, hs, env, eo, lo, Then.mono t fun v H1 ⟨la1, hs1, d, r1, lo1, ⟨n, hn⟩, q2⟩ => ?_⟩
        have := q2 H1 (Same.refl H1)
        rw [List.any_cons, List.any_nil, Bool.or_false] at this
        exact ⟨v, _, _, _, _, rfl, .ty _, ty_of r1 hn, kit_one hn, this⟩
theorem s_rev {j : Nat} {p1 p2 p3 : Pos} (ha : PE X x (RdE T cal G X.K W a)) : PE X (.Subscript x (.Slice none none (some (.UnaryOp .USub (.Constant (.int 1) j p1) p2)) p3) pos) (RdE T cal G X.K W (.rev a)) := by
  refine PE.mono (pe_revL ha) fun σ H Q ⟨la, hs, env, eo, lo, t⟩ => ⟨la, hs, env, eo, lo, Then.bind t fun d hs1 v la1 H1 s1 lo1 r1 t1 => ?_⟩
  have go : ∀ {xs : List D}, (d = .lst xs ∨ d = .own xs) → Res X.K la1 hs1 H1 (.own xs.reverse) Q → ∃ a xs, v = .ref a ∧ SqL X.K H1 a xs ∧ ∀ p, H1 p = none → Q (.ref p) (upd H1 p (.lst xs.reverse)) := fun {xs} hd h => by
    have hq : d.seq? = some xs := by rcases hd with rfl | rfl <;> rfl
    obtain ⟨a, vs, rfl, rl, w⟩ := r1.1.seq hq
    rcases w with ⟨_, z⟩ | ⟨q, _⟩
    · rcases hd with w | w <;> (rw [w] at z; cases z)
    · exact ⟨a, vs, rfl, q, Res.own lo1 rl.reverse h⟩
  cases d <;> try (exact t1.elim)
  · exact go (.inl rfl) (Then.res t1)
  · exact go (.inr rfl) (Then.res t1)
end
/-! ### targets -/
section
variable {K : PySem.W.Frag} {la : List Addr} {H : Hp}
theorem EnvOk.set {env : En} {σ : L2.St} {i : Nat} {d : D} {v : V} (h : EnvOk K la H env σ) (r : Rep K la H d v) : EnvOk K la H (env.set i (some d)) (σ.set i (some v)) := by
  have on := r.noOwn
  refine ⟨by simp [h.len], fun j e hj => ?_, fun j l e f hjl hj hl h1 h2 => ?_⟩
  · by_cases hij : i = j
    · subst hij
      by_cases hi : i < env.length
      · rw [List.getElem?_set_self hi] at hj
        cases hj
        exact ⟨v, List.getElem?_set_self (by rw [← h.len]; exact hi), .of r⟩
      · rw [List.getElem?_eq_none (by simpa using hi)] at hj; cases hj
    · rw [List.getElem?_set_ne hij] at hj
      obtain ⟨w, e1, q⟩ := h.slot j e hj
      exact ⟨w, by rw [List.getElem?_set_ne hij]; exact e1, q⟩
  · have ne : ∀ {j : Nat} {e : D}, (env.set i (some d))[j]? = some (some e) → e.isOwn = true → i ≠ j ∧ env[j]? = some (some e) := fun {j e} hj ho => by
      by_cases hij : i = j
      · subst hij
        by_cases hi : i < env.length
        · rw [List.getElem?_set_self hi] at hj
          cases hj; rw [on] at ho; cases ho
        · rw [List.getElem?_eq_none (by simpa using hi)] at hj; cases hj
      · rw [List.getElem?_set_ne hij] at hj
        exact ⟨hij, hj⟩
    obtain ⟨n1, q1⟩ := ne hj h1
    obtain ⟨n2, q2⟩ := ne hl h2
    rw [List.getElem?_set_ne n1, List.getElem?_set_ne n2]
    exact h.sep j l e f hjl q1 q2 h1 h2
theorem EnvOk.unset {env : En} {σ σ' : L2.St} {i : Nat} (h : EnvOk K la H env σ) (hl : σ'.length = σ.length) (hs : ∀ j, j ≠ i → σ'[j]? = σ[j]?) : EnvOk K la H (env.set i none) σ' := by
  have ne : ∀ {j : Nat} {e : D}, (env.set i none)[j]? = some (some e) → j ≠ i ∧ env[j]? = some (some e) := fun {j e} hj => by
    by_cases hij : i = j
    · subst hij
      by_cases hi : i < env.length
      · rw [List.getElem?_set_self hi] at hj; cases hj
      · rw [List.getElem?_eq_none (by simpa using hi)] at hj; cases hj
    · rw [List.getElem?_set_ne hij] at hj
      exact ⟨Ne.symm hij, hj⟩
  refine ⟨by simp [h.len, hl], fun j e hj => ?_, fun j l e f hjl hj hk h1 h2 => ?_⟩
  · obtain ⟨n, q⟩ := ne hj
    rw [hs j n]; exact h.slot j e q
  · obtain ⟨n1, q1⟩ := ne hj
    obtain ⟨n2, q2⟩ := ne hk
    rw [hs j n1, hs l n2]
    exact h.sep j l e f hjl q1 q2 h1 h2
/-- the same but at some slots -/
def Off (is : List Nat) (σ σ' : L2.St) : Prop := σ'.length = σ.length ∧ ∀ i, i ∉ is → σ'[i]? = σ[i]?
theorem Off.refl {is : List Nat} {σ : L2.St} : Off is σ σ := ⟨rfl, fun _ _ => rfl⟩
theorem Off.trans {is js : List Nat} {σ σ1 σ2 : L2.St} (a : Off is σ σ1) (b : Off js σ1 σ2) : Off (is ++ js) σ σ2 :=
  ⟨b.1.trans a.1, fun i h => (b.2 i fun z => h (List.mem_append_right _ z)).trans (a.2 i fun z => h (List.mem_append_left _ z))⟩
def RdG (K : PySem.W.Frag) (tg : E) : TG := fun v σ H Q => ∃ la env d env', EnvOk K la H env σ ∧ Rep K la H d v ∧ asgT tg d env = some env' ∧ ∀ σ', EnvOk K la H env' σ' → Off (slots tg) σ σ' → Q σ' H
def RdGs (K : PySem.W.Frag) (tg : E) : TGs := fun vs σ H Q => ∃ la env ds env', EnvOk K la H env σ ∧ RepL K la H ds vs ∧ asgT tg (.tup ds) env = some env' ∧ ∀ σ', EnvOk K la H env' σ' → Off (slots tg) σ σ' → Q σ' H
end
section
variable {X : Cx}
theorem PG.mono {e : PySem.Expr} {t t' : TG} (h : PG X e t) (i : ∀ v σ H Q, t' v σ H Q → t v σ H Q) : PG X e t' := ⟨fun pins s σ H v u Q I r hq => h.run pins s σ H v u Q I r (i v σ H Q hq)⟩
theorem PGs.mono {e : List PySem.Expr} {t t' : TGs} (h : PGs X e t) (i : ∀ v σ H Q, t' v σ H Q → t v σ H Q) : PGs X e t' := ⟨fun pins s σ H v u Q I r hq => h.run pins s σ H v u Q I r (i v σ H Q hq)⟩
theorem assignEach_cons {e : PySem.Expr} {es : List PySem.Expr} {env : Env} (h : noStar e = true) : assignEach (e :: es) env = (false, assign e env) :: assignEach es env := by
  cases e <;> first | rfl | (cases h)
/-- what the target's names have to be stored in -/
def FnLoc (X : Cx) (x : Str) : Prop := X.fn x = true ∨ X.env.scope.names.lookup x = some .local
theorem chkG_lst : ∀ {m : E} {sc : Scope} {es : List PySem.Expr} {N : List Str} {fo : Str → Bool}, (chkG N fo m).2 sc es = true → es.all noStar = true ∧ es.length = lenE m := by
  intro m
  induction m with
  | nil => intro sc es N fo h; cases es with | nil => exact ⟨rfl, rfl⟩ | cons => cases h
  | cons a r ih1 ih2 =>
    intro sc es N fo h
    cases es with
    | nil => cases h
    | cons e es =>
      have h' : (noStar e && (chkG N fo a).1 sc e && (chkG N fo r).2 sc es) = true := h
      rw [Bool.and_eq_true, Bool.and_eq_true] at h'
      obtain ⟨q1, q2⟩ := ih2 h'.2
      exact ⟨by rw [List.all_cons, h'.1.1, q1]; rfl, by rw [List.length_cons, q2, lenE]⟩
  | _ => intro sc es N fo h; cases h
theorem asg_each {env : Env} : ∀ {es : List PySem.Expr}, es.all noStar = true → (assignEach es env).length = es.length ∧ (assignEach es env).findIdx? (·.1) = none
  | [], _ => ⟨rfl, rfl⟩
  | e :: es, h => by
    rw [List.all_cons, Bool.and_eq_true] at h
    obtain ⟨q1, q2⟩ := asg_each (env := env) h.2
    rw [assignEach_cons h.1]
    refine ⟨by rw [List.length_cons, q1, List.length_cons], ?_⟩
    rw [List.findIdx?_cons]
    simp only [q2]
    rfl
theorem asg_len : ∀ {m : E} {ds : List D} {env env' : En} {N : List Str} {fo : Str → Bool} {sc : Scope} {es : List PySem.Expr}, (chkG N fo m).2 sc es = true → asgT m (.tup ds) env = some env' → ds.length = lenE m := by
  intro m
  induction m with
  | nil => intro ds env env' N fo sc es _ h; cases ds with | nil => rfl | cons => cases h
  | cons a r ih1 ih2 =>
    intro ds env env' N fo sc es hc h
    cases es with
    | nil => cases hc
    | cons e es =>
      have h' : (noStar e && (chkG N fo a).1 sc e && (chkG N fo r).2 sc es) = true := hc
      rw [Bool.and_eq_true] at h'
      cases ds with
      | nil => cases h
      | cons d ds =>
        rw [asgT] at h
        split at h
        · rw [List.length_cons, ih2 h'.2 h, lenE]
        · cases h
  | _ => intro ds env env' N fo sc es hc h; cases hc
theorem g_all (hc : X.calm = true) (hN : X.N.Nodup) {fo : Str → Bool} (hf : ∀ x, fo x = true → X.fn x = true) : ∀ (m : E), (∀ e, (chkG X.N fo m).1 X.env.scope e = true → PG X e (RdG X.K m)) ∧ ∀ es, (chkG X.N fo m).2 X.env.scope es = true → PGs X es (RdGs X.K m) := by
  intro m
  induction m with
  | v i =>
    refine ⟨fun e h => ?_, fun es h => (by cases h)⟩
    cases e <;> try (cases h; done)
    rename_i x p
    have h' : (decide (X.N[i]? = some x) && (match X.env.scope.names.lookup x with | some .local => true | some .cell => fo x | _ => false)) = true := h
    rw [Bool.and_eq_true, decide_eq_true_eq] at h'
    have hl : L2.Loc X.env.scope x ∧ (X.fn x = true ∨ X.env.scope.names.lookup x = some .local) := by
      have q := h'.2
      unfold L2.Loc
      split at q
      · rename_i e; exact ⟨.inl e, .inr e⟩
      · rename_i e; exact ⟨.inr e, .inl (hf x q)⟩
      · cases q
    refine PG.mono (pg_name hN h'.1 hl.1 hl.2) fun v σ H Q ⟨la, env, d, env', eo, r, ha, q⟩ => ?_
    cases ha
    exact q _ (eo.set r) ⟨by simp, fun j hj => by rw [List.getElem?_set_ne]; intro z; exact hj (by simp [slots, z])⟩
  | tup l ih =>
    refine ⟨fun e h => ?_, fun es h => (by cases h)⟩
    cases e <;> try (cases h; done)
    rename_i es j p
    have h' : (chkG X.N fo l).2 X.env.scope es = true := h
    obtain ⟨st, sl⟩ := chkG_lst h'
    obtain ⟨q1, q2⟩ := asg_each (env := X.env) st
    refine PG.mono (pg_tup (n := es.length) hc (ih.2 es h') q1 q2) fun v σ H Q ⟨la, env, d, env', eo, r, ha, q⟩ => ?_
    cases d <;> try (cases ha; done)
    rename_i ds
    rw [Rep] at r
    obtain ⟨a, vs, rfl, hq, rl⟩ := r
    rw [asgT] at ha
    have := asg_len h' ha
    refine ⟨a, vs, rfl, hq, by rw [← rl.len, this, sl], la, env, ds, env', eo, rl, ha, fun σ' e1 e2 => q σ' e1 e2⟩
  | nil =>
    refine ⟨fun e h => (by cases h), fun es h => ?_⟩
    cases es with
    | cons => cases h
    | nil =>
      refine PGs.mono pgs_nil fun vs σ H Q ⟨la, env, ds, env', eo, rl, ha, q⟩ => ?_
      cases ds with
      | cons => cases ha
      | nil =>
        rw [asgT] at ha; cases ha
        rw [RepL] at rl
        exact ⟨rl, q σ eo .refl⟩
  | cons a r ih1 ih2 =>
    refine ⟨fun e h => (by cases h), fun es h => ?_⟩
    cases es with
    | nil => cases h
    | cons e es =>
      have h' : (noStar e && (chkG X.N fo a).1 X.env.scope e && (chkG X.N fo r).2 X.env.scope es) = true := h
      rw [Bool.and_eq_true, Bool.and_eq_true] at h'
      refine PGs.mono (pgs_cons (ih1.1 e h'.1.2) (ih2.2 es h'.2) (by rw [assignEach_cons h'.1.1]; rfl)) fun vs σ H Q ⟨la, env, ds, env', eo, rl, ha, q⟩ => ?_
      cases ds with
      | nil => cases ha
      | cons d ds =>
        rw [asgT] at ha
        rw [RepL] at rl
        obtain ⟨v, ws, rfl, r1, rs⟩ := rl
        split at ha
        · rename_i e1 he1
          exact ⟨v, ws, rfl, la, env, d, e1, eo, r1, he1, fun σ1 eo1 of1 => ⟨la, e1, ds, env', eo1, rs, ha, fun σ2 eo2 of2 => q σ2 eo2 (of1.trans of2)⟩⟩
        · cases ha
  | _ => exact ⟨fun e h => (by cases h), fun es h => (by cases h)⟩
end
end Z
/-! Z11: what is walked; comprehensions -/
namespace Z
open PySem PySem.Spec PyProof.Rows L2
/-- an iterator yields the data xs; A: the owned lists that it reads -/
structure JOk (K : PySem.W.Frag) (J : It) (xs : List D) (A : List Addr) (S : List Addr → Hp → Prop) : Prop where
  stay : ∀ la H la' H', S la H → Kp H H' → la <+: la' → (∀ a ∈ A, ∀ o, H a = some o → H' a = some o) → S la' H'
  go : ∀ i la H, S la H → i < xs.length → J.go i H
  stop : ∀ i la H, S la H → xs.length ≤ i → J.stop i H
  yld : ∀ i la H v H' d, S la H → xs[i]? = some d → J.yld i H v H' → Same H H' ∧ Rep K la H' d v
  len : xs.length ≤ sizeLine
/-- what is wanted behind an iterator's making -/
def ThenI (K : PySem.W.Frag) (G : GI) (W : L2.WX) (σ : L2.St) (la : List Addr) (H : Hp) (b : Bool) (r : R) (Q : It → Hp → Prop) : Prop := match r with
  | .ok d hs => ∃ xs, d.iter = some xs ∧ ∀ J A S la' H', Step la H la' H' → LocOk K la' hs H' → JOk K J xs A S → S la' H' → (∀ a ∈ A, (∃ vs, H' a = some (.lst vs)) ∧ a ∉ la' ∧ (b = false → H a = none)) → Q J H'
  | .exc x hs => ∀ c dd la' H', Step la H la' H' → LocOk K la' hs H' → ExR G x c dd H' → W c dd σ H'
  | .err => False
def RdI (T : Tbl) (cal : Nat → List D → Hs → R) (G : GI) (K : PySem.W.Frag) (W : L2.WX) (m : E) : TI := fun σ H Q => ∃ la hs env, EnvOk K la H env σ ∧ LocOk K la hs H ∧ ThenI K G W σ la H (isBE m) (ev T cal m false env hs) Q
section
variable {K : PySem.W.Frag} {la : List Addr} {H H1 : Hp}
theorem Same.kp {H H' : Hp} (s : Same H H') : Kp H H' := fun b => ⟨fun _ e => s b _ e, fun _ _ e => s b _ e⟩
theorem jok_tup {a : Addr} {xs : List D} {vs : List V} (hz : xs.length ≤ sizeLine) : JOk K (Itt K a) xs [] fun la H => SqT K H a vs ∧ RepL K la H xs vs where
  stay := fun la H la' H' ⟨q, r⟩ kp pr _ => ⟨SqT.kp kp q, RepL.kp kp pr _ _ r⟩
  go := fun i la H ⟨q, r⟩ hi => ⟨vs, vs[i]'(by rw [← r.len]; exact hi), q, by simp [show i < vs.length by rw [← r.len]; exact hi]⟩
  stop := fun i la H ⟨q, r⟩ hi => ⟨vs, q, by rw [← r.len]; exact hi⟩
  yld := fun i la H v H' d ⟨q, r⟩ hd hy => by
    obtain ⟨rfl, hy⟩ := hy
    obtain ⟨w, hw, rw'⟩ := r.get hd
    have := hy vs q
    rw [hw] at this; cases this
    exact ⟨Same.refl _, rw'⟩
  len := hz
theorem jok_frz {a : Addr} {xs : List D} {vs : List V} {o : Obj} (hz : xs.length ≤ sizeLine) : JOk K (Itl K a) xs [] fun la H => H a = some (.frz o (.lst vs)) ∧ RepL K la H xs vs where
  stay := fun la H la' H' ⟨q, r⟩ kp pr _ => ⟨(kp a).2 _ _ q, RepL.kp kp pr _ _ r⟩
  go := fun i la H ⟨q, r⟩ hi => ⟨vs, vs[i]'(by rw [← r.len]; exact hi), .inl (.inr ⟨o, q⟩), by simp [show i < vs.length by rw [← r.len]; exact hi]⟩
  stop := fun i la H ⟨q, r⟩ hi => ⟨vs, .inl (.inr ⟨o, q⟩), by rw [← r.len]; exact hi⟩
  yld := fun i la H v H' d ⟨q, r⟩ hd hy => by
    obtain ⟨rfl, hy⟩ := hy
    obtain ⟨w, hw, rw'⟩ := r.get hd
    have := hy vs (.inl (.inr ⟨o, q⟩))
    rw [hw] at this; cases this
    exact ⟨Same.refl _, rw'⟩
  len := hz
theorem jok_own {a : Addr} {xs : List D} {vs : List V} (hz : xs.length ≤ sizeLine) : JOk K (Itl K a) xs [a] fun la H => H a = some (.lst vs) ∧ RepL K la H xs vs where
  stay := fun la H la' H' ⟨q, r⟩ kp pr ha => ⟨ha a (by simp) _ q, RepL.kp kp pr _ _ r⟩
  go := fun i la H ⟨q, r⟩ hi => ⟨vs, vs[i]'(by rw [← r.len]; exact hi), .of q, by simp [show i < vs.length by rw [← r.len]; exact hi]⟩
  stop := fun i la H ⟨q, r⟩ hi => ⟨vs, .of q, by rw [← r.len]; exact hi⟩
  yld := fun i la H v H' d ⟨q, r⟩ hd hy => by
    obtain ⟨rfl, hy⟩ := hy
    obtain ⟨w, hw, rw'⟩ := r.get hd
    have := hy vs (.of q)
    rw [hw] at this; cases this
    exact ⟨Same.refl _, rw'⟩
  len := hz
theorem rng_len (lo hi : Int) : (rng lo hi).length = (hi - lo).toNat := by unfold rng; simp
theorem rng_get (lo hi : Int) (i : Nat) (h : i < (hi - lo).toNat) : (rng lo hi)[i]? = some (.int (lo + i)) := by
  unfold rng; simp [h]
theorem jok_rng {lo hi : Int} (hz : (hi - lo).toNat ≤ sizeLine) : JOk K (Itr lo (hi - lo).toNat) (rng lo hi) [] fun _ _ => True where
  stay := fun _ _ _ _ _ _ _ _ => trivial
  go := fun i la H _ hi => by rw [rng_len] at hi; exact hi
  stop := fun i la H _ hi => by rw [rng_len] at hi; exact hi
  yld := fun i la H v H' d _ hd hy => by
    obtain ⟨rfl, rfl⟩ := hy
    have hi := (List.getElem?_eq_some_iff.mp hd).1
    rw [rng_len] at hi
    rw [rng_get _ _ _ hi] at hd
    cases hd
    exact ⟨Same.refl _, by rw [Rep]⟩
  len := by rw [rng_len]; exact hz
end
section
variable {T : Tbl} {cal : Nat → List D → Hs → R} {G : GI} {k : Nat} {X : Cx} {W : L2.WX} {m l : E} {e tg : PySem.Expr} {es : List PySem.Expr} {pos : Pos}
theorem PI.mono {t t' : TI} (h : PI X tg e t) (i : ∀ σ H R, t' σ H R → t σ H R) : PI X tg e t' := ⟨fun pins s σ H R I hq => h.run pins s σ H R I (i σ H R hq)⟩
/-- a value that is walked -/
theorem i_val (hm : PE X e (RdE T cal G X.K W m)) : PI X tg e (RdI T cal G X.K W m) := by
  refine ⟨fun pins s σ H R I h => ?_⟩
  obtain ⟨la, hs, env, eo, lo, t⟩ := h
  refine thn (hm.run pins s σ H (fun v H1 => ∃ d xs la1 hs1, d.iter = some xs ∧ Step la H la1 H1 ∧ LocOk X.K la1 hs1 H1 ∧ RepB X.K (isBE m) la1 H H1 d v ∧
      ∀ J A S la' H', Step la1 H1 la' H' → LocOk X.K la' hs1 H' → JOk X.K J xs A S → S la' H' → (∀ a ∈ A, (∃ vs, H' a = some (.lst vs)) ∧ a ∉ la' ∧ (isBE m = false → H a = none)) → R J H') I
    ⟨la, hs, env, eo, lo, ?_⟩) fun v s1 ⟨x, H1, I1, r1, d, xs, la1, hs1, hd, st, lo1, rb, q⟩ => ?_
  · cases he : ev T cal m false env hs with
    | err => rw [he] at t; exact t
    | exc x h1 => rw [he] at t; exact t
    | ok d h1 =>
      rw [he] at t
      obtain ⟨xs, hd, q⟩ := t
      exact fun v la1 H1 s1 lo1 rb => ⟨d, xs, la1, h1, hd, s1, lo1, rb, fun J A S la' H' s2 => q J A S la' H' (s1.trans s2)⟩
  · cases d <;> try (cases hd; done)
    case tup ds =>
      cases hd
      have r := RepS.rep rb.1 rfl
      rw [Rep] at r
      obtain ⟨a, vs, rfl, hq, rl⟩ := r
      cases r1
      obtain ⟨its, rv, p, hz⟩ := I1.tuple hq
      refine wpAny_pyIter_tuple (show s1.heap.IsTuple a its.toArray from p) ?_
      refine ⟨s1.heap.objs.size, [s1.heap.objs.size], _, _, H1, rfl, I1.kept (t' := s1.toks) fun b o e => Heap.get?_push_of_some _ e, turn_tuple a _, ⟨_, Heap.get?_push_size _ rfl, rfl, rfl⟩, fun b hb => ?_, ?_⟩
      · have e : b = s1.heap.objs.size := by simpa using hb
        subst e
        exact I1.fpOk (Nat.le_refl _) (I1.hok.fresh (Nat.le_refl _))
      · exact q _ [] _ la1 H1 .refl lo1 (jok_tup (by rw [rl.len]; exact hz)) ⟨hq, rl⟩ fun a h => by cases h
    case lst ds =>
      cases hd
      have r := RepS.rep rb.1 rfl
      rw [Rep] at r
      obtain ⟨a, vs, o, rfl, hq, rl⟩ := r
      cases r1
      obtain ⟨its, rv, p, hz⟩ := I1.list (.inl (.inr ⟨o, hq⟩))
      refine wpAny_pyIter_list p.isList ?_
      refine ⟨s1.heap.objs.size, [s1.heap.objs.size], _, _, H1, rfl, I1.kept (t' := s1.toks) fun b o e => Heap.get?_push_of_some _ e, turn_list a _, ⟨_, Heap.get?_push_size _ rfl, rfl, rfl⟩, fun b hb => ?_, ?_⟩
      · have e : b = s1.heap.objs.size := by simpa using hb
        subst e
        exact I1.fpOk (Nat.le_refl _) (I1.hok.fresh (Nat.le_refl _))
      · exact q _ [] _ la1 H1 .refl lo1 (jok_frz (by rw [rl.len]; exact hz)) ⟨hq, rl⟩ fun a h => by cases h
    case own ds =>
      cases hd
      obtain ⟨a, rfl, vs, hq, rl, hn⟩ := rb.1
      cases r1
      obtain ⟨its, rv, p, hz⟩ := I1.list (.of hq)
      refine wpAny_pyIter_list p.isList ?_
      refine ⟨s1.heap.objs.size, [s1.heap.objs.size], _, _, H1, rfl, I1.kept (t' := s1.toks) fun b o e => Heap.get?_push_of_some _ e, turn_list a _, ⟨_, Heap.get?_push_size _ rfl, rfl, rfl⟩, fun b hb => ?_, ?_⟩
      · have e : b = s1.heap.objs.size := by simpa using hb
        subst e
        exact I1.fpOk (Nat.le_refl _) (I1.hok.fresh (Nat.le_refl _))
      · refine q _ [a] _ la1 H1 .refl lo1 (jok_own (by rw [rl.len]; exact hz)) ⟨hq, rl⟩ fun b h => ?_
        have : b = a := by simpa using h
        subst this
        exact ⟨⟨vs, hq⟩, hn, fun hb => rb.2 hb _ rfl rfl⟩
    case dct => have r := RepS.rep rb.1 rfl; rw [Rep] at r; exact r.elim
    case odc => exact rb.1.elim
/-- .. the owned lists locked -/
def ThenIL (K : PySem.W.Frag) (G : GI) (W : L2.WX) (σ : L2.St) (la : List Addr) (H : Hp) (r : R) (Q : It → Hp → Prop) : Prop := match r with
  | .ok d hs => ∃ xs, d.iter = some xs ∧ ∀ J S la' H', Step la H la' H' → LocOk K la' hs H' → JOk K J xs [] S → S la' H' → Q J H'
  | .exc x hs => ∀ c dd la' H', Step la H la' H' → LocOk K la' hs H' → ExR G x c dd H' → W c dd σ H'
  | .err => False
def RdIL (T : Tbl) (cal : Nat → List D → Hs → R) (G : GI) (K : PySem.W.Frag) (W : L2.WX) (m : E) : TI := fun σ H Q => ∃ la hs env, EnvOk K la H env σ ∧ LocOk K la hs H ∧ ThenIL K G W σ la H (ev T cal m false env hs) Q
theorem RdI.il {K : PySem.W.Frag} {σ : L2.St} {H : Hp} {Q : It → Hp → Prop} (h : RdI T cal G K W m σ H Q) : RdIL T cal G K W m σ H Q := by
  obtain ⟨la, hs, env, eo, lo, t⟩ := h
  refine ⟨la, hs, env, eo, lo, ?_⟩
  revert t
  cases ev T cal m false env hs with
  | ok d h1 => exact fun ⟨xs, hd, q⟩ => ⟨xs, hd, fun J S la' H' s l j hS => q J [] S la' H' s l j hS fun a h => by cases h⟩
  | exc x h1 => exact id
  | err => exact id
/-- a value that is walked, locked if it is a new list -/
theorem i_valL (hb : isBE m = false) (hm : PE X e (RdE T cal G X.K W m)) : PI X tg e (RdIL T cal G X.K W m) := by
  refine ⟨fun pins s σ H R I h => ?_⟩
  obtain ⟨la, hs, env, eo, lo, t⟩ := h
  refine thn ((PE.lock hm).run pins s σ H (fun v H1 => ∃ (d : D) (xs : List D) (la1 : List Addr) (hs1 : Hs), d.iter = some xs ∧ LocOk X.K la1 hs1 H1 ∧ Rep X.K la1 H1 d.frz v ∧
      ∀ J S la' H', Step la1 H1 la' H' → LocOk X.K la' hs1 H' → JOk X.K J xs [] S → S la' H' → R J H') I
    ⟨la, hs, env, eo, lo, ?_⟩) fun v s1 ⟨x, H1, I1, r1, d, xs, la1, hs1, hd, lo1, rb, q⟩ => ?_
  · rw [hb]
    cases he : ev T cal m false env hs with
    | err => rw [he] at t; exact t
    | exc x h1 => rw [he] at t; exact t
    | ok d h1 =>
      rw [he] at t
      obtain ⟨xs, hd, q⟩ := t
      refine Then.locked (r := .ok d h1) (f := fun d h => .ok d h) (Q := fun _ _ => True) (b := false) (fun _ _ _ _ _ _ => trivial) fun d hs4 w la4 H4 er s4 lo4 r4 t4 => ?_
      cases er
      exact ⟨d, xs, la4, h1, hd, lo4, r4, fun J S la' H' s2 => q J S la' H' (s4.trans s2)⟩
  · have go : ∀ ds, d.frz = .lst ds → xs = ds → wpAny (model X.prog X.w) X.A (pyIter v) (PIE X pins σ tg R) X.xe s1 := fun ds hf hx => by
      subst hx
      rw [hf, Rep] at rb
      obtain ⟨a, vs, o, rfl, hq, rl⟩ := rb
      cases r1
      obtain ⟨its, rv, p, hz⟩ := I1.list (.inl (.inr ⟨o, hq⟩))
      refine wpAny_pyIter_list p.isList ?_
      refine ⟨s1.heap.objs.size, [s1.heap.objs.size], _, _, H1, rfl, I1.kept (t' := s1.toks) fun b o e => Heap.get?_push_of_some _ e, turn_list a _, ⟨_, Heap.get?_push_size _ rfl, rfl, rfl⟩, fun b hb => ?_, ?_⟩
      · have e : b = s1.heap.objs.size := by simpa using hb
        subst e
        exact I1.fpOk (Nat.le_refl _) (I1.hok.fresh (Nat.le_refl _))
      · exact q _ _ la1 H1 .refl lo1 (jok_frz (by rw [rl.len]; exact hz)) ⟨hq, rl⟩
    cases d <;> try (cases hd; done)
    case tup ds =>
      cases hd
      have r : Rep X.K la1 H1 (.tup xs) x := rb
      rw [Rep] at r
      obtain ⟨a, vs, rfl, hq, rl⟩ := r
      cases r1
      obtain ⟨its, rv, p, hz⟩ := I1.tuple hq
      refine wpAny_pyIter_tuple (show s1.heap.IsTuple a its.toArray from p) ?_
      refine ⟨s1.heap.objs.size, [s1.heap.objs.size], _, _, H1, rfl, I1.kept (t' := s1.toks) fun b o e => Heap.get?_push_of_some _ e, turn_tuple a _, ⟨_, Heap.get?_push_size _ rfl, rfl, rfl⟩, fun b hb => ?_, ?_⟩
      · have e : b = s1.heap.objs.size := by simpa using hb
        subst e
        exact I1.fpOk (Nat.le_refl _) (I1.hok.fresh (Nat.le_refl _))
      · exact q _ _ la1 H1 .refl lo1 (jok_tup (by rw [rl.len]; exact hz)) ⟨hq, rl⟩
    case lst ds => cases hd; exact go _ rfl rfl
    case own ds => cases hd; exact go _ rfl rfl
    case dct => have r := rb; simp only [D.frz] at r; rw [Rep] at r; exact r.elim
    case odc => have r := rb; simp only [D.frz] at r; rw [Rep] at r; exact r.elim
/-- a range that is walked -/
theorem i_rngL {p : Pos} (g : Good T cal G k X W) (h2 : glB X.env.scope "range" = true) (hc : (chk X.N G l).lst X.env.scope es = true) (hl : (es.length == 1 || es.length == 2) = true) (ha : PA X es (RdA T cal G X.K W l)) :
    PI X tg (.Call (.Name "range" p) es [] pos) (RdIL T cal G X.K W (.bi .range l)) := by
  have st := lst_star hc
  have go : ∀ {σ : L2.St} {H : Hp} {Rr : It → Hp → Prop} {n : Nat}, lenE l = n → RdIL T cal G X.K W (.bi .range l) σ H Rr → RdA T cal G X.K W l σ H fun vs H1 => ∃ ds la1 hs1, Step la1 H1 la1 H1 ∧ ds.length = n ∧ Paired (fun d v => RepS X.K la1 H1 d v) ds vs ∧ ∃ r, opBi .range ds hs1 = some r ∧
      ∃ xs, r.iter = some xs ∧ ∀ J, JOk X.K J xs [] (fun _ _ => True) → Rr J H1 := fun {σ H Rr n} hn h => by
    obtain ⟨la, hs, env, eo, lo, t⟩ := h
    refine ⟨la, hs, env, eo, lo, ?_⟩
    have ee : ev T cal (.bi .range l) false env hs = (ev T cal l false env hs).bind fun x h => (R.ofO h (opBi .range x.items h)).bind fun x h => .ok x h := rfl
    rw [ee] at t
    cases he : ev T cal l false env hs with
    | err => rw [he] at t; exact t
    | exc x h1 => rw [he] at t; exact t
    | ok d h1 =>
      rw [he] at t
      obtain ⟨ds, rfl, hd⟩ := ev_lst l env hs d h1 ⟨_, _, _, _, hc⟩ he
      intro vs la1 H1 s1 lo1 rb
      cases ho : opBi .range ds h1 with
      | none =>
        have t' : ThenIL X.K G W σ la H ((R.ofO h1 (opBi .range ds h1)).bind fun x h => .ok x h) Rr := t
        rw [ho] at t'; exact t'.elim
      | some r =>
        have t' : ThenIL X.K G W σ la H ((R.ofO h1 (opBi .range ds h1)).bind fun x h => .ok x h) Rr := t
        rw [ho] at t'
        obtain ⟨xs, hx, q⟩ := t'
        exact ⟨ds, la1, h1, .refl, by rw [hd, hn], Paired.mapP rb fun _ _ q => q.1, r, ho, xs, hx, fun J j => q J _ la1 H1 s1 lo1 j trivial⟩
  have hlen : es.length = lenE l := by
    have : ∀ {m : E} {es : List PySem.Expr}, (chk X.N G m).lst X.env.scope es = true → es.length = lenE m := by
      intro m
      induction m with
      | nil => intro es h; cases es with | nil => rfl | cons => cases h
      | cons a r ih1 ih2 =>
        intro es h
        cases es with
        | nil => cases h
        | cons e es =>
          have h' : (noStar e && (chk X.N G a).val X.env.scope e && (chk X.N G r).lst X.env.scope es) = true := h
          rw [Bool.and_eq_true] at h'
          rw [List.length_cons, ih2 h'.2, lenE]
      | bi f l _ => intro es hc; exact (chk_bi hc).elim
      | lc tg it cd el _ _ _ _ => intro es hc; exact (chk_lc hc).elim
      | _ => intro es hc; cases hc
    exact this hc
  match es, hl, ha, st, hlen with
  | [a], _, ha, st, hlen =>
    rw [List.all_cons, Bool.and_eq_true] at st
    refine PI.mono (pi_range1 (gl_of h2) (g.blt _ (by decide)) ha (star_cons (es := []) st.1)) fun σ H R h => ?_
    obtain ⟨la, hs, env, eo, lo, t⟩ := go (n := 1) hlen.symm h
    refine ⟨la, hs, env, eo, lo, ?_⟩
    cases he : ev T cal l false env hs with
    | err => rw [he] at t; exact t
    | exc x h1 => rw [he] at t; exact t
    | ok d h1 =>
      rw [he] at t
      intro vs la1 H1 s1 lo1 rb
      obtain ⟨ds, la2, hs2, s2, hd, pr, r, ho, xs, hx, q⟩ := t vs la1 H1 s1 lo1 rb
      match ds, hd with
      | [d1], hd1 =>
        clear hd1
        obtain ⟨v, rfl, r1⟩ := pairs1 pr
        cases d1 <;> try (cases ho; done)
        rename_i j
        have ho' : (if decide (-4611686018427387904 ≤ j) && decide (j ≤ 16777216) then some (D.lst (rng 0 j)) else none) = some r := ho
        split at ho'
        · rename_i hb
          simp only [Bool.and_eq_true, decide_eq_true_eq] at hb
          cases ho'
          cases hx
          refine ⟨j, by rw [r1.int], by omega, by omega, ?_⟩
          have := q (Itr 0 (j - 0).toNat) (jok_rng (by rw [sizeLine_eq]; omega))
          rw [Int.sub_zero] at this
          exact this
        · cases ho'
  | [a, b], _, ha, st, hlen =>
    simp only [List.all_cons, Bool.and_eq_true] at st
    refine PI.mono (pi_range2 (gl_of h2) (g.blt _ (by decide)) ha (by rw [star_cons st.1, star_cons (es := []) st.2.1]; rfl) (star_cons (es := []) st.2.1)) fun σ H R h => ?_
    obtain ⟨la, hs, env, eo, lo, t⟩ := go (n := 2) hlen.symm h
    refine ⟨la, hs, env, eo, lo, ?_⟩
    cases he : ev T cal l false env hs with
    | err => rw [he] at t; exact t
    | exc x h1 => rw [he] at t; exact t
    | ok d h1 =>
      rw [he] at t
      intro vs la1 H1 s1 lo1 rb
      obtain ⟨ds, la2, hs2, s2, hd, pr, r, ho, xs, hx, q⟩ := t vs la1 H1 s1 lo1 rb
      match ds, hd with
      | [d1, d2], hd1 =>
        clear hd1
        obtain ⟨v, w, rfl, r1, r2⟩ := pairs2 pr
        cases d1 <;> try (cases ho; done)
        cases d2 <;> try (cases ho; done)
        rename_i i j
        have ho' : (if decide (-4611686018427387904 ≤ i) && decide (i < 4611686018427387904) && decide (-4611686018427387904 ≤ j) && decide (j < 4611686018427387904) && decide (j - i ≤ 16777216) then some (D.lst (rng i j)) else none) = some r := ho
        split at ho'
        · rename_i hb
          simp only [Bool.and_eq_true, decide_eq_true_eq] at hb
          cases ho'
          cases hx
          exact ⟨i, j, by rw [r1.int, r2.int], by omega, q _ (jok_rng (by rw [sizeLine_eq]; omega))⟩
        · cases ho'
/-! ### zip, enumerate -/
theorem zipD_len : ∀ (xs ys : List D), (zipD xs ys).length = min xs.length ys.length
  | [], _ => by simp [zipD]
  | _ :: _, [] => by simp [zipD]
  | x :: xs, y :: ys => by simp only [zipD, List.length_cons, zipD_len xs ys]; omega
theorem zipD_get : ∀ {xs ys : List D} {i : Nat} {d : D}, (zipD xs ys)[i]? = some d → ∃ x y, d = .tup [x, y] ∧ xs[i]? = some x ∧ ys[i]? = some y
  | [], _, i, d, h => by simp [zipD] at h
  | _ :: _, [], i, d, h => by simp [zipD] at h
  | x :: xs, y :: ys, 0, d, h => by
    simp [zipD] at h
    exact ⟨x, y, h.symm, rfl, rfl⟩
  | x :: xs, y :: ys, i + 1, d, h => by
    obtain ⟨a, b, q1, q2, q3⟩ := zipD_get (xs := xs) (ys := ys) (i := i) (d := d) (by simpa [zipD] using h)
    exact ⟨a, b, q1, by simpa using q2, by simpa using q3⟩
theorem enumD_len : ∀ (k : Int) (xs : List D), (enumD k xs).length = xs.length
  | _, [] => rfl
  | k, x :: xs => by simp [enumD, enumD_len (k + 1) xs]
theorem enumD_get : ∀ {k : Int} {xs : List D} {i : Nat} {d : D}, (enumD k xs)[i]? = some d → ∃ x, d = .tup [.int (k + i), x] ∧ xs[i]? = some x
  | _, [], i, d, h => by simp [enumD] at h
  | k, x :: xs, 0, d, h => by
    simp [enumD] at h
    exact ⟨x, by rw [← h]; simp, rfl⟩
  | k, x :: xs, i + 1, d, h => by
    obtain ⟨a, q1, q2⟩ := enumD_get (k := k + 1) (xs := xs) (i := i) (d := d) (by simpa [enumD] using h)
    exact ⟨a, by rw [q1]; congr 3; omega, by simpa using q2⟩
section
variable {K : PySem.W.Frag}
theorem rep_pair {la : List Addr} {H : Hp} {x y : D} {v w : V} {p : Addr} (r1 : Rep K la H x v) (r2 : Rep K la H y w) (hp : H p = none) : Rep K la (upd H p (.tup [v, w])) (.tup [x, y]) (.ref p) := by
  have kp : Kp H (upd H p (.tup [v, w])) := fun b => ⟨fun xs e => by rw [upd_ne (ne_of_none e hp)]; exact e, fun o u e => by rw [upd_ne (ne_of_none e hp)]; exact e⟩
  rw [Rep]
  refine ⟨p, [v, w], rfl, .inl (.inl upd_same), ?_⟩
  simp only [RepL]
  exact ⟨v, [w], rfl, Rep.kp kp (List.prefix_refl _) _ _ r1, w, [], rfl, Rep.kp kp (List.prefix_refl _) _ _ r2, rfl⟩
theorem jok_zipT {a b : Addr} {xs ys : List D} {vs ws : List V} (hz : xs.length ≤ sizeLine) : JOk K (RZ.ItzT K a b) (zipD xs ys) [] fun la H => SqT K H a vs ∧ RepL K la H xs vs ∧ SqT K H b ws ∧ RepL K la H ys ws where
  stay := fun la H la' H' ⟨q, r, q2, r2⟩ kp pr _ => ⟨SqT.kp kp q, RepL.kp kp pr _ _ r, SqT.kp kp q2, RepL.kp kp pr _ _ r2⟩
  go := fun i la H ⟨q, r, q2, r2⟩ hi => by
    rw [zipD_len] at hi
    have l1 := r.len
    have l2 := r2.len
    exact ⟨vs, ws, vs[i]'(by omega), ws[i]'(by omega), q, q2, by simp [show i < vs.length by omega], by simp [show i < ws.length by omega]⟩
  stop := fun i la H ⟨q, r, q2, r2⟩ hi => by
    rw [zipD_len] at hi
    have l1 := r.len
    have l2 := r2.len
    exact ⟨vs, ws, q, q2, by omega⟩
  yld := fun i la H v H' d ⟨q, r, q2, r2⟩ hd hy => by
    obtain ⟨x, y, rfl, h1, h2⟩ := zipD_get hd
    obtain ⟨p, vx, vy, rfl, hp, rfl, f1, f2⟩ := hy
    obtain ⟨w1, g1, r3⟩ := r.get h1
    obtain ⟨w2, g2, r4⟩ := r2.get h2
    have e1 := f1 vs q
    have e2 := f2 ws q2
    rw [g1] at e1; cases e1
    rw [g2] at e2; cases e2
    exact ⟨fun c o e => by rw [upd_ne (ne_of_none e hp)]; exact e, rep_pair r3 r4 hp⟩
  len := by rw [zipD_len]; omega
theorem jok_zipL {a b : Addr} {xs ys : List D} {vs ws : List V} {o o2 : Obj} (hz : xs.length ≤ sizeLine) : JOk K (Itz K a b) (zipD xs ys) [] fun la H => H a = some (.frz o (.lst vs)) ∧ RepL K la H xs vs ∧ H b = some (.frz o2 (.lst ws)) ∧ RepL K la H ys ws where
  stay := fun la H la' H' ⟨q, r, q2, r2⟩ kp pr _ => ⟨(kp a).2 _ _ q, RepL.kp kp pr _ _ r, (kp b).2 _ _ q2, RepL.kp kp pr _ _ r2⟩
  go := fun i la H ⟨q, r, q2, r2⟩ hi => by
    rw [zipD_len] at hi
    have l1 := r.len
    have l2 := r2.len
    exact ⟨vs, ws, vs[i]'(by omega), ws[i]'(by omega), .inl (.inr ⟨_, q⟩), .inl (.inr ⟨_, q2⟩), by simp [show i < vs.length by omega], by simp [show i < ws.length by omega]⟩
  stop := fun i la H ⟨q, r, q2, r2⟩ hi => by
    rw [zipD_len] at hi
    have l1 := r.len
    have l2 := r2.len
    exact ⟨vs, ws, .inl (.inr ⟨_, q⟩), .inl (.inr ⟨_, q2⟩), by omega⟩
  yld := fun i la H v H' d ⟨q, r, q2, r2⟩ hd hy => by
    obtain ⟨x, y, rfl, h1, h2⟩ := zipD_get hd
    obtain ⟨p, vx, vy, rfl, hp, rfl, f1, f2⟩ := hy
    obtain ⟨w1, g1, r3⟩ := r.get h1
    obtain ⟨w2, g2, r4⟩ := r2.get h2
    have e1 := f1 vs (.inl (.inr ⟨_, q⟩))
    have e2 := f2 ws (.inl (.inr ⟨_, q2⟩))
    rw [g1] at e1; cases e1
    rw [g2] at e2; cases e2
    exact ⟨fun c o e => by rw [upd_ne (ne_of_none e hp)]; exact e, rep_pair r3 r4 hp⟩
  len := by rw [zipD_len]; omega
theorem jok_enum {a : Addr} {xs : List D} {vs : List V} {o : Obj} (hz : xs.length ≤ sizeLine) : JOk K (Ite K a) (enumD 0 xs) [] fun la H => H a = some (.frz o (.lst vs)) ∧ RepL K la H xs vs where
  stay := fun la H la' H' ⟨q, r⟩ kp pr _ => ⟨(kp a).2 _ _ q, RepL.kp kp pr _ _ r⟩
  go := fun i la H ⟨q, r⟩ hi => by
    rw [enumD_len] at hi
    exact ⟨vs, vs[i]'(by rw [← r.len]; exact hi), .inl (.inr ⟨_, q⟩), by simp [show i < vs.length by rw [← r.len]; exact hi]⟩
  stop := fun i la H ⟨q, r⟩ hi => ⟨vs, .inl (.inr ⟨_, q⟩), by rw [enumD_len] at hi; rw [← r.len]; exact hi⟩
  yld := fun i la H v H' d ⟨q, r⟩ hd hy => by
    obtain ⟨x, rfl, h1⟩ := enumD_get hd
    obtain ⟨p, vx, rfl, hp, rfl, f1⟩ := hy
    obtain ⟨w1, g1, r3⟩ := r.get h1
    have e1 := f1 vs (.inl (.inr ⟨_, q⟩))
    rw [g1] at e1; cases e1
    exact ⟨fun c o e => by rw [upd_ne (ne_of_none e hp)]; exact e, rep_pair (by rw [Rep, Int.zero_add]) r3 hp⟩
  len := by rw [enumD_len]; exact hz
end
/-- no list, no tuple is longer than the line -/
def Sz (K : PySem.W.Frag) (H : Hp) : Prop := ∀ a xs, (SqT K H a xs ∨ SqL K H a xs) → xs.length ≤ sizeLine
theorem PA.szs {t : TA} (h : PA X es t) : PA X es fun σ H Q => t σ H fun vs H1 => Sz X.K H1 → Q vs H1 := by
  refine ⟨fun pos pins s σ H Q I hq => ?_⟩
  refine thn (h.run pos pins s σ H _ I hq) fun us s1 ⟨vs, H1, I1, r1, q⟩ => ⟨vs, H1, I1, r1, q fun a xs z => ?_⟩
  rcases z with z | z
  · obtain ⟨_, _, _, q⟩ := I1.tuple z; exact q
  · obtain ⟨_, _, _, q⟩ := I1.list z; exact q
theorem lst_len (hc : (chk X.N G l).lst X.env.scope es = true) : es.length = lenE l := by
    have : ∀ {m : E} {es : List PySem.Expr}, (chk X.N G m).lst X.env.scope es = true → es.length = lenE m := by
      intro m
      induction m with
      | nil => intro es h; cases es with | nil => rfl | cons => cases h
      | cons a r ih1 ih2 =>
        intro es h
        cases es with
        | nil => cases h
        | cons e es =>
          have h' : (noStar e && (chk X.N G a).val X.env.scope e && (chk X.N G r).lst X.env.scope es) = true := h
          rw [Bool.and_eq_true] at h'
          rw [List.length_cons, ih2 h'.2, lenE]
      | bi f l _ => intro es hc; exact (chk_bi hc).elim
      | lc tg it cd el _ _ _ _ => intro es hc; exact (chk_lc hc).elim
      | _ => intro es hc; cases hc
    exact this hc
/-- the values that are walked together -/
theorem go_args {f : Bi} {n : Nat} {σ : L2.St} {H : Hp} {Rr : It → Hp → Prop} (hb : noBs l = true) (hc : (chk X.N G l).lst X.env.scope es = true) (hn : es.length = n) (h : RdIL T cal G X.K W (.bi f l) σ H Rr) :
    RdA T cal G X.K W l σ H fun vs H1 => ∃ as, (∀ a ∈ as, ∃ xs, H1 a = some (.lst xs)) ∧ ∀ H2, LockOf as H1 H2 → ∃ ds la1 hs1 r xs, ds.length = n ∧ RepL X.K la1 H2 (ds.map D.frz) vs ∧ LocOk X.K la1 hs1 H2 ∧ opBi f ds hs1 = some r ∧ r.iter = some xs ∧
      ∀ J S, JOk X.K J xs [] S → S la1 H2 → Rr J H2 := by
  obtain ⟨la, hs, env, eo, lo, t⟩ := h
  refine ⟨la, hs, env, eo, lo, ?_⟩
  rw [hb]
  have ee : ev T cal (.bi f l) false env hs = (ev T cal l false env hs).bind fun x h => (R.ofO h (opBi f x.items h)).bind fun x h => .ok x h := rfl
  rw [ee] at t
  cases he : ev T cal l false env hs with
  | err => rw [he] at t; exact t
  | exc x h1 => rw [he] at t; exact t
  | ok d h1 =>
    rw [he] at t
    obtain ⟨ds, rfl, hd⟩ := ev_lst l env hs d h1 ⟨_, _, _, _, hc⟩ he
    have t' : ThenIL X.K G W σ la H ((R.ofO h1 (opBi f ds h1)).bind fun x h => .ok x h) Rr := t
    cases ho : opBi f ds h1 with
    | none => rw [ho] at t'; exact t'.elim
    | some r =>
      rw [ho] at t'
      obtain ⟨xs, hx, q⟩ := t'
      refine ThenL.locked (r := .ok (.tup ds) h1) (f := fun d h => .ok d h) (Q := fun _ _ => True) (b := false) (fun _ _ _ _ _ _ => trivial) fun d' hs4 vs la4 H4 s4 lo4 rl er t4 => ?_
      cases er
      exact ⟨ds, la4, h1, r, xs, by rw [hd, ← lst_len hc, hn], rl, lo4, ho, hx, fun J S j hS => q J S la4 H4 s4 lo4 j hS⟩
theorem i_zipL {p tp : Pos} {ts : List PySem.Expr} {tk : Nat} {x y : PySem.Expr} (g : Good T cal G k X W) (h2 : glB X.env.scope "zip" = true) (hb : noBs l = true) (hc : (chk X.N G l).lst X.env.scope [x, y] = true) (ha : PA X [x, y] (RdA T cal G X.K W l)) :
    PI X (.Tuple ts tk tp) (.Call (.Name "zip" p) [x, y] [] pos) (RdIL T cal G X.K W (.bi .zip l)) := by
  have st := lst_star hc
  simp only [List.all_cons, Bool.and_eq_true] at st
  refine PI.mono (RZ.pi_zipA (gl_of h2) (g.blt _ (by decide)) (PA.szs (PA.lock ha)) (star_cons st.1) (back_false (by simp [st.2.1]))) fun σ H R h => ?_
  obtain ⟨la, hs, env, eo, lo, t⟩ := go_args hb hc rfl h
  refine ⟨la, hs, env, eo, lo, ?_⟩
  revert t
  cases ev T cal l false env hs with
  | err => exact id
  | exc => exact id
  | ok d h1 =>
    refine fun t vs la1 H1 s1 lo1 rb => ?_
    obtain ⟨as, q1, q2⟩ := t vs la1 H1 s1 lo1 rb
    refine ⟨as, q1, fun H2 lk sz => ?_⟩
    obtain ⟨ds, la2, hs2, r, xs, hd, rl, lo2, ho, hx, q⟩ := q2 H2 lk
    match ds, hd with
    | [d1, d2], _ =>
      simp only [List.map_cons, List.map_nil, RepL] at rl
      obtain ⟨v, _, rfl, r1, w, _, rfl, r2, rfl⟩ := rl
      have ho' : (match d1.frz, d2.frz with
        | .tup xs, .tup ys => some (D.lst (zipD xs ys))
        | .lst xs, .lst ys => some (.lst (zipD xs ys))
        | _, _ => none) = some r := ho
      cases e1 : d1.frz <;> rw [e1] at ho' <;> try (cases ho'; done)
      · cases e2 : d2.frz <;> rw [e2] at ho' <;> try (cases ho'; done)
        cases ho'; cases hx
        rw [e1, Rep] at r1
        rw [e2, Rep] at r2
        obtain ⟨a, vs, rfl, s1, rl1⟩ := r1
        obtain ⟨b, ws, rfl, s2, rl2⟩ := r2
        exact ⟨a, b, vs, ws, rfl, .inr ⟨s1, s2, q _ _ (jok_zipT (by rw [rl1.len]; exact sz a vs (.inl s1))) ⟨s1, rl1, s2, rl2⟩⟩⟩
      · cases e2 : d2.frz <;> rw [e2] at ho' <;> try (cases ho'; done)
        cases ho'; cases hx
        rw [e1, Rep] at r1
        rw [e2, Rep] at r2
        obtain ⟨a, vs, o1, rfl, s1, rl1⟩ := r1
        obtain ⟨b, ws, o2, rfl, s2, rl2⟩ := r2
        exact ⟨a, b, vs, ws, rfl, .inl ⟨.inl (.inr ⟨_, s1⟩), .inl (.inr ⟨_, s2⟩), q _ _ (jok_zipL (by rw [rl1.len]; exact sz a vs (.inr (.inl (.inr ⟨_, s1⟩))))) ⟨s1, rl1, s2, rl2⟩⟩⟩
theorem i_enumL {p tp : Pos} {ts : List PySem.Expr} {tk : Nat} {x : PySem.Expr} (g : Good T cal G k X W) (h2 : glB X.env.scope "enumerate" = true) (hb : noBs l = true) (hc : (chk X.N G l).lst X.env.scope [x] = true) (ha : PA X [x] (RdA T cal G X.K W l)) :
    PI X (.Tuple ts tk tp) (.Call (.Name "enumerate" p) [x] [] pos) (RdIL T cal G X.K W (.bi .enum l)) := by
  have st := lst_star hc
  simp only [List.all_cons, Bool.and_eq_true] at st
  refine PI.mono (pi_enum (gl_of h2) (g.blt _ (by decide)) (PA.szs (PA.lock ha)) (star_cons (es := []) st.1)) fun σ H R h => ?_
  obtain ⟨la, hs, env, eo, lo, t⟩ := go_args hb hc rfl h
  refine ⟨la, hs, env, eo, lo, ?_⟩
  revert t
  cases ev T cal l false env hs with
  | err => exact id
  | exc => exact id
  | ok d h1 =>
    refine fun t vs la1 H1 s1 lo1 rb => ?_
    obtain ⟨as, q1, q2⟩ := t vs la1 H1 s1 lo1 rb
    refine ⟨as, q1, fun H2 lk sz => ?_⟩
    obtain ⟨ds, la2, hs2, r, xs, hd, rl, lo2, ho, hx, q⟩ := q2 H2 lk
    match ds, hd with
    | [d1], _ =>
      simp only [List.map_cons, List.map_nil, RepL] at rl
      obtain ⟨v, _, rfl, r1, rfl⟩ := rl
      have ho' : (match d1.frz with
        | .lst xs => some (D.lst (enumD 0 xs))
        | _ => none) = some r := ho
      cases e1 : d1.frz <;> rw [e1] at ho' <;> try (cases ho'; done)
      cases ho'; cases hx
      rw [e1, Rep] at r1
      obtain ⟨a, vs, o1, rfl, s1, rl1⟩ := r1
      exact ⟨a, vs, rfl, .inl (.inr ⟨_, s1⟩), q _ _ (jok_enum (by rw [rl1.len]; exact sz a vs (.inr (.inl (.inr ⟨_, s1⟩))))) ⟨s1, rl1⟩⟩
theorem i_rng {p : Pos} (g : Good T cal G k X W) (h2 : glB X.env.scope "range" = true) (hc : (chk X.N G l).lst X.env.scope es = true) (hl : (es.length == 1 || es.length == 2) = true) (ha : PA X es (RdA T cal G X.K W l)) :
    PI X tg (.Call (.Name "range" p) es [] pos) (RdI T cal G X.K W (.bi .range l)) := PI.mono (i_rngL g h2 hc hl ha) fun _ _ _ h => h.il
end
end Z
/-! Z12: list comprehensions; all expressions -/
namespace Z
open PySem PySem.Spec PyProof.Rows L2
theorem wipe_get {σ : L2.St} {i : Nat} : ∀ {vs : List Nat}, (wipe σ vs)[i]? = if i ∈ vs then (if i < σ.length then some none else none) else σ[i]?
  | [] => by simp [wipe]
  | v :: vs => by
    unfold wipe
    by_cases hv : v = i
    · subst hv
      rw [if_pos List.mem_cons_self]
      by_cases hl : v < σ.length
      · rw [if_pos hl, List.getElem?_set_self (by rw [wipe_length]; exact hl)]
      · rw [if_neg hl, List.getElem?_eq_none (by simp [wipe_length]; omega)]
    · rw [List.getElem?_set_ne hv, wipe_get]
      have : (i ∈ v :: vs) ↔ i ∈ vs := by
        constructor
        · intro h; exact (List.mem_cons.mp h).resolve_left fun z => hv z.symm
        · exact List.mem_cons_of_mem _
      simp only [this]
theorem wipe_off {σ σ' : L2.St} {vs is : List Nat} (h : Off is (wipe σ vs) σ') (hs : ∀ i ∈ is, i ∈ vs) : wipe σ' vs = wipe σ vs := by
  have hl : σ'.length = σ.length := by rw [h.1, wipe_length]
  refine List.ext_getElem? fun i => ?_
  rw [wipe_get, wipe_get]
  by_cases hi : i ∈ vs
  · rw [if_pos hi, if_pos hi, hl]
  · rw [if_neg hi, if_neg hi, h.2 i fun z => hi (hs i z), wipe_get, if_neg hi]
section
variable {K : PySem.W.Frag} {la : List Addr} {H : Hp}
theorem wipeT_len : ∀ (m : E) (env : En), (wipeT m env).length = env.length
  | .v i, env => by simp [wipeT]
  | .tup l, env => by simp only [wipeT]; exact wipeT_len l env
  | .cons a r, env => by simp only [wipeT]; rw [wipeT_len r, wipeT_len a]
  | .nil, _ | .c _, _ | .b _, _ | .g _, _ | .bin _ _ _, _ | .neg _, _ | .cmp _ _ _, _ | .chain _ _ _ _ _, _ | .and _ _, _ | .or _ _, _ | .not _, _ | .ite _ _ _, _ | .lst _, _ | .dsp _ _, _ | .idx _ _, _ | .slc _ _ _, _ | .rev _, _
  | .bi _ _, _ | .me _ _ _, _ | .call _ _, _ | .lc _ _ _ _, _ | .dc _ _ _ _ _, _ => rfl
theorem wipeT_get : ∀ (m : E) (env : En) (i : Nat) (d : D), (wipeT m env)[i]? = some (some d) → i ∉ slots m ∧ env[i]? = some (some d)
  | .v j, env, i, d, h => by
    simp only [wipeT] at h
    by_cases hij : j = i
    · subst hij
      by_cases hl : j < env.length
      · rw [List.getElem?_set_self hl] at h; cases h
      · rw [List.getElem?_eq_none (by simpa using hl)] at h; cases h
    · rw [List.getElem?_set_ne hij] at h
      exact ⟨by simp [slots, Ne.symm hij], h⟩
  | .tup l, env, i, d, h => by simp only [wipeT] at h; exact wipeT_get l env i d h
  | .cons a r, env, i, d, h => by
    simp only [wipeT] at h
    obtain ⟨h1, h2⟩ := wipeT_get r _ i d h
    obtain ⟨h3, h4⟩ := wipeT_get a _ i d h2
    exact ⟨by simp [slots, h1, h3], h4⟩
  | .nil, _, _, _, h | .c _, _, _, _, h | .b _, _, _, _, h | .g _, _, _, _, h | .bin _ _ _, _, _, _, h | .neg _, _, _, _, h | .cmp _ _ _, _, _, _, h | .chain _ _ _ _ _, _, _, _, h | .and _ _, _, _, _, h | .or _ _, _, _, _, h | .not _, _, _, _, h
  | .ite _ _ _, _, _, _, h | .lst _, _, _, _, h | .dsp _ _, _, _, _, h | .idx _ _, _, _, _, h | .slc _ _ _, _, _, _, h | .rev _, _, _, _, h
  | .bi _ _, _, _, _, h | .me _ _ _, _, _, _, h | .call _ _, _, _, _, h | .lc _ _ _ _, _, _, _, h | .dc _ _ _ _ _, _, _, _, h => ⟨by simp [slots], h⟩
theorem EnvOk.wiped {m : E} {env : En} {σ : L2.St} {vs : List Nat} (h : EnvOk K la H env σ) (hs : ∀ i ∈ vs, i ∈ slots m) : EnvOk K la H (wipeT m env) (wipe σ vs) := by
  refine ⟨by rw [wipeT_len, wipe_length, h.len], fun i d hi => ?_, fun i j d e hij hi hj h1 h2 => ?_⟩
  · obtain ⟨n, q⟩ := wipeT_get m env i d hi
    rw [wipe_get, if_neg fun z => n (hs i z)]
    exact h.slot i d q
  · obtain ⟨n1, q1⟩ := wipeT_get m env i d hi
    obtain ⟨n2, q2⟩ := wipeT_get m env j e hj
    rw [wipe_get, wipe_get, if_neg fun z => n1 (hs i z), if_neg fun z => n2 (hs j z)]
    exact h.sep i j d e hij q1 q2 h1 h2
end
section
variable {T : Tbl} {cal : Nat → List D → Hs → R} {G : GI} {k : Nat} {X : Cx} {W : L2.WX}
/-- the turn of a comprehension -/
def elTurn (T : Tbl) (cal : Nat → List D → Hs → R) (el : E) (e1 : En) (b : D) (h : Hs) : R := match b with
  | .bl true => (ev T cal el false e1 h).bind fun y h => .ok (.tup [y.frz]) h
  | .bl false => .ok (.tup []) h
  | _ => .err
def turnLc (T : Tbl) (cal : Nat → List D → Hs → R) (tg cd el : E) (e : En) : D → Hs → R := fun x h => match asgT tg x (wipeT tg e) with
  | some e1 => (ev T cal cd true e1 h).bind (elTurn T cal el e1)
  | none => .err
theorem ev_lc {tg it cd el : E} (e : En) (h : Hs) : ev T cal (.lc tg it cd el) false e h = (ev T cal it false e h).bind fun x h => match x.iter with
    | some xs => (lcF (turnLc T cal tg cd el e) xs h []).bind fun x h => .ok x h
    | none => .err := rfl
theorem lcF_shape (turn : D → Hs → R) : ∀ (xs : List D) (h : Hs) (acc : List D), (∃ ys h', lcF turn xs h acc = .ok (.own ys) h') ∨ lcF turn xs h acc = .err
  | [], h, acc => .inl ⟨acc, h, rfl⟩
  | x :: xs, h, acc => by
    rw [lcF]
    split
    · exact lcF_shape turn xs _ _
    · exact lcF_shape turn xs _ _
    · exact .inr rfl
/-- a comprehension's parts, and that its reading follows from rd -/
def LcRead (X : Cx) (elt t i : PySem.Expr) (ifs : List PySem.Expr) (scope : Scope) (own : List (Str × Nat)) (rd : TE) : Prop :=
  ∃ (wi : TI) (g : TG) (tt : TT) (te : TE), PI X t i wi ∧ BlkOk X.N X.env.scope scope own ∧
    (∀ (s : Shared) (H : Hp) (C : Addr) (cl : List (Str × Addr)) (fp : List Addr), PG (X.blk s H scope (compEnvC scope cl C X.env) fp) t g) ∧
    (∀ (s : Shared) (H : Hp) (C : Addr) (cl : List (Str × Addr)) (fp : List Addr), PTs (X.blk s H scope (compEnvC scope cl C X.env) fp) ifs tt) ∧
    (∀ (s : Shared) (H : Hp) (C : Addr) (cl : List (Str × Addr)) (fp : List Addr), PE (X.blk s H scope (compEnvC scope cl C X.env) fp) elt te) ∧
    (∀ x, foldedSetIterable i X.env x = pure x) ∧ ∀ σ H Q, rd σ H Q → tLc wi g tt te (own.map (·.2)) σ H Q
theorem s_lc {tg it cd el : E} {elt t i : PySem.Expr} {ifs : List PySem.Expr} {scope : Scope} {own : List (Str × Nat)} (g : Good T cal G k X W) (hb : isBE el = false) (hown : ∀ i ∈ own.map (·.2), i ∈ slots tg) (hown2 : ∀ i ∈ slots tg, i ∈ own.map (·.2)) (hblk : BlkOk X.N X.env.scope scope own)
    (hi : PI X t i (RdI T cal G X.K W it)) (hset : noSet i = true)
    (hg : ∀ (s : Shared) (H : Hp) (C : Addr) (cl : List (Str × Addr)) (fp : List Addr), PG (X.blk s H scope (compEnvC scope cl C X.env) fp) t (RdG X.K tg))
    (ht : ∀ (s : Shared) (H : Hp) (C : Addr) (cl : List (Str × Addr)) (fp : List Addr), PTs (X.blk s H scope (compEnvC scope cl C X.env) fp) ifs (RdT T cal G X.K (fun _ _ _ _ => False) cd))
    (he : ∀ (s : Shared) (H : Hp) (C : Addr) (cl : List (Str × Addr)) (fp : List Addr), PE (X.blk s H scope (compEnvC scope cl C X.env) fp) elt (RdE T cal G X.K (fun _ _ _ _ => False) el)) :
    LcRead X elt t i ifs scope own (RdE T cal G X.K W (.lc tg it cd el)) := by
  refine ⟨_, _, _, _, hi, hblk, hg, ht, fun s H C cl fp => PE.lock (he s H C cl fp), (fun x => by cases i <;> first | rfl | (cases hset)), fun σ H Q ⟨la, hs, env, eo, lo, th⟩ => ⟨la, hs, env, eo, lo, ?_⟩⟩
  have th : Then X.K G W σ la H false (ev T cal (.lc tg it cd el) false env hs) Q := th
  rw [ev_lc] at th
  cases hev : ev T cal it false env hs with
  | err => rw [hev] at th; exact th
  | exc x h1 => rw [hev] at th; exact th
  | ok d hs1 =>
    rw [hev] at th
    have th : Then X.K G W σ la H false (match d.iter with | some xs => (lcF (turnLc T cal tg cd el env) xs hs1 []).bind fun x h => .ok x h | none => .err) Q := th
    cases hd : d.iter with
    | none => rw [hd] at th; exact th.elim
    | some xs =>
      rw [hd] at th
      refine ⟨xs, hd, fun J A S la1 H1 s1 lo1 jok hS hA Dd hD => ?_⟩
      have th1 := Then.rebase s1 th
      simp only at th1
      generalize hr0 : lcF (turnLc T cal tg cd el env) xs hs1 [] = r0 at th1
      have eo1 := eo.step lo s1
      -- what stands at a later heap
      have stayS : ∀ {la' : List Addr} {H' : Hp}, Step la1 H1 la' H' → S la' H' := fun {la' H'} st => jok.stay _ _ _ _ hS (st.kp lo1) st.pre fun a ha o e => st.ext a o (hA a ha).2.1 e
      let Wf : Nat → Nat → Hp → Prop := fun n m Hc => m = xs.length - n ∧ n ≤ xs.length ∧ ∃ la' hs' acc accV, Step la1 H1 la' Hc ∧ LocOk X.K la' hs' Hc ∧ Hc Dd = some (.lst accV) ∧ Dd ∉ la' ∧ RepL X.K la' Hc acc accV ∧ acc.length ≤ n ∧ lcF (turnLc T cal tg cd el env) (xs.drop n) hs' acc = r0
      refine ⟨Wf, ⟨xs.length, by simp, Nat.zero_le _, la1, hs1, [], [], .upd hD, lo1.upd hD, upd_same, ?_, by rw [RepL], Nat.zero_le _, by simpa using hr0⟩, ?_⟩
      · intro z
        obtain ⟨vs, q⟩ := lo1.lst z
        rw [hD] at q; cases q
      · rintro n m Hc ⟨rfl, hn, la', hs', acc, accV, st, lo', hDc, hDl, rl, hal, hrest⟩
        by_cases hlt : n < xs.length
        · -- a turn
          have hx : xs.drop n = xs[n] :: xs.drop (n + 1) := List.drop_eq_getElem_cons hlt
          rw [hx] at hrest
          have hgo := jok.go n la' Hc (stayS st) hlt
          refine .inr ⟨hgo, Wf (n + 1) (xs.length - (n + 1)), fun H' h' => ⟨_, by omega, h'⟩, fun v H2 hy => ?_⟩
          obtain ⟨sm, rv⟩ := jok.yld n la' Hc v H2 xs[n] (stayS st) (by simp [hlt]) hy
          have st2 : Step la1 H1 la' H2 := st.trans (.same sm)
          have lo2 : LocOk X.K la' hs' H2 := lo'.same sm
          have hD2 : H2 Dd = some (.lst accV) := sm _ _ hDc
          have eo2 : EnvOk X.K la' H2 (wipeT tg env) (wipe σ (own.map (·.2))) := (eo1.step lo1 st2).wiped hown
          rw [lcF] at hrest
          cases htn : turnLc T cal tg cd el env xs[n] hs' with
          | err => rw [htn] at hrest; rw [← hrest] at th1; exact th1.elim
          | exc x h2 => rw [htn] at hrest; rw [← hrest] at th1; exact th1.elim
          | ok dd h2 =>
            have htn' := htn
            unfold turnLc at htn'
            cases ha : asgT tg xs[n] (wipeT tg env) with
            | none => rw [ha] at htn'; cases htn'
            | some e1 =>
              rw [ha] at htn'
              refine ⟨la', _, xs[n], e1, eo2, rv, ha, fun σ' eo3 off => ⟨wipe_off off hown2, la', hs', e1, eo3, lo2, ?_⟩⟩
              simp only at htn'
              cases hcd : ev T cal cd true e1 hs' with
              | err => rw [hcd] at htn'; cases htn'
              | exc x h3 => rw [hcd] at htn'; cases htn'
              | ok b h3 =>
                rw [hcd] at htn'
                intro v2 la3 H3 s3 lo3 rb3
                have htn2 : elTurn T cal el e1 b h3 = R.ok dd h2 := htn'
                cases b <;> try (cases htn2; done)
                rename_i bb
                refine ⟨bb, rb3.1.bl, ?_⟩
                have st3 := st2.trans s3
                have hD3 : H3 Dd = some (.lst accV) := s3.ext _ _ hDl hD2
                have hDl3 : Dd ∉ la3 := fun z => by
                  have := s3.new _ z hDl
                  rw [hD2] at this; cases this
                cases bb with
                | false =>
                  dsimp only
                  rw [if_neg Bool.false_ne_true]
                  cases htn2
                  rw [htn] at hrest
                  exact ⟨rfl, by omega, la3, h2, acc, accV, st3, lo3, hD3, hDl3, (rl.step lo' (.same sm)).step lo2 s3, by omega, hrest⟩
                | true =>
                  dsimp only
                  rw [if_pos rfl]
                  unfold elTurn at htn2
                  have eo4 := eo3.step lo2 s3
                  refine ⟨la3, h3, e1, eo4, lo3, ?_⟩
                  rw [hb]
                  cases hel : ev T cal el false e1 h3 with
                  | err => simp only [hel] at htn2; cases htn2
                  | exc x h4 => simp only [hel] at htn2; cases htn2
                  | ok y h4 =>
                    simp only [hel] at htn2
                    have htn3 : R.ok (.tup [y.frz]) h4 = R.ok dd h2 := htn2
                    cases htn3
                    rw [htn] at hrest
                    have hlen : accV.length < sizeLine := by
                      have := rl.len
                      have := jok.len
                      omega
                    refine Then.locked (r := .ok y h2) (f := fun d h => .ok d h) (Q := fun _ _ => True) (b := false) (fun _ _ _ _ _ _ => trivial) fun d hs4 w la4 H4 er s4 lo4 r4 t4 => ?_
                    cases er
                    have st4 := st3.trans s4
                    have hD4 : H4 Dd = some (.lst accV) := s4.ext _ _ hDl3 hD3
                    have hDl4 : Dd ∉ la4 := fun z => by
                      have := s4.new _ z hDl3
                      rw [hD3] at this; cases this
                    have kp5 : Kp H4 (upd H4 Dd (.lst (accV ++ [w]))) := fun b => by
                      by_cases hb : b = Dd
                      · subst hb
                        refine ⟨fun xs z => ?_, fun o u z => ?_⟩ <;> (rw [hD4] at z; cases z)
                      · rw [upd_ne hb]; exact ⟨fun _ z => z, fun _ _ z => z⟩
                    refine ⟨accV, hD4, hlen, rfl, by omega, la4, _, acc ++ [y.frz], accV ++ [w], ⟨fun b o hb e => ?_, st4.pre, st4.new⟩, lo4.kp kp5 fun a ha => upd_ne fun z => hDl4 (z ▸ ha), upd_same, hDl4,
                      RepL.kp kp5 (List.prefix_refl _) _ _ ((((rl.step lo' (.same sm)).step lo2 s3).step lo3 s4).append (.one r4)), by rw [List.length_append, List.length_singleton]; omega, hrest⟩
                    rw [upd_ne (ne_of_none e hD)]
                    exact st4.ext b o hb e
        · have e : n = xs.length := by omega
          subst e
          refine .inl ⟨jok.stop _ la' Hc (stayS st) (Nat.le_refl _), ?_⟩
          rw [List.drop_length] at hrest
          have hrest : R.ok (.own acc) hs' = r0 := hrest
          rw [← hrest] at th1
          exact th1 (.ref Dd) la' Hc st lo' (.of ⟨⟨Dd, rfl, accV, hDc, rl, hDl⟩, fun a _ q => by cases q; exact hD⟩)
end
end Z
/-! Z13: every expression -/
namespace Z
open PySem PySem.Spec PyProof.Rows L2
section
variable {T : Tbl} {cal : Nat → List D → Hs → R} {G : GI} {k : Nat}
/-- what is shown of an m -/
def Snd (T : Tbl) (cal : Nat → List D → Hs → R) (G : GI) (k : Nat) (m : E) : Prop := ∀ (X : Cx) (W : L2.WX), Good T cal G k X W →
  (∀ e, (chk X.N G m).val X.env.scope e = true → PE X e (RdE T cal G X.K W m)) ∧ (∀ e, (chk X.N G m).tst X.env.scope e = true → PT X e (RdT T cal G X.K W m)) ∧ ∀ es, (chk X.N G m).lst X.env.scope es = true → PA X es (RdA T cal G X.K W m)
theorem blk_scope {scope : Scope} {cl : List (Str × Addr)} {C : Addr} {env : Env} : (compEnvC scope cl C env).scope = relS scope env.scope := rfl
/-- one whose test is its value's truth -/
theorem snd_plain {m : E} (hp : plainT m = true) (hl : ∀ N sc es, (chk N G m).lst sc es = true → False) (he : ∀ N sc e, (chk N G m).tst sc e = true → (chk N G m).val sc e = true ∧ (match e with | .UnaryOp .Not _ _ | .BoolOp _ _ _ | .IfExp _ _ _ _ | .Compare _ _ _ _ => false | _ => true) = true)
    (h : ∀ (X : Cx) (W : L2.WX), Good T cal G k X W → ∀ e, (chk X.N G m).val X.env.scope e = true → PE X e (RdE T cal G X.K W m)) : Snd T cal G k m := fun X W g =>
  ⟨h X W g, fun e hc => t_plain hp (he _ _ e hc).2 (h X W g e (he _ _ e hc).1), fun es hc => (hl _ _ es hc).elim⟩
theorem and3 {a b c : Bool} (h : (a && b && c) = true) : a = true ∧ b = true ∧ c = true := by
  rw [Bool.and_eq_true, Bool.and_eq_true] at h; exact ⟨h.1.1, h.1.2, h.2⟩
theorem notB {b : Bool} (h : (!b) = true) : b = false := by cases b <;> first | rfl | cases h
theorem snd_nil : Snd T cal G k .nil := fun X W g => ⟨fun e h => (by cases h), fun e h => (by cases h), fun es h => by
  cases es with
  | nil => exact a_nil
  | cons => cases h⟩
theorem snd_cons {a r : E} (ha : Snd T cal G k a) (hr : Snd T cal G k r) : Snd T cal G k (.cons a r) := fun X W g => ⟨fun e h => (by cases h), fun e h => (by cases h), fun es h => by
  cases es with
  | nil => cases h
  | cons e es =>
    obtain ⟨h1, h2, h3⟩ := and3 (show (noStar e && (chk X.N G a).val X.env.scope e && (chk X.N G r).lst X.env.scope es) = true from h)
    exact a_cons h1 ((ha X W g).1 e h2) ((hr X W g).2.2 es h3)⟩
theorem snd_and {a b : E} (ha : Snd T cal G k a) (hb : Snd T cal G k b) : Snd T cal G k (.and a b) := fun X W g => by
  refine ⟨fun e h => ?_, fun e h => ?_, fun es h => (by cases h)⟩
  · match e, h with
    | .BoolOp .And [x, y] p, h =>
      have h : (!isBE a && !isBE b && (chk X.N G a).val X.env.scope x && (chk X.N G b).val X.env.scope y) = true := h
      simp only [Bool.and_eq_true] at h
      exact s_and (notB h.1.1.1) (notB h.1.1.2) ((ha X W g).1 x h.1.2) (pe_one ((hb X W g).1 y h.2))
    | .BoolOp .And (x :: y :: z :: r) p, h =>
      have h : (!isBE a && !isBE b && (chk X.N G a).val X.env.scope x && (chk X.N G b).val X.env.scope (.BoolOp .And (y :: z :: r) p)) = true := h
      simp only [Bool.and_eq_true] at h
      exact s_and (notB h.1.1.1) (notB h.1.1.2) ((ha X W g).1 x h.1.2) ((hb X W g).1 _ h.2)
  · match e, h with
    | .BoolOp .And [x, y] p, h =>
      have h : ((chk X.N G a).tst X.env.scope x && (chk X.N G b).tst X.env.scope y) = true := h
      simp only [Bool.and_eq_true] at h
      exact (t_and ((ha X W g).2.1 x h.1) (pw_and1 ((hb X W g).2.1 y h.2))).pt
    | .BoolOp .And (x :: y :: z :: r) p, h =>
      have h : (isAO b && (chk X.N G a).tst X.env.scope x && (chk X.N G b).tst X.env.scope (.BoolOp .And (y :: z :: r) p)) = true := h
      simp only [Bool.and_eq_true] at h
      refine (t_and ((ha X W g).2.1 x h.1.2) (?_ : PW X (.BoolOp .And (y :: z :: r) p) _)).pt
      exact ⟨fun wh pins s σ H Q I hq => ((hb X W g).2.1 _ h.2).run pins s σ H Q I hq⟩
theorem snd_or {a b : E} (ha : Snd T cal G k a) (hb : Snd T cal G k b) : Snd T cal G k (.or a b) := fun X W g => by
  refine ⟨fun e h => ?_, fun e h => ?_, fun es h => (by cases h)⟩
  · match e, h with
    | .BoolOp .Or [x, y] p, h =>
      have h : (!isBE a && !isBE b && (chk X.N G a).val X.env.scope x && (chk X.N G b).val X.env.scope y) = true := h
      simp only [Bool.and_eq_true] at h
      exact s_or (notB h.1.1.1) (notB h.1.1.2) ((ha X W g).1 x h.1.2) (pe_one ((hb X W g).1 y h.2))
    | .BoolOp .Or (x :: y :: z :: r) p, h =>
      have h : (!isBE a && !isBE b && (chk X.N G a).val X.env.scope x && (chk X.N G b).val X.env.scope (.BoolOp .Or (y :: z :: r) p)) = true := h
      simp only [Bool.and_eq_true] at h
      exact s_or (notB h.1.1.1) (notB h.1.1.2) ((ha X W g).1 x h.1.2) ((hb X W g).1 _ h.2)
  · match e, h with
    | .BoolOp .Or [x, y] p, h =>
      have h : ((chk X.N G a).tst X.env.scope x && (chk X.N G b).tst X.env.scope y) = true := h
      simp only [Bool.and_eq_true] at h
      exact (t_or ((ha X W g).2.1 x h.1) (pw_or1 ((hb X W g).2.1 y h.2))).pt
    | .BoolOp .Or (x :: y :: z :: r) p, h =>
      have h : (isAO b && (chk X.N G a).tst X.env.scope x && (chk X.N G b).tst X.env.scope (.BoolOp .Or (y :: z :: r) p)) = true := h
      simp only [Bool.and_eq_true] at h
      refine (t_or ((ha X W g).2.1 x h.1.2) (?_ : PW X (.BoolOp .Or (y :: z :: r) p) _)).pt
      exact ⟨fun wh pins s σ H Q I hq => ((hb X W g).2.1 _ h.2).run pins s σ H Q I hq⟩
theorem lcOk_of {N : List Str} {tg : E} {it : ItC} {cd el : Chk} {cdT bel : Bool} {sc : Scope} {e : PySem.Expr} (h : lcOk N tg it cdT cd el bel sc e = true) : ∃ elt t i ifs scope pos, e = .ListComp elt [⟨t, i, ifs, 0⟩] scope pos ∧ bel = false ∧
    blkC N sc scope ((slots tg).map fun i => (N.getD i "", i)) = true ∧ (chkG N (fun x => scope.names.lookup x == some .cell) tg).1 (relS scope sc) t = true ∧ itOk it sc t i = true ∧ (match ifs with | [] => cdT | [c] => cd.tst (relS scope sc) c | _ => false) = true ∧ el.val (relS scope sc) elt = true := by
  unfold lcOk at h
  split at h
  · simp only [Bool.and_eq_true] at h
    exact ⟨_, _, _, _, _, _, rfl, notB h.1.1.1.1.1, h.1.1.1.1.2, h.1.1.1.2, h.1.1.2, h.1.2, h.2⟩
  · cases h
def itC (N : List Str) (G : GI) : E → ItC
  | .bi .range l => ⟨1, fun _ _ => false, (chk N G l).lst⟩
  | .bi .zip l => ⟨if noBs l then 2 else 9, fun _ _ => false, (chk N G l).lst⟩
  | .bi .enum l => ⟨if noBs l then 3 else 9, fun _ _ => false, (chk N G l).lst⟩
  | it => ⟨0, (chk N G it).val, fun _ _ => false⟩
theorem chk_lc_eq (tg it cd el : E) (N : List Str) : chk N G (.lc tg it cd el) = Chk.one (lcOk N tg (itC N G it) (isTrueE cd) (chk N G cd) (chk N G el) (isBE el)) := by
  cases it with
  | bi f l => cases f <;> rfl
  | _ => rfl
theorem itRng_of {lst : Scope → List PySem.Expr → Bool} {sc : Scope} {e : PySem.Expr} (h : itRng lst sc e = true) : ∃ p es q, e = .Call (.Name "range" p) es [] q ∧ glB sc "range" = true ∧ (es.length == 1 || es.length == 2) = true ∧ lst sc es = true := by
  unfold itRng at h
  split at h
  · simp only [Bool.and_eq_true, decide_eq_true_eq] at h
    obtain ⟨⟨⟨rfl, h2⟩, h3⟩, h4⟩ := h
    exact ⟨_, _, _, rfl, h2, h3, h4⟩
  · cases h
theorem itZip_of {lst : Scope → List PySem.Expr → Bool} {sc : Scope} {e : PySem.Expr} (h : itZip lst sc e = true) : ∃ p a b q, e = .Call (.Name "zip" p) [a, b] [] q ∧ glB sc "zip" = true ∧ lst sc [a, b] = true := by
  unfold itZip at h
  split at h
  · simp only [Bool.and_eq_true, decide_eq_true_eq] at h
    obtain ⟨⟨rfl, h2⟩, h3⟩ := h
    exact ⟨_, _, _, _, rfl, h2, h3⟩
  · cases h
theorem itEnum_of {lst : Scope → List PySem.Expr → Bool} {sc : Scope} {e : PySem.Expr} (h : itEnum lst sc e = true) : ∃ p a q, e = .Call (.Name "enumerate" p) [a] [] q ∧ glB sc "enumerate" = true ∧ lst sc [a] = true := by
  unfold itEnum at h
  split at h
  · simp only [Bool.and_eq_true, decide_eq_true_eq] at h
    obtain ⟨⟨rfl, h2⟩, h3⟩ := h
    exact ⟨_, _, _, rfl, h2, h3⟩
  · cases h
theorem itOk_set {it : ItC} {sc : Scope} {t e : PySem.Expr} (h : itOk it sc t e = true) : noSet e = true := by
  unfold itOk at h
  split at h
  · rw [Bool.and_eq_true] at h; exact h.2
  · obtain ⟨_, _, _, rfl, _⟩ := itRng_of h; rfl
  · rw [Bool.and_eq_true] at h; obtain ⟨_, _, _, _, rfl, _⟩ := itZip_of h.2; rfl
  · rw [Bool.and_eq_true] at h; obtain ⟨_, _, _, rfl, _⟩ := itEnum_of h.2; rfl
  · cases h
theorem isTup_of {t : PySem.Expr} (h : isTupE t = true) : ∃ ts k p, t = .Tuple ts k p := by
  cases t <;> first | exact ⟨_, _, _, rfl⟩ | cases h
/-- what is walked -/
theorem it_all {it : E} (hit : Snd T cal G k it) (hl : ∀ f l, it = .bi f l → Snd T cal G k l) {X : Cx} {W : L2.WX} (g : Good T cal G k X W) {t e : PySem.Expr} (h : itOk (itC X.N G it) X.env.scope t e = true) :
    PI X t e (RdI T cal G X.K W it) ∧ (isBE it = false → PI X t e (RdIL T cal G X.K W it)) := by
  have both : PI X t e (RdIL T cal G X.K W it) → PI X t e (RdI T cal G X.K W it) ∧ (isBE it = false → PI X t e (RdIL T cal G X.K W it)) := fun h => ⟨PI.mono h fun _ _ _ q => q.il, fun _ => h⟩
  have plain : (chk X.N G it).val X.env.scope e = true → PI X t e (RdI T cal G X.K W it) ∧ (isBE it = false → PI X t e (RdIL T cal G X.K W it)) := fun h => ⟨i_val ((hit X W g).1 e h), fun hb => i_valL hb ((hit X W g).1 e h)⟩
  unfold itC at h
  split at h
  · rename_i l
    obtain ⟨p, es, q, rfl, h1, h2, h3⟩ := itRng_of (lst := (chk X.N G l).lst) h
    exact both (i_rngL g h1 h3 h2 ((hl _ l rfl X W g).2.2 es h3))
  · rename_i l
    cases hb : noBs l with
    | false => rw [hb] at h; cases h
    | true =>
      rw [hb] at h
      have h : (isTupE t && itZip (chk X.N G l).lst X.env.scope e) = true := h
      rw [Bool.and_eq_true] at h
      obtain ⟨ts, tk, tp, rfl⟩ := isTup_of h.1
      obtain ⟨p, a, b, q, rfl, h1, h2⟩ := itZip_of h.2
      exact both (i_zipL g h1 hb h2 ((hl _ l rfl X W g).2.2 _ h2))
  · rename_i l
    cases hb : noBs l with
    | false => rw [hb] at h; cases h
    | true =>
      rw [hb] at h
      have h : (isTupE t && itEnum (chk X.N G l).lst X.env.scope e) = true := h
      rw [Bool.and_eq_true] at h
      obtain ⟨ts, tk, tp, rfl⟩ := isTup_of h.1
      obtain ⟨p, a, q, rfl, h1, h2⟩ := itEnum_of h.2
      exact both (i_enumL g h1 hb h2 ((hl _ l rfl X W g).2.2 _ h2))
  · have h : ((chk X.N G it).val X.env.scope e && noSet e) = true := h
    rw [Bool.and_eq_true] at h
    exact plain h.1
theorem lc_of {tg it cd el : E} (hit : Snd T cal G k it) (hl : ∀ f l, it = .bi f l → Snd T cal G k l) (hcd : Snd T cal G k cd) (hel : Snd T cal G k el) {X : Cx} {W : L2.WX} (g : Good T cal G k X W) {e : PySem.Expr}
    (h : (chk X.N G (.lc tg it cd el)).val X.env.scope e = true) : ∃ elt t i ifs scope pos own, e = .ListComp elt [⟨t, i, ifs, 0⟩] scope pos ∧ LcRead X elt t i ifs scope own (RdE T cal G X.K W (.lc tg it cd el)) := by
    rw [chk_lc_eq (G := G) tg it cd el] at h
    obtain ⟨elt, t, i, ifs, scope, pos, rfl, h1, h2, h4, h5, h6, h7⟩ := lcOk_of h
    have own2 : ((slots tg).map fun i => (X.N.getD i "", i)).map (·.2) = slots tg := by
      rw [List.map_map]; exact List.map_id _
    refine ⟨elt, t, i, ifs, scope, pos, (slots tg).map fun i => (X.N.getD i "", i), rfl, ?_⟩
    refine s_lc g h1 (own := (slots tg).map fun i => (X.N.getD i "", i)) (fun i hi => by rwa [own2] at hi) (fun i hi => by rwa [own2]) (blkOk_by h2) ?_ (itOk_set h5) (fun s H C cl fp => ?_) (fun s H C cl fp => ?_) (fun s H C cl fp => ?_)
    · exact (it_all hit hl g h5).1
    · exact (g_all (X := X.blk s H scope (compEnvC scope cl C X.env) fp) g.calm g.nd (fun x hx => hx) tg).1 t h4
    · cases ifs with
      | nil =>
        obtain rfl := isTrueE_of h6
        refine ⟨fun pins s σ H Q I hq => pts_nil.run pins s σ H Q I ?_⟩
        obtain ⟨la, hs, env, eo, lo, t⟩ := hq
        obtain ⟨k, e1, k2, e2, q⟩ := Then.bool (o := some true) t lo
        cases e1; cases e2
        exact q
      | cons c r =>
        cases r with
        | cons => cases h6
        | nil => exact pts_one ((hcd _ _ (g.blk s H scope (compEnvC scope cl C X.env) fp)).2.1 c h6)
    · exact (hel _ _ (g.blk s H scope (compEnvC scope cl C X.env) fp)).1 elt h7
theorem LcRead.pe {X : Cx} {elt t i : PySem.Expr} {ifs : List PySem.Expr} {scope : Scope} {own : List (Str × Nat)} {rd : TE} {pos : Pos} (hc : X.calm = true) (hN : X.N.Nodup) (h : LcRead X elt t i ifs scope own rd) : PE X (.ListComp elt [⟨t, i, ifs, 0⟩] scope pos) rd := by
  obtain ⟨wi, g, tt, te, h1, h2, h3, h4, h5, h6, h7⟩ := h
  exact PE.mono (pe_lc hc hN h1 h2 h3 h4 h5 h6) h7
theorem snd_lc {tg it cd el : E} (hit : Snd T cal G k it) (hl : ∀ f l, it = .bi f l → Snd T cal G k l) (hcd : Snd T cal G k cd) (hel : Snd T cal G k el) : Snd T cal G k (.lc tg it cd el) := by
  refine snd_plain rfl (fun N sc es h => chk_lc h) (fun N sc e h => ?_) fun X W g e h => ?_
  · have ec := chk_lc_eq (G := G) tg it cd el
    rw [ec] at h ⊢
    refine ⟨h, ?_⟩
    obtain ⟨_, _, _, _, _, _, rfl, _⟩ := lcOk_of h
    rfl
  · obtain ⟨elt, t, i, ifs, scope, pos, own, rfl, q⟩ := lc_of hit hl hcd hel g h
    exact q.pe g.calm g.nd
end
end Z
/-! Z14: every expression, together -/
namespace Z
open PySem PySem.Spec PyProof.Rows L2
section
variable {T : Tbl} {cal : Nat → List D → Hs → R} {G : GI} {k : Nat}
def noLogic : PySem.Expr → Bool
  | .UnaryOp .Not _ _ | .BoolOp _ _ _ | .IfExp _ _ _ _ | .Compare _ _ _ _ => false
  | _ => true
theorem snd_one {m : E} {f : List Str → Scope → PySem.Expr → Bool} (hp : plainT m = true) (hm : ∀ N, chk N G m = Chk.one (f N)) (he : ∀ N sc e, f N sc e = true → (match e with | .UnaryOp .Not _ _ | .BoolOp _ _ _ | .IfExp _ _ _ _ | .Compare _ _ _ _ => false | _ => true) = true)
    (h : ∀ (X : Cx) (W : L2.WX), Good T cal G k X W → ∀ e, f X.N X.env.scope e = true → PE X e (RdE T cal G X.K W m)) : Snd T cal G k m :=
  snd_plain hp (fun N sc es h => by rw [hm] at h; cases h) (fun N sc e h => by rw [hm] at h ⊢; exact ⟨h, he N sc e h⟩) fun X W g e hc => h X W g e (by rw [hm] at hc; exact hc)
theorem snd_none {m : E} (hm : ∀ N, chk N G m = .many fun _ _ => false) : Snd T cal G k m := fun X W g => ⟨fun e h => (by rw [hm] at h; cases h), fun e h => (by rw [hm] at h; cases h), fun es h => (by rw [hm] at h; cases h)⟩
theorem chk_bi_eq {f : Bi} {l : E} (hf : ∀ ts, f ≠ .isinst ts) (N : List Str) : chk N G (.bi f l) = Chk.one fun sc e => match e with
    | .Call (.Name x _) (a :: es) [] _ => byVal f && decide (x = biName f) && glB sc x && biArgs f (es.length + 1) && (chk N G l).lst sc (a :: es)
    | _ => false := by
  cases f <;> first | rfl | exact absurd rfl (hf _)
theorem snd_isno {m l : E} {f : Bi} (hm : plainT m = true) (h : ∀ N, chk N G m = Chk.one fun sc e => match e with
    | .Call (.Name x _) (a :: es) [] _ => false && decide (x = biName f) && glB sc x && biArgs f (es.length + 1) && (chk N G l).lst sc (a :: es)
    | _ => false) : Snd T cal G k m := by
  have no : ∀ (N : List Str) (sc : Scope) (e : PySem.Expr), (match e with
    | .Call (.Name x _) (a :: es) [] _ => false && decide (x = biName f) && glB sc x && biArgs f (es.length + 1) && (chk N G l).lst sc (a :: es)
    | _ => false) = true → False := fun N sc e h => by
    split at h <;> simp at h
  exact snd_one (f := fun N sc e => match e with
    | .Call (.Name x _) (a :: es) [] _ => false && decide (x = biName f) && glB sc x && biArgs f (es.length + 1) && (chk N G l).lst sc (a :: es)
    | _ => false) hm h (fun N sc e h => (no N sc e h).elim) fun X W g e h => (no _ _ e h).elim
theorem snd_isinst {ts : List Ty} {l : E} (hl : ∀ a r, l = .cons a r → Snd T cal G k a) : Snd T cal G k (.bi (.isinst ts) l) := by
  cases l
  case cons m r =>
    cases r
    case nil =>
      refine snd_one rfl (fun N => rfl) (fun N sc e h => ?_) fun X W g e h => ?_
      · cases e <;> first | rfl | cases h
      · match e, h with
        | .Call (.Name x p) [a, t] [] pos, h =>
          have h : (decide (x = "isinstance") && glB X.env.scope x && noStar a && noStar t && (chk X.N G m).val X.env.scope a && isTys X.env.scope ts t) = true := h
          simp only [Bool.and_eq_true, decide_eq_true_eq] at h
          obtain ⟨⟨⟨⟨⟨rfl, h2⟩, h3⟩, h4⟩, h5⟩, h6⟩ := h
          exact s_isinst g h2 h3 h4 ((hl m _ rfl X W g).1 _ h5) h6
    all_goals exact snd_isno rfl fun N => rfl
  all_goals exact snd_isno rfl fun N => rfl
theorem snd_all : ∀ m : E, Snd T cal G k m ∧ (∀ a r, m = .cons a r → Snd T cal G k a) ∧ ∀ f l, m = .bi f l → Snd T cal G k l := by
  intro m
  induction m with
  | nil => exact ⟨snd_nil, (fun _ _ e => by cases e), fun _ _ e => by cases e⟩
  | cons a r iha ihr => exact ⟨snd_cons iha.1 ihr.1, (fun _ _ e => by cases e; exact iha.1), fun _ _ e => by cases e⟩
  | c d =>
    refine ⟨?_, (fun _ _ e => by cases e), fun _ _ e => by cases e⟩
    refine snd_one rfl (fun N => rfl) (fun N sc e h => ?_) fun X W g e h => ?_
    · cases e <;> first | rfl | cases h
    · cases e <;> try (cases h; done)
      exact s_c h
  | v i =>
    refine ⟨?_, (fun _ _ e => by cases e), fun _ _ e => by cases e⟩
    refine snd_one rfl (fun N => rfl) (fun N sc e h => ?_) fun X W g e h => ?_
    · cases e <;> first | rfl | cases h
    · cases e <;> try (cases h; done)
      obtain ⟨h1, h2, h3⟩ := and3 h
      exact s_v (of_decide_eq_true h1) h2 h3
  | b i =>
    refine ⟨?_, (fun _ _ e => by cases e), fun _ _ e => by cases e⟩
    refine snd_one rfl (fun N => rfl) (fun N sc e h => ?_) fun X W g e h => ?_
    · cases e <;> first | rfl | cases h
    · cases e <;> try (cases h; done)
      obtain ⟨h1, h2, h3⟩ := and3 h
      exact s_b (of_decide_eq_true h1) h2 h3
  | g n =>
    refine ⟨?_, (fun _ _ e => by cases e), fun _ _ e => by cases e⟩
    refine snd_one rfl (fun N => rfl) (fun N sc e h => ?_) fun X W g e h => ?_
    · cases e <;> first | rfl | cases h
    · cases e <;> try (cases h; done)
      obtain ⟨h1, h2, h3⟩ := and3 h
      exact s_g g (of_decide_eq_true h1) h2 h3
  | bin o a b iha ihb =>
    refine ⟨?_, (fun _ _ e => by cases e), fun _ _ e => by cases e⟩
    refine snd_one rfl (fun N => rfl) (fun N sc e h => ?_) fun X W g e h => ?_
    · cases e <;> first | rfl | cases h
    · cases e <;> try (cases h; done)
      obtain ⟨h1, h2, h3⟩ := and3 h
      exact s_bin h1 ((iha.1 X W g).1 _ h2) ((ihb.1 X W g).1 _ h3)
  | neg a iha =>
    refine ⟨?_, (fun _ _ e => by cases e), fun _ _ e => by cases e⟩
    refine snd_one rfl (fun N => rfl) (fun N sc e h => ?_) fun X W g e h => ?_
    · cases e <;> try (first | rfl | (cases h; done))
      rename_i o _ _
      cases o <;> first | rfl | cases h
    · cases e <;> try (cases h; done)
      rename_i o _ _
      cases o <;> try (cases h; done)
      exact s_neg ((iha.1 X W g).1 _ h)
  | cmp o a b iha ihb =>
    refine ⟨?_, (fun _ _ e => by cases e), fun _ _ e => by cases e⟩
    intro X W g
    refine ⟨fun e h => ?_, fun e h => ?_, fun es h => (by cases h)⟩
    · match e, h with
      | .Compare l [p] [r] pos, h =>
        have h : (opC? o p && noSet r && (chk X.N G a).val X.env.scope l && (chk X.N G b).val X.env.scope r) = true := h
        simp only [Bool.and_eq_true] at h
        exact s_cmp g h.1.1.1 h.1.1.2 ((iha.1 X W g).1 _ h.1.2) ((ihb.1 X W g).1 _ h.2)
    · match e, h with
      | .Compare l [p] [r] pos, h =>
        have h : (opC? o p && noSet r && (chk X.N G a).val X.env.scope l && (chk X.N G b).val X.env.scope r) = true := h
        simp only [Bool.and_eq_true] at h
        exact t_cmp g h.1.1.1 h.1.1.2 ((iha.1 X W g).1 _ h.1.2) ((ihb.1 X W g).1 _ h.2)
  | chain o q a b c iha ihb ihc =>
    refine ⟨?_, (fun _ _ e => by cases e), fun _ _ e => by cases e⟩
    intro X W g
    refine ⟨fun e h => ?_, fun e h => ?_, fun es h => (by cases h)⟩
    · match e, h with
      | .Compare l [p, p'] [r, r'] pos, h =>
        have h : (opC? o p && opC? q p' && noSet r && noSet r' && (chk X.N G a).val X.env.scope l && (chk X.N G b).val X.env.scope r && (chk X.N G c).val X.env.scope r') = true := h
        simp only [Bool.and_eq_true] at h
        obtain ⟨⟨⟨⟨⟨⟨h1, h2⟩, h3⟩, h4⟩, h5⟩, h6⟩, h7⟩ := h
        exact s_chain g h1 h2 h3 h4 ((iha.1 X W g).1 _ h5) ((ihb.1 X W g).1 _ h6) ((ihc.1 X W g).1 _ h7)
    · match e, h with
      | .Compare l [p, p'] [r, r'] pos, h =>
        have h : (opC? o p && opC? q p' && noSet r && noSet r' && (chk X.N G a).val X.env.scope l && (chk X.N G b).val X.env.scope r && (chk X.N G c).val X.env.scope r') = true := h
        simp only [Bool.and_eq_true] at h
        obtain ⟨⟨⟨⟨⟨⟨h1, h2⟩, h3⟩, h4⟩, h5⟩, h6⟩, h7⟩ := h
        exact t_chain g h1 h2 h3 h4 ((iha.1 X W g).1 _ h5) ((ihb.1 X W g).1 _ h6) ((ihc.1 X W g).1 _ h7)
  | and a b iha ihb =>
    refine ⟨?_, (fun _ _ e => by cases e), fun _ _ e => by cases e⟩
    exact snd_and iha.1 ihb.1
  | or a b iha ihb =>
    refine ⟨?_, (fun _ _ e => by cases e), fun _ _ e => by cases e⟩
    exact snd_or iha.1 ihb.1
  | not a iha =>
    refine ⟨?_, (fun _ _ e => by cases e), fun _ _ e => by cases e⟩
    intro X W g
    refine ⟨fun e h => ?_, fun e h => ?_, fun es h => (by cases h)⟩
    · match e, h with
      | .UnaryOp .Not x pos, h => exact s_not ((iha.1 X W g).1 _ h)
    · match e, h with
      | .UnaryOp .Not x pos, h => exact t_not ((iha.1 X W g).2.1 _ h)
  | ite c a b ihc iha ihb =>
    refine ⟨?_, (fun _ _ e => by cases e), fun _ _ e => by cases e⟩
    intro X W g
    refine ⟨fun e h => ?_, fun e h => (by cases h), fun es h => (by cases h)⟩
    match e, h with
    | .IfExp t x y pos, h =>
      have h : (!isBE a && !isBE b && (chk X.N G c).tst X.env.scope t && (chk X.N G a).val X.env.scope x && (chk X.N G b).val X.env.scope y) = true := h
      simp only [Bool.and_eq_true] at h
      obtain ⟨⟨⟨⟨h1, h2⟩, h3⟩, h4⟩, h5⟩ := h
      exact s_ite (notB h1) (notB h2) ((ihc.1 X W g).2.1 _ h3) ((iha.1 X W g).1 _ h4) ((ihb.1 X W g).1 _ h5)
  | tup l ihl =>
    refine ⟨?_, (fun _ _ e => by cases e), fun _ _ e => by cases e⟩
    refine snd_one rfl (fun N => rfl) (fun N sc e h => ?_) fun X W g e h => ?_
    · cases e <;> first | rfl | cases h
    · cases e <;> try (cases h; done)
      obtain ⟨h1, h2, h3⟩ := and3 h
      exact s_tup h2 h1 (of_decide_eq_true h3) ((ihl.1 X W g).2.2 _ h1)
  | lst l ihl =>
    refine ⟨?_, (fun _ _ e => by cases e), fun _ _ e => by cases e⟩
    refine snd_one rfl (fun N => rfl) (fun N sc e h => ?_) fun X W g e h => ?_
    · cases e <;> first | rfl | cases h
    · cases e <;> try (cases h; done)
      obtain ⟨h1, h2, h3⟩ := and3 h
      exact s_lst h2 h1 (of_decide_eq_true h3) ((ihl.1 X W g).2.2 _ h1)
  | dsp => exact ⟨snd_none fun N => rfl, (fun _ _ e => by cases e), fun _ _ e => by cases e⟩
  | idx a i iha ihi =>
    refine ⟨?_, (fun _ _ e => by cases e), fun _ _ e => by cases e⟩
    refine snd_one rfl (fun N => rfl) (fun N sc e h => ?_) fun X W g e h => ?_
    · cases e <;> first | rfl | cases h
    · cases e <;> try (cases h; done)
      obtain ⟨h1, h2, h3⟩ := and3 h
      exact s_idx h1 ((iha.1 X W g).1 _ h2) ((ihi.1 X W g).1 _ h3)
  | slc a lo hi iha ihl ihh =>
    refine ⟨?_, (fun _ _ e => by cases e), fun _ _ e => by cases e⟩
    refine snd_one rfl (fun N => rfl) (fun N sc e h => ?_) fun X W g e h => ?_
    · cases e <;> first | rfl | cases h
    · match e, h with
      | .Subscript x (.Slice l u none p2) pos, h =>
        obtain ⟨h1, h2, h3⟩ := and3 h
        refine s_slc h1 h2 ((iha.1 X W g).1 _ h3) (fun e he => ?_) fun e he => ?_
        · subst he
          rw [Bool.and_eq_true] at h1
          exact (ihl.1 X W g).1 _ h1.2
        · subst he
          rw [Bool.and_eq_true] at h2
          exact (ihh.1 X W g).1 _ h2.2
  | rev a iha =>
    refine ⟨?_, (fun _ _ e => by cases e), fun _ _ e => by cases e⟩
    refine snd_one rfl (fun N => rfl) (fun N sc e h => ?_) fun X W g e h => ?_
    · cases e <;> first | rfl | cases h
    · match e, h with
      | .Subscript x (.Slice none none (some (.UnaryOp .USub (.Constant (.int 1) j p1) p2)) p3) pos, h => exact s_rev ((iha.1 X W g).1 _ h)
  | bi f l ihl =>
    refine ⟨?_, (fun _ _ e => by cases e), fun _ _ e => by cases e; exact ihl.1⟩
    by_cases hf : ∃ ts, f = .isinst ts
    · obtain ⟨ts, rfl⟩ := hf
      exact snd_isinst ihl.2.1
    · refine snd_one rfl (chk_bi_eq fun ts e => hf ⟨ts, e⟩) (fun N sc e h => ?_) fun X W g e h => ?_
      · cases e <;> first | rfl | cases h
      · match e, h with
        | .Call (.Name x p) (a :: es) [] pos, h =>
          have h : (byVal f && decide (x = biName f) && glB X.env.scope x && biArgs f (es.length + 1) && (chk X.N G l).lst X.env.scope (a :: es)) = true := h
          simp only [Bool.and_eq_true, decide_eq_true_eq] at h
          exact s_bi g h.1.1.1.1 h.1.1.1.2 h.1.1.2 h.2 ((ihl.1 X W g).2.2 _ h.2)
  | me => exact ⟨snd_none fun N => rfl, (fun _ _ e => by cases e), fun _ _ e => by cases e⟩
  | call f l ihl =>
    refine ⟨?_, (fun _ _ e => by cases e), fun _ _ e => by cases e⟩
    refine snd_one rfl (fun N => rfl) (fun N sc e h => ?_) fun X W g e h => ?_
    · cases e <;> first | rfl | cases h
    · match e, h with
      | .Call (.Name x p) (a :: es) [] pos, h =>
        have h : (decide (G.fns[f]? = some x) && glB X.env.scope x && nameOk x && (chk X.N G l).lst X.env.scope (a :: es) && noBs l) = true := h
        simp only [Bool.and_eq_true, decide_eq_true_eq] at h
        exact s_call g h.1.1.1.1 h.1.1.1.2 h.1.1.2 h.1.2 h.2 ((ihl.1 X W g).2.2 _ h.1.2)
  | lc tg it cd el ihtg ihit ihcd ihel => exact ⟨snd_lc ihit.1 (fun f l e => ihit.2.2 f l e) ihcd.1 ihel.1, (fun _ _ e => by cases e), fun _ _ e => by cases e⟩
  | dc => exact ⟨snd_none fun N => rfl, (fun _ _ e => by cases e), fun _ _ e => by cases e⟩
theorem snd (m : E) : Snd T cal G k m := (snd_all m).1
end
end Z
/-! Z15: statements: states, what follows a statement -/
namespace Z
open PySem PySem.Spec PyProof.Rows L2
/-- a state of a def's frame: from the call's heap (la0, H0) on -/
structure SI (K : PySem.W.Frag) (la0 : List Addr) (H0 : Hp) (la : List Addr) (H : Hp) (hs : Hs) (env : En) (σ : L2.St) : Prop where
  eo : EnvOk K la H env σ
  lo : LocOk K la hs H
  st : Step la0 H0 la H
  nw : ∀ (i : Nat) (d : D) (a : Addr), env[i]? = some (some d) → d.isOwn = true → σ[i]? = some (some (.ref a)) → H0 a = none
/-- what is wanted behind a statement's result -/
def ThenF (K : PySem.W.Frag) (G : GI) (W : L2.WX) (E : Ends) (la0 : List Addr) (H0 : Hp) (la : List Addr) (H : Hp) (r : SR) : Prop := match r with
  | .next env hs => ∀ la' H' σ', Kp H H' → la <+: la' → SI K la0 H0 la' H' hs env σ' → E.nx σ' H'
  | .brk env hs => ∀ la' H' σ', Kp H H' → la <+: la' → SI K la0 H0 la' H' hs env σ' → E.bk σ' H'
  | .ret d hs => ∀ v la' H', Step la0 H0 la' H' → LocOk K la' hs H' → RepT K la' H0 H' d v → E.rt v H'
  | .exc x env hs => ∀ c dd la' H' σ', SI K la0 H0 la' H' hs env σ' → ExR G x c dd H' → W c dd σ' H'
  | .err => False
def RdS (T : Tbl) (cal : Nat → List D → Hs → R) (G : GI) (K : PySem.W.Frag) (W : L2.WX) (m : S) : TS := fun E σ H => ∃ la0 H0 la hs env, SI K la0 H0 la H hs env σ ∧ ThenF K G W E la0 H0 la H (evS T cal m env hs)
section
variable {K : PySem.W.Frag} {G : GI} {W : L2.WX} {σ : L2.St} {E : Ends} {la0 la la1 la2 : List Addr} {H0 H H1 H2 : Hp} {hs hs1 : Hs} {env : En} {b b0 : Bool} {r : R} {q : SR} {f : D → Hs → SR}
theorem Kp.refl : Kp H H := fun _ => ⟨fun _ e => e, fun _ _ e => e⟩
theorem SI.step (h : SI K la0 H0 la H hs env σ) (s : Step la H la1 H1) (lo : LocOk K la1 hs1 H1) : SI K la0 H0 la1 H1 hs1 env σ := ⟨h.eo.step h.lo s, lo, h.st.trans s, h.nw⟩
theorem ThenF.rebase (k : Kp H H1) (p : la <+: la1) (h : ThenF K G W E la0 H0 la H q) : ThenF K G W E la0 H0 la1 H1 q := by
  cases q with
  | next => exact fun la' H' σ' k2 p2 si => h la' H' σ' (k.trans k2) (p.trans p2) si
  | brk => exact fun la' H' σ' k2 p2 si => h la' H' σ' (k.trans k2) (p.trans p2) si
  | ret => exact h
  | exc => exact h
  | err => exact h
theorem ThenF.step (si : SI K la0 H0 la H hs env σ) (s : Step la H la1 H1) (h : ThenF K G W E la0 H0 la H q) : ThenF K G W E la0 H0 la1 H1 q := h.rebase (s.kp si.lo) s.pre
/-- from a statement's end to its expression's -/
theorem toS (si : SI K la0 H0 la H hs env σ) (h : ThenF K G W E la0 H0 la H (r.toS env f)) {Q : VK}
    (k : ∀ d hs' v la' H', r = .ok d hs' → Step la H la' H' → SI K la0 H0 la' H' hs' env σ → RepB K b la' H H' d v → ThenF K G W E la0 H0 la' H' (f d hs') → Q v H') : Then K G W σ la H b r Q := by
  cases r with
  | ok d hs => exact fun v la' H' s lo rb => k d hs v la' H' rfl s (si.step s lo) rb (ThenF.step si s h)
  | exc x hs => exact fun c dd la' H' s lo e => h c dd la' H' σ (si.step s lo) e
  | err => exact h
/-- .. the value locked -/
theorem toSL (si : SI K la0 H0 la H hs env σ) (h : ThenF K G W E la0 H0 la H (r.toS env f)) {Q : VK}
    (k : ∀ d hs' v la' H', r = .ok d hs' → Step la H la' H' → SI K la0 H0 la' H' hs' env σ → Rep K la' H' d.frz v → ThenF K G W E la0 H0 la' H' (f d hs') → Q v H') :
    Then K G W σ la H false r fun v H1 => ∃ as, (∀ a ∈ as, ∃ xs, H1 a = some (.lst xs)) ∧ ∀ H2, LockOf as H1 H2 → Q v H2 := by
  cases r with
  | ok d hs =>
    refine Then.locked (r := .ok d hs) (f := fun d h => .ok d h) (Q := fun _ _ => True) (b := false) (fun _ _ _ _ _ _ => trivial) fun d' hs4 w la4 H4 er s4 lo4 r4 t4 => ?_
    cases er
    exact k d hs w la4 H4 rfl s4 (si.step s4 lo4) r4 (ThenF.step si s4 h)
  | exc x hs => exact fun c dd la' H' s lo e => h c dd la' H' σ (si.step s lo) e
  | err => exact h
/-- a list of values, locked -/
theorem toLL (si : SI K la0 H0 la H hs env σ) (h : ThenF K G W E la0 H0 la H (r.toS env f)) {Q : List V → Hp → Prop}
    (k : ∀ d hs' vs la' H', r = .ok d hs' → Step la H la' H' → SI K la0 H0 la' H' hs' env σ → RepL K la' H' (d.items.map D.frz) vs → ThenF K G W E la0 H0 la' H' (f d hs') → Q vs H') :
    ThenL K G W σ la H true r fun v H1 => ∃ as, (∀ a ∈ as, ∃ xs, H1 a = some (.lst xs)) ∧ ∀ H2, LockOf as H1 H2 → Q v H2 := by
  cases r with
  | ok d hs =>
    refine ThenL.locked (r := .ok d hs) (f := fun d h => .ok d h) (Q := fun _ _ => True) (b := false) (fun _ _ _ _ _ _ => trivial) fun d' hs4 w la4 H4 s4 lo4 r4 er t4 => ?_
    cases er
    exact k d hs w la4 H4 rfl s4 (si.step s4 lo4) r4 (ThenF.step si s4 h)
  | exc x hs => exact fun c dd la' H' s lo e => h c dd la' H' σ (si.step s lo) e
  | err => exact h
/-! ### stores -/
theorem EnvOk.setT {i : Nat} {d : D} {v : V} (h : EnvOk K la H env σ) (r : RepS K la H d v) (n : ∀ (a : Addr), d.isOwn = true → v = V.ref a → ∀ (j : Nat) (e : D), env[j]? = some (some e) → e.isOwn = true → σ[j]? ≠ some (some (V.ref a))) :
    EnvOk K la H (env.set i (some d)) (σ.set i (some v)) := by
  have at_ : ∀ {j : Nat} {e : D}, (env.set i (some d))[j]? = some (some e) → (j = i ∧ e = d ∧ (σ.set i (some v))[j]? = some (some v)) ∨ (j ≠ i ∧ env[j]? = some (some e) ∧ (σ.set i (some v))[j]? = σ[j]?) := fun {j e} hj => by
    by_cases hij : i = j
    · subst hij
      by_cases hi : i < env.length
      · rw [List.getElem?_set_self hi] at hj
        cases hj
        exact .inl ⟨rfl, rfl, List.getElem?_set_self (by rw [← h.len]; exact hi)⟩
      · rw [List.getElem?_eq_none (by simpa using hi)] at hj; cases hj
    · rw [List.getElem?_set_ne hij] at hj
      exact .inr ⟨Ne.symm hij, hj, List.getElem?_set_ne hij⟩
  have own_ref : ∀ {d : D} {v : V}, RepS K la H d v → d.isOwn = true → ∃ a, v = .ref a := fun {d v} r o => by
    cases d <;> try (cases o; done)
    · obtain ⟨a, e, _⟩ := r; exact ⟨a, e⟩
    · exact r.elim
  refine ⟨by simp [h.len], fun j e hj => ?_, fun j l e f hjl hj hl h1 h2 => ?_⟩
  · rcases at_ hj with ⟨rfl, rfl, q⟩ | ⟨_, q1, q2⟩
    · exact ⟨v, q, r⟩
    · rw [q2]; exact h.slot j e q1
  · rcases at_ hj with ⟨rfl, rfl, q⟩ | ⟨a1, q1, q2⟩
    · rcases at_ hl with ⟨rfl, _, _⟩ | ⟨_, q3, q4⟩
      · exact absurd rfl hjl
      · obtain ⟨a, rfl⟩ := own_ref r h1
        rw [q, q4]
        exact (n a h1 rfl l f q3 h2).symm
    · rcases at_ hl with ⟨rfl, rfl, q⟩ | ⟨_, q3, q4⟩
      · obtain ⟨a, rfl⟩ := own_ref r h2
        rw [q, q2]
        exact n a h2 rfl j e q1 h1
      · rw [q2, q4]
        exact h.sep j l e f hjl q1 q3 h1 h2
theorem set_cases {α : Type} {l : List α} {i j : Nat} {x y : α} (h : (l.set i x)[j]? = some y) : (j = i ∧ y = x) ∨ (j ≠ i ∧ l[j]? = some y) := by
  by_cases hij : i = j
  · subst hij
    by_cases hi : i < l.length
    · rw [List.getElem?_set_self hi] at h
      cases h
      exact .inl ⟨rfl, rfl⟩
    · rw [List.getElem?_eq_none (by simpa using hi)] at h; cases h
  · rw [List.getElem?_set_ne hij] at h
    exact .inr ⟨Ne.symm hij, h⟩
/-- a plain value is stored -/
theorem SI.set {i : Nat} {d : D} {v : V} (h : SI K la0 H0 la H hs env σ) (r : Rep K la H d v) : SI K la0 H0 la H hs (env.set i (some d)) (σ.set i (some v)) := by
  refine ⟨h.eo.set r, h.lo, h.st, fun j e a hj ho hv => ?_⟩
  rcases set_cases hj with ⟨rfl, e1⟩ | ⟨n, q⟩
  · cases e1; rw [r.noOwn] at ho; cases ho
  · rw [List.getElem?_set_ne (Ne.symm n)] at hv
    exact h.nw j e a q ho hv
/-- a new value is stored; H: before it was made -/
theorem SI.setT {i : Nat} {d : D} {v : V} (h : SI K la0 H0 la H hs env σ) (s : Step la H la1 H1) (h1 : SI K la0 H0 la1 H1 hs1 env σ) (r : RepT K la1 H H1 d v) : SI K la0 H0 la1 H1 hs1 (env.set i (some d)) (σ.set i (some v)) := by
  refine ⟨h1.eo.setT r.1 fun a o e j f hj ho z => ?_, h1.lo, h1.st, fun j e a hj ho hv => ?_⟩
  · obtain ⟨w, e1, q⟩ := h.eo.slot j f hj
    rw [e1] at z
    cases z
    cases f <;> try (cases ho; done)
    · obtain ⟨b, e2, vs, q, _⟩ := q
      cases e2
      rw [r.2 _ o e] at q; cases q
    · exact q.elim
  · rcases set_cases hj with ⟨rfl, e1⟩ | ⟨n, q⟩
    · cases e1
      have hj' : j < env.length := by
        have := (List.getElem?_eq_some_iff.mp hj).1
        simpa using this
      rw [List.getElem?_set_self (by rw [← h1.eo.len]; exact hj')] at hv
      cases hv
      have := r.2 a ho rfl
      cases e0 : H0 a with
      | none => rfl
      | some o =>
        by_cases m : a ∈ la0
        · have m2 : a ∈ la1 := (h.st.pre.trans s.pre).subset m
          cases d <;> try (cases ho; done)
          · obtain ⟨b, e2, vs, _, _, nn⟩ := r.1
            cases e2
            exact absurd m2 nn
          · exact r.1.elim
        · rw [h.st.ext a o m e0] at this; cases this
    · rw [List.getElem?_set_ne (Ne.symm n)] at hv
      exact h1.nw j e a q ho hv
/-- slots are locked -/
theorem SI.fzA {i : Nat} {d : D} {v : V} (h : SI K la0 H0 la H hs env σ) (hd : env[i]? = some (some d)) (hv : σ[i]? = some (some v)) (l : LockOf (ownA d v) H H1) : SI K la0 H0 la H1 hs (env.set i (some d.frz)) σ := by
  obtain ⟨w, e1, r⟩ := h.eo.slot i d hd
  rw [hv] at e1; cases e1
  have kp : Kp H H1 := .lock l
  have sp := ownA_spec r
  have n : ∀ a ∈ ownA d v, H0 a = none := fun a ha => by
    obtain ⟨_, _, q3, q4⟩ := sp a ha
    subst q4
    exact h.nw i d a hd q3 hv
  have eo : EnvOk K la H1 (env.set i none) σ := by
    refine ⟨by simp [h.eo.len], fun j e hj => ?_, fun j l e f hjl hj hl h1 h2 => ?_⟩
    · rcases set_cases hj with ⟨_, z⟩ | ⟨nj, q⟩
      · cases z
      · obtain ⟨w, e1, r1⟩ := h.eo.slot j e q
        refine ⟨w, e1, ?_⟩
        cases e
        case own ys =>
          obtain ⟨b, rfl, vs, q1, q2, q3⟩ := r1
          refine ⟨b, rfl, vs, ?_, RepL.kp kp (List.prefix_refl _) _ _ q2, q3⟩
          rw [l.1 b fun z => by
            obtain ⟨_, _, q4, q5⟩ := sp b z
            exact h.eo.sep j i _ d nj q hd rfl q4 (by rw [e1, hv, q5])]
          exact q1
        case odc => exact r1
        all_goals exact RepS.of (Rep.kp kp (List.prefix_refl _) _ _ (RepS.rep r1 rfl))
    · rcases set_cases hj with ⟨_, z⟩ | ⟨nj, q⟩
      · cases z
      · rcases set_cases hl with ⟨_, z⟩ | ⟨nl, q2⟩
        · cases z
        · exact h.eo.sep j l e f hjl q q2 h1 h2
  have es : env.set i (some d.frz) = (env.set i none).set i (some d.frz) := by rw [List.set_set]
  have ss : σ = σ.set i (some v) := by
    refine List.ext_getElem? fun j => ?_
    by_cases hij : i = j
    · subst hij
      rw [List.getElem?_set_self (List.getElem?_eq_some_iff.mp hv).1, hv]
    · rw [List.getElem?_set_ne hij]
  have rf := frz_lock r l fun a ha => ha
  refine ⟨?_, h.lo.lock (fun a ha => (sp a ha).2.1) l, h.st.lock n l, fun j e a hj ho hv2 => ?_⟩
  · rw [es]
    have := eo.set (i := i) rf
    rw [← ss] at this
    exact this
  · rcases set_cases hj with ⟨_, z⟩ | ⟨nj, q⟩
    · cases z
      rw [rf.noOwn] at ho; cases ho
    · exact h.nw j e a q ho hv2
theorem SI.unset {i : Nat} (h : SI K la0 H0 la H hs env σ) : SI K la0 H0 la H hs (env.set i none) σ := by
  refine ⟨h.eo.unset rfl fun _ _ => rfl, h.lo, h.st, fun j e a hj ho hv => ?_⟩
  rcases set_cases hj with ⟨_, z⟩ | ⟨n, q⟩
  · cases z
  · exact h.nw j e a q ho hv
/-- a new list is shared by its place from now on -/
theorem SI.setL {i : Nat} {xs : List D} {v : V} (h : SI K la0 H0 la H hs env σ) (s : Step la H la1 H1) (h1 : SI K la0 H0 la1 H1 hs1 env σ) (r : RepT K la1 H H1 (.own xs) v) :
    ∃ a, v = .ref a ∧ SI K la0 H0 (la1 ++ [a]) H1 (hs1 ++ [xs]) (env.set i (some (.loc hs1.length))) (σ.set i (some v)) := by
  obtain ⟨a, rfl, vs, e, rl, n⟩ := r.1
  have hn := r.2 a rfl rfl
  have pr : la1 <+: la1 ++ [a] := List.prefix_append _ _
  have h0 : H0 a = none := by
    cases e0 : H0 a with
    | none => rfl
    | some o =>
      by_cases m : a ∈ la0
      · exact absurd ((h.st.pre.trans s.pre).subset m) n
      · rw [h.st.ext a o m e0] at hn; cases hn
  have lo2 : LocOk K (la1 ++ [a]) (hs1 ++ [xs]) H1 := by
    refine ⟨?_, by simp [h1.lo.len], fun m ds hm => ?_⟩
    · rw [List.nodup_append]
      refine ⟨h1.lo.nd, by simp, fun x hx y hy => ?_⟩
      have : y = a := by simpa using hy
      subst this
      exact fun z => n (z ▸ hx)
    · by_cases hl : m < hs1.length
      · rw [List.getElem?_append_left hl] at hm
        obtain ⟨b, ws, e1, e2, q⟩ := h1.lo.at_ m ds hm
        exact ⟨b, ws, pre_get pr e1, e2, RepL.kp .refl pr _ _ q⟩
      · have hm' : m = hs1.length := by
          have := (List.getElem?_eq_some_iff.mp hm).1
          simp at this; omega
        subst hm'
        rw [List.getElem?_append_right (Nat.le_refl _)] at hm
        simp at hm; subst hm
        exact ⟨a, vs, by rw [← h1.lo.len]; simp, e, RepL.kp .refl pr _ _ rl⟩
  have old : ∀ (j : Nat) (d : D), env[j]? = some (some d) → d.isOwn = true → σ[j]? ≠ some (some (.ref a)) := fun j d hj ho z => by
    obtain ⟨w, e1, q⟩ := h.eo.slot j d hj
    rw [z] at e1; cases e1
    cases d <;> try (cases ho; done)
    · obtain ⟨b, e2, ws, q, _⟩ := q
      cases e2
      rw [hn] at q; cases q
    · exact q.elim
  have eo2 : EnvOk K (la1 ++ [a]) H1 env σ := by
    refine ⟨h1.eo.len, fun j d hj => ?_, h1.eo.sep⟩
    obtain ⟨w, e1, q⟩ := h1.eo.slot j d hj
    refine ⟨w, e1, ?_⟩
    cases d
    case own ys =>
      obtain ⟨b, rfl, ws, q1, q2, q3⟩ := q
      refine ⟨b, rfl, ws, q1, RepL.kp .refl pr _ _ q2, fun z => ?_⟩
      rcases List.mem_append.mp z with z | z
      · exact q3 z
      · have : b = a := by simpa using z
        subst this
        exact old j _ hj rfl e1
    case odc => exact q
    all_goals exact RepS.of (Rep.kp .refl pr _ _ (RepS.rep q rfl))
  refine ⟨a, rfl, ?_⟩
  have si2 : SI K la0 H0 (la1 ++ [a]) H1 (hs1 ++ [xs]) env σ := by
    refine ⟨eo2, lo2, ⟨h1.st.ext, h1.st.pre.trans pr, fun b hb hn2 => ?_⟩, h1.nw⟩
    rcases List.mem_append.mp hb with hb | hb
    · exact h1.st.new b hb hn2
    · have : b = a := by simpa using hb
      subst this; exact h0
  exact si2.set (by rw [Rep]; exact ⟨a, by rw [← h1.lo.len]; simp, rfl⟩)
theorem nodup_at {α : Type} : ∀ {l : List α} {i j : Nat} {x : α}, l.Nodup → l[i]? = some x → l[j]? = some x → i = j
  | [], _, _, _, _, h, _ => by simp at h
  | y :: l, 0, 0, _, _, _, _ => rfl
  | y :: l, 0, j + 1, x, hn, h1, h2 => by
    simp at h1 h2
    subst h1
    exact absurd (List.mem_of_getElem? h2) (List.nodup_cons.mp hn).1
  | y :: l, i + 1, 0, x, hn, h1, h2 => by
    simp at h1 h2
    subst h2
    exact absurd (List.mem_of_getElem? h1) (List.nodup_cons.mp hn).1
  | y :: l, i + 1, j + 1, x, hn, h1, h2 => by
    simp at h1 h2
    rw [nodup_at (List.nodup_cons.mp hn).2 h1 h2]
/-- a list that one holds is rewritten -/
theorem own_write {i : Nat} {v : V} {g : List D → Option (List D)} (si : SI K la0 H0 la H hs env σ) (hv : σ[i]? = some (some v)) (h : ThenF K G W E la0 H0 la H (onOwn env i hs g)) :
    ∃ a xs vs ys, v = .ref a ∧ H a = some (.lst vs) ∧ RepL K la H xs vs ∧ g xs = some ys ∧ listOwn env i hs = some xs ∧ ∀ ws, RepL K la H ys ws → E.nx σ (upd H a (.lst ws)) := by
  have kpU : ∀ {a : Addr} {vs ws : List V}, H a = some (.lst vs) → Kp H (upd H a (.lst ws)) := fun {a vs ws} e b => by
    by_cases hb : b = a
    · subst hb
      refine ⟨fun xs z => ?_, fun o u z => ?_⟩ <;> (rw [e] at z; cases z)
    · rw [upd_ne hb]; exact ⟨fun _ z => z, fun _ _ z => z⟩
  unfold onOwn at h
  split at h
  · rename_i xs hx
    obtain ⟨w, e1, r⟩ := si.eo.slot i _ hx
    rw [hv] at e1; cases e1
    obtain ⟨a, rfl, vs, ha, rl, hn⟩ := r
    split at h
    · rename_i ys hy
      refine ⟨a, xs, vs, ys, rfl, ha, rl, hy, by rw [listOwn, hx], fun ws rw' => ?_⟩
      have kp := kpU (ws := ws) ha
      have si1 : SI K la0 H0 la (upd H a (.lst ws)) hs (env.set i none) σ := by
        refine ⟨⟨by simp [si.eo.len], fun j d hj => ?_, fun j l d f hjl hj hl h1 h2 => ?_⟩, si.lo.kp kp fun b hb => upd_ne fun z => hn (z ▸ hb), ⟨fun b o hb e => ?_, si.st.pre, si.st.new⟩, fun j d b hj ho hvb => ?_⟩
        · rcases set_cases hj with ⟨_, z⟩ | ⟨nj, q⟩
          · cases z
          · obtain ⟨w, e1, r⟩ := si.eo.slot j d q
            refine ⟨w, e1, ?_⟩
            cases d
            case own zs =>
              obtain ⟨b, rfl, us, q1, q2, q3⟩ := r
              refine ⟨b, rfl, us, ?_, RepL.kp kp (List.prefix_refl _) _ _ q2, q3⟩
              rw [upd_ne fun z => si.eo.sep j i _ _ nj q hx rfl rfl (by rw [e1, hv, z])]
              exact q1
            case odc => exact r
            all_goals exact RepS.of (Rep.kp kp (List.prefix_refl _) _ _ (RepS.rep r rfl))
        · rcases set_cases hj with ⟨_, z⟩ | ⟨nj, q⟩
          · cases z
          · rcases set_cases hl with ⟨_, z⟩ | ⟨nl, q2⟩
            · cases z
            · exact si.eo.sep j l d f hjl q q2 h1 h2
        · rw [upd_ne fun z => by rw [z, si.nw i _ a hx rfl hv] at e; cases e]
          exact si.st.ext b o hb e
        · rcases set_cases hj with ⟨_, z⟩ | ⟨nj, q⟩
          · cases z
          · exact si.nw j d b q ho hvb
      have ss : σ = σ.set i (some (.ref a)) := by
        refine List.ext_getElem? fun j => ?_
        by_cases hij : i = j
        · subst hij
          rw [List.getElem?_set_self (List.getElem?_eq_some_iff.mp hv).1, hv]
        · rw [List.getElem?_set_ne hij]
      refine h la _ σ kp (List.prefix_refl _) ⟨?_, si1.lo, si1.st, fun j d b hj ho hvb => ?_⟩
      · have := si1.eo.setT (i := i) (d := .own ys) (v := .ref a) ⟨a, rfl, ws, upd_same, RepL.kp kp (List.prefix_refl _) _ _ rw', hn⟩ fun b _ eb j d hj ho z => by
          cases eb
          rcases set_cases hj with ⟨_, z2⟩ | ⟨nj, q⟩
          · cases z2
          · exact si.eo.sep j i _ _ nj q hx ho rfl (by rw [z, hv])
        rw [List.set_set, ← ss] at this
        exact this
      · rcases set_cases hj with ⟨rfl, z⟩ | ⟨nj, q⟩
        · rw [hv] at hvb; cases hvb
          exact si.nw j _ a hx rfl hv
        · exact si.nw j d b q ho hvb
    · exact h.elim
  · rename_i n hx
    obtain ⟨w, e1, r⟩ := si.eo.slot i _ hx
    rw [hv] at e1; cases e1
    have r := RepS.rep r rfl
    rw [Rep] at r
    obtain ⟨a, hla, rfl⟩ := r
    split at h
    · rename_i xs hxs
      obtain ⟨b, vs, e1, ha, rl⟩ := si.lo.at_ n xs hxs
      rw [hla] at e1; cases e1
      split at h
      · rename_i ys hy
        refine ⟨a, xs, vs, ys, rfl, ha, rl, hy, by rw [listOwn, hx]; exact hxs, fun ws rw' => ?_⟩
        have kp := kpU (ws := ws) ha
        have am : a ∈ la := List.mem_of_getElem? hla
        refine h la _ σ kp (List.prefix_refl _) ⟨⟨si.eo.len, fun j d hj => ?_, si.eo.sep⟩, ⟨si.lo.nd, by simp [si.lo.len], fun m ds hm => ?_⟩, ⟨fun b o hb e => ?_, si.st.pre, si.st.new⟩, si.nw⟩
        · obtain ⟨w, e1, r⟩ := si.eo.slot j d hj
          refine ⟨w, e1, ?_⟩
          cases d
          case own zs =>
            obtain ⟨b, rfl, us, q1, q2, q3⟩ := r
            refine ⟨b, rfl, us, ?_, RepL.kp kp (List.prefix_refl _) _ _ q2, q3⟩
            have nb : b ≠ a := fun z => q3 (by rw [z]; exact am)
            rw [upd_ne nb]
            exact q1
          case odc => exact r
          all_goals exact RepS.of (Rep.kp kp (List.prefix_refl _) _ _ (RepS.rep r rfl))
        · rcases set_cases hm with ⟨rfl, rfl⟩ | ⟨nm, q⟩
          · exact ⟨a, ws, hla, upd_same, RepL.kp kp (List.prefix_refl _) _ _ rw'⟩
          · obtain ⟨b, us, e1, e2, q⟩ := si.lo.at_ m ds q
            refine ⟨b, us, e1, ?_, RepL.kp kp (List.prefix_refl _) _ _ q⟩
            rw [upd_ne fun z => ?_]
            · exact e2
            · subst z
              have l1 := (List.getElem?_eq_some_iff.mp e1)
              have l2 := (List.getElem?_eq_some_iff.mp hla)
              exact nm (nodup_at si.lo.nd e1 hla)
        · rw [upd_ne fun z => ?_]
          · exact si.st.ext b o hb e
          · subst z
            rw [si.st.new _ am hb] at e; cases e
      · exact h.elim
    · exact h.elim
  · exact h.elim
end
end Z
/-! Z16: each kind of statement -/
namespace Z
open PySem PySem.Spec PyProof.Rows L2
section
variable {X : Cx} {st : PySem.Stmt} {sts : List PySem.Stmt} {t : TS}
/-- lists are locked ahead of a block -/
theorem PSs.pre (h : PSs X sts t) : PSs X sts fun E σ H => ∃ as : List Addr, (∀ a ∈ as, ∃ xs, H a = some (.lst xs)) ∧ ∀ H2, LockOf as H H2 → t E σ H2 := by
  refine ⟨fun pins s σ H E I hw => ?_⟩
  obtain ⟨as, q1, q2⟩ := hw
  obtain ⟨H2, I2, l⟩ := inv_locks as H I q1
  exact h.run pins s σ H2 E I2 (q2 H2 l)
/-- .. behind a statement -/
theorem PS.post (h : PS X st t) : PS X st fun E σ H => t { E with nx := fun σ' H' => ∃ as : List Addr, (∀ a ∈ as, ∃ xs, H' a = some (.lst xs)) ∧ ∀ H2, LockOf as H' H2 → E.nx σ' H2 } σ H := by
  refine ⟨fun pins s σ H E I hw => ?_⟩
  refine thn (h.run pins s σ H _ I hw) fun f s1 q => ?_
  cases f with
  | next =>
    obtain ⟨σ', H', I', as, q1, q2⟩ := q
    obtain ⟨H2, I2, l⟩ := inv_locks as H' I' q1
    exact ⟨σ', H2, I2, q2 H2 l⟩
  | ret v => exact q
  | brk => exact q
  | cont => exact q
end
/-- what statements need of the frame -/
structure GoodS (T : Tbl) (cal : Nat → List D → Hs → R) (G : GI) (k : Nat) (X : Cx) (W : L2.WX) : Prop extends Good T cal G k X W where
  pass : PassesOwn (model X.prog X.w) X.A X.env X.xe
  loc : ∀ x, X.fn x = true
def isComp : PySem.Expr → Bool
  | .ListComp _ _ _ _ => true
  | .SetComp _ _ _ _ => true
  | .DictComp _ _ _ _ _ => true
  | _ => false
theorem sw_not {e : PySem.Expr} {t : Option PySem.Expr} {l : Nat} {env : Env} (h : isComp e = false) : swapsWith e t l env = pure false := by
  cases e <;> first | rfl | cases h
theorem sw_tup {e : PySem.Expr} {ts : List PySem.Expr} {k : Nat} {p : Pos} {l : Nat} {env : Env} : swapsWith e (some (.Tuple ts k p)) l env = pure false := by
  cases e <;> rfl
theorem sw_sub {e o i : PySem.Expr} {p : Pos} {l : Nat} {env : Env} : swapsWith e (some (.Subscript o i p)) l env = pure false := by
  cases e <;> rfl
def locB (sc : Scope) (x : Str) : Bool := match sc.names.lookup x with
  | some .local => true
  | some .cell => true
  | _ => false
theorem loc_of {sc : Scope} {x : Str} (h : locB sc x = true) : L2.Loc sc x := by
  unfold locB at h
  unfold L2.Loc
  split at h <;> simp_all
def isLocal (sc : Scope) (x : Str) : Bool := match sc.names.lookup x with
  | some .local => true
  | _ => false
theorem local_of {sc : Scope} {x : Str} (h : isLocal sc x = true) : sc.names.lookup x = some .local := by
  unfold isLocal at h
  split at h <;> simp_all
section
variable {T : Tbl} {cal : Nat → List D → Hs → R} {G : GI} {k : Nat} {X : Cx} {W : L2.WX} {m c : E} {a b : S} {e x y : PySem.Expr} {p q : PySem.Stmt} {sts us : List PySem.Stmt} {n : Str} {i j : Nat} {pos pp : Pos}
theorem ss_nil : PSs X [] (RdS T cal G X.K W .skip) := PSs.mono pss_nil fun E σ H ⟨la0, H0, la, hs, env, si, t⟩ => t la H σ .refl (List.prefix_refl _) si
theorem ss_pass : PS X (.Pass pos) (RdS T cal G X.K W .skip) := PS.mono ps_pass fun E σ H ⟨la0, H0, la, hs, env, si, t⟩ => t la H σ .refl (List.prefix_refl _) si
theorem ss_brk : PS X (.Break pos) (RdS T cal G X.K W .brk) := PS.mono ps_break fun E σ H ⟨la0, H0, la, hs, env, si, t⟩ => t la H σ .refl (List.prefix_refl _) si
theorem ss_never : PSs X sts (RdS T cal G X.K W .never) := PSs.mono pss_never fun E σ H ⟨la0, H0, la, hs, env, si, t⟩ => t
theorem ss_never1 : PS X p (RdS T cal G X.K W .never) := PS.mono ps_never fun E σ H ⟨la0, H0, la, hs, env, si, t⟩ => t
theorem ThenF.andThen {K : PySem.W.Frag} {E : Ends} {la0 la : List Addr} {H0 H : Hp} {r : SR} {f : En → Hs → SR} {N : L2.St → Hp → Prop} (h : ThenF K G W E la0 H0 la H (r.andThen f))
    (k : ∀ env' hs' la' H' σ', SI K la0 H0 la' H' hs' env' σ' → ThenF K G W E la0 H0 la' H' (f env' hs') → N σ' H') : ThenF K G W { E with nx := N } la0 H0 la H r := by
  cases r with
  | next e h1 => exact fun la' H' σ' kp pr si => k e h1 la' H' σ' si (ThenF.rebase kp pr h)
  | brk => exact h
  | ret => exact h
  | exc => exact h
  | err => exact h
theorem ss_cons (h1 : PS X p (RdS T cal G X.K W a)) (h2 : PSs X sts (RdS T cal G X.K W b)) : PSs X (p :: sts) (RdS T cal G X.K W (.seq a b)) :=
  PSs.mono (pss_cons h1 h2) fun E σ H ⟨la0, H0, la, hs, env, si, t⟩ => ⟨la0, H0, la, hs, env, si, ThenF.andThen t fun env' hs' la' H' σ' si' t' => ⟨la0, H0, la', hs', env', si', t'⟩⟩
theorem ss_fz (h2 : PSs X sts (RdS T cal G X.K W b)) : PSs X sts (RdS T cal G X.K W (.seq (.fz i) b)) :=
  PSs.mono (PSs.pre h2) fun E σ H ⟨la0, H0, la, hs, env, si, t⟩ => by
    have t : ThenF X.K G W E la0 H0 la H ((match env[i]? with | some (some d) => SR.next (env.set i (some d.frz)) hs | _ => .next env hs).andThen fun e h => evS T cal b e h) := t
    cases hd : env[i]? with
    | none =>
      rw [hd] at t
      exact ⟨[], (fun a h => by cases h), fun H2 l => ⟨la0, H0, la, hs, env, by
        have : H2 = H := funext fun b => l.1 b (by simp)
        rw [this]; exact si, ThenF.rebase (.lock l) (List.prefix_refl _) t⟩⟩
    | some o =>
      cases o with
      | none =>
        rw [hd] at t
        exact ⟨[], (fun a h => by cases h), fun H2 l => ⟨la0, H0, la, hs, env, by
          have : H2 = H := funext fun b => l.1 b (by simp)
          rw [this]; exact si, ThenF.rebase (.lock l) (List.prefix_refl _) t⟩⟩
      | some d =>
        rw [hd] at t
        obtain ⟨v, hv, r⟩ := si.eo.slot i d hd
        exact ⟨ownA d v, fun a ha => (ownA_spec r a ha).1, fun H2 l => ⟨la0, H0, la, hs, _, si.fzA hd hv l, ThenF.rebase (.lock l) (List.prefix_refl _) t⟩⟩
theorem ss_fg (h2 : PSs X sts (RdS T cal G X.K W b)) : PSs X sts (RdS T cal G X.K W (.seq (.fg i) b)) :=
  PSs.mono h2 fun E σ H ⟨la0, H0, la, hs, env, si, t⟩ => ⟨la0, H0, la, hs, _, si.unset, t⟩
/-! ### name = value -/
/-- the value's reading rd, before a store -/
def AsgOk (X : Cx) (e : PySem.Expr) (rd : TE) : Prop := (isComp e = false ∧ PE X e rd) ∨ ∃ elt t i ifs scope pos own, e = .ListComp elt [⟨t, i, ifs, 0⟩] scope pos ∧ LcRead X elt t i ifs scope own rd
theorem asgN {rd : TE} (g : GoodS T cal G k X W) (h1 : X.N[i]? = some n) (h2 : L2.Loc X.env.scope n) (h : AsgOk X e rd) : PS X (.Assign [.Name n pp] e pos) fun E σ H => rd σ H fun v H1 => E.nx (σ.set i (some v)) H1 := by
  rcases h with ⟨hc, he⟩ | ⟨elt, t, it, ifs, scope, lp, own, rfl, h⟩
  · exact PS.mono (ps_set g.nd h1 h2 he (sw_not hc) (.inl (g.loc n))) fun _ _ _ q => q
  · cases hb : (X.env.blockKind == .function && X.env.kindOf n == some .local && pp.line == lp.line && !(scope.names.any fun (y, k) => y == n && (k == .local || k == .cell))) with
    | false => exact PS.mono (ps_set g.nd h1 h2 (h.pe g.calm g.nd) (by
        unfold swapsWith
        simp only [Expr.pos, hb]) (.inl (g.loc n))) fun _ _ _ q => q
    | true =>
      have hl : X.env.scope.names.lookup n = some .local := by
        simp only [Bool.and_eq_true] at hb
        have := hb.1.1.2
        exact eq_of_beq this
      obtain ⟨wi, g', tt, te, q1, q2, q3, q4, q5, q6, q7⟩ := h
      exact PS.mono (ps_setLc g.calm g.nd h1 hl (by
        unfold swapsWith
        simp only [Expr.pos, hb]) q1 q2 q3 q4 q5 q6) fun E σ H q => q7 σ H _ q
theorem ss_set (g : GoodS T cal G k X W) (h1 : X.N[i]? = some n) (h2 : L2.Loc X.env.scope n) (hb : isBE m = false) (h : AsgOk X e (RdE T cal G X.K W m)) : PS X (.Assign [.Name n pp] e pos) (RdS T cal G X.K W (.set i m)) :=
  PS.mono (PS.post (asgN g h1 h2 h)) fun E σ H ⟨la0, H0, la, hs, env, si, t⟩ => ⟨la, hs, env, si.eo, si.lo, by
    rw [hb]
    exact toSL si t fun d hs' v la' H' _ s si' r t' => t' la' H' _ .refl (List.prefix_refl _) (si'.set r)⟩
theorem ss_seto (g : GoodS T cal G k X W) (h1 : X.N[i]? = some n) (h2 : L2.Loc X.env.scope n) (hb : isBE m = false) (h : AsgOk X e (RdE T cal G X.K W m)) : PS X (.Assign [.Name n pp] e pos) (RdS T cal G X.K W (.seto i m)) :=
  PS.mono (asgN g h1 h2 h) fun E σ H ⟨la0, H0, la, hs, env, si, t⟩ => ⟨la, hs, env, si.eo, si.lo, by
    rw [hb]
    exact toS si t fun d hs' v la' H' _ s si' r t' => t' la' H' _ .refl (List.prefix_refl _) (si.setT s si' r.t)⟩
theorem ss_setl (g : GoodS T cal G k X W) (h1 : X.N[i]? = some n) (h2 : L2.Loc X.env.scope n) (hb : isBE m = false) (h : AsgOk X e (RdE T cal G X.K W m)) : PS X (.Assign [.Name n pp] e pos) (RdS T cal G X.K W (.setl i m)) :=
  PS.mono (asgN g h1 h2 h) fun E σ H ⟨la0, H0, la, hs, env, si, t⟩ => ⟨la, hs, env, si.eo, si.lo, by
    rw [hb]
    refine toS si t fun d hs' v la' H' _ s si' r t' => ?_
    cases d <;> try (exact t'.elim)
    obtain ⟨a, rfl, si2⟩ := si.setL s si' r.t
    exact t' _ H' _ .refl (List.prefix_append _ _) si2⟩
/-! ### several targets -/
def Pl (d : D) : Prop := d.isOwn = false ∧ ∀ ds, d = .tup ds → ∃ K la H vs, RepL K la H ds vs
theorem Rep.pl {K : PySem.W.Frag} {la : List Addr} {H : Hp} {d : D} {v : V} (r : Rep K la H d v) : Pl d := ⟨r.noOwn, fun ds e => by
  subst e
  rw [Rep] at r
  obtain ⟨a, vs, _, _, q⟩ := r
  exact ⟨K, la, H, vs, q⟩⟩
theorem asgT_own : ∀ {m : E} {d : D} {env env' : En}, Pl d → asgT m d env = some env' → ∀ (j : Nat) (f : D), env'[j]? = some (some f) → f.isOwn = true → env[j]? = some (some f) ∧ j ∉ slots m := by
  intro m
  induction m with
  | v i =>
    intro d env env' pl h j f hj ho
    have h : some (env.set i (some d)) = some env' := by cases d <;> exact h
    cases h
    rcases set_cases hj with ⟨_, z⟩ | ⟨nj, q⟩
    · cases z; rw [pl.1] at ho; cases ho
    · exact ⟨q, by simpa [slots] using nj⟩
  | tup l ih =>
    intro d env env' pl h j f hj ho
    cases d <;> try (cases h; done)
    exact ih pl h j f hj ho
  | nil =>
    intro d env env' pl h j f hj ho
    cases d <;> try (cases h; done)
    rename_i xs
    cases xs with
    | nil => cases h; exact ⟨hj, by simp [slots]⟩
    | cons => cases h
  | cons a r iha ihr =>
    intro d env env' pl h j f hj ho
    cases d <;> try (cases h; done)
    rename_i xs
    cases xs with
    | nil => cases h
    | cons x xs =>
      obtain ⟨K, la, H, vs, q⟩ := pl.2 _ rfl
      rw [RepL] at q
      obtain ⟨v, ws, _, q1, q2⟩ := q
      rw [asgT] at h
      split at h
      · rename_i e1 he1
        obtain ⟨z1, z2⟩ := ihr ⟨rfl, fun ds e => by cases e; exact ⟨K, la, H, ws, q2⟩⟩ h j f hj ho
        obtain ⟨z3, z4⟩ := iha q1.pl he1 j f z1 ho
        exact ⟨z3, by simp [slots, z2, z4]⟩
      · cases h
  | _ => intro d env env' pl h; cases d <;> cases h
theorem asgT_si {K : PySem.W.Frag} {la0 la : List Addr} {H0 H : Hp} {hs : Hs} {env env' : En} {σ σ' : L2.St} {d : D} {tg : E} (si : SI K la0 H0 la H hs env σ) (pl : Pl d) (h : asgT tg d env = some env') (eo : EnvOk K la H env' σ') (off : Off (slots tg) σ σ') : SI K la0 H0 la H hs env' σ' :=
  ⟨eo, si.lo, si.st, fun j e a hj ho hv => by
    obtain ⟨z1, z2⟩ := asgT_own pl h j e hj ho
    rw [off.2 j z2] at hv
    exact si.nw j e a z1 ho hv⟩
theorem fm_short {α β : Type} {f : α → Option β} {p : α → Bool} (hp : ∀ a, p a = true → f a = none) : ∀ {l : List α}, l.any p = true → (l.filterMap f).length < l.length
  | [], h => by cases h
  | a :: l, h => by
    have le : (l.filterMap f).length ≤ l.length := List.length_filterMap_le f l
    rw [List.any_cons, Bool.or_eq_true] at h
    rcases h with h | h
    · rw [List.filterMap_cons_none (hp a h), List.length_cons]; omega
    · have := fm_short hp h
      cases ha : f a with
      | none => rw [List.filterMap_cons_none ha, List.length_cons]; omega
      | some b => rw [List.filterMap_cons_some ha, List.length_cons, List.length_cons]; omega
/-- no stores from the right -/
def noSwap (sc : Scope) (targets : List PySem.Expr) (value : PySem.Expr) : Bool := match targets, value with
  | [.Tuple ts _ _], .Tuple vs _ _ => !(ts.length == 2 || ts.length == 3) || vs.length != ts.length || (vs.any fun | .Starred .. => true | _ => false) || vs.all (foldedForSure 8) || ts.any fun | .Name id _ => !isLocal sc id | _ => true
  | [.Tuple _ _ _], _ => true
  | _, _ => false
theorem noSwap_of {ts : List PySem.Expr} {k : Nat} {p : Pos} {v : PySem.Expr} {env : Env} (h : noSwap env.scope [.Tuple ts k p] v = true) : swappedStores [.Tuple ts k p] v env = pure none := by
  cases v <;> try rfl
  rename_i vs _ _
  rw [noSwap, Bool.or_eq_true, Bool.or_eq_true, Bool.or_eq_true] at h
  unfold swappedStores
  dsimp only
  split
  · rfl
  · rename_i h1
    split
    · rfl
    · rename_i h2
      split
      · rfl
      · rename_i h3
        rcases h with ((h | h) | h) | h
        · exact absurd (by rw [h]; rfl) h1
        · exact absurd h h2
        · rw [if_pos h]
        · refine absurd ?_ h3
          rw [Bool.or_eq_true]
          refine .inl ?_
          rw [bne_iff_ne]
          refine Nat.ne_of_lt (fm_short (fun a ha => ?_) h)
          cases a <;> try rfl
          rename_i id pos
          have ha : (!isLocal env.scope id) = true := ha
          show (if _ then _ else _) = _
          rw [if_neg]
          intro z
          rw [Bool.and_eq_true] at z
          have : env.scope.names.lookup id = some .local := eq_of_beq z.1
          unfold isLocal at ha
          rw [this] at ha
          cases ha
theorem ss_asg {tg : E} {ts : List PySem.Expr} {tk : Nat} {tp : Pos} (g : GoodS T cal G k X W) (h1 : (chkG X.N (fun _ => true) tg).1 X.env.scope (.Tuple ts tk tp) = true) (h2 : noSwap X.env.scope [.Tuple ts tk tp] e = true) (hb : isBE m = false) (he : PE X e (RdE T cal G X.K W m)) :
    PS X (.Assign [.Tuple ts tk tp] e pos) (RdS T cal G X.K W (.asg tg m)) :=
  PS.mono (ps_asg (PE.lock he) ((g_all g.calm g.nd (fun x _ => g.loc x) tg).1 _ h1) (sw_tup (ts := ts) (k := tk) (p := tp) (l := pos.line) (env := X.env)) (noSwap_of h2)) fun E σ H ⟨la0, H0, la, hs, env, si, t⟩ => ⟨la, hs, env, si.eo, si.lo, by
    rw [hb]
    refine toSL si t fun d hs' v la' H' _ s si' r t' => ?_
    cases ha : asgT tg d.frz env with
    | none => rw [ha] at t'; exact t'.elim
    | some env' =>
      rw [ha] at t'
      exact ⟨la', env, d.frz, env', si'.eo, r, ha, fun σ' eo off => t' la' H' σ' .refl (List.prefix_refl _) (asgT_si si' r.pl ha eo off)⟩⟩
end
end Z
/-! Z17: pairs, list changes, returns, loops -/
namespace Z
open PySem PySem.Spec PyProof.Rows L2
def parC (sc : Scope) (ns : List (Str × Pos)) (vs : List PySem.Expr) : Bool :=
  (match sc.kind with | .function => true | _ => false) && (match ns with | (_, p) :: r => r.all (fun q => q.2.line == p.line) | [] => false) && ns.all (fun q => isLocal sc q.1) && vs.all noStar && !(vs.all (foldedForSure 8)) && !(vs.all (constantsAlone 8))
theorem par_kind {env : Env} {ns : List (Str × Pos)} {vs : List PySem.Expr} (h : parC env.scope ns vs = true) : env.blockKind = .function ∧ env.scope.kind = .function := by
  simp only [parC, Bool.and_eq_true] at h
  have hk : env.scope.kind = .function := by
    have := h.1.1.1.1.1
    split at this
    · assumption
    · cases this
  exact ⟨by unfold Env.blockKind; rw [hk]; rfl, hk⟩
theorem any_star {vs : List PySem.Expr} (h : vs.all noStar = true) : ¬ (vs.any fun | .Starred .. => true | _ => false) = true := by
  induction vs with
  | nil => simp
  | cons a r ih =>
    rw [List.all_cons, Bool.and_eq_true] at h
    intro z
    rw [List.any_cons, Bool.or_eq_true] at z
    rcases z with z | z
    · cases a <;> first | (cases z; done) | (cases h.1; done)
    · exact ih h.2 z
theorem par2_sw {env : Env} {x y : Str} {px py pt : Pos} {a b : PySem.Expr} {kt k2 : Nat} {pt2 : Pos} (h : parC env.scope [(x, px), (y, py)] [a, b] = true) (hxy : x ≠ y) :
    swappedStores [.Tuple [.Name x px, .Name y py] kt pt] (.Tuple [a, b] k2 pt2) env = pure (some [x, y]) := by
  obtain ⟨hk, _⟩ := par_kind h
  simp only [parC, Bool.and_eq_true, List.all_cons, List.all_nil, Bool.and_true, Bool.not_eq_true', Bool.and_eq_false_iff] at h
  obtain ⟨⟨⟨⟨⟨_, hl⟩, hx, hy⟩, hs⟩, hf⟩, hc⟩ := h
  have kx : env.kindOf x = some .local := local_of hx
  have ky : env.kindOf y = some .local := local_of hy
  have hyx : (y == x) = false := by simpa using (Ne.symm hxy)
  have hst := any_star (vs := [a, b]) (by simp [hs])
  unfold swappedStores
  dsimp only
  split
  · rename_i z
    simp [hk] at z
  · split
    · rename_i z
      exact (hst z).elim
    · simp only [List.filterMap_cons, List.filterMap_nil, kx, ky, List.head?_cons, Option.map_some, Option.getD_some, Expr.pos, hl, beq_self_eq_true, Bool.and_self, if_true]
      split
      · rename_i z
        simp [List.eraseDups_cons, hyx] at z
      · split
        · rename_i z
          simp only [List.all_cons, List.all_nil, Bool.and_true, Bool.and_eq_true] at z
          rcases hf with q | q <;> simp [q] at z
        · split
          · rename_i z
            simp only [List.all_cons, List.all_nil, Bool.and_true, Bool.and_eq_true] at z
            rcases hc with q | q <;> simp [q] at z
          · rfl
theorem par3_sw {env : Env} {x y w : Str} {px py pw pt : Pos} {a b c : PySem.Expr} {kt k2 : Nat} {pt2 : Pos} (h : parC env.scope [(x, px), (y, py), (w, pw)] [a, b, c] = true) (hxy : x ≠ y) (hxw : x ≠ w) (hyw : y ≠ w) :
    swappedStores [.Tuple [.Name x px, .Name y py, .Name w pw] kt pt] (.Tuple [a, b, c] k2 pt2) env = pure (some [x, y, w]) := by
  obtain ⟨hk, _⟩ := par_kind h
  simp only [parC, Bool.and_eq_true, List.all_cons, List.all_nil, Bool.and_true, Bool.not_eq_true', Bool.and_eq_false_iff] at h
  obtain ⟨⟨⟨⟨⟨_, hl, hl2⟩, hx, hy, hw⟩, hs⟩, hf⟩, hc⟩ := h
  have kx : env.kindOf x = some .local := local_of hx
  have ky : env.kindOf y = some .local := local_of hy
  have kw : env.kindOf w = some .local := local_of hw
  have hyx : (y == x) = false := by simpa using (Ne.symm hxy)
  have hwx : (w == x) = false := by simpa using (Ne.symm hxw)
  have hwy : (w == y) = false := by simpa using (Ne.symm hyw)
  have hst := any_star (vs := [a, b, c]) (by simp [hs])
  unfold swappedStores
  dsimp only
  split
  · rename_i z
    simp [hk] at z
  · split
    · rename_i z
      exact (hst z).elim
    · simp only [List.filterMap_cons, List.filterMap_nil, kx, ky, kw, List.head?_cons, Option.map_some, Option.getD_some, Expr.pos, hl, hl2, beq_self_eq_true, Bool.and_self, if_true]
      split
      · rename_i z
        simp [List.eraseDups_cons, hyx, hwx, hwy] at z
      · split
        · rename_i z
          simp only [List.all_cons, List.all_nil, Bool.and_true, Bool.and_eq_true] at z
          rcases hf with q | q | q <;> simp [q] at z
        · split
          · rename_i z
            simp only [List.all_cons, List.all_nil, Bool.and_true, Bool.and_eq_true] at z
            rcases hc with q | q | q <;> simp [q] at z
          · rfl
section
variable {T : Tbl} {cal : Nat → List D → Hs → R} {G : GI} {k : Nat} {X : Cx} {W : L2.WX} {m c : E} {a b : S} {e x y : PySem.Expr} {p q : PySem.Stmt} {sts us : List PySem.Stmt} {n : Str} {i j : Nat} {pos pp : Pos}
theorem ev_tup (l : E) (env : En) (hs : Hs) : ev T cal (.tup l) false env hs = (ev T cal l false env hs).bind fun x h => .ok (.tup (x.items.map D.frz)) h := rfl
theorem toS_bind {r : R} {f : D → Hs → R} {env : En} {g : D → Hs → SR} : (r.bind f).toS env g = r.toS env fun d h => (f d h).toS env g := by
  cases r <;> rfl
theorem tgt2 {d : D} {env env' : En} {i j : Nat} {ds : List D} (h : asgT (.tup (.cons (.v i) (.cons (.v j) .nil))) (.tup ds) env = some env') : ∃ x y, ds = [x, y] ∧ env' = (env.set i (some x)).set j (some y) := by
  match ds, h with
  | [x, y], h =>
    cases h
    exact ⟨x, y, rfl, rfl⟩
theorem tgt3 {d : D} {env env' : En} {i j l : Nat} {ds : List D} (h : asgT (.tup (.cons (.v i) (.cons (.v j) (.cons (.v l) .nil)))) (.tup ds) env = some env') : ∃ x y z, ds = [x, y, z] ∧ env' = ((env.set i (some x)).set j (some y)).set l (some z) := by
  match ds, h with
  | [x, y, z], h =>
    cases h
    exact ⟨x, y, z, rfl, rfl⟩
theorem ss_par2 {l : E} {n1 n2 : Str} {p1 p2 pt pt2 : Pos} {kt k2 : Nat} (g : GoodS T cal G k X W) (h : parC X.env.scope [(n1, p1), (n2, p2)] [x, y] = true) (hi : X.N[i]? = some n1) (hj : X.N[j]? = some n2) (hn : n1 ≠ n2)
    (hb : noBs l = true) (ha : PA X [x, y] (RdA T cal G X.K W l)) : PS X (.Assign [.Tuple [.Name n1 p1, .Name n2 p2] kt pt] (.Tuple [x, y] k2 pt2) pos) (RdS T cal G X.K W (.par (.tup (.cons (.v i) (.cons (.v j) .nil))) (.tup l))) := by
  have h' := h
  simp only [parC, Bool.and_eq_true, List.all_cons, List.all_nil, Bool.and_true] at h'
  have hx := local_of h'.1.1.1.2.1
  have hy := local_of h'.1.1.1.2.2
  refine PS.mono (ps_par g.calm g.nd hi hj (fun z => hn (by subst z; rw [hi] at hj; exact Option.some.inj hj)) hx hy (PA.lock ha) (par2_sw h hn)) fun E σ H ⟨la0, H0, la, hs, env, si, t⟩ => ⟨la, hs, env, si.eo, si.lo, ?_⟩
  have t : ThenF X.K G W E la0 H0 la H ((ev T cal (.tup l) false env hs).toS env fun d h => match asgT (.tup (.cons (.v i) (.cons (.v j) .nil))) d env with | some e => .next e h | none => .err) := t
  rw [ev_tup, toS_bind] at t
  rw [hb]
  refine toLL si t fun d hs' vs la' H' _ s si' rl t' => ?_
  have t' : ThenF X.K G W E la0 H0 la' H' (match asgT (.tup (.cons (.v i) (.cons (.v j) .nil))) (.tup (d.items.map D.frz)) env with | some e => .next e hs' | none => .err) := t'
  cases hq : asgT (.tup (.cons (.v i) (.cons (.v j) .nil))) (.tup (d.items.map D.frz)) env with
  | none => rw [hq] at t'; exact t'.elim
  | some env' =>
    rw [hq] at t'
    obtain ⟨d1, d2, e1, rfl⟩ := tgt2 (d := .non) hq
    rw [e1] at rl
    simp only [RepL] at rl
    obtain ⟨v, _, rfl, r1, w, _, rfl, r2, rfl⟩ := rl
    exact ⟨v, w, rfl, t' la' H' _ .refl (List.prefix_refl _) ((si'.set r1).set r2)⟩
theorem ss_par3 {l : E} {n1 n2 n3 : Str} {p1 p2 p3 pt pt2 : Pos} {kt k2 o : Nat} {z : PySem.Expr} (g : GoodS T cal G k X W) (h : parC X.env.scope [(n1, p1), (n2, p2), (n3, p3)] [x, y, z] = true) (hi : X.N[i]? = some n1) (hj : X.N[j]? = some n2) (ho : X.N[o]? = some n3)
    (hn : n1 ≠ n2) (hn2 : n1 ≠ n3) (hn3 : n2 ≠ n3)
    (hb : noBs l = true) (ha : PA X [x, y, z] (RdA T cal G X.K W l)) : PS X (.Assign [.Tuple [.Name n1 p1, .Name n2 p2, .Name n3 p3] kt pt] (.Tuple [x, y, z] k2 pt2) pos) (RdS T cal G X.K W (.par (.tup (.cons (.v i) (.cons (.v j) (.cons (.v o) .nil)))) (.tup l))) := by
  have h' := h
  simp only [parC, Bool.and_eq_true, List.all_cons, List.all_nil, Bool.and_true] at h'
  have hx := local_of h'.1.1.1.2.1
  have hy := local_of h'.1.1.1.2.2.1
  have hz := local_of h'.1.1.1.2.2.2
  have ne : ∀ {i j : Nat} {a b : Str}, X.N[i]? = some a → X.N[j]? = some b → a ≠ b → i ≠ j := fun {i j a b} hi hj hn z => hn (by subst z; rw [hi] at hj; exact Option.some.inj hj)
  refine PS.mono (ps_par3 g.calm g.nd hi hj ho (ne hi hj hn) (ne hi ho hn2) (ne hj ho hn3) hx hy hz (PA.lock ha) (par3_sw h hn hn2 hn3)) fun E σ H ⟨la0, H0, la, hs, env, si, t⟩ => ⟨la, hs, env, si.eo, si.lo, ?_⟩
  have t : ThenF X.K G W E la0 H0 la H ((ev T cal (.tup l) false env hs).toS env fun d h => match asgT (.tup (.cons (.v i) (.cons (.v j) (.cons (.v o) .nil)))) d env with | some e => .next e h | none => .err) := t
  rw [ev_tup, toS_bind] at t
  rw [hb]
  refine toLL si t fun d hs' vs la' H' _ s si' rl t' => ?_
  have t' : ThenF X.K G W E la0 H0 la' H' (match asgT (.tup (.cons (.v i) (.cons (.v j) (.cons (.v o) .nil)))) (.tup (d.items.map D.frz)) env with | some e => .next e hs' | none => .err) := t'
  cases hq : asgT (.tup (.cons (.v i) (.cons (.v j) (.cons (.v o) .nil)))) (.tup (d.items.map D.frz)) env with
  | none => rw [hq] at t'; exact t'.elim
  | some env' =>
    rw [hq] at t'
    obtain ⟨d1, d2, d3, e1, rfl⟩ := tgt3 (d := .non) hq
    rw [e1] at rl
    simp only [RepL] at rl
    obtain ⟨v, _, rfl, r1, w, _, rfl, r2, u, _, rfl, r3, rfl⟩ := rl
    exact ⟨v, w, u, rfl, t' la' H' _ .refl (List.prefix_refl _) (((si'.set r1).set r2).set r3)⟩
/-! ### lists that change -/
theorem hasOwn_at {K : PySem.W.Frag} {la0 la : List Addr} {H0 H : Hp} {hs : Hs} {env : En} {σ : L2.St} (si : SI K la0 H0 la H hs env σ) (h : hasOwn env i hs = true) : ∃ a xs, σ[i]? = some (some (.ref a)) ∧ H a = some (.lst xs) := by
  unfold hasOwn at h
  split at h
  · rename_i xs hx
    obtain ⟨w, e1, a, rfl, vs, q, _⟩ := si.eo.slot i _ hx
    exact ⟨a, vs, e1, q⟩
  · rename_i n hx
    obtain ⟨w, e1, r⟩ := si.eo.slot i _ hx
    have r := RepS.rep r rfl
    rw [Rep] at r
    obtain ⟨a, hla, rfl⟩ := r
    cases hn : hs[n]? with
    | none => rw [hn] at h; cases h
    | some ds =>
      obtain ⟨b, vs, e2, q, _⟩ := si.lo.at_ n ds hn
      rw [hla] at e2; cases e2
      exact ⟨a, vs, e1, q⟩
  · cases h
theorem setAt_eq {xs ys : List D} {j : Int} {d : D} (h : setAt xs j d = some ys) : ∃ n, ixN xs.length j = some n ∧ ys = xs.set n d := by
  unfold setAt at h
  unfold ixN
  by_cases h0 : 0 ≤ j
  · rw [if_pos h0] at h
    rw [if_pos h0]
    by_cases h1 : j.toNat < xs.length
    · rw [if_pos h1] at h
      rw [if_pos (by omega)]
      exact ⟨_, rfl, (Option.some.inj h).symm⟩
    · rw [if_neg h1] at h; cases h
  · rw [if_neg h0] at h
    rw [if_neg h0]
    by_cases h1 : 0 ≤ (xs.length : Int) + j
    · rw [if_pos h1] at h
      rw [if_pos (by omega)]
      exact ⟨_, rfl, by rw [Int.add_comm]; exact (Option.some.inj h).symm⟩
    · rw [if_neg h1] at h; cases h
theorem ss_idxs {ke : PySem.Expr} {kx : E} {po : Pos} (g : GoodS T cal G k X W) (h1 : X.N[i]? = some n) (h2 : visB X.env.scope n = true) (h3 : nameOk n = true) (hs : noSlice ke = true) (hb : isBE m = false) (he : PE X e (RdE T cal G X.K W m)) (hk : PE X ke (RdE T cal G X.K W kx)) :
    PS X (.Assign [.Subscript (.Name n pp) ke po] e pos) (RdS T cal G X.K W (.idxs i kx m)) := by
  obtain ⟨d1, d2, _⟩ := nameOk_of h3
  refine PS.mono (ps_asg (PE.lock he) (pg_sub (pe_var h1 (vis_of h2) d1 d2) hk set_list (fun v => by cases ke <;> first | rfl | cases hs)) (sw_sub (o := .Name n pp) (i := ke) (p := po) (l := pos.line) (env := X.env)) (by cases e <;> rfl)) fun E σ H ⟨la0, H0, la, hs, env, si, t⟩ => ⟨la, hs, env, si.eo, si.lo, ?_⟩
  rw [hb]
  refine toSL si t fun d hs' v la' H' _ s si' r t' => ?_
  cases ho : hasOwn env i hs' with
  | false =>
    have t' : ThenF X.K G W E la0 H0 la' H' (if hasOwn env i hs' = true then _ else .err) := t'
    rw [ho] at t'; exact t'.elim
  | true =>
    have t' : ThenF X.K G W E la0 H0 la' H' (if hasOwn env i hs' = true then _ else .err) := t'
    rw [ho, if_pos rfl] at t'
    obtain ⟨a, zs, hv, hz⟩ := hasOwn_at si' ho
    refine ⟨.ref a, hv, la', hs', env, si'.eo, si'.lo, ?_⟩
    refine toS si' t' fun kd hs2 kv la2 H2 er s2 si2 rk t2 => ?_
    clear er
    cases kd <;> try (exact t2.elim)
    rename_i kj
    obtain ⟨a', xs, vs, ys, e1, ha, rl, hy, _, fin⟩ := own_write si2 hv t2
    cases e1
    obtain ⟨nn, hn, rfl⟩ := setAt_eq hy
    refine ⟨a, vs, kj, nn, rfl, rk.1.int, ha, by rw [← rl.len]; exact hn, ?_⟩
    exact fin _ (rl.set nn (r.step si'.lo s2))
theorem ss_app {ap cp xp : Pos} (g : GoodS T cal G k X W) (h1 : X.N[i]? = some n) (h2 : visB X.env.scope n = true) (h3 : nameOk n = true) (hl : (ap.endLine == cp.line) = true) (hx : noStar e = true) (hb : isBE m = false) (he : PE X e (RdE T cal G X.K W m)) :
    PS X (.Expr (.Call (.Attribute (.Name n xp) "append" ap) [e] [] cp) pos) (RdS T cal G X.K W (.app i m)) := by
  obtain ⟨d1, d2, _⟩ := nameOk_of h3
  have st : starEach [e] X.env = [(false, eval e X.env)] := star_cons (es := []) hx
  refine PS.mono (ps_expr (pe_bm PySem.F.plainAttrs_list PySem.F.slot_list_append PySem.F.type_list_append mt_append (pe_var h1 (vis_of h2) d1 d2) (pa_cons (PE.lock he) pa_nil st) rfl (by rw [st]; rfl) hl st rfl)) fun E σ H ⟨la0, H0, la, hs, env, si, t⟩ => ?_
  have t : ThenF X.K G W E la0 H0 la H (if hasOwn env i hs = true then _ else .err) := t
  cases ho : hasOwn env i hs with
  | false => rw [ho] at t; exact t.elim
  | true =>
    rw [ho, if_pos rfl] at t
    obtain ⟨a, zs, hv, hz⟩ := hasOwn_at si ho
    refine ⟨.ref a, hv, .inl ⟨rfl, zs, .of hz⟩, la, hs, env, si.eo, si.lo, ?_⟩
    rw [hb]
    refine toSL si t fun d hs' v la' H' _ s si' r t' => ?_
    obtain ⟨a', xs, vs, ys, e1, ha, rl, hy, _, fin⟩ := own_write si' hv t'
    cases e1
    split at hy
    · rename_i hlim
      cases hy
      have := of_lim hlim
      exact ⟨a, vs, v, rfl, rfl, ha, by rw [← rl.len]; omega, fin _ (rl.append (.one r))⟩
    · cases hy
/-- extend by a locked list -/
def rExtF : V → List V → Hp → VK → Prop := fun x vs H Q => ∃ l b o xs zs, x = .ref l ∧ vs = [.ref b] ∧ H l = some (.lst xs) ∧ H b = some (.frz o (.lst zs)) ∧ xs.length + zs.length ≤ sizeLine ∧ Q .non (upd H l (.lst (xs ++ zs)))
theorem mt_extF : MtM X "list.extend" rExtF := by
  intro pins s σ H x vs v us Q I rx rv h
  obtain ⟨l, b, o, xs, zs, rfl, rfl, hH, hB, hz, q⟩ := h
  cases rx
  obtain ⟨u, rfl, ru⟩ := rv.one
  cases ru
  obtain ⟨z, its, n, r, hl, e⟩ := I.lstM hH
  obtain ⟨e0, z2, its2, n2, r2, e2⟩ := I.hok b _ hB
  have hl2 := r2.length
  have hsz : its.toArray.size + its2.toArray.size ≤ sizeLine := by rw [List.size_toArray, List.size_toArray]; omega
  have hlong : ¬ (!its.toArray.isEmpty && Builtin.List.listTooLong (its.toArray.size + its2.toArray.size)) = true := by
    rw [notLongL hsz, Bool.and_false]
    exact Bool.false_ne_true
  refine call_meets PySem.F.slot_list_extend ⟨_, e, rfl⟩ PySem.F.entry_list_extend (PySem.F.args_list_extend_2 _ _)
    (AutoSeq1.list_extend_list_list_0 l its.toArray n b its2.toArray n2 hlong (by rw [List.size_toArray]; omega) (by omega)) ⟨e, e2, ?_⟩
  refine ⟨.non, _, I.lset (its' := its ++ its2) hH e (by simp) (r.append r2) ?_, rfl, q⟩
  rw [List.length_append]
  omega
theorem ss_ext {ap cp xp : Pos} (g : GoodS T cal G k X W) (h1 : X.N[i]? = some n) (h2 : visB X.env.scope n = true) (h3 : nameOk n = true) (hl : (ap.endLine == cp.line) = true) (hx : noStar e = true) (hb : isBE m = false) (he : PE X e (RdE T cal G X.K W m)) :
    PS X (.Expr (.Call (.Attribute (.Name n xp) "extend" ap) [e] [] cp) pos) (RdS T cal G X.K W (.ext i m)) := by
  obtain ⟨d1, d2, _⟩ := nameOk_of h3
  have st : starEach [e] X.env = [(false, eval e X.env)] := star_cons (es := []) hx
  refine PS.mono (ps_expr (pe_bm PySem.F.plainAttrs_list PySem.F.slot_list_extend PySem.F.type_list_extend mt_extF (pe_var h1 (vis_of h2) d1 d2) (pa_cons (PE.lock he) pa_nil st) rfl (by rw [st]; rfl) hl st rfl)) fun E σ H ⟨la0, H0, la, hs, env, si, t⟩ => ?_
  have t : ThenF X.K G W E la0 H0 la H (if hasOwn env i hs = true then _ else .err) := t
  cases ho : hasOwn env i hs with
  | false => rw [ho] at t; exact t.elim
  | true =>
    rw [ho, if_pos rfl] at t
    obtain ⟨a, zs, hv, hz⟩ := hasOwn_at si ho
    refine ⟨.ref a, hv, .inl ⟨rfl, zs, .of hz⟩, la, hs, env, si.eo, si.lo, ?_⟩
    rw [hb]
    refine toSL si t fun d hs' v la' H' _ s si' r t' => ?_
    cases hd : d.frz <;> rw [hd] at t' r <;> try (exact t'.elim)
    rename_i ds
    rw [Rep] at r
    obtain ⟨b, us, o, rfl, hb2, rlb⟩ := r
    obtain ⟨a', xs, vs, ys, e1, ha, rl, hy, _, fin⟩ := own_write si' hv t'
    cases e1
    split at hy
    · rename_i hlim
      cases hy
      have := of_lim hlim
      exact ⟨a, b, o, vs, us, rfl, rfl, ha, hb2, by rw [← rl.len, ← rlb.len]; exact this, fin _ (rl.append rlb)⟩
    · cases hy
theorem getLast_rep {K : PySem.W.Frag} {la : List Addr} {H : Hp} {xs : List D} {vs : List V} {d : D} (r : RepL K la H xs vs) (h : xs.getLast? = some d) : ∃ v, vs[vs.length - 1]? = some v ∧ Rep K la H d v := by
  rw [List.getLast?_eq_getElem?, r.len] at h
  exact r.get h
theorem ss_pop {tg : E} {t : PySem.Expr} {ap cp xp : Pos} (g : GoodS T cal G k X W) (h1 : X.N[i]? = some n) (h2 : visB X.env.scope n = true) (h3 : nameOk n = true) (hl : (ap.endLine == cp.line) = true) (hg : (chkG X.N (fun _ => true) tg).1 X.env.scope t = true) :
    PS X (.Assign [t] (.Call (.Attribute (.Name n xp) "pop" ap) [] [] cp) pos) (RdS T cal G X.K W (.pop tg i)) := by
  obtain ⟨d1, d2, _⟩ := nameOk_of h3
  have ht : (∃ x p, t = .Name x p) ∨ ∃ ts k p, t = .Tuple ts k p := by
    cases tg <;> try (cases hg; done)
    · cases t <;> first | exact .inl ⟨_, _, rfl⟩ | cases hg
    · cases t <;> first | exact .inr ⟨_, _, _, rfl⟩ | cases hg
  have pg := (g_all g.calm g.nd (fun x _ => g.loc x) tg).1 t hg
  have pe : PE X (.Call (.Attribute (.Name n xp) "pop" ap) [] [] cp) (tBM0 X.K "list" rPop (tVar i)) := pe_bm0 PySem.F.plainAttrs_list PySem.F.slot_list_pop PySem.F.type_list_pop mt_pop (pe_var h1 (vis_of h2) d1 d2) rfl hl
  have ps : PS X (.Assign [t] (.Call (.Attribute (.Name n xp) "pop" ap) [] [] cp) pos) (tAsg (tBM0 X.K "list" rPop (tVar i)) (RdG X.K tg)) := by
    rcases ht with ⟨x, p, rfl⟩ | ⟨ts, kk, p, rfl⟩
    · exact ps_asg pe pg rfl rfl rfl
    · exact ps_asg pe pg rfl rfl rfl
  refine PS.mono ps fun E σ H ⟨la0, H0, la, hs, env, si, t⟩ => ?_
  have t : ThenF X.K G W E la0 H0 la H (match (listOwn env i hs).bind List.getLast? with
    | some d => (onOwn env i hs fun xs => some xs.dropLast).andThen fun e h => match asgT tg d e with
      | some e => .next e h
      | none => .err
    | none => .err) := t
  cases hd : (listOwn env i hs).bind List.getLast? with
  | none => rw [hd] at t; exact t.elim
  | some d =>
    rw [hd] at t
    have t : ThenF X.K G W E la0 H0 la H ((onOwn env i hs fun xs => some xs.dropLast).andThen fun e h => match asgT tg d e with
      | some e => .next e h
      | none => .err) := t
    obtain ⟨v, hv⟩ : ∃ v, σ[i]? = some (some v) := by
      unfold listOwn at hd
      cases he : env[i]? with
      | none => rw [he] at hd; cases hd
      | some o =>
        cases o with
        | none => rw [he] at hd; cases hd
        | some e => obtain ⟨w, e1, _⟩ := si.eo.slot i e he; exact ⟨w, e1⟩
    obtain ⟨a, xs, vs, ys, rfl, ha, rl, hy, hlo, fin⟩ := own_write (E := ⟨fun σ' H' => ∃ la' hs' env', la <+: la' ∧ Kp H H' ∧ SI X.K la0 H0 la' H' hs' env' σ' ∧ ThenF X.K G W E la0 H0 la' H' (match asgT tg d env' with
      | some e => .next e hs'
      | none => .err), fun _ _ => True, fun _ _ => True, fun _ _ => True⟩) (G := G) (W := W) (g := fun xs => some xs.dropLast) si hv (by
        revert t
        cases onOwn env i hs fun xs => some xs.dropLast with
        | next e' h' => exact fun t la' H' σ' kp pr si' => ⟨la', h', e', pr, kp, si', ThenF.rebase kp pr t⟩
        | brk => exact fun _ _ _ _ _ _ _ => trivial
        | ret => exact fun _ _ _ _ _ _ _ => trivial
        | exc => exact fun t => t
        | err => exact fun t => t)
    cases hy
    have hd' : xs.getLast? = some d := by rw [hlo] at hd; exact hd
    obtain ⟨y, hy, ry⟩ := getLast_rep rl hd'
    obtain ⟨la', hs', env', pr, kp, si', t'⟩ := fin _ rl.dropLast
    refine ⟨.ref a, hv, .inl ⟨rfl, vs, .of ha⟩, a, vs, y, rfl, rfl, ha, hy, ?_⟩
    have ry' := Rep.kp kp pr _ _ ry
    cases hq : asgT tg d env' with
    | none => rw [hq] at t'; exact t'.elim
    | some env'' =>
      rw [hq] at t'
      exact ⟨la', env', d, env'', si'.eo, ry', hq, fun σ' eo off => t' la' _ σ' .refl (List.prefix_refl _) (asgT_si si' ry'.pl hq eo off)⟩
/-! ### the rest -/
theorem ss_ex (g : GoodS T cal G k X W) (hc : isComp e = false) (he : PE X e (RdE T cal G X.K W m)) : PS X (.Expr e pos) (RdS T cal G X.K W (.ex m)) :=
  PS.mono (ps_expr he (sw_not hc)) fun E σ H ⟨la0, H0, la, hs, env, si, t⟩ => ⟨la, hs, env, si.eo, si.lo, toS si t fun d hs' v la' H' _ s si' r t' => t' la' H' _ .refl (List.prefix_refl _) si'⟩
theorem ss_ret (hb : isBE m = false) (he : PE X e (RdE T cal G X.K W m)) : PS X (.Return (some e) pos) (RdS T cal G X.K W (.ret m)) :=
  PS.mono (ps_ret he) fun E σ H ⟨la0, H0, la, hs, env, si, t⟩ => ⟨la, hs, env, si.eo, si.lo, by
    rw [hb]
    exact toS si t fun d hs' v la' H' _ s si' r t' => t' v la' H' si'.st si'.lo (RepT.base si.st r.t s)⟩
theorem ss_retN : PS X (.Return none pos) (RdS T cal G X.K W (.ret (.c .non))) :=
  PS.mono ps_retN fun E σ H ⟨la0, H0, la, hs, env, si, t⟩ => t .non la H si.st si.lo (.of (by rw [Rep]))
theorem ss_retv (h1 : X.N[i]? = some n) (h2 : visB X.env.scope n = true) (h3 : nameOk n = true) : PS X (.Return (some (.Name n pp)) pos) (RdS T cal G X.K W (.retv i)) := by
  obtain ⟨d1, d2, _⟩ := nameOk_of h3
  refine PS.mono (ps_ret (pe_var h1 (vis_of h2) d1 d2)) fun E σ H ⟨la0, H0, la, hs, env, si, t⟩ => ?_
  have t : ThenF X.K G W E la0 H0 la H (match env[i]? with | some (some d) => SR.ret d hs | _ => .err) := t
  split at t
  · rename_i d hd
    obtain ⟨v, hv, r⟩ := si.eo.slot i d hd
    exact ⟨v, hv, t v la H si.st si.lo ⟨r, fun a ho ea => si.nw i d a hd ho (by rw [hv, ea])⟩⟩
  · exact t.elim
theorem ss_ife {t : PySem.Expr} (hc : PT X t (RdT T cal G X.K W c)) (ha : PSs X sts (RdS T cal G X.K W a)) (hb : PSs X us (RdS T cal G X.K W b)) : PS X (.If t sts us pos) (RdS T cal G X.K W (.ife c a b)) :=
  PS.mono (ps_if hc ha hb) fun E σ H ⟨la0, H0, la, hs, env, si, t⟩ => ⟨la, hs, env, si.eo, si.lo, toS si t fun d hs' v la' H' er s si' r t' => by
    clear er
    cases d <;> try (exact t'.elim)
    rename_i bb
    refine ⟨bb, r.1.bl, ?_⟩
    cases bb with
    | true => rw [if_pos rfl]; exact ⟨la0, H0, la', hs', env, si', t'⟩
    | false => rw [if_neg Bool.false_ne_true]; exact ⟨la0, H0, la', hs', env, si', t'⟩⟩
def pyAug : Bop → Operator → Option (Int → Int → Int)
  | .add, .Add => some fun i j => i + j
  | .sub, .Sub => some fun i j => i - j
  | _, _ => none
def augF (o : Bop) (i : Nat) (env : En) (x : D) : D → Hs → SR := fun y h => match x, y with
  | .int a, .int b => match opB o (.int a) (.int b) with
    | some z => .next (env.set i (some z)) h
    | none => .err
  | _, _ => .err
theorem ss_aug {o : Bop} {op : Operator} (g : GoodS T cal G k X W) (h1 : X.N[i]? = some n) (h2 : L2.Loc X.env.scope n) (hp : (pyAug o op).isSome = true) (hb : isBE m = false) (he : PE X e (RdE T cal G X.K W m)) : PS X (.AugAssign (.Name n pp) op e pos) (RdS T cal G X.K W (.aug i o m)) := by
  obtain ⟨f, hf⟩ := Option.isSome_iff_exists.mp hp
  have ip : PIp X op (ipI f) := by
    cases o <;> cases op <;> first | (cases hf; done) | (cases hf; exact ip_add) | (cases hf; exact ip_sub)
  have fo : ∀ i j, opB o (.int i) (.int j) = some (.int (f i j)) := fun i j => by
    cases o <;> cases op <;> first | (cases hf; done) | (cases hf; rfl)
  refine PS.mono (ps_aug g.nd h1 h2 he ip (.inl (g.loc n))) fun E σ H ⟨la0, H0, la, hs, env, si, t⟩ => ?_
  have t : ThenF X.K G W E la0 H0 la H (match env[i]? with | some (some x) => (ev T cal m false env hs).toS env (augF o i env x) | _ => .err) := t
  split at t
  · rename_i d hd
    obtain ⟨v, hv, r⟩ := si.eo.slot i d hd
    refine ⟨v, hv, la, hs, env, si.eo, si.lo, toS si t fun y hs' w la' H' er s si' ry t' => ?_⟩
    clear er
    cases d <;> try (exact t'.elim)
    cases y <;> try (exact t'.elim)
    rename_i a b
    have t' : ThenF X.K G W E la0 H0 la' H' (match opB o (.int a) (.int b) with | some z => SR.next (env.set i (some z)) hs' | none => .err) := t'
    rw [fo] at t'
    exact ⟨a, b, r.int, ry.1.int, t' la' H' _ .refl (List.prefix_refl _) (si'.set (by rw [Rep]))⟩
  · exact t.elim
/-! ### loops -/
theorem ss_for {tg it : E} {t : PySem.Expr} (g : GoodS T cal G k X W) (hs0 : noSet e = true) (hi : PI X t e (RdIL T cal G X.K W it)) (hg : (chkG X.N (fun _ => true) tg).1 X.env.scope t = true) (hb : PSs X sts (RdS T cal G X.K W b)) :
    PS X (.For t e sts [] pos) (RdS T cal G X.K W (.for tg it b)) := by
  refine PS.mono (ps_for g.pass g.calm hi ((g_all g.calm g.nd (fun x _ => g.loc x) tg).1 _ hg) hb (fun x => by cases e <;> first | rfl | (cases hs0))) fun E σ H ⟨la0, H0, la, hs, env, si, th⟩ => ⟨la, hs, env, si.eo, si.lo, ?_⟩
  let turn : D → En → Hs → SR := fun x e h => match asgT tg x e with
      | some e => evS T cal b e h
      | none => .err
  have th : ThenF X.K G W E la0 H0 la H ((ev T cal it false env hs).toS env fun x h => match x.iter with
    | some xs => forF turn xs env h
    | none => .err) := th
  cases hev : ev T cal it false env hs with
  | err => rw [hev] at th; exact th
  | exc x h1 => rw [hev] at th; exact fun c dd la' H' s lo er => th c dd la' H' σ (si.step s lo) er
  | ok d hs1 =>
    rw [hev] at th
    have th : ThenF X.K G W E la0 H0 la H (match d.iter with | some xs => forF turn xs env hs1 | none => .err) := th
    cases hd : d.iter with
    | none => rw [hd] at th; exact th.elim
    | some xs =>
      rw [hd] at th
      refine ⟨xs, hd, fun J St la1 H1 s1 lo1 jok hS => ?_⟩
      have si1 := si.step s1 lo1
      have th1 : ThenF X.K G W E la0 H0 la1 H1 (forF turn xs env hs1) := ThenF.step si s1 th
      let V : Nat → L2.St → Hp → Prop := fun n σ H => ∃ la hs env, SI X.K la0 H0 la H hs env σ ∧ St la H ∧ ThenF X.K G W E la0 H0 la H (forF turn (xs.drop n) env hs)
      refine ⟨fun n mm σ H => mm = xs.length - n ∧ n ≤ xs.length ∧ V n σ H, ⟨xs.length, by simp, Nat.zero_le _, la1, hs1, env, si1, hS, th1⟩, ?_⟩
      rintro n mm σ2 H2 ⟨rfl, hn, la2, hs2, env2, si2, hS2, th2⟩
      by_cases hlt : n < xs.length
      · have hx : xs.drop n = xs[n] :: xs.drop (n + 1) := List.drop_eq_getElem_cons hlt
        rw [hx] at th2
        refine .inr ⟨jok.go n la2 H2 hS2 hlt, V (n + 1), fun σ' H' q => ⟨_, by omega, rfl, hlt, q⟩, fun v H3 hy => ?_⟩
        obtain ⟨sm, rv⟩ := jok.yld n la2 H2 v H3 xs[n] hS2 (by simp [hlt]) hy
        have si3 := si2.step (.same sm) (si2.lo.same sm)
        have hS3 : St la2 H3 := jok.stay _ _ _ _ hS2 (Z.Same.kp sm) (List.prefix_refl _) fun a h => by cases h
        have th3 := ThenF.rebase (Z.Same.kp sm) (List.prefix_refl _) th2
        have th3 : ThenF X.K G W E la0 H0 la2 H3 (match turn xs[n] env2 hs2 with
          | .next e h => forF turn (xs.drop (n + 1)) e h
          | .brk e h => .next e h
          | r => r) := th3
        cases ha : asgT tg xs[n] env2 with
        | none =>
          have : turn xs[n] env2 hs2 = .err := by show (match asgT tg xs[n] env2 with | some e => evS T cal b e hs2 | none => .err) = .err; rw [ha]
          rw [this] at th3; exact th3.elim
        | some env3 =>
          have ht : turn xs[n] env2 hs2 = evS T cal b env3 hs2 := by show (match asgT tg xs[n] env2 with | some e => evS T cal b e hs2 | none => .err) = _; rw [ha]
          rw [ht] at th3
          refine ⟨la2, env2, xs[n], env3, si3.eo, rv, ha, fun σ' eo3 off => ⟨la0, H0, la2, hs2, env3, asgT_si si3 rv.pl ha eo3 off, ?_⟩⟩
          revert th3
          cases evS T cal b env3 hs2 with
          | next e4 h4 => exact fun th3 la' H' σ4 kp pr si4 => ⟨la', h4, e4, si4, jok.stay _ _ _ _ hS3 kp pr (fun a h => by cases h), ThenF.rebase kp pr th3⟩
          | brk e4 h4 => exact fun th3 => th3
          | ret => exact fun th3 => th3
          | exc => exact fun th3 => th3
          | err => exact fun th3 => th3
      · have e : n = xs.length := by omega
        subst e
        rw [List.drop_length] at th2
        exact .inl ⟨jok.stop _ la2 H2 hS2 (Nat.le_refl _), th2 la2 H2 σ2 .refl (List.prefix_refl _) si2⟩
theorem ss_whl {t : PySem.Expr} (g : GoodS T cal G k X W) (hc : PT X t (RdT T cal G X.K W c)) (hb : PSs X sts (RdS T cal G X.K W b)) : PS X (.While t sts [] pos) (RdS T cal G X.K W (.whl c b)) := by
  refine PS.mono (ps_while g.pass hc hb) fun E σ H ⟨la0, H0, la, hs, env, si, th⟩ => ?_
  have th : ThenF X.K G W E la0 H0 la H (whlF (fun e h => ev T cal c true e h) (fun e h => evS T cal b e h) fuel env hs) := th
  refine ⟨fun n σ H => ∃ la hs env, SI X.K la0 H0 la H hs env σ ∧ ThenF X.K G W E la0 H0 la H (whlF (fun e h => ev T cal c true e h) (fun e h => evS T cal b e h) n env hs), ⟨fuel, la, hs, env, si, th⟩, ?_⟩
  rintro n σ2 H2 ⟨la2, hs2, env2, si2, th2⟩
  cases n with
  | zero => exact th2.elim
  | succ n =>
    refine ⟨la2, hs2, env2, si2.eo, si2.lo, toS si2 th2 fun d hs' v la' H' er s si' r t' => ?_⟩
    clear er
    cases d <;> try (exact t'.elim)
    rename_i bb
    refine ⟨bb, r.1.bl, ?_⟩
    cases bb with
    | false => rw [if_neg Bool.false_ne_true]; exact t' la' H' _ .refl (List.prefix_refl _) si'
    | true =>
      rw [if_pos rfl]
      refine ⟨fun σ H => ∃ la hs env, SI X.K la0 H0 la H hs env σ ∧ ThenF X.K G W E la0 H0 la H (whlF (fun e h => ev T cal c true e h) (fun e h => evS T cal b e h) n env hs), fun σ' H' q => ⟨n, Nat.lt_succ_self _, q⟩, la0, H0, la', hs', env2, si', ?_⟩
      have t' : ThenF X.K G W E la0 H0 la' H' (match evS T cal b env2 hs' with
        | .next e h => whlF (fun e h => ev T cal c true e h) (fun e h => evS T cal b e h) n e h
        | .brk e h => .next e h
        | r => r) := t'
      revert t'
      cases evS T cal b env2 hs' with
      | next e4 h4 => exact fun t' la3 H3 σ4 kp pr si4 => ⟨la3, h4, e4, si4, ThenF.rebase kp pr t'⟩
      | brk e4 h4 => exact fun t' => t'
      | ret => exact fun t' => t'
      | exc => exact fun t' => t'
      | err => exact fun t' => t'
end
end Z
/-! Z18: every statement -/
namespace Z
open PySem PySem.Spec PyProof.Rows L2
def isFz : S → Bool
  | .fz _ => true
  | .fg _ => true
  | _ => false
def isNonE : E → Bool
  | .c .non => true
  | _ => false
structure ChkS where
  one : Scope → PySem.Stmt → Bool
  blk : Scope → List PySem.Stmt → Bool
def ChkS.of (f : Scope → PySem.Stmt → Bool) : ChkS := ⟨f, fun sc ss => match ss with
  | [s] => f sc s
  | _ => false⟩
def slotOk (N : List Str) (sc : Scope) (i : Nat) (x : Str) : Bool := decide (N[i]? = some x) && visB sc x && nameOk x
def asgNC (N : List Str) (G : GI) (i : Nat) (m : E) : Scope → PySem.Stmt → Bool := fun sc st => match st with
  | .Assign [.Name x _] e _ => decide (N[i]? = some x) && locB sc x && !isBE m && (chk N G m).val sc e
  | _ => false
def parOk (N : List Str) (G : GI) : E → E → Scope → PySem.Stmt → Bool
  | .tup (.cons (.v i) (.cons (.v j) .nil)), .tup l => fun sc st => match st with
    | .Assign [.Tuple [.Name x px, .Name y py] _ _] (.Tuple [a, b] _ _) _ => parC sc [(x, px), (y, py)] [a, b] && decide (N[i]? = some x) && decide (N[j]? = some y) && decide (x ≠ y) && noBs l && (chk N G l).lst sc [a, b]
    | _ => false
  | .tup (.cons (.v i) (.cons (.v j) (.cons (.v o) .nil))), .tup l => fun sc st => match st with
    | .Assign [.Tuple [.Name x px, .Name y py, .Name z pz] _ _] (.Tuple [a, b, c] _ _) _ => parC sc [(x, px), (y, py), (z, pz)] [a, b, c] && decide (N[i]? = some x) && decide (N[j]? = some y) && decide (N[o]? = some z) && decide (x ≠ y) && decide (x ≠ z) && decide (y ≠ z) && noBs l && (chk N G l).lst sc [a, b, c]
    | _ => false
  | _, _ => fun _ _ => false
/-- what is walked by a loop -/
def forIt (N : List Str) (G : GI) (it : E) (sc : Scope) (t e : PySem.Expr) : Bool := itOk (itC N G it) sc t e && !isBE it
def asgC (N : List Str) (G : GI) (tg m : E) : Scope → PySem.Stmt → Bool := fun sc st => match st with
    | .Assign [.Tuple ts k p] e _ => (chkG N (fun _ => true) tg).1 sc (.Tuple ts k p) && noSwap sc [.Tuple ts k p] e && !isBE m && (chk N G m).val sc e
    | _ => false
def idxC (N : List Str) (G : GI) (i : Nat) (k m : E) : Scope → PySem.Stmt → Bool := fun sc st => match st with
    | .Assign [.Subscript (.Name x _) ke _] e _ => slotOk N sc i x && noSlice ke && !isBE m && (chk N G m).val sc e && (chk N G k).val sc ke
    | _ => false
def augC (N : List Str) (G : GI) (i : Nat) (o : Bop) (m : E) : Scope → PySem.Stmt → Bool := fun sc st => match st with
    | .AugAssign (.Name x _) op e _ => decide (N[i]? = some x) && locB sc x && (pyAug o op).isSome && !isBE m && (chk N G m).val sc e
    | _ => false
def appC (N : List Str) (G : GI) (i : Nat) (m : E) : Scope → PySem.Stmt → Bool := fun sc st => match st with
    | .Expr (.Call (.Attribute (.Name x _) a ap) [e] [] cp) _ => decide (a = "append") && slotOk N sc i x && (ap.endLine == cp.line) && noStar e && !isBE m && (chk N G m).val sc e
    | _ => false
def extC (N : List Str) (G : GI) (i : Nat) (m : E) : Scope → PySem.Stmt → Bool := fun sc st => match st with
    | .Expr (.Call (.Attribute (.Name x _) a ap) [e] [] cp) _ => decide (a = "extend") && slotOk N sc i x && (ap.endLine == cp.line) && noStar e && !isBE m && (chk N G m).val sc e
    | _ => false
def popC (N : List Str) (tg : E) (i : Nat) : Scope → PySem.Stmt → Bool := fun sc st => match st with
    | .Assign [t] (.Call (.Attribute (.Name x _) a ap) [] [] cp) _ => decide (a = "pop") && slotOk N sc i x && (ap.endLine == cp.line) && (chkG N (fun _ => true) tg).1 sc t
    | _ => false
def exC (N : List Str) (G : GI) (m : E) : Scope → PySem.Stmt → Bool := fun sc st => match st with
    | .Expr e _ => !isComp e && (chk N G m).val sc e
    | _ => false
def retC (N : List Str) (G : GI) (m : E) : Scope → PySem.Stmt → Bool := fun sc st => match st with
    | .Return (some e) _ => !isBE m && (chk N G m).val sc e
    | .Return none _ => isNonE m
    | _ => false
def retvC (N : List Str) (i : Nat) : Scope → PySem.Stmt → Bool := fun sc st => match st with
    | .Return (some (.Name x _)) _ => slotOk N sc i x
    | _ => false
def ifC (N : List Str) (G : GI) (c : E) (a b : ChkS) : Scope → PySem.Stmt → Bool := fun sc st => match st with
    | .If t xs ys _ => (chk N G c).tst sc t && a.blk sc xs && b.blk sc ys
    | _ => false
def forC (N : List Str) (G : GI) (tg it : E) (b : ChkS) : Scope → PySem.Stmt → Bool := fun sc st => match st with
    | .For t e xs [] _ => forIt N G it sc t e && (chkG N (fun _ => true) tg).1 sc t && b.blk sc xs
    | _ => false
def whlC (N : List Str) (G : GI) (c : E) (b : ChkS) : Scope → PySem.Stmt → Bool := fun sc st => match st with
    | .While t xs [] _ => (chk N G c).tst sc t && b.blk sc xs
    | _ => false
def brkC : Scope → PySem.Stmt → Bool := fun _ st => match st with
    | .Break _ => true
    | _ => false
def passC : Scope → PySem.Stmt → Bool := fun _ st => match st with
    | .Pass _ => true
    | _ => false
def skipC : Scope → List PySem.Stmt → Bool := fun sc ss => match ss with
    | [] => true
    | [s] => passC sc s
    | _ => false
def seqC (z : Bool) (a b : ChkS) : Scope → List PySem.Stmt → Bool := fun sc ss => if z then b.blk sc ss else match ss with
    | s :: ss => a.one sc s && b.blk sc ss
    | [] => false
def chkS (N : List Str) (G : GI) : S → ChkS
  | .never => ⟨fun _ _ => true, fun _ _ => true⟩
  | .skip => ⟨passC, skipC⟩
  | .seq a b => ⟨fun _ _ => false, seqC (isFz a) (chkS N G a) (chkS N G b)⟩
  | .set i m => ChkS.of (asgNC N G i m)
  | .seto i m => ChkS.of (asgNC N G i m)
  | .setl i m => ChkS.of (asgNC N G i m)
  | .asg tg m => ChkS.of (asgC N G tg m)
  | .par tg m => ChkS.of (parOk N G tg m)
  | .idxs i k m => ChkS.of (idxC N G i k m)
  | .aug i o m => ChkS.of (augC N G i o m)
  | .app i m => ChkS.of (appC N G i m)
  | .ext i m => ChkS.of (extC N G i m)
  | .pop tg i => ChkS.of (popC N tg i)
  | .ex m => ChkS.of (exC N G m)
  | .ret m => ChkS.of (retC N G m)
  | .retv i => ChkS.of (retvC N i)
  | .ife c a b => ChkS.of (ifC N G c (chkS N G a) (chkS N G b))
  | .for tg it b => ChkS.of (forC N G tg it (chkS N G b))
  | .whl c b => ChkS.of (whlC N G c (chkS N G b))
  | .brk => ChkS.of brkC
  | .raise _ _ => ChkS.of fun _ _ => false
  | .fz _ => ChkS.of fun _ _ => false
  | .fg _ => ChkS.of fun _ _ => false
section
variable {T : Tbl} {cal : Nat → List D → Hs → R} {G : GI} {k : Nat}
theorem val_comp {N : List Str} {sc : Scope} {e : PySem.Expr} {m : E} (hc : isComp e = true) (h : (chk N G m).val sc e = true) : ∃ tg it cd el, m = .lc tg it cd el := by
  cases m
  case lc tg it cd el => exact ⟨tg, it, cd, el, rfl⟩
  case bi f l =>
    by_cases hf : ∃ ts, f = .isinst ts
    · obtain ⟨ts, rfl⟩ := hf
      cases l
      case cons a r =>
        cases r <;> (cases e <;> first | (cases hc; done) | (cases h; done))
      all_goals (cases e <;> first | (cases hc; done) | (cases h; done))
    · rw [chk_bi_eq fun ts e => hf ⟨ts, e⟩] at h
      cases e <;> first | (cases hc; done) | (cases h; done)
  all_goals (cases e <;> first | (cases hc; done) | (cases h; done))
theorem asg_ok {X : Cx} {W : L2.WX} (g : Good T cal G k X W) {e : PySem.Expr} {m : E} (h : (chk X.N G m).val X.env.scope e = true) : AsgOk X e (RdE T cal G X.K W m) := by
  cases hc : isComp e with
  | false => exact .inl ⟨hc, (snd m X W g).1 e h⟩
  | true =>
    obtain ⟨tg, it, cd, el, rfl⟩ := val_comp hc h
    exact .inr (lc_of (snd it) (fun _ l _ => snd l) (snd cd) (snd el) g h)
/-- what is shown of a statement -/
def SndS (T : Tbl) (cal : Nat → List D → Hs → R) (G : GI) (k : Nat) (m : S) : Prop := ∀ (X : Cx) (W : L2.WX), GoodS T cal G k X W →
  (∀ st, (chkS X.N G m).one X.env.scope st = true → PS X st (RdS T cal G X.K W m)) ∧ ∀ sts, (chkS X.N G m).blk X.env.scope sts = true → PSs X sts (RdS T cal G X.K W m)
theorem sndS_of {m : S} {f : List Str → Scope → PySem.Stmt → Bool} (hm : ∀ N, chkS N G m = ChkS.of (f N)) (h : ∀ (X : Cx) (W : L2.WX), GoodS T cal G k X W → ∀ st, f X.N X.env.scope st = true → PS X st (RdS T cal G X.K W m)) : SndS T cal G k m := fun X W g => by
  rw [hm]
  refine ⟨h X W g, fun sts hs => ?_⟩
  match sts, hs with
  | [st], hs => exact pss_one (h X W g st hs)
theorem sndS_no {m : S} (hm : ∀ N, chkS N G m = ChkS.of fun _ _ => false) : SndS T cal G k m := sndS_of (f := fun _ _ _ => false) hm fun X W g st h => by cases h
theorem slot_of {N : List Str} {sc : Scope} {i : Nat} {x : Str} (h : slotOk N sc i x = true) : N[i]? = some x ∧ visB sc x = true ∧ nameOk x = true := by
  simp only [slotOk, Bool.and_eq_true, decide_eq_true_eq] at h
  exact ⟨h.1.1, h.1.2, h.2⟩
theorem asgN_of {N : List Str} {i : Nat} {m : E} {sc : Scope} {st : PySem.Stmt} (h : asgNC N G i m sc st = true) : ∃ x pp e pos, st = .Assign [.Name x pp] e pos ∧ N[i]? = some x ∧ L2.Loc sc x ∧ isBE m = false ∧ (chk N G m).val sc e = true := by
  unfold asgNC at h
  split at h
  · simp only [Bool.and_eq_true, decide_eq_true_eq] at h
    exact ⟨_, _, _, _, rfl, h.1.1.1, loc_of h.1.1.2, notB h.1.2, h.2⟩
  · cases h
theorem sndS (m : S) : SndS T cal G k m := by
  induction m with
  | never => exact fun X W g => ⟨fun _ _ => ss_never1, fun _ _ => ss_never⟩
  | skip =>
    have one : ∀ (X : Cx) (W : L2.WX) (st : PySem.Stmt), passC X.env.scope st = true → PS X st (RdS T cal G X.K W .skip) := fun X W st h => by
      unfold passC at h
      split at h
      · exact ss_pass
      · cases h
    refine fun X W g => ⟨one X W, fun sts h => ?_⟩
    have h : skipC X.env.scope sts = true := h
    unfold skipC at h
    split at h
    · exact ss_nil
    · exact pss_one (one X W _ h)
    · cases h
  | seq a b iha ihb =>
    refine fun X W g => ⟨fun st h => (by cases h), fun sts h => ?_⟩
    have h : seqC (isFz a) (chkS X.N G a) (chkS X.N G b) X.env.scope sts = true := h
    unfold seqC at h
    cases hz : isFz a with
    | true =>
      rw [hz, if_pos rfl] at h
      have := (ihb X W g).2 sts h
      cases a <;> first | exact ss_fz this | exact ss_fg this | cases hz
    | false =>
      rw [hz, if_neg Bool.false_ne_true] at h
      split at h
      · rw [Bool.and_eq_true] at h
        exact ss_cons ((iha X W g).1 _ h.1) ((ihb X W g).2 _ h.2)
      · cases h
  | set i m =>
    refine sndS_of (fun N => rfl) fun X W g st h => ?_
    obtain ⟨x, pp, e, pos, rfl, h1, h2, h3, h4⟩ := asgN_of h
    exact ss_set g h1 h2 h3 (asg_ok g.toGood h4)
  | seto i m =>
    refine sndS_of (fun N => rfl) fun X W g st h => ?_
    obtain ⟨x, pp, e, pos, rfl, h1, h2, h3, h4⟩ := asgN_of h
    exact ss_seto g h1 h2 h3 (asg_ok g.toGood h4)
  | setl i m =>
    refine sndS_of (fun N => rfl) fun X W g st h => ?_
    obtain ⟨x, pp, e, pos, rfl, h1, h2, h3, h4⟩ := asgN_of h
    exact ss_setl g h1 h2 h3 (asg_ok g.toGood h4)
  | asg tg m =>
    refine sndS_of (f := fun N => asgC N G tg m) (fun N => rfl) fun X W g st h => ?_
    unfold asgC at h
    split at h
    · simp only [Bool.and_eq_true] at h
      exact ss_asg g h.1.1.1 h.1.1.2 (notB h.1.2) ((snd m X W g.toGood).1 _ h.2)
    · cases h
  | par tg m =>
    refine sndS_of (f := fun N => parOk N G tg m) (fun N => rfl) fun X W g st h => ?_
    unfold parOk at h
    split at h
    · split at h
      · simp only [Bool.and_eq_true, decide_eq_true_eq] at h
        obtain ⟨⟨⟨⟨⟨h1, h2⟩, h3⟩, h4⟩, h5⟩, h6⟩ := h
        exact ss_par2 g h1 h2 h3 h4 h5 ((snd _ X W g.toGood).2.2 _ h6)
      · cases h
    · split at h
      · simp only [Bool.and_eq_true, decide_eq_true_eq] at h
        obtain ⟨⟨⟨⟨⟨⟨⟨⟨h1, h2⟩, h3⟩, h4⟩, h5⟩, h6⟩, h7⟩, h8⟩, h9⟩ := h
        exact ss_par3 g h1 h2 h3 h4 h5 h6 h7 h8 ((snd _ X W g.toGood).2.2 _ h9)
      · cases h
    · cases h
  | idxs i kx m =>
    refine sndS_of (f := fun N => idxC N G i kx m) (fun N => rfl) fun X W g st h => ?_
    unfold idxC at h
    split at h
    · simp only [Bool.and_eq_true] at h
      obtain ⟨⟨⟨⟨h1, h2⟩, h3⟩, h4⟩, h5⟩ := h
      obtain ⟨q1, q2, q3⟩ := slot_of h1
      exact ss_idxs g q1 q2 q3 h2 (notB h3) ((snd m X W g.toGood).1 _ h4) ((snd kx X W g.toGood).1 _ h5)
    · cases h
  | aug i o m =>
    refine sndS_of (f := fun N => augC N G i o m) (fun N => rfl) fun X W g st h => ?_
    unfold augC at h
    split at h
    · simp only [Bool.and_eq_true, decide_eq_true_eq] at h
      obtain ⟨⟨⟨⟨h1, h2⟩, h3⟩, h4⟩, h5⟩ := h
      exact ss_aug g h1 (loc_of h2) h3 (notB h4) ((snd m X W g.toGood).1 _ h5)
    · cases h
  | app i m =>
    refine sndS_of (f := fun N => appC N G i m) (fun N => rfl) fun X W g st h => ?_
    unfold appC at h
    split at h
    · simp only [Bool.and_eq_true, decide_eq_true_eq] at h
      obtain ⟨⟨⟨⟨⟨rfl, h2⟩, h3⟩, h4⟩, h5⟩, h6⟩ := h
      obtain ⟨q1, q2, q3⟩ := slot_of h2
      exact ss_app g q1 q2 q3 h3 h4 (notB h5) ((snd m X W g.toGood).1 _ h6)
    · cases h
  | ext i m =>
    refine sndS_of (f := fun N => extC N G i m) (fun N => rfl) fun X W g st h => ?_
    unfold extC at h
    split at h
    · simp only [Bool.and_eq_true, decide_eq_true_eq] at h
      obtain ⟨⟨⟨⟨⟨rfl, h2⟩, h3⟩, h4⟩, h5⟩, h6⟩ := h
      obtain ⟨q1, q2, q3⟩ := slot_of h2
      exact ss_ext g q1 q2 q3 h3 h4 (notB h5) ((snd m X W g.toGood).1 _ h6)
    · cases h
  | pop tg i =>
    refine sndS_of (f := fun N => popC N tg i) (fun N => rfl) fun X W g st h => ?_
    unfold popC at h
    split at h
    · simp only [Bool.and_eq_true, decide_eq_true_eq] at h
      obtain ⟨⟨⟨rfl, h2⟩, h3⟩, h4⟩ := h
      obtain ⟨q1, q2, q3⟩ := slot_of h2
      exact ss_pop g q1 q2 q3 h3 h4
    · cases h
  | ex m =>
    refine sndS_of (f := fun N => exC N G m) (fun N => rfl) fun X W g st h => ?_
    unfold exC at h
    split at h
    · rw [Bool.and_eq_true] at h
      exact ss_ex g (notB h.1) ((snd m X W g.toGood).1 _ h.2)
    · cases h
  | ret m =>
    refine sndS_of (f := fun N => retC N G m) (fun N => rfl) fun X W g st h => ?_
    unfold retC at h
    split at h
    · rw [Bool.and_eq_true] at h
      exact ss_ret (notB h.1) ((snd m X W g.toGood).1 _ h.2)
    · cases m <;> try (cases h; done)
      rename_i d
      cases d <;> first | exact ss_retN | cases h
    · cases h
  | retv i =>
    refine sndS_of (f := fun N => retvC N i) (fun N => rfl) fun X W g st h => ?_
    unfold retvC at h
    split at h
    · obtain ⟨q1, q2, q3⟩ := slot_of h
      exact ss_retv q1 q2 q3
    · cases h
  | ife c a b iha ihb =>
    refine sndS_of (f := fun N => ifC N G c (chkS N G a) (chkS N G b)) (fun N => rfl) fun X W g st h => ?_
    unfold ifC at h
    split at h
    · obtain ⟨h1, h2, h3⟩ := and3 h
      exact ss_ife ((snd c X W g.toGood).2.1 _ h1) ((iha X W g).2 _ h2) ((ihb X W g).2 _ h3)
    · cases h
  | «for» tg it b ihb =>
    refine sndS_of (f := fun N => forC N G tg it (chkS N G b)) (fun N => rfl) fun X W g st h => ?_
    unfold forC at h
    split at h
    · obtain ⟨h1, h2, h3⟩ := and3 h
      rw [forIt, Bool.and_eq_true] at h1
      exact ss_for g (itOk_set h1.1) ((it_all (snd it) (fun _ l _ => snd l) g.toGood h1.1).2 (notB h1.2)) h2 ((ihb X W g).2 _ h3)
    · cases h
  | whl c b ihb =>
    refine sndS_of (f := fun N => whlC N G c (chkS N G b)) (fun N => rfl) fun X W g st h => ?_
    unfold whlC at h
    split at h
    · rw [Bool.and_eq_true] at h
      exact ss_whl g ((snd c X W g.toGood).2.1 _ h.1) ((ihb X W g).2 _ h.2)
    · cases h
  | brk =>
    refine sndS_of (f := fun N => brkC) (fun N => rfl) fun X W g st h => ?_
    unfold brkC at h
    split at h
    · exact ss_brk
    · cases h
  | raise => exact sndS_no fun N => rfl
  | fz => exact sndS_no fun N => rfl
  | fg => exact sndS_no fun N => rfl
end
end Z
/-! Z19: every def of a program; the law's end -/
namespace Z
open PySem PySem.Spec PyProof.Rows L2
/-- a def in its place -/
def DefOk (K : PySem.W.Frag) (mg : Str → Option Value) (T : Tbl) (G : GI) (f : Nat) (x : Str) (a : Addr) (fd : FuncData) (ps : List Str) : Prop :=
  ∃ (N : List Str) (st : PySem.Stmt) (F : Fn), mg x = some (.ref a) ∧ Fun K x x st a fd ∧ Binds K fd ps [] ∧ T.fns[f]? = some F ∧ FnScope N ps (defScope st) ∧ ps.length = F.np ∧ N.length = F.ns ∧ (chkS N G F.body).blk (defScope st) (defBody st) = true
def bltNames : List Str := ["len", "abs", "int", "min", "max", "sum", "all", "any", "tuple", "list", "sorted", "range", "zip", "enumerate", "isinstance", "bool", "str", "dict"]
structure ModOk (K : PySem.W.Frag) (mg : Str → Option Value) (T : Tbl) (G : GI) : Prop where
  fn : ∀ f x, G.fns[f]? = some x → ∃ a fd ps, DefOk K mg T G f x a fd ps
  cst : ∀ (n : Nat) (x : Str) (d : D), G.cs[n]? = some x → T.gcs[n]? = some d → ∃ u v, mg x = some u ∧ RelV v u ∧ ∀ la H, Rep K la H d v
  blt : ∀ x ∈ bltNames, mg x = none
section
variable {P : Program} {w : World} {K : PySem.W.Frag} {mg : Str → Option Value} {base : Heap} {T : Tbl} {G : GI}
theorem start_ok {N : List Str} {la : List Addr} {H : Hp} {ds : List D} {vs : List V} {ns np : Nat} (r : RepL K la H ds vs) (h1 : ds.length = np) (h2 : N.length = ns) (h3 : np ≤ ns) : EnvOk K la H (ds.map some ++ List.replicate (ns - np) none) (L2.start N vs) := by
  have hl := r.len
  have at_ : ∀ {i : Nat} {d : D}, (ds.map some ++ List.replicate (ns - np) none)[i]? = some (some d) → ds[i]? = some d := fun {i d} h => by
    by_cases hi : i < ds.length
    · rw [List.getElem?_append_left (by simpa using hi), List.getElem?_map] at h
      cases hd : ds[i]? with
      | none => rw [hd] at h; cases h
      | some e => rw [hd] at h; cases h; rfl
    · rw [List.getElem?_append_right (by simp; omega), List.getElem?_replicate] at h
      split at h <;> cases h
  refine ⟨?_, fun i d h => ?_, fun i j d e hij hi hj ho _ => ?_⟩
  · unfold L2.start
    simp only [List.length_append, List.length_map, List.length_replicate]
    omega
  · obtain ⟨v, hv, rv⟩ := r.get (at_ h)
    refine ⟨v, ?_, .of rv⟩
    unfold L2.start
    have hi := (List.getElem?_eq_some_iff.mp hv).1
    rw [List.getElem?_append_left (by simpa using hi), List.getElem?_map, hv]
    rfl
  · obtain ⟨v, hv, rv⟩ := r.get (at_ hi)
    rw [rv.noOwn] at ho; cases ho
theorem fn_one (M : ModOk K mg T G) : ∀ (d f : Nat) (x : Str) (a : Addr) (fd : FuncData) (ps : List Str), DefOk K mg T G f x a fd ps → FnOk P w K mg base (L2.CX P w) d a fd ps (spOf K G (runN T d) f) := by
  intro d
  induction d with
  | zero =>
    intro f x a fd ps _
    have no : ∀ vs H Q E, spOf K G (runN T 0) f vs H Q E → False := fun vs H Q E ⟨la, hs, ds, _, _, t⟩ => t
    exact ⟨fun vs H Q E h => (no _ _ _ _ h).elim, fun _ _ _ _ _ _ _ _ _ _ _ _ _ h => (no _ _ _ _ h).elim⟩
  | succ d ih =>
    intro f x a fd ps ⟨N, st, F, hm, hF, hb, hT, S, hnp, hns, hc⟩
    have run : ∀ ds hs, runN T (d + 1) f ds hs = if ds.length = F.np then fin (evS T (runN T d) F.body (ds.map some ++ List.replicate (F.ns - F.np) none) hs) else .err := fun ds hs => by
      show (match T.fns[f]? with | some F => _ | none => _) = _
      rw [hT]
    have le : F.np ≤ F.ns := by
      rw [← hnp, ← hns]
      have := congrArg List.length S.pre
      rw [List.length_take] at this
      omega
    refine hF.okX S (fun vs H Q E ⟨la, hs, ds, rl, lo, t⟩ => ?_) fun cdv A outer s H vs Q E hr ⟨la, hs, ds, rl, lo, t⟩ => ?_
    · rw [run] at t
      by_cases hl : ds.length = F.np
      · rw [← rl.len, hl, hnp]
      · rw [if_neg hl] at t; exact t.elim
    · rw [run] at t
      by_cases hl : ds.length = F.np
      · rw [if_pos hl] at t
        have g : GoodS T (runN T d) G d (cxOf (L2.CX P w) P w K mg base N x (defScope st) a cdv A outer s H E) (fun c dd _ H' => E c dd H') :=
          { calm := rfl, nd := S.nd, room := hr, tk := takes_of rfl rfl rfl rfl, cst := M.cst, blt := M.blt, pass := passes_of (K := fun e s'' => L2.CX P w outer H s E e s'') rfl, loc := fun _ => rfl,
            fn := fun f' x' hx => by
              obtain ⟨a', fd', ps', D'⟩ := M.fn f' x' hx
              have := ih f' x' a' fd' ps' D'
              obtain ⟨N', st', F', hm', hF', hb', _⟩ := D'
              exact ⟨a', fd', ps', hm', hF'.kp, hb', this⟩ }
        refine ⟨_, (sndS F.body _ _ g).2 (defBody st) hc, la, H, la, hs, ds.map some ++ List.replicate (F.ns - F.np) none, ⟨start_ok rl hl hns le, lo, .refl, fun i e b he ho hv => ?_⟩, ?_⟩
        · have eo := start_ok (K := K) rl hl hns le
          obtain ⟨v, e1, r⟩ := eo.slot i e he
          -- no slot is owned at the start
          by_cases hi : i < ds.length
          · rw [List.getElem?_append_left (by simpa using hi), List.getElem?_map] at he
            cases hd : ds[i]? with
            | none => rw [hd] at he; cases he
            | some e' =>
              rw [hd] at he; cases he
              obtain ⟨_, _, rv⟩ := rl.get hd
              rw [rv.noOwn] at ho; cases ho
          · rw [List.getElem?_append_right (by simp; omega), List.getElem?_replicate] at he
            split at he <;> cases he
        · revert t
          cases evS T (runN T d) F.body (ds.map some ++ List.replicate (F.ns - F.np) none) hs with
          | next e h1 => exact fun t la' H' σ' kp pr si => t .non la' H' si.st si.lo (.of (.of (by rw [Rep])))
          | ret v h1 => exact fun t v la' H' s lo r => t v la' H' s lo (.of r)
          | brk => exact fun t => t.elim
          | exc y e h1 => exact fun t c dd la' H' σ' si e => t c dd la' H' si.st si.lo e
          | err => exact fun t => t.elim
      · rw [if_neg hl] at t; exact t.elim
/-! ### the law's end -/
def noLst (K : PySem.W.Frag) : Bool := K.all fun p => match p.2.cls with
  | .type n => n != "list"
  | _ => true
theorem noLst_of {K : PySem.W.Frag} (h : noLst K = true) {a : Addr} {o : Obj} (e : K.lookup a = some o) (c : o.cls = .type "list") : False := by
  have mem : ∀ {K : PySem.W.Frag}, K.lookup a = some o → (a, o) ∈ K := by
    intro K
    induction K with
    | nil => intro e; cases e
    | cons p r ih =>
      intro e
      obtain ⟨b, u⟩ := p
      rw [List.lookup_cons] at e
      split at e
      · rename_i q
        have := eq_of_beq q
        subst this
        cases e
        exact List.mem_cons_self
      · exact List.mem_cons_of_mem _ (ih e)
  have := List.all_eq_true.mp h (a, o) (mem e)
  rw [show ((a, o) : Addr × Obj).2.cls = .type "list" from c] at this
  cases this
def spLaw (K : PySem.W.Frag) : Sp := fun vs H Q _ => ∃ (a : Addr) (ns : List Int), vs = [.ref a] ∧ ns.length ≤ 63 ∧ Only H ∧ SqL K H a (ns.map V.int) ∧ ∀ H', Q (.bl true) H'
/-- the plain law -/
def PlainLaw (T : Tbl) (d f : Nat) : Prop := ∀ ns : List Int, ns.length ≤ 63 → ∃ hs, runN T d f [.lst (ns.map D.int)] [] = .ok (.bl true) hs
theorem law_one (M : ModOk K mg T G) {d f : Nat} {x : Str} {a : Addr} {fd : FuncData} {ps : List Str} (df : DefOk K mg T G f x a fd ps) (nl : noLst K = true) (pl : PlainLaw T d f) : FnOk P w K mg base (L2.CX P w) d a fd ps (spLaw K) := by
  refine (fn_one M d f x a fd ps df).imp fun vs H Q E ⟨b, ns, e, hl, hO, hS, q⟩ => ?_
  subst e
  have rl : Rep K [] H (.lst (ns.map D.int)) (.ref b) := by
    rw [Rep]
    rcases hS with (hS | ⟨o, hS⟩) | ⟨o, its, n, h1, h2, _⟩
    · rcases hO b with z | ⟨o, xs, z⟩ <;> (rw [z] at hS; cases hS)
    · exact ⟨b, _, o, rfl, hS, RepL.ints ns⟩
    · exact (noLst_of nl h1 h2).elim
  obtain ⟨hs, hr⟩ := pl ns hl
  refine ⟨[], [], [.lst (ns.map D.int)], .one rl, ⟨List.nodup_nil, rfl, fun n ds h => by simp at h⟩, ?_⟩
  rw [hr]
  intro v la' H' s lo rb
  rw [rb.1.bl]
  exact q H'
/-! ### the module's constants -/
def cstB (K : PySem.W.Frag) : Nat → D → Value → Bool
  | _, .non, .none => true
  | _, .bl b, .bool c => b == c
  | _, .int i, .int j _ => i == j
  | _, .str x, .str y _ => decide (x = y)
  | n + 1, .tup ds, .ref a => match K.lookup a with
    | some ⟨.type c, _, .seq its _, _⟩ => c == "tuple" && decide (its.size ≤ sizeLine) && ds.length == its.toList.length && (ds.zip its.toList).all fun p => cstB K n p.1 p.2
    | _ => false
  | _, _, _ => false
theorem cst_of {K : PySem.W.Frag} : ∀ (n : Nat) (d : D) (u : Value), cstB K n d u = true → ∃ v, RelV v u ∧ ∀ la H, Rep K la H d v := by
  intro n
  induction n with
  | zero =>
    intro d u h
    cases d <;> cases u <;> try (cases h; done)
    · exact ⟨.non, rfl, fun _ _ => by rw [Rep]⟩
    · exact ⟨.bl _, rfl, fun _ _ => by rw [Rep, eq_of_beq h]⟩
    · exact ⟨.int _, ⟨_, rfl⟩, fun _ _ => by rw [Rep, eq_of_beq h]⟩
    · exact ⟨.str _, ⟨_, rfl⟩, fun _ _ => by rw [Rep, of_decide_eq_true h]⟩
  | succ n ih =>
    intro d u h
    cases d <;> cases u <;> try (cases h; done)
    · exact ⟨.non, rfl, fun _ _ => by rw [Rep]⟩
    · exact ⟨.bl _, rfl, fun _ _ => by rw [Rep, eq_of_beq h]⟩
    · exact ⟨.int _, ⟨_, rfl⟩, fun _ _ => by rw [Rep, eq_of_beq h]⟩
    · exact ⟨.str _, ⟨_, rfl⟩, fun _ _ => by rw [Rep, of_decide_eq_true h]⟩
    · rename_i ds a
      have h : (match K.lookup a with
        | some ⟨.type c, _, .seq its _, _⟩ => c == "tuple" && decide (its.size ≤ sizeLine) && ds.length == its.toList.length && (ds.zip its.toList).all fun p => cstB K n p.1 p.2
        | _ => false) = true := h
      split at h
      · rename_i c dc its nn sl hk
        simp only [Bool.and_eq_true, decide_eq_true_eq] at h
        obtain ⟨⟨⟨h1, h2⟩, h3⟩, h4⟩ := h
        have hc := eq_of_beq h1
        subst hc
        have go : ∀ (ds : List D) (us : List Value), ds.length = us.length → ((ds.zip us).all fun p => cstB K n p.1 p.2) = true → ∃ vs, Vals vs us ∧ ∀ la H, RepL K la H ds vs := by
          intro ds
          induction ds with
          | nil =>
            intro us hl _
            cases us with
            | nil => exact ⟨[], .nil, fun _ _ => by rw [RepL]⟩
            | cons => cases hl
          | cons d ds ih2 =>
            intro us hl h
            cases us with
            | nil => cases hl
            | cons u us =>
              rw [List.zip_cons_cons, List.all_cons, Bool.and_eq_true] at h
              obtain ⟨v, r1, r2⟩ := ih d u h.1
              obtain ⟨vs, r3, r4⟩ := ih2 us (by simpa using hl) h.2
              exact ⟨v :: vs, .cons r1 r3, fun la H => by rw [RepL]; exact ⟨v, vs, rfl, r2 la H, r4 la H⟩⟩
        obtain ⟨vs, r1, r2⟩ := go ds its.toList (eq_of_beq h3) h4
        exact ⟨.ref a, rfl, fun la H => by
          rw [Rep]
          exact ⟨a, vs, rfl, .inr ⟨_, its, nn, hk, rfl, rfl, h2, r1⟩, r2 la H⟩⟩
      · cases h
def gcB (K : PySem.W.Frag) (x : Str) (d : D) : Bool := match PySem.W.nsIn K mainGlobals x with
  | some (some u) => cstB K 8 d u
  | _ => false
def gcsB (K : PySem.W.Frag) (cs : List Str) (ds : List D) : Bool := cs.length == ds.length && (cs.zip ds).all fun p => gcB K p.1 p.2
def bltB (K : PySem.W.Frag) : Bool := bltNames.all fun x => match PySem.W.nsIn K mainGlobals x with
  | some none => true
  | _ => false
theorem zip_get {α β : Type} : ∀ {as : List α} {bs : List β} {n : Nat} {a : α} {b : β}, as[n]? = some a → bs[n]? = some b → (a, b) ∈ as.zip bs
  | [], _, _, _, _, h, _ => by simp at h
  | _ :: _, [], _, _, _, _, h => by simp at h
  | x :: as, y :: bs, 0, a, b, h1, h2 => by
    simp at h1 h2
    subst h1; subst h2
    simp
  | x :: as, y :: bs, n + 1, a, b, h1, h2 => by
    simp at h1 h2
    rw [List.zip_cons_cons]
    exact List.mem_cons_of_mem _ (zip_get h1 h2)
/-- all of the defs -/
def AllD (Q : Nat → Str → Prop) : Nat → List Str → Prop
  | _, [] => True
  | n, x :: xs => Q n x ∧ AllD Q (n + 1) xs
theorem AllD.get {Q : Nat → Str → Prop} : ∀ {xs : List Str} {n f : Nat} {x : Str}, AllD Q n xs → xs[f]? = some x → Q (n + f) x
  | [], _, _, _, _, h => by simp at h
  | y :: ys, n, 0, x, a, h => by
    simp at h; subst h; exact a.1
  | y :: ys, n, f + 1, x, a, h => by
    have := AllD.get (n := n + 1) (f := f) a.2 (by simpa using h)
    rw [show n + (f + 1) = n + 1 + f by omega]; exact this
theorem mod_mk {h : Heap} (X : K.In h) (Gs : h.Ns mainGlobals mg) (b : bltB K = true) (c : gcsB K G.cs T.gcs = true) (fn : AllD (fun f x => ∃ a fd ps, DefOk K mg T G f x a fd ps) 0 G.fns) : ModOk K mg T G := by
  refine ⟨fun f x hx => by have := fn.get hx; rwa [Nat.zero_add] at this, fun n x d h1 h2 => ?_, fun x hx => ?_⟩
  · rw [gcsB, Bool.and_eq_true] at c
    have := List.all_eq_true.mp c.2 _ (zip_get h1 h2)
    have : gcB K x d = true := this
    unfold gcB at this
    split at this
    · rename_i u hu
      obtain ⟨v, q1, q2⟩ := cst_of 8 d u this
      exact ⟨u, v, PySem.W.mg_of X Gs hu, q1, q2⟩
    · cases this
  · have := List.all_eq_true.mp b x hx
    split at this
    · rename_i hu
      exact PySem.W.mg_none_of X Gs hu
    · cases this
theorem def_mk {h : Heap} (X : K.In h) (Gs : h.Ns mainGlobals mg) {x : Str} {a : Addr} {st : PySem.Stmt} {od an : Option Addr} {sl : Array (Option Value)} {oc kV dc pm cd ct : Value}
    (a1 : PySem.W.nsIn K mainGlobals x = some (some (.ref a))) (l1 : K.lookup a = some ⟨oc, od, .func (PySem.W.fnOf x x (defArgs st) (defBody st) (defScope st) .none kV dc pm an cd ct), sl⟩) (c1 : PySem.W.codeIn K cd x = true) (k1 : PySem.W.keepIn K (.ref a) = true)
    {f : Nat} {F : Fn} {N ps : List Str} (hb : ∀ us : List Value, us.length = ps.length → bindArgs (PySem.W.fnOf x x (defArgs st) (defBody st) (defScope st) .none kV dc pm an cd ct) ⟨us, []⟩ = pure (ps.zip us)) (hT : T.fns[f]? = some F) (S : FnScope N ps (defScope st))
    (h1 : ps.length = F.np) (h2 : N.length = F.ns) (hc : (chkS N G F.body).blk (defScope st) (defBody st) = true) : DefOk K mg T G f x a (PySem.W.fnOf x x (defArgs st) (defBody st) (defScope st) .none kV dc pm an cd ct) ps :=
  ⟨N, st, F, PySem.W.mg_of X Gs a1, fun_mk l1 c1 k1, .all hb, hT, S, h1, h2, hc⟩
end
end Z
/-! Z20: evaluation's lemmas -/
namespace Z
open PySem
theorem forF_inv (Q : En → Hs → Prop) {turn : D → En → Hs → SR} : ∀ {xs : List D} {e : En} {h : Hs}, (∀ x ∈ xs, ∀ e h, Q e h → ∃ e' h', turn x e h = .next e' h' ∧ Q e' h') → Q e h → ∃ e' h', forF turn xs e h = .next e' h' ∧ Q e' h'
  | [], e, h, _, q => ⟨e, h, rfl, q⟩
  | x :: xs, e, h, hx, q => by
    obtain ⟨e1, h1, he, q1⟩ := hx x List.mem_cons_self e h q
    obtain ⟨e2, h2, he2, q2⟩ := forF_inv Q (fun y hy => hx y (List.mem_cons_of_mem _ hy)) q1
    exact ⟨e2, h2, by rw [forF, he]; exact he2, q2⟩
/-- by the turn -/
theorem forF_ix (Q : Nat → En → Hs → Prop) {turn : D → En → Hs → SR} : ∀ {xs : List D} {n : Nat} {e : En} {h : Hs}, (∀ k x e h, xs[k]? = some x → Q (n + k) e h → ∃ e' h', turn x e h = .next e' h' ∧ Q (n + k + 1) e' h') → Q n e h → ∃ e' h', forF turn xs e h = .next e' h' ∧ Q (n + xs.length) e' h'
  | [], n, e, h, _, q => ⟨e, h, rfl, q⟩
  | x :: xs, n, e, h, hx, q => by
    obtain ⟨e1, h1, he, q1⟩ := hx 0 x e h rfl q
    obtain ⟨e2, h2, he2, q2⟩ := forF_ix Q (xs := xs) (n := n + 1) (fun k y e h hy hq => by
      have := hx (k + 1) y e h (by simpa using hy) (by rw [show n + (k + 1) = n + 1 + k by omega]; exact hq)
      rwa [show n + (k + 1) + 1 = n + 1 + k + 1 by omega] at this) q1
    exact ⟨e2, h2, by rw [forF, he]; exact he2, by rw [List.length_cons, show n + (xs.length + 1) = n + 1 + xs.length by omega]; exact q2⟩
/-- over lo, lo + 1, .. -/
theorem forF_rng (Q : Int → En → Hs → Prop) {turn : D → En → Hs → SR} {lo hi : Int} {e : En} {h : Hs} (hl : lo ≤ hi) (hx : ∀ i e h, lo ≤ i → i < hi → Q i e h → ∃ e' h', turn (.int i) e h = .next e' h' ∧ Q (i + 1) e' h') (q : Q lo e h) :
    ∃ e' h', forF turn (rng lo hi) e h = .next e' h' ∧ Q hi e' h' := by
  obtain ⟨e', h', he, q'⟩ := forF_ix (fun n => Q (lo + n)) (turn := turn) (xs := rng lo hi) (n := 0) (e := e) (h := h) (fun k x e h hk hq => by
    have hl := (List.getElem?_eq_some_iff.mp hk).1
    rw [rng_len] at hl
    rw [rng_get _ _ _ hl] at hk
    cases hk
    obtain ⟨e', h', he, q'⟩ := hx (lo + k) e h (by omega) (by omega) (by simpa using hq)
    exact ⟨e', h', he, by rw [show lo + ((0 + k + 1 : Nat) : Int) = lo + k + 1 by omega]; exact q'⟩) (by simpa using q)
  refine ⟨e', h', he, ?_⟩
  rw [rng_len] at q'
  rwa [show lo + ((0 + (hi - lo).toNat : Nat) : Int) = hi by omega] at q'
/-- a comprehension whose turns leave the shared lists -/
theorem lcF_pure (g : D → List D) {turn : D → Hs → R} {h : Hs} : ∀ {xs : List D} {acc : List D}, (∀ x ∈ xs, (turn x h = .ok (.tup []) h ∧ g x = []) ∨ ∃ y, turn x h = .ok (.tup [y]) h ∧ g x = [y]) → lcF turn xs h acc = .ok (.own (acc ++ xs.flatMap g)) h
  | [], acc, _ => by simp [lcF]
  | x :: xs, acc, hx => by
    rw [lcF, List.flatMap_cons]
    rcases hx x List.mem_cons_self with ⟨e1, e2⟩ | ⟨y, e1, e2⟩
    · rw [e1, e2]
      have := lcF_pure g (turn := turn) (h := h) (xs := xs) (acc := acc) fun y hy => hx y (List.mem_cons_of_mem _ hy)
      simpa using this
    · rw [e1, e2]
      have := lcF_pure g (turn := turn) (h := h) (xs := xs) (acc := acc ++ [y]) fun y hy => hx y (List.mem_cons_of_mem _ hy)
      simpa using this
/-- .. without a test -/
theorem lcF_map (g : D → D) {turn : D → Hs → R} {h : Hs} {xs acc : List D} (hx : ∀ x ∈ xs, turn x h = .ok (.tup [g x]) h) : lcF turn xs h acc = .ok (.own (acc ++ xs.map g)) h := by
  rw [lcF_pure (fun x => [g x]) fun x hx' => .inr ⟨g x, hx x hx', rfl⟩]
  congr 3
  induction xs with
  | nil => rfl
  | cons x xs ih => rw [List.flatMap_cons, List.map_cons, ih fun y hy => hx y (List.mem_cons_of_mem _ hy)]; rfl
section
variable {d x y z : D} {h : Hs} {e : En} {i : Nat} {a b : Int}
@[simp] theorem bind_ok {f : D → Hs → R} : (R.ok d h).bind f = f d h := rfl
@[simp] theorem bind_exc {f : D → Hs → R} : (R.exc d h).bind f = .exc d h := rfl
@[simp] theorem toS_ok {f : D → Hs → SR} : (R.ok d h).toS e f = f d h := rfl
@[simp] theorem toS_exc {f : D → Hs → SR} : (R.exc d h).toS e f = .exc d e h := rfl
@[simp] theorem then_next {f : En → Hs → SR} : (SR.next e h).andThen f = f e h := rfl
@[simp] theorem then_ret {f : En → Hs → SR} : (SR.ret d h).andThen f = .ret d h := rfl
@[simp] theorem then_brk {f : En → Hs → SR} : (SR.brk e h).andThen f = .brk e h := rfl
@[simp] theorem then_exc {f : En → Hs → SR} : (SR.exc d e h).andThen f = .exc d e h := rfl
@[simp] theorem ofO_some : R.ofO h (some d) = .ok d h := rfl
@[simp] theorem bool1_some {k : Bool} : bool1 h (some k) = .ok (.bl k) h := rfl
@[simp] theorem fin_next : fin (.next e h) = .ok .non h := rfl
@[simp] theorem fin_ret : fin (.ret d h) = .ok d h := rfl
@[simp] theorem fin_exc : fin (.exc d e h) = .exc d h := rfl
@[simp] theorem items_tup {xs : List D} : (D.tup xs).items = xs := rfl
@[simp] theorem frz_non : D.non.frz = .non := rfl
@[simp] theorem frz_bl {k : Bool} : (D.bl k).frz = .bl k := rfl
@[simp] theorem frz_int : (D.int a).frz = .int a := rfl
@[simp] theorem frz_str {s : Str} : (D.str s).frz = .str s := rfl
@[simp] theorem frz_tup {xs : List D} : (D.tup xs).frz = .tup xs := rfl
@[simp] theorem frz_lst {xs : List D} : (D.lst xs).frz = .lst xs := rfl
@[simp] theorem frz_own {xs : List D} : (D.own xs).frz = .lst xs := rfl
@[simp] theorem frz_loc {n : Nat} : (D.loc n).frz = .loc n := rfl
@[simp] theorem own_non : D.non.isOwn = false := rfl
@[simp] theorem own_bl {k : Bool} : (D.bl k).isOwn = false := rfl
@[simp] theorem own_int : (D.int a).isOwn = false := rfl
@[simp] theorem own_str {s : Str} : (D.str s).isOwn = false := rfl
@[simp] theorem own_tup {xs : List D} : (D.tup xs).isOwn = false := rfl
@[simp] theorem own_lst {xs : List D} : (D.lst xs).isOwn = false := rfl
@[simp] theorem own_own {xs : List D} : (D.own xs).isOwn = true := rfl
@[simp] theorem own_loc {n : Nat} : (D.loc n).isOwn = false := rfl
@[simp] theorem seq_tup {xs : List D} : (D.tup xs).seq? = some xs := rfl
@[simp] theorem seq_lst {xs : List D} : (D.lst xs).seq? = some xs := rfl
@[simp] theorem seq_own {xs : List D} : (D.own xs).seq? = some xs := rfl
@[simp] theorem iter_tup {xs : List D} : (D.tup xs).iter = some xs := rfl
@[simp] theorem iter_lst {xs : List D} : (D.lst xs).iter = some xs := rfl
@[simp] theorem iter_own {xs : List D} : (D.own xs).iter = some xs := rfl
@[simp] theorem isBl_bl {k : Bool} : isBl (.bl k) = some k := rfl
@[simp] theorem truth_bl {k : Bool} : truth (.bl k) = some k := rfl
@[simp] theorem truth_int : truth (.int a) = some (a != 0) := rfl
@[simp] theorem truth_non : truth .non = some false := rfl
@[simp] theorem truth_tup {xs : List D} : truth (.tup xs) = some (!xs.isEmpty) := rfl
@[simp] theorem truth_lst {xs : List D} : truth (.lst xs) = some (!xs.isEmpty) := rfl
@[simp] theorem truth_own {xs : List D} : truth (.own xs) = some (!xs.isEmpty) := rfl
@[simp] theorem c_le : opC .le (.int a) (.int b) = some (!decide (b < a)) := rfl
@[simp] theorem c_lt : opC .lt (.int a) (.int b) = some (decide (a < b)) := rfl
@[simp] theorem c_ge : opC .ge (.int a) (.int b) = some (!decide (a < b)) := rfl
@[simp] theorem c_gt : opC .gt (.int a) (.int b) = some (decide (b < a)) := rfl
@[simp] theorem c_eq : opC .eq (.int a) (.int b) = some (a == b) := rfl
@[simp] theorem c_ne : opC .ne (.int a) (.int b) = some (!(a == b)) := rfl
@[simp] theorem c_eqb {k l : Bool} : opC .eq (.bl k) (.bl l) = some (k == l) := rfl
@[simp] theorem c_neb {k l : Bool} : opC .ne (.bl k) (.bl l) = some (!(k == l)) := rfl
@[simp] theorem c_eqni : opC .eq .non (.int b) = some false := rfl
@[simp] theorem c_nenn : opC .ne .non .non = some false := rfl
@[simp] theorem c_eqnn : opC .eq .non .non = some true := rfl
@[simp] theorem c_neni : opC .ne .non (.int b) = some true := rfl
@[simp] theorem c_eqin : opC .eq (.int b) .non = some false := rfl
@[simp] theorem c_nein : opC .ne (.int b) .non = some true := rfl
@[simp] theorem c_isnn : opC .is .non .non = some true := rfl
@[simp] theorem c_isin : opC .is (.int a) .non = some false := rfl
@[simp] theorem c_istn {xs : List D} : opC .is (.tup xs) .non = some false := rfl
@[simp] theorem c_isnnn : opC .isn .non .non = some false := rfl
@[simp] theorem c_isnin : opC .isn (.int a) .non = some true := rfl
@[simp] theorem c_isntn {xs : List D} : opC .isn (.tup xs) .non = some true := rfl
@[simp] theorem b_add : opB .add (.int a) (.int b) = some (.int (a + b)) := rfl
@[simp] theorem b_sub : opB .sub (.int a) (.int b) = some (.int (a - b)) := rfl
@[simp] theorem b_mul0 : opB .mul (.int a) (.int b) = if small64 a || small64 b then some (.int (a * b)) else none := rfl
@[simp] theorem small_lit {n : Nat} : small64 (no_index (@OfNat.ofNat Int n _)) = decide (n < 18446744073709551616) := rfl
@[simp] theorem small_mod (q1 : 0 < b) (q2 : b ≤ 18446744073709551616) : small64 (a % b) = true := by
  have := Int.emod_nonneg a (show b ≠ 0 by omega)
  have := Int.emod_lt_of_pos a q1
  exact decide_eq_true (by omega)
theorem b_mul (q : (small64 a || small64 b) = true) : opB .mul (.int a) (.int b) = some (.int (a * b)) := by
  show (if _ then _ else _) = _
  rw [if_pos q]
theorem small_of {n : Nat} (h1 : a.natAbs ≤ n) (h2 : n < 18446744073709551616) : small64 a = true := decide_eq_true (by omega)
@[simp] theorem b_fdiv (q1 : 0 < b) (q2 : b < 1073741824) : opB .fdiv (.int a) (.int b) = some (.int (a / b)) := by
  show (if _ then (if _ then _ else _) else _) = _
  rw [if_pos q1, if_pos q2]
@[simp] theorem b_mod (q1 : 0 < b) : opB .mod (.int a) (.int b) = some (.int (a % b)) := by
  show (if _ then _ else _) = _
  rw [if_pos q1]
@[simp] theorem b_pow {n m : Nat} : opB .pow (.int (no_index (@OfNat.ofNat Int n _))) (.int (no_index (@OfNat.ofNat Int m _))) = if m ≤ 1000000 ∧ n < 18446744073709551616 then some (.int ((no_index (@OfNat.ofNat Int n _)) ^ m)) else none := by
  show (if (decide ((0 : Int) ≤ (m : Int)) && decide ((m : Int) ≤ 1000000) && decide (n < 18446744073709551616)) = true then some (D.int ((n : Int) ^ m)) else none) = _
  by_cases h : m ≤ 1000000 ∧ n < 18446744073709551616
  · rw [if_pos h, if_pos (by simp [h.2]; omega)]; rfl
  · rw [if_neg h, if_neg (by simp; omega)]
theorem get_set {hs : Hs} {n : Nat} {ys : List D} (hn : n < hs.length) : (hs.set n ys)[n]? = some ys := List.getElem?_set_self hn
@[simp] theorem ix_loc {n : Nat} : opIdx (.loc n) (.int a) h = match h[n]? with
  | some xs => at? xs a
  | none => none := by
  show (match h[n]?, D.int a with | some xs, .int k => at? xs k | _, _ => none) = _
  cases h[n]? <;> rfl
@[simp] theorem ix_lst {xs : List D} : opIdx (.lst xs) (.int a) h = at? xs a := rfl
@[simp] theorem ix_tup {xs : List D} : opIdx (.tup xs) (.int a) h = at? xs a := rfl
@[simp] theorem ix_own {xs : List D} : opIdx (.own xs) (.int a) h = at? xs a := rfl
@[simp] theorem at_0 {xs : List D} : at? xs 0 = xs[0]? := rfl
@[simp] theorem at_lit {xs : List D} {n : Nat} : at? xs (no_index (@OfNat.ofNat Int n _)) = xs[n]? := rfl
theorem at_nn {xs : List D} (q : 0 ≤ a) : at? xs a = xs[a.toNat]? := if_pos q
@[simp] theorem setAt_lit {xs : List D} {n : Nat} : setAt xs (no_index (@OfNat.ofNat Int n _)) d = if n < xs.length then some (xs.set n d) else none := rfl
def hasOwnD (h : Hs) : Option (Option D) → Bool
  | some (some (.own _)) => true
  | some (some (.loc n)) => match h[n]? with
    | some _ => true
    | none => false
  | _ => false
@[simp] theorem hasOwn_eq : hasOwn e i h = hasOwnD h e[i]? := by
  unfold hasOwn
  cases e[i]? with
  | none => rfl
  | some o =>
    cases o with
    | none => rfl
    | some d =>
      cases d <;> try rfl
      rename_i n
      simp only [hasOwnD]
      cases h[n]? <;> rfl
@[simp] theorem hasOwnD_own {xs : List D} : hasOwnD h (some (some (.own xs))) = true := rfl
@[simp] theorem hasOwnD_loc {n : Nat} : hasOwnD h (some (some (.loc n))) = match h[n]? with
    | some _ => true
    | none => false := rfl
def onOwnD (e : En) (i : Nat) (h : Hs) (f : List D → Option (List D)) : Option (Option D) → SR
  | some (some (.own xs)) => match f xs with
    | some ys => .next (e.set i (some (.own ys))) h
    | none => .err
  | some (some (.loc n)) => match h[n]? with
    | some xs => match f xs with
      | some ys => .next e (h.set n ys)
      | none => .err
    | none => .err
  | _ => .err
@[simp] theorem onOwn_eq {f : List D → Option (List D)} : onOwn e i h f = onOwnD e i h f e[i]? := rfl
@[simp] theorem onOwnD_own {f : List D → Option (List D)} {xs : List D} : onOwnD e i h f (some (some (.own xs))) = match f xs with
    | some ys => .next (e.set i (some (.own ys))) h
    | none => .err := rfl
@[simp] theorem onOwnD_loc {f : List D → Option (List D)} {n : Nat} : onOwnD e i h f (some (some (.loc n))) = match h[n]? with
    | some xs => match f xs with
      | some ys => .next e (h.set n ys)
      | none => .err
    | none => .err := rfl
@[simp] theorem bi_lenl {xs : List D} : opBi .len [.lst xs] h = some (.int xs.length) := rfl
@[simp] theorem bi_lent {xs : List D} : opBi .len [.tup xs] h = some (.int xs.length) := rfl
@[simp] theorem bi_leno {xs : List D} : opBi .len [.own xs] h = some (.int xs.length) := rfl
@[simp] theorem bi_int : opBi .int [.int a] h = some (.int a) := rfl
@[simp] theorem bi_abs : opBi .abs [.int a] h = some (.int (if a < 0 then -a else a)) := rfl
@[simp] theorem bi_isI {ts : List Ty} : opBi (.isinst ts) [.int a] h = some (.bl (ts.any fun t => isTy (.int a) t)) := rfl
@[simp] theorem bi_isB {ts : List Ty} {k : Bool} : opBi (.isinst ts) [.bl k] h = some (.bl (ts.any fun t => isTy (.bl k) t)) := rfl
@[simp] theorem bi_isS {ts : List Ty} {s : Str} : opBi (.isinst ts) [.str s] h = some (.bl (ts.any fun t => isTy (.str s) t)) := rfl
@[simp] theorem bi_isN {ts : List Ty} : opBi (.isinst ts) [.non] h = some (.bl (ts.any fun t => isTy .non t)) := rfl
@[simp] theorem bi_isT {ts : List Ty} {xs : List D} : opBi (.isinst ts) [.tup xs] h = some (.bl (ts.any fun t => isTy (.tup xs) t)) := rfl
@[simp] theorem bi_isL {ts : List Ty} {xs : List D} : opBi (.isinst ts) [.lst xs] h = some (.bl (ts.any fun t => isTy (.lst xs) t)) := rfl
@[simp] theorem bi_isO {ts : List Ty} {xs : List D} : opBi (.isinst ts) [.own xs] h = some (.bl (ts.any fun t => isTy (.own xs) t)) := rfl
@[simp] theorem bi_zipT {xs ys : List D} : opBi .zip [.tup xs, .tup ys] h = some (.lst (zipD xs ys)) := rfl
@[simp] theorem bi_zipL {xs ys : List D} : opBi .zip [.lst xs, .lst ys] h = some (.lst (zipD xs ys)) := rfl
theorem bi_all {bs : List Bool} {d : D} (hd : d = .lst (bs.map D.bl) ∨ d = .own (bs.map D.bl)) : opBi .all [d] h = some (.bl (bs.all id)) := by
  have hb : ∀ bs : List Bool, D.bools? (bs.map D.bl) = some bs := fun bs => by
    induction bs with
    | nil => rfl
    | cons b bs ih => rw [List.map_cons, D.bools?, ih]; rfl
  rcases hd with rfl | rfl
  · show (D.bools? (bs.map D.bl)).map _ = _; rw [hb]; rfl
  · show (D.bools? (bs.map D.bl)).map _ = _; rw [hb]; rfl
theorem bi_any {bs : List Bool} {d : D} (hd : d = .lst (bs.map D.bl) ∨ d = .own (bs.map D.bl)) : opBi .any [d] h = some (.bl (bs.any id)) := by
  have hb : ∀ bs : List Bool, D.bools? (bs.map D.bl) = some bs := fun bs => by
    induction bs with
    | nil => rfl
    | cons b bs ih => rw [List.map_cons, D.bools?, ih]; rfl
  rcases hd with rfl | rfl
  · show (D.bools? (bs.map D.bl)).map _ = _; rw [hb]; rfl
  · show (D.bools? (bs.map D.bl)).map _ = _; rw [hb]; rfl
@[simp] theorem bi_isi : opBi (.isinst [.int]) [.int a] h = some (.bl true) := rfl
@[simp] theorem bi_isb : opBi (.isinst [.bool]) [.int a] h = some (.bl false) := rfl
@[simp] theorem bi_tupo {xs : List D} : opBi .tuple [.own xs] h = some (.tup xs) := rfl
@[simp] theorem bi_tupl {xs : List D} : opBi .tuple [.lst xs] h = some (.tup xs) := rfl
@[simp] theorem bi_tupt {xs : List D} : opBi .tuple [.tup xs] h = some (.tup xs) := rfl
@[simp] theorem bi_lsto {xs : List D} : opBi .list [.own xs] h = some (.own xs) := rfl
@[simp] theorem bi_lstl {xs : List D} : opBi .list [.lst xs] h = some (.own xs) := rfl
@[simp] theorem bi_lstt {xs : List D} : opBi .list [.tup xs] h = some (.own xs) := rfl
end
/-! ### ints -/
theorem lcF_ints (g : Int → D) {turn : D → Hs → R} {h : Hs} {ns : List Int} {acc : List D} (hx : ∀ i, turn (.int i) h = .ok (.tup [g i]) h) : lcF turn (ns.map D.int) h acc = .ok (.own (acc ++ ns.map g)) h := by
  have := lcF_map (fun x => match x with | .int i => g i | x => x) (turn := turn) (h := h) (xs := ns.map D.int) (acc := acc) fun x hx' => by
    obtain ⟨i, _, rfl⟩ := List.mem_map.mp hx'
    exact hx i
  rw [this, List.map_map]
  rfl
theorem cut_take {xs : List D} (n : Nat) : cut xs none (some (n : Int)) = xs.take n := by
  unfold cut sIx
  simp only [List.drop_zero, Nat.sub_zero]
  rw [if_neg (by omega)]
  by_cases h : n ≤ xs.length
  · rw [Int.toNat_natCast, Nat.min_eq_left h]
  · rw [Int.toNat_natCast, Nat.min_eq_right (by omega), List.take_of_length_le (Nat.le_refl _), List.take_of_length_le (by omega)]
theorem rng_succ {lo hi : Int} (h : lo ≤ hi) : rng lo (hi + 1) = rng lo hi ++ [.int hi] := by
  unfold rng
  rw [show (hi + 1 - lo).toNat = (hi - lo).toNat + 1 by omega, List.range_succ, List.map_append]
  congr 2
  show [D.int (lo + ((hi - lo).toNat : Nat))] = [.int hi]
  rw [show lo + (((hi - lo).toNat : Nat) : Int) = hi by omega]
theorem rng_nil {lo hi : Int} (h : hi ≤ lo) : rng lo hi = [] := by
  unfold rng
  rw [show (hi - lo).toNat = 0 by omega]; rfl
theorem alike_ints (ns : List Int) : allAlike (ns.map D.int) = true := by
  unfold allAlike
  rw [List.all_eq_true]
  intro x hx
  obtain ⟨i, _, rfl⟩ := List.mem_map.mp hx
  rw [List.all_eq_true]
  intro y hy
  obtain ⟨j, _, rfl⟩ := List.mem_map.mp hy
  rfl
theorem pl_ints (k : Nat) : ∀ ns : List Int, plL (ns.map D.int) k = true
  | [] => rfl
  | n :: ns => by
    rw [List.map_cons, plL, pl_ints k ns]; rfl
def maxI (a b : Int) : Int := if a < b then b else a
def minI (a b : Int) : Int := if b < a then b else a
theorem most_ints : ∀ (ns : List Int) (m : Int), mostD (.int m) (ns.map D.int) = .int (ns.foldl maxI m)
  | [], _ => rfl
  | n :: ns, m => by
    rw [List.map_cons, mostD, List.foldl_cons]
    show (if decide (m < n) = true then _ else _) = _
    unfold maxI
    by_cases h : m < n
    · rw [if_pos (decide_eq_true h), if_pos h]; exact most_ints ns n
    · rw [if_neg (by simp [h]), if_neg h]; exact most_ints ns m
theorem least_ints : ∀ (ns : List Int) (m : Int), leastD (.int m) (ns.map D.int) = .int (ns.foldl minI m)
  | [], _ => rfl
  | n :: ns, m => by
    rw [List.map_cons, leastD, List.foldl_cons]
    show (if decide (n < m) = true then _ else _) = _
    unfold minI
    by_cases h : n < m
    · rw [if_pos (decide_eq_true h), if_pos h]; exact least_ints ns n
    · rw [if_neg (by simp [h]), if_neg h]; exact least_ints ns m
theorem max_lst {n : Int} {ns : List Int} {d : D} {h : Hs} (hd : d.seq? = some ((n :: ns).map D.int)) : opBi .max [d] h = some (.int (ns.foldl maxI n)) := by
  show (match d.seq? with | some (y :: ys) => if (allAlike (y :: ys) && noNon y && plL (y :: ys) 60) = true then some (mostD y ys) else none | _ => none) = _
  rw [hd]
  show (if (allAlike ((n :: ns).map D.int) && true && plL ((n :: ns).map D.int) 60) = true then some (mostD (.int n) (ns.map D.int)) else none) = _
  rw [alike_ints, pl_ints, most_ints]; rfl
theorem min_lst {n : Int} {ns : List Int} {d : D} {h : Hs} (hd : d.seq? = some ((n :: ns).map D.int)) : opBi .min [d] h = some (.int (ns.foldl minI n)) := by
  show (match d.seq? with | some (y :: ys) => if (allAlike (y :: ys) && noNon y && plL (y :: ys) 60) = true then some (leastD y ys) else none | _ => none) = _
  rw [hd]
  show (if (allAlike ((n :: ns).map D.int) && true && plL ((n :: ns).map D.int) 60) = true then some (leastD (.int n) (ns.map D.int)) else none) = _
  rw [alike_ints, pl_ints, least_ints]; rfl
/-- a comprehension whose turns change the shared lists -/
theorem lcF_st (Q : Nat → Hs → List D → Prop) {turn : D → Hs → R} : ∀ {xs : List D} {n : Nat} {h : Hs} {acc : List D}, (∀ k x h acc, xs[k]? = some x → Q (n + k) h acc → ∃ y h', turn x h = .ok (.tup [y]) h' ∧ Q (n + k + 1) h' (acc ++ [y])) → Q n h acc →
    ∃ ys h', lcF turn xs h acc = .ok (.own ys) h' ∧ Q (n + xs.length) h' ys
  | [], n, h, acc, _, q => ⟨acc, h, rfl, q⟩
  | x :: xs, n, h, acc, hx, q => by
    obtain ⟨y, h1, e1, q1⟩ := hx 0 x h acc rfl q
    obtain ⟨ys, h2, e2, q2⟩ := lcF_st Q (xs := xs) (n := n + 1) (fun k z h acc hz hq => by
      have := hx (k + 1) z h acc (by simpa using hz) (by rw [show n + (k + 1) = n + 1 + k by omega]; exact hq)
      rwa [show n + (k + 1) + 1 = n + 1 + k + 1 by omega] at this) q1
    exact ⟨ys, h2, by rw [lcF, e1]; exact e2, by rw [List.length_cons, show n + (xs.length + 1) = n + 1 + xs.length by omega]; exact q2⟩
/-- the script's hand -/
def HandOk (hd : List D) : Prop := ∃ (cells : List Int) (i1 i2 i3 i4 : Int), hd = [.lst (cells.map D.int), .int i1, .int i2, .int i3, .int i4] ∧ 0 ≤ i1
/-- a row of drawn numbers -/
theorem lcF_draws (P : Int → Prop) {turn : D → Hs → R} {xs : List D} {hd : List D} (hx : ∀ x hd, HandOk hd → ∃ z hd', turn x [hd] = .ok (.tup [.int z]) [hd'] ∧ P z ∧ HandOk hd') (ho : HandOk hd) :
    ∃ (zs : List Int) (hd' : List D), lcF turn xs [hd] [] = .ok (.own (zs.map D.int)) [hd'] ∧ zs.length = xs.length ∧ (∀ z ∈ zs, P z) ∧ HandOk hd' := by
  obtain ⟨ys, h', e, hd', zs, q0, q1, q2, q3, q4⟩ := lcF_st (fun n h acc => ∃ (hd' : List D) (zs : List Int), h = [hd'] ∧ acc = zs.map D.int ∧ zs.length = n ∧ (∀ z ∈ zs, P z) ∧ HandOk hd') (turn := turn) (xs := xs) (n := 0) (h := [hd]) (acc := []) (fun k x h acc _ hq => by
    obtain ⟨hd', zs, rfl, rfl, q2, q3, q4⟩ := hq
    obtain ⟨z, hd2, e, p1, p2⟩ := hx x hd' q4
    refine ⟨.int z, _, e, hd2, zs ++ [z], rfl, by simp, by simp; omega, fun y hy => ?_, p2⟩
    rcases List.mem_append.mp hy with hy | hy
    · exact q3 y hy
    · have : y = z := by simpa using hy
      rw [this]; exact p1) ⟨hd, [], rfl, rfl, rfl, fun _ h => by (cases h), ho⟩
  subst q0; subst q1
  exact ⟨zs, hd', e, by omega, q3, q4⟩
theorem lcF_intsM (g : Int → D) {turn : D → Hs → R} {h : Hs} {ns : List Int} {acc : List D} (hx : ∀ i ∈ ns, turn (.int i) h = .ok (.tup [g i]) h) : lcF turn (ns.map D.int) h acc = .ok (.own (acc ++ ns.map g)) h := by
  have := lcF_map (fun x => match x with | .int i => g i | x => x) (turn := turn) (h := h) (xs := ns.map D.int) (acc := acc) fun x hx' => by
    obtain ⟨i, hi, rfl⟩ := List.mem_map.mp hx'
    exact hx i hi
  rw [this, List.map_map]
  rfl
/-- lo, .., hi - 1 -/
def intsR (lo hi : Int) : List Int := (List.range (hi - lo).toNat).map fun (k : Nat) => lo + k
theorem rng_ints (lo hi : Int) : rng lo hi = (intsR lo hi).map D.int := by
  unfold rng intsR
  rw [List.map_map]; rfl
theorem mem_ints {lo hi i : Int} : i ∈ intsR lo hi ↔ lo ≤ i ∧ i < hi := by
  unfold intsR
  rw [List.mem_map]
  constructor
  · rintro ⟨k, hk, rfl⟩
    rw [List.mem_range] at hk
    omega
  · rintro ⟨h1, h2⟩
    exact ⟨(i - lo).toNat, List.mem_range.mpr (by omega), by omega⟩
theorem mem_rng {lo hi : Int} {x : D} (h : x ∈ rng lo hi) : ∃ i, x = .int i ∧ lo ≤ i ∧ i < hi := by
  rw [rng_ints] at h
  obtain ⟨i, hi, rfl⟩ := List.mem_map.mp h
  exact ⟨i, rfl, mem_ints.mp hi⟩
/-- [x for x in ns if P x] -/
theorem lcF_filter (P : Int → Bool) {turn : D → Hs → R} {h : Hs} : ∀ {ns : List Int} {acc : List D}, (∀ i ∈ ns, turn (.int i) h = .ok (.tup (if P i then [.int i] else [])) h) → lcF turn (ns.map D.int) h acc = .ok (.own (acc ++ (ns.filter P).map D.int)) h
  | [], acc, _ => by simp [lcF]
  | n :: ns, acc, hx => by
    rw [List.map_cons, lcF, hx n List.mem_cons_self, List.filter_cons]
    have ih := fun acc => lcF_filter P (turn := turn) (h := h) (ns := ns) (acc := acc) fun y hy => hx y (List.mem_cons_of_mem _ hy)
    cases hp : P n with
    | true => simp [ih]
    | false => simp [ih]
/-- the first that does -/
def fstI (P : Int → Bool) (m : Int) : Option Int := ((intsR 0 m).filter P).head?
def optI : Option Int → D
  | none => .non
  | some x => .int x
theorem ints_succ {lo hi : Int} (h : lo ≤ hi) : intsR lo (hi + 1) = intsR lo hi ++ [hi] := by
  unfold intsR
  rw [show (hi + 1 - lo).toNat = (hi - lo).toNat + 1 by omega, List.range_succ, List.map_append]
  congr 2
  show [lo + (((hi - lo).toNat : Nat) : Int)] = [hi]
  rw [show lo + (((hi - lo).toNat : Nat) : Int) = hi by omega]
theorem fstI_none {P : Int → Bool} {m : Int} (h : ∀ i, 0 ≤ i → i < m → P i = false) : fstI P m = none := by
  unfold fstI
  rw [List.filter_eq_nil_iff.mpr fun i hi => by
    obtain ⟨h1, h2⟩ := mem_ints.mp hi
    simp [h i h1 h2]]
  rfl
theorem fstI_some {P : Int → Bool} {m x : Int} (h0 : 0 ≤ x) (h1 : x < m) (h2 : P x = true) (h3 : ∀ i, 0 ≤ i → i < x → P i = false) : fstI P m = some x := by
  unfold fstI
  have : ∀ k : Nat, ((intsR 0 (x + 1 + k)).filter P).head? = some x := fun k => by
    induction k with
    | zero =>
      rw [show x + 1 + ((0 : Nat) : Int) = x + 1 by omega, ints_succ h0, List.filter_append, List.filter_eq_nil_iff.mpr fun i hi => by
        obtain ⟨h1, h2⟩ := mem_ints.mp hi
        simp [h3 i h1 h2]]
      simp [h2]
    | succ k ih =>
      rw [show x + 1 + ((k + 1 : Nat) : Int) = x + 1 + k + 1 by omega, ints_succ (by omega), List.filter_append]
      cases hl : (intsR 0 (x + 1 + k)).filter P with
      | nil => rw [hl] at ih; cases ih
      | cons y ys => rw [hl] at ih; exact ih
  have := this (m - (x + 1)).toNat
  rwa [show x + 1 + ((m - (x + 1)).toNat : Int) = m by omega] at this
theorem fstI_is (P : Int → Bool) (m : Int) : (fstI P m = none ∧ ∀ i, 0 ≤ i → i < m → P i = false) ∨ ∃ x, fstI P m = some x ∧ 0 ≤ x ∧ x < m ∧ P x = true ∧ ∀ i, 0 ≤ i → i < x → P i = false := by
  have go : ∀ k : Nat, (∀ i, 0 ≤ i → i < (k : Int) → P i = false) ∨ ∃ x, 0 ≤ x ∧ x < (k : Int) ∧ P x = true ∧ ∀ i, 0 ≤ i → i < x → P i = false := fun k => by
    induction k with
    | zero => exact .inl fun i h1 h2 => by omega
    | succ k ih =>
      rcases ih with ih | ⟨x, h1, h2, h3, h4⟩
      · cases hp : P k with
        | true => exact .inr ⟨k, by omega, by omega, hp, ih⟩
        | false =>
          refine .inl fun i h1 h2 => ?_
          by_cases hi : i < k
          · exact ih i h1 hi
          · rw [show i = (k : Int) by omega]; exact hp
      · exact .inr ⟨x, h1, by omega, h3, h4⟩
  by_cases hm : 0 ≤ m
  · have := go m.toNat
    rw [show ((m.toNat : Nat) : Int) = m by omega] at this
    rcases this with h | ⟨x, h1, h2, h3, h4⟩
    · exact .inl ⟨fstI_none h, h⟩
    · exact .inr ⟨x, fstI_some h1 h2 h3 h4, h1, h2, h3, h4⟩
  · have h : ∀ i, 0 ≤ i → i < m → P i = false := fun i h1 h2 => by omega
    exact .inl ⟨fstI_none h, h⟩
end Z
namespace Zk83
open PySem PySem.Spec PyProof.Rows L2 Z
/-! the tables: printed by gen.py -/
def topS (i : Nat) : PySem.Stmt := PySem.Challenge.pw_siegeworks_k83_whole_rounds_that_meet.main.body.getD i (.Pass ⟨0, 0, 0, 0⟩)
def b_is_integer : S :=
  (.ret (E.and (E.bi (.isinst [.int]) (E.cons (E.v 0) E.nil)) (E.not (E.bi (.isinst [.bool]) (E.cons (E.v 0) E.nil)))))
def b_is_within : S :=
  (.ret (E.and (E.call 0 (E.cons (E.v 0) E.nil)) (E.chain .le .le (E.v 1) (E.v 0) (E.v 2))))
def b_is_sized : S :=
  (.ret (E.and (E.bi (.isinst [.tup]) (E.cons (E.v 0) E.nil)) (E.chain .le .le (E.v 1) (E.bi .len (E.cons (E.v 0) E.nil)) (E.v 2))))
def b_common : S :=
  (.seq (.whl (E.cmp .ne (E.v 1) (E.c (D.int (0))))
  (.par (E.tup (E.cons (E.v 0) (E.cons (E.v 1) E.nil))) (E.tup (E.cons (E.v 1) (E.cons (E.bin .mod (E.v 0) (E.v 1)) E.nil)))))
  (.ret (E.bi .abs (E.cons (E.v 0) E.nil))))
def b_check_rounds : S :=
  (.seq (.ife (E.not (E.call 1 (E.cons (E.v 0) (E.cons (E.g 0) (E.cons (E.g 1) E.nil)))))
  .never
  .skip)
  (.for (E.v 3) (E.tup (E.cons (E.v 1) (E.cons (E.v 2) E.nil)))
  (.ife (E.or (E.not (E.call 2 (E.cons (E.v 3) (E.cons (E.c (D.int (1))) (E.cons (E.g 2) E.nil))))) (E.not (E.bi .all (E.cons (E.lc (E.v 4) (E.v 3) (E.c (D.bl true)) (E.call 1 (E.cons (E.v 4) (E.cons (E.c (D.int (0))) (E.cons (E.bin .sub (E.v 0) (E.c (D.int (1)))) E.nil))))) E.nil))))
  .never
  .skip)))
def b_raw_met : S :=
  (.seq (.set 3 (E.lc (E.v 4) (E.bi .range (E.cons (E.bin .add (E.v 2) (E.c (D.int (1)))) E.nil)) (E.cmp .eq (E.idx (E.v 0) (E.bin .mod (E.v 4) (E.bi .len (E.cons (E.v 0) E.nil)))) (E.idx (E.v 1) (E.bin .mod (E.v 4) (E.bi .len (E.cons (E.v 1) E.nil))))) (E.v 4)))
  (.ret (E.ite (E.v 3) (E.idx (E.v 3) (E.c (D.int (0)))) (E.c D.non))))
def b_met_by_rounds : S :=
  (.seq (.ex (E.call 4 (E.cons (E.v 0) (E.cons (E.v 1) (E.cons (E.v 2) E.nil)))))
  (.seq (.ife (E.not (E.call 1 (E.cons (E.v 3) (E.cons (E.c (D.int (0))) (E.cons (E.g 3) E.nil)))))
  .never
  .skip)
  (.ret (E.call 5 (E.cons (E.v 1) (E.cons (E.v 2) (E.cons (E.v 3) E.nil)))))))
def b_meet_ever : S :=
  (.seq (.ex (E.call 4 (E.cons (E.v 0) (E.cons (E.v 1) (E.cons (E.v 2) E.nil)))))
  (.seq (.set 3 (E.call 5 (E.cons (E.v 1) (E.cons (E.v 2) (E.cons (E.bin .mul (E.bi .len (E.cons (E.v 1) E.nil)) (E.bi .len (E.cons (E.v 2) E.nil))) E.nil)))))
  (.ret (E.ite (E.cmp .isn (E.v 3) (E.c D.non)) (E.tup (E.cons (E.c (D.str (PySem.Str.ofString "hour"))) (E.cons (E.v 3) E.nil))) (E.tup (E.cons (E.c (D.str (PySem.Str.ofString "never"))) (E.cons (E.call 3 (E.cons (E.bi .len (E.cons (E.v 1) E.nil)) (E.cons (E.bi .len (E.cons (E.v 2) E.nil)) E.nil))) E.nil)))))))
def b__law_hand : S :=
  (.seq (.set 1 (E.lc (E.v 2) (E.slc (E.v 0) E.nil (E.c (D.int (63)))) (E.c (D.bl true)) (E.bi .abs (E.cons (E.bi .int (E.cons (E.v 2) E.nil)) E.nil))))
  (.ret (E.lst (E.cons (E.v 1) (E.cons (E.c (D.int (0))) (E.cons (E.c (D.int (0))) (E.cons (E.bin .add (E.c (D.int (97))) (E.bin .mul (E.c (D.int (5))) (E.bi .len (E.cons (E.v 1) E.nil)))) (E.cons (E.c (D.int (0))) E.nil))))))))
def b__law_draw : S :=
  (.seq (.ife (E.and (E.cmp .eq (E.idx (E.v 0) (E.c (D.int (2)))) (E.c (D.int (0)))) (E.cmp .lt (E.idx (E.v 0) (E.c (D.int (1)))) (E.bi .len (E.cons (E.idx (E.v 0) (E.c (D.int (0)))) E.nil))))
  (.seq (.set 3 (E.idx (E.idx (E.v 0) (E.c (D.int (0)))) (E.idx (E.v 0) (E.c (D.int (1))))))
  (.seq (.idxs 0 (E.c (D.int (1))) (E.bin .add (E.idx (E.v 0) (E.c (D.int (1)))) (E.c (D.int (1)))))
  (.seq (.idxs 0 (E.c (D.int (3))) (E.bin .mod (E.bi .int (E.cons (E.bin .add (E.bin .add (E.bin .mul (E.idx (E.v 0) (E.c (D.int (3)))) (E.c (D.int (48271)))) (E.v 3)) (E.c (D.int (31)))) E.nil)) (E.c (D.int (2147483647)))))
  (.ife (E.cmp .ge (E.v 3) (E.bin .pow (E.c (D.int (10))) (E.c (D.int (18)))))
  (.idxs 0 (E.c (D.int (2))) (E.v 3))
  .skip))))
  .skip)
  (.seq (.ife (E.cmp .gt (E.idx (E.v 0) (E.c (D.int (2)))) (E.c (D.int (0))))
  (.seq (.set 4 (E.bin .mod (E.bi .int (E.cons (E.idx (E.v 0) (E.c (D.int (2)))) E.nil)) (E.v 1)))
  (.seq (.idxs 0 (E.c (D.int (2))) (E.bin .fdiv (E.idx (E.v 0) (E.c (D.int (2)))) (E.v 1)))
  (.ret (E.v 4))))
  .skip)
  (.seq (.idxs 0 (E.c (D.int (4))) (E.bin .add (E.idx (E.v 0) (E.c (D.int (4)))) (E.c (D.int (1)))))
  (.seq (.set 2 (E.bin .mod (E.bi .int (E.cons (E.bin .mul (E.bi .int (E.cons (E.bin .add (E.idx (E.v 0) (E.c (D.int (3)))) (E.bin .mul (E.c (D.int (6151))) (E.idx (E.v 0) (E.c (D.int (4)))))) E.nil)) (E.c (D.int (40692)))) E.nil)) (E.c (D.int (2147483399)))))
  (.seq (.set 2 (E.bin .mod (E.bi .int (E.cons (E.bin .mul (E.v 2) (E.bin .add (E.bin .fdiv (E.v 2) (E.c (D.int (1223)))) (E.c (D.int (52027))))) E.nil)) (E.c (D.int (2147483629)))))
  (.seq (.set 2 (E.bin .mod (E.bi .int (E.cons (E.bin .mul (E.v 2) (E.bin .add (E.bin .fdiv (E.v 2) (E.c (D.int (2671)))) (E.c (D.int (69621))))) E.nil)) (E.c (D.int (2147483647)))))
  (.ret (E.bin .mod (E.bi .int (E.cons (E.bin .fdiv (E.v 2) (E.c (D.int (32)))) E.nil)) (E.v 1)))))))))
def b__law_some : S :=
  (.ret (E.idx (E.v 1) (E.call 9 (E.cons (E.v 0) (E.cons (E.bi .len (E.cons (E.v 1) E.nil)) E.nil)))))
def b__law_is : S :=
  (.seq (.ife (E.bi (.isinst [.tup, .lst]) (E.cons (E.v 1) E.nil))
  (.seq (.ife (E.or (E.cmp .ne (E.bi (.isinst [.tup]) (E.cons (E.v 0) E.nil)) (E.bi (.isinst [.tup]) (E.cons (E.v 1) E.nil))) (E.not (E.bi (.isinst [.tup, .lst]) (E.cons (E.v 0) E.nil))))
  (.ret (E.c (D.bl false)))
  .skip)
  (.ret (E.and (E.cmp .eq (E.bi .len (E.cons (E.v 0) E.nil)) (E.bi .len (E.cons (E.v 1) E.nil))) (E.bi .all (E.cons (E.lc (E.tup (E.cons (E.v 3) (E.cons (E.v 4) E.nil))) (E.bi .zip (E.cons (E.v 0) (E.cons (E.v 1) E.nil))) (E.c (D.bl true)) (E.call 11 (E.cons (E.v 3) (E.cons (E.v 4) E.nil)))) E.nil)))))
  .skip)
  (.seq (.ife (E.bi (.isinst [.dct]) (E.cons (E.v 1) E.nil))
  (.seq (.ife (E.or (E.not (E.bi (.isinst [.dct]) (E.cons (E.v 0) E.nil))) (E.cmp .ne (E.bi .len (E.cons (E.v 0) E.nil)) (E.bi .len (E.cons (E.v 1) E.nil))))
  (.ret (E.c (D.bl false)))
  .skip)
  (.ret (E.bi .all (E.cons (E.lc (E.v 2) (E.v 1) (E.c (D.bl true)) (E.and (E.cmp .mem (E.v 2) (E.v 0)) (E.call 11 (E.cons (E.idx (E.v 0) (E.v 2)) (E.cons (E.idx (E.v 1) (E.v 2)) E.nil))))) E.nil))))
  .skip)
  (.seq (.ife (E.or (E.bi (.isinst [.str]) (E.cons (E.v 1) E.nil)) (E.cmp .is (E.v 1) (E.c D.non)))
  (.ret (E.and (E.cmp .eq (E.bi (.isinst [.str]) (E.cons (E.v 0) E.nil)) (E.bi (.isinst [.str]) (E.cons (E.v 1) E.nil))) (E.cmp .eq (E.v 0) (E.v 1))))
  .skip)
  (.ret (E.and (E.bi (.isinst [.int]) (E.cons (E.v 0) E.nil)) (E.and (E.cmp .eq (E.bi (.isinst [.bool]) (E.cons (E.v 0) E.nil)) (E.bi (.isinst [.bool]) (E.cons (E.v 1) E.nil))) (E.cmp .eq (E.v 0) (E.v 1))))))))
def b__law_common : S :=
  (.seq (.whl (E.cmp .gt (E.v 1) (E.c (D.int (0))))
  (.par (E.tup (E.cons (E.v 0) (E.cons (E.v 1) E.nil))) (E.tup (E.cons (E.v 1) (E.cons (E.bin .mod (E.bi .int (E.cons (E.v 0) E.nil)) (E.v 1)) E.nil)))))
  (.ret (E.v 0)))
def b_law : S :=
  (.seq (.setl 1 (E.call 8 (E.cons (E.v 0) E.nil)))
  (.seq (.for (E.v 2) (E.bi .range (E.cons (E.c (D.int (9))) E.nil))
  (.seq (.set 3 (E.bin .add (E.c (D.int (2))) (E.call 9 (E.cons (E.v 1) (E.cons (E.c (D.int (6))) E.nil)))))
  (.seq (.set 4 (E.bi .tuple (E.cons (E.lc (E.v 10) (E.bi .range (E.cons (E.bin .add (E.c (D.int (1))) (E.call 9 (E.cons (E.v 1) (E.cons (E.c (D.int (6))) E.nil)))) E.nil)) (E.c (D.bl true)) (E.call 9 (E.cons (E.v 1) (E.cons (E.v 3) E.nil)))) E.nil)))
  (.seq (.set 5 (E.bi .tuple (E.cons (E.lc (E.v 10) (E.bi .range (E.cons (E.bin .add (E.c (D.int (1))) (E.call 9 (E.cons (E.v 1) (E.cons (E.c (D.int (6))) E.nil)))) E.nil)) (E.c (D.bl true)) (E.call 9 (E.cons (E.v 1) (E.cons (E.v 3) E.nil)))) E.nil)))
  (.seq (.set 6 (E.call 9 (E.cons (E.v 1) (E.cons (E.call 10 (E.cons (E.v 1) (E.cons (E.lst (E.cons (E.c (D.int (4))) (E.cons (E.c (D.int (101))) E.nil))) E.nil))) E.nil))))
  (.seq (.set 7 (E.lc (E.v 9) (E.bi .range (E.cons (E.c (D.int (101))) E.nil)) (E.cmp .eq (E.idx (E.v 4) (E.bin .mod (E.bi .int (E.cons (E.v 9) E.nil)) (E.bi .len (E.cons (E.v 4) E.nil)))) (E.idx (E.v 5) (E.bin .mod (E.bi .int (E.cons (E.v 9) E.nil)) (E.bi .len (E.cons (E.v 5) E.nil))))) (E.v 9)))
  (.seq (.set 8 (E.ite (E.and (E.cmp .gt (E.bi .len (E.cons (E.v 7) E.nil)) (E.c (D.int (0)))) (E.cmp .le (E.idx (E.v 7) (E.c (D.int (0)))) (E.v 6))) (E.idx (E.v 7) (E.c (D.int (0)))) (E.c D.non)))
  (.seq (.ife (E.not (E.call 11 (E.cons (E.call 6 (E.cons (E.v 3) (E.cons (E.v 4) (E.cons (E.v 5) (E.cons (E.v 6) E.nil))))) (E.cons (E.v 8) E.nil))))
  (.ret (E.c (D.bl false)))
  .skip)
  (.seq (.set 8 (E.ite (E.cmp .gt (E.bi .len (E.cons (E.v 7) E.nil)) (E.c (D.int (0)))) (E.tup (E.cons (E.c (D.str (PySem.Str.ofString "hour"))) (E.cons (E.idx (E.v 7) (E.c (D.int (0)))) E.nil))) (E.tup (E.cons (E.c (D.str (PySem.Str.ofString "never"))) (E.cons (E.call 12 (E.cons (E.bi .len (E.cons (E.v 4) E.nil)) (E.cons (E.bi .len (E.cons (E.v 5) E.nil)) E.nil))) E.nil)))))
  (.ife (E.not (E.call 11 (E.cons (E.call 7 (E.cons (E.v 3) (E.cons (E.v 4) (E.cons (E.v 5) E.nil)))) (E.cons (E.v 8) E.nil))))
  (.ret (E.c (D.bl false)))
  .skip))))))))))
  (.ret (E.c (D.bl true)))))
def n_is_integer : List Str := ["thing"]
def n_is_within : List Str := ["thing", "low", "high"]
def n_is_sized : List Str := ["thing", "low", "high"]
def n_common : List Str := ["one", "other"]
def n_check_rounds : List Str := ["n", "one", "other", "row", "place"]
def n_raw_met : List Str := ["one", "other", "hours", "some", "hour"]
def n_met_by_rounds : List Str := ["n", "one", "other", "hours"]
def n_meet_ever : List Str := ["n", "one", "other", "hour"]
def n__law_hand : List Str := ["script", "cells", "cell"]
def n__law_draw : List Str := ["hand", "many", "number", "cell", "figure"]
def n__law_some : List Str := ["hand", "things"]
def n__law_is : List Str := ["told", "due", "key", "one", "two"]
def n__law_common : List Str := ["one", "other"]
def n_law : List Str := ["script", "hand", "turn", "n", "one", "other", "hours", "met", "due", "hour", "step"]
def tT : Tbl := ⟨[⟨1, 1, b_is_integer⟩, ⟨3, 3, b_is_within⟩, ⟨3, 3, b_is_sized⟩, ⟨2, 2, b_common⟩, ⟨3, 5, b_check_rounds⟩, ⟨3, 5, b_raw_met⟩, ⟨4, 4, b_met_by_rounds⟩, ⟨3, 4, b_meet_ever⟩, ⟨1, 3, b__law_hand⟩, ⟨2, 5, b__law_draw⟩, ⟨2, 2, b__law_some⟩, ⟨2, 5, b__law_is⟩, ⟨2, 2, b__law_common⟩, ⟨1, 11, b_law⟩],
  [(D.int (2)), (D.int (7)), (D.int (6)), (D.int (100))]⟩
def tG : GI := ⟨["is_integer", "is_within", "is_sized", "common", "check_rounds", "raw_met", "met_by_rounds", "meet_ever", "_law_hand", "_law_draw", "_law_some", "_law_is", "_law_common", "law"], ["LEAST_PLACES", "MOST_PLACES", "MOST_ROUND", "MOST_HOUR"], fun _ => none⟩
@[simp] theorem g_0 : tT.gcs[0]? = some (D.int (2)) := rfl
@[simp] theorem g_1 : tT.gcs[1]? = some (D.int (7)) := rfl
@[simp] theorem g_2 : tT.gcs[2]? = some (D.int (6)) := rfl
@[simp] theorem g_3 : tT.gcs[3]? = some (D.int (100)) := rfl
theorem r_is_integer (d : Nat) (a0 : D) (hs : Hs) : runN tT (d + 1) 0 [a0] hs = fin (evS tT (runN tT d) b_is_integer [some a0] hs) := rfl
theorem r_is_within (d : Nat) (a0 a1 a2 : D) (hs : Hs) : runN tT (d + 1) 1 [a0, a1, a2] hs = fin (evS tT (runN tT d) b_is_within [some a0, some a1, some a2] hs) := rfl
theorem r_is_sized (d : Nat) (a0 a1 a2 : D) (hs : Hs) : runN tT (d + 1) 2 [a0, a1, a2] hs = fin (evS tT (runN tT d) b_is_sized [some a0, some a1, some a2] hs) := rfl
theorem r_common (d : Nat) (a0 a1 : D) (hs : Hs) : runN tT (d + 1) 3 [a0, a1] hs = fin (evS tT (runN tT d) b_common [some a0, some a1] hs) := rfl
theorem r_check_rounds (d : Nat) (a0 a1 a2 : D) (hs : Hs) : runN tT (d + 1) 4 [a0, a1, a2] hs = fin (evS tT (runN tT d) b_check_rounds [some a0, some a1, some a2, none, none] hs) := rfl
theorem r_raw_met (d : Nat) (a0 a1 a2 : D) (hs : Hs) : runN tT (d + 1) 5 [a0, a1, a2] hs = fin (evS tT (runN tT d) b_raw_met [some a0, some a1, some a2, none, none] hs) := rfl
theorem r_met_by_rounds (d : Nat) (a0 a1 a2 a3 : D) (hs : Hs) : runN tT (d + 1) 6 [a0, a1, a2, a3] hs = fin (evS tT (runN tT d) b_met_by_rounds [some a0, some a1, some a2, some a3] hs) := rfl
theorem r_meet_ever (d : Nat) (a0 a1 a2 : D) (hs : Hs) : runN tT (d + 1) 7 [a0, a1, a2] hs = fin (evS tT (runN tT d) b_meet_ever [some a0, some a1, some a2, none] hs) := rfl
theorem r__law_hand (d : Nat) (a0 : D) (hs : Hs) : runN tT (d + 1) 8 [a0] hs = fin (evS tT (runN tT d) b__law_hand [some a0, none, none] hs) := rfl
theorem r__law_draw (d : Nat) (a0 a1 : D) (hs : Hs) : runN tT (d + 1) 9 [a0, a1] hs = fin (evS tT (runN tT d) b__law_draw [some a0, some a1, none, none, none] hs) := rfl
theorem r__law_some (d : Nat) (a0 a1 : D) (hs : Hs) : runN tT (d + 1) 10 [a0, a1] hs = fin (evS tT (runN tT d) b__law_some [some a0, some a1] hs) := rfl
theorem r__law_is (d : Nat) (a0 a1 : D) (hs : Hs) : runN tT (d + 1) 11 [a0, a1] hs = fin (evS tT (runN tT d) b__law_is [some a0, some a1, none, none, none] hs) := rfl
theorem r__law_common (d : Nat) (a0 a1 : D) (hs : Hs) : runN tT (d + 1) 12 [a0, a1] hs = fin (evS tT (runN tT d) b__law_common [some a0, some a1] hs) := rfl
theorem r_law (d : Nat) (a0 : D) (hs : Hs) : runN tT (d + 1) 13 [a0] hs = fin (evS tT (runN tT d) b_law [some a0, none, none, none, none, none, none, none, none, none, none] hs) := rfl
theorem sc_0 : FnScope n_is_integer ["thing"] (defScope (topS 1)) := ⟨rfl, rfl, rfl, by decide +kernel, rfl, by decide +kernel, by decide +kernel⟩
theorem ck_0 : (chkS n_is_integer tG b_is_integer).blk (defScope (topS 1)) (defBody (topS 1)) = true := by decide +kernel
theorem sc_1 : FnScope n_is_within ["thing", "low", "high"] (defScope (topS 2)) := ⟨rfl, rfl, rfl, by decide +kernel, rfl, by decide +kernel, by decide +kernel⟩
theorem ck_1 : (chkS n_is_within tG b_is_within).blk (defScope (topS 2)) (defBody (topS 2)) = true := by decide +kernel
theorem sc_2 : FnScope n_is_sized ["thing", "low", "high"] (defScope (topS 3)) := ⟨rfl, rfl, rfl, by decide +kernel, rfl, by decide +kernel, by decide +kernel⟩
theorem ck_2 : (chkS n_is_sized tG b_is_sized).blk (defScope (topS 3)) (defBody (topS 3)) = true := by decide +kernel
theorem sc_3 : FnScope n_common ["one", "other"] (defScope (topS 10)) := ⟨rfl, rfl, rfl, by decide +kernel, rfl, by decide +kernel, by decide +kernel⟩
theorem ck_3 : (chkS n_common tG b_common).blk (defScope (topS 10)) (defBody (topS 10)) = true := by decide +kernel
theorem sc_4 : FnScope n_check_rounds ["n", "one", "other"] (defScope (topS 16)) := ⟨rfl, rfl, rfl, by decide +kernel, rfl, by decide +kernel, by decide +kernel⟩
theorem ck_4 : (chkS n_check_rounds tG b_check_rounds).blk (defScope (topS 16)) (defBody (topS 16)) = true := by decide +kernel
theorem sc_5 : FnScope n_raw_met ["one", "other", "hours"] (defScope (topS 17)) := ⟨rfl, rfl, rfl, by decide +kernel, rfl, by decide +kernel, by decide +kernel⟩
theorem ck_5 : (chkS n_raw_met tG b_raw_met).blk (defScope (topS 17)) (defBody (topS 17)) = true := by decide +kernel
theorem sc_6 : FnScope n_met_by_rounds ["n", "one", "other", "hours"] (defScope (topS 18)) := ⟨rfl, rfl, rfl, by decide +kernel, rfl, by decide +kernel, by decide +kernel⟩
theorem ck_6 : (chkS n_met_by_rounds tG b_met_by_rounds).blk (defScope (topS 18)) (defBody (topS 18)) = true := by decide +kernel
theorem sc_7 : FnScope n_meet_ever ["n", "one", "other"] (defScope (topS 19)) := ⟨rfl, rfl, rfl, by decide +kernel, rfl, by decide +kernel, by decide +kernel⟩
theorem ck_7 : (chkS n_meet_ever tG b_meet_ever).blk (defScope (topS 19)) (defBody (topS 19)) = true := by decide +kernel
theorem sc_8 : FnScope n__law_hand ["script"] (defScope (topS 21)) := ⟨rfl, rfl, rfl, by decide +kernel, rfl, by decide +kernel, by decide +kernel⟩
theorem ck_8 : (chkS n__law_hand tG b__law_hand).blk (defScope (topS 21)) (defBody (topS 21)) = true := by decide +kernel
theorem sc_9 : FnScope n__law_draw ["hand", "many"] (defScope (topS 22)) := ⟨rfl, rfl, rfl, by decide +kernel, rfl, by decide +kernel, by decide +kernel⟩
theorem ck_9 : (chkS n__law_draw tG b__law_draw).blk (defScope (topS 22)) (defBody (topS 22)) = true := by decide +kernel
theorem sc_10 : FnScope n__law_some ["hand", "things"] (defScope (topS 23)) := ⟨rfl, rfl, rfl, by decide +kernel, rfl, by decide +kernel, by decide +kernel⟩
theorem ck_10 : (chkS n__law_some tG b__law_some).blk (defScope (topS 23)) (defBody (topS 23)) = true := by decide +kernel
theorem sc_11 : FnScope n__law_is ["told", "due"] (defScope (topS 24)) := ⟨rfl, rfl, rfl, by decide +kernel, rfl, by decide +kernel, by decide +kernel⟩
theorem ck_11 : (chkS n__law_is tG b__law_is).blk (defScope (topS 24)) (defBody (topS 24)) = true := by decide +kernel
theorem sc_12 : FnScope n__law_common ["one", "other"] (defScope (topS 25)) := ⟨rfl, rfl, rfl, by decide +kernel, rfl, by decide +kernel, by decide +kernel⟩
theorem ck_12 : (chkS n__law_common tG b__law_common).blk (defScope (topS 25)) (defBody (topS 25)) = true := by decide +kernel
theorem sc_13 : FnScope n_law ["script"] (defScope (topS 26)) := ⟨rfl, rfl, rfl, by decide +kernel, rfl, by decide +kernel, by decide +kernel⟩
theorem ck_13 : (chkS n_law tG b_law).blk (defScope (topS 26)) (defBody (topS 26)) = true := by decide +kernel
theorem draw_ok (d : Nat) {n : Nat} {hs : Hs} {hd : List D} {m : Int} (hn : hs[n]? = some hd) (ho : HandOk hd) (m0 : 0 < m) (m1 : m < 1073741824) :
    ∃ x hd', runN tT (d + 1) 9 [.loc n, .int m] hs = .ok (.int x) (hs.set n hd') ∧ 0 ≤ x ∧ x < m ∧ HandOk hd' := by
  obtain ⟨cells, i1, i2, i3, i4, rfl, hp⟩ := ho
  have gs : ∀ ys, (hs.set n ys)[n]? = some ys := fun ys => get_set (List.getElem?_eq_some_iff.mp hn).1
  have nn : ∀ z : Int, 0 ≤ z % m := fun z => Int.emod_nonneg z (by omega)
  have lt : ∀ z : Int, z % m < m := fun z => Int.emod_lt_of_pos z m0
  rw [r__law_draw]
  by_cases c1 : i2 = 0
  · by_cases c2 : i1 < cells.length
    · have c2' : i1.toNat < cells.length := by omega
      by_cases c3 : cells[i1.toNat] < 1000000000000000000
      · simp [b__law_draw, evS, ev, hn, c1, c2, c2', c3, at_nn, hp, gs, m0, m1]
        first | exact ⟨_, _, ⟨rfl, rfl⟩, nn _, lt _, _, _, _, _, _, rfl, by omega⟩ | exact ⟨_, _, rfl, nn _, lt _, _, _, _, _, _, rfl, by omega⟩
      · have c4 : 0 < cells[i1.toNat] := by omega
        simp [b__law_draw, evS, ev, hn, c1, c2, c2', c3, c4, at_nn, hp, gs, m0, m1]
        first | exact ⟨_, _, ⟨rfl, rfl⟩, nn _, lt _, _, _, _, _, _, rfl, by omega⟩ | exact ⟨_, _, rfl, nn _, lt _, _, _, _, _, _, rfl, by omega⟩
    · simp [b__law_draw, evS, ev, hn, c1, c2, at_nn, hp, gs, m0, m1]
      first | exact ⟨_, _, ⟨rfl, rfl⟩, nn _, lt _, _, _, _, _, _, rfl, by omega⟩ | exact ⟨_, _, rfl, nn _, lt _, _, _, _, _, _, rfl, by omega⟩
  · have c5 : (i2 == 0) = false := by simp [c1]
    by_cases c4 : 0 < i2
    · simp [b__law_draw, evS, ev, hn, c5, c4, at_nn, hp, gs, m0, m1]
      first | exact ⟨_, _, ⟨rfl, rfl⟩, nn _, lt _, _, _, _, _, _, rfl, by omega⟩ | exact ⟨_, _, rfl, nn _, lt _, _, _, _, _, _, rfl, by omega⟩
    · simp [b__law_draw, evS, ev, hn, c5, c4, at_nn, hp, gs, m0, m1]
      first | exact ⟨_, _, ⟨rfl, rfl⟩, nn _, lt _, _, _, _, _, _, rfl, by omega⟩ | exact ⟨_, _, rfl, nn _, lt _, _, _, _, _, _, rfl, by omega⟩
theorem hand_ok (d : Nat) (ns : List Int) (hs : Hs) : ∃ hd, runN tT (d + 1) 8 [.lst (ns.map D.int)] hs = .ok (.own hd) hs ∧ HandOk hd := by
  rw [r__law_hand]
  have c : cut (ns.map D.int) none (some 63) = (ns.take 63).map D.int := by rw [show (63 : Int) = ((63 : Nat) : Int) from rfl, cut_take, List.map_take]
  simp [b__law_hand, evS, ev, prt, opSlc, oInt, c, -List.map_take]
  rw [lcF_ints (fun i => .int (if i < 0 then -i else i)) fun i => by simp [asgT, wipeT]]
  simp
  exact ⟨(ns.take 63).map fun i => if i < 0 then -i else i, 0, 0, _, 0, by simp; exact ⟨rfl, rfl⟩, by omega⟩
theorem some_ok (d : Nat) {n : Nat} {hs : Hs} {hd xs : List D} (hn : hs[n]? = some hd) (ho : HandOk hd) (h0 : xs ≠ []) (h1 : xs.length < 1000000) :
    ∃ x hd', x ∈ xs ∧ runN tT (d + 2) 10 [.loc n, .lst xs] hs = .ok x (hs.set n hd') ∧ HandOk hd' := by
  have : 0 < xs.length := List.length_pos_iff.mpr h0
  obtain ⟨x, hd', e, q1, q2, q3⟩ := draw_ok d (m := xs.length) hn ho (by omega) (by omega)
  have hx : xs[x.toNat]? = some xs[x.toNat] := List.getElem?_eq_getElem (by omega)
  refine ⟨_, hd', List.mem_of_getElem? hx, ?_, q3⟩
  rw [r__law_some]
  simp [b__law_some, evS, ev, e, at_nn, q1, hx]
section
open PySem.W
theorem all_mk {P : PySem.Program} {w : World} {K : PySem.W.Frag} {h : Heap} {mg : Str → Option Value} {fa : Addr} (pl : PlainLaw tT 42 13) (X : K.In h) (Gs : h.Ns mainGlobals mg) (hfa : mg "law" = some (.ref fa)) (nl : noLst K = true) (bl : bltB K = true) (gc : gcsB K tG.cs tT.gcs = true)
    {f0 : Addr} {od0 an0 : Option Addr} {sl0 : Array (Option Value)} {oc0 kV0 dc0 pm0 cd0 ct0 : Value}
    (a0 : nsIn K mainGlobals "is_integer" = some (some (.ref f0))) (l0 : K.lookup f0 = some ⟨oc0, od0, .func (fnOf "is_integer" "is_integer" (defArgs (topS 1)) (defBody (topS 1)) (defScope (topS 1)) .none kV0 dc0 pm0 an0 cd0 ct0), sl0⟩) (c0 : codeIn K cd0 "is_integer" = true) (k0 : keepIn K (.ref f0) = true)
    {f1 : Addr} {od1 an1 : Option Addr} {sl1 : Array (Option Value)} {oc1 kV1 dc1 pm1 cd1 ct1 : Value}
    (a1 : nsIn K mainGlobals "is_within" = some (some (.ref f1))) (l1 : K.lookup f1 = some ⟨oc1, od1, .func (fnOf "is_within" "is_within" (defArgs (topS 2)) (defBody (topS 2)) (defScope (topS 2)) .none kV1 dc1 pm1 an1 cd1 ct1), sl1⟩) (c1 : codeIn K cd1 "is_within" = true) (k1 : keepIn K (.ref f1) = true)
    {f2 : Addr} {od2 an2 : Option Addr} {sl2 : Array (Option Value)} {oc2 kV2 dc2 pm2 cd2 ct2 : Value}
    (a2 : nsIn K mainGlobals "is_sized" = some (some (.ref f2))) (l2 : K.lookup f2 = some ⟨oc2, od2, .func (fnOf "is_sized" "is_sized" (defArgs (topS 3)) (defBody (topS 3)) (defScope (topS 3)) .none kV2 dc2 pm2 an2 cd2 ct2), sl2⟩) (c2 : codeIn K cd2 "is_sized" = true) (k2 : keepIn K (.ref f2) = true)
    {f3 : Addr} {od3 an3 : Option Addr} {sl3 : Array (Option Value)} {oc3 kV3 dc3 pm3 cd3 ct3 : Value}
    (a3 : nsIn K mainGlobals "common" = some (some (.ref f3))) (l3 : K.lookup f3 = some ⟨oc3, od3, .func (fnOf "common" "common" (defArgs (topS 10)) (defBody (topS 10)) (defScope (topS 10)) .none kV3 dc3 pm3 an3 cd3 ct3), sl3⟩) (c3 : codeIn K cd3 "common" = true) (k3 : keepIn K (.ref f3) = true)
    {f4 : Addr} {od4 an4 : Option Addr} {sl4 : Array (Option Value)} {oc4 kV4 dc4 pm4 cd4 ct4 : Value}
    (a4 : nsIn K mainGlobals "check_rounds" = some (some (.ref f4))) (l4 : K.lookup f4 = some ⟨oc4, od4, .func (fnOf "check_rounds" "check_rounds" (defArgs (topS 16)) (defBody (topS 16)) (defScope (topS 16)) .none kV4 dc4 pm4 an4 cd4 ct4), sl4⟩) (c4 : codeIn K cd4 "check_rounds" = true) (k4 : keepIn K (.ref f4) = true)
    {f5 : Addr} {od5 an5 : Option Addr} {sl5 : Array (Option Value)} {oc5 kV5 dc5 pm5 cd5 ct5 : Value}
    (a5 : nsIn K mainGlobals "raw_met" = some (some (.ref f5))) (l5 : K.lookup f5 = some ⟨oc5, od5, .func (fnOf "raw_met" "raw_met" (defArgs (topS 17)) (defBody (topS 17)) (defScope (topS 17)) .none kV5 dc5 pm5 an5 cd5 ct5), sl5⟩) (c5 : codeIn K cd5 "raw_met" = true) (k5 : keepIn K (.ref f5) = true)
    {f6 : Addr} {od6 an6 : Option Addr} {sl6 : Array (Option Value)} {oc6 kV6 dc6 pm6 cd6 ct6 : Value}
    (a6 : nsIn K mainGlobals "met_by_rounds" = some (some (.ref f6))) (l6 : K.lookup f6 = some ⟨oc6, od6, .func (fnOf "met_by_rounds" "met_by_rounds" (defArgs (topS 18)) (defBody (topS 18)) (defScope (topS 18)) .none kV6 dc6 pm6 an6 cd6 ct6), sl6⟩) (c6 : codeIn K cd6 "met_by_rounds" = true) (k6 : keepIn K (.ref f6) = true)
    {f7 : Addr} {od7 an7 : Option Addr} {sl7 : Array (Option Value)} {oc7 kV7 dc7 pm7 cd7 ct7 : Value}
    (a7 : nsIn K mainGlobals "meet_ever" = some (some (.ref f7))) (l7 : K.lookup f7 = some ⟨oc7, od7, .func (fnOf "meet_ever" "meet_ever" (defArgs (topS 19)) (defBody (topS 19)) (defScope (topS 19)) .none kV7 dc7 pm7 an7 cd7 ct7), sl7⟩) (c7 : codeIn K cd7 "meet_ever" = true) (k7 : keepIn K (.ref f7) = true)
    {f8 : Addr} {od8 an8 : Option Addr} {sl8 : Array (Option Value)} {oc8 kV8 dc8 pm8 cd8 ct8 : Value}
    (a8 : nsIn K mainGlobals "_law_hand" = some (some (.ref f8))) (l8 : K.lookup f8 = some ⟨oc8, od8, .func (fnOf "_law_hand" "_law_hand" (defArgs (topS 21)) (defBody (topS 21)) (defScope (topS 21)) .none kV8 dc8 pm8 an8 cd8 ct8), sl8⟩) (c8 : codeIn K cd8 "_law_hand" = true) (k8 : keepIn K (.ref f8) = true)
    {f9 : Addr} {od9 an9 : Option Addr} {sl9 : Array (Option Value)} {oc9 kV9 dc9 pm9 cd9 ct9 : Value}
    (a9 : nsIn K mainGlobals "_law_draw" = some (some (.ref f9))) (l9 : K.lookup f9 = some ⟨oc9, od9, .func (fnOf "_law_draw" "_law_draw" (defArgs (topS 22)) (defBody (topS 22)) (defScope (topS 22)) .none kV9 dc9 pm9 an9 cd9 ct9), sl9⟩) (c9 : codeIn K cd9 "_law_draw" = true) (k9 : keepIn K (.ref f9) = true)
    {f10 : Addr} {od10 an10 : Option Addr} {sl10 : Array (Option Value)} {oc10 kV10 dc10 pm10 cd10 ct10 : Value}
    (a10 : nsIn K mainGlobals "_law_some" = some (some (.ref f10))) (l10 : K.lookup f10 = some ⟨oc10, od10, .func (fnOf "_law_some" "_law_some" (defArgs (topS 23)) (defBody (topS 23)) (defScope (topS 23)) .none kV10 dc10 pm10 an10 cd10 ct10), sl10⟩) (c10 : codeIn K cd10 "_law_some" = true) (k10 : keepIn K (.ref f10) = true)
    {f11 : Addr} {od11 an11 : Option Addr} {sl11 : Array (Option Value)} {oc11 kV11 dc11 pm11 cd11 ct11 : Value}
    (a11 : nsIn K mainGlobals "_law_is" = some (some (.ref f11))) (l11 : K.lookup f11 = some ⟨oc11, od11, .func (fnOf "_law_is" "_law_is" (defArgs (topS 24)) (defBody (topS 24)) (defScope (topS 24)) .none kV11 dc11 pm11 an11 cd11 ct11), sl11⟩) (c11 : codeIn K cd11 "_law_is" = true) (k11 : keepIn K (.ref f11) = true)
    {f12 : Addr} {od12 an12 : Option Addr} {sl12 : Array (Option Value)} {oc12 kV12 dc12 pm12 cd12 ct12 : Value}
    (a12 : nsIn K mainGlobals "_law_common" = some (some (.ref f12))) (l12 : K.lookup f12 = some ⟨oc12, od12, .func (fnOf "_law_common" "_law_common" (defArgs (topS 25)) (defBody (topS 25)) (defScope (topS 25)) .none kV12 dc12 pm12 an12 cd12 ct12), sl12⟩) (c12 : codeIn K cd12 "_law_common" = true) (k12 : keepIn K (.ref f12) = true)
    {f13 : Addr} {od13 an13 : Option Addr} {sl13 : Array (Option Value)} {oc13 kV13 dc13 pm13 cd13 ct13 : Value}
    (a13 : nsIn K mainGlobals "law" = some (some (.ref f13))) (l13 : K.lookup f13 = some ⟨oc13, od13, .func (fnOf "law" "law" (defArgs (topS 26)) (defBody (topS 26)) (defScope (topS 26)) .none kV13 dc13 pm13 an13 cd13 ct13), sl13⟩) (c13 : codeIn K cd13 "law" = true) (k13 : keepIn K (.ref f13) = true)
    : ∃ fd : FuncData, (∀ (s : Shared) (v : Value), BindsTo s fd ⟨[v], []⟩ [("script", v)]) ∧ ∀ base : Heap, K.In base → base.Ns mainGlobals mg → FnOk P w K mg base (L2.CX P w) 42 fa fd ["script"] (spLaw K) := by
  have d0 : DefOk K mg tT tG 0 "is_integer" f0 (fnOf "is_integer" "is_integer" (defArgs (topS 1)) (defBody (topS 1)) (defScope (topS 1)) .none kV0 dc0 pm0 an0 cd0 ct0) ["thing"] := def_mk X Gs a0 l0 c0 k0 (fun us hl => match us, hl with | [_], _ => rfl) rfl sc_0 rfl rfl ck_0
  have d1 : DefOk K mg tT tG 1 "is_within" f1 (fnOf "is_within" "is_within" (defArgs (topS 2)) (defBody (topS 2)) (defScope (topS 2)) .none kV1 dc1 pm1 an1 cd1 ct1) ["thing", "low", "high"] := def_mk X Gs a1 l1 c1 k1 (fun us hl => match us, hl with | [_, _, _], _ => rfl) rfl sc_1 rfl rfl ck_1
  have d2 : DefOk K mg tT tG 2 "is_sized" f2 (fnOf "is_sized" "is_sized" (defArgs (topS 3)) (defBody (topS 3)) (defScope (topS 3)) .none kV2 dc2 pm2 an2 cd2 ct2) ["thing", "low", "high"] := def_mk X Gs a2 l2 c2 k2 (fun us hl => match us, hl with | [_, _, _], _ => rfl) rfl sc_2 rfl rfl ck_2
  have d3 : DefOk K mg tT tG 3 "common" f3 (fnOf "common" "common" (defArgs (topS 10)) (defBody (topS 10)) (defScope (topS 10)) .none kV3 dc3 pm3 an3 cd3 ct3) ["one", "other"] := def_mk X Gs a3 l3 c3 k3 (fun us hl => match us, hl with | [_, _], _ => rfl) rfl sc_3 rfl rfl ck_3
  have d4 : DefOk K mg tT tG 4 "check_rounds" f4 (fnOf "check_rounds" "check_rounds" (defArgs (topS 16)) (defBody (topS 16)) (defScope (topS 16)) .none kV4 dc4 pm4 an4 cd4 ct4) ["n", "one", "other"] := def_mk X Gs a4 l4 c4 k4 (fun us hl => match us, hl with | [_, _, _], _ => rfl) rfl sc_4 rfl rfl ck_4
  have d5 : DefOk K mg tT tG 5 "raw_met" f5 (fnOf "raw_met" "raw_met" (defArgs (topS 17)) (defBody (topS 17)) (defScope (topS 17)) .none kV5 dc5 pm5 an5 cd5 ct5) ["one", "other", "hours"] := def_mk X Gs a5 l5 c5 k5 (fun us hl => match us, hl with | [_, _, _], _ => rfl) rfl sc_5 rfl rfl ck_5
  have d6 : DefOk K mg tT tG 6 "met_by_rounds" f6 (fnOf "met_by_rounds" "met_by_rounds" (defArgs (topS 18)) (defBody (topS 18)) (defScope (topS 18)) .none kV6 dc6 pm6 an6 cd6 ct6) ["n", "one", "other", "hours"] := def_mk X Gs a6 l6 c6 k6 (fun us hl => match us, hl with | [_, _, _, _], _ => rfl) rfl sc_6 rfl rfl ck_6
  have d7 : DefOk K mg tT tG 7 "meet_ever" f7 (fnOf "meet_ever" "meet_ever" (defArgs (topS 19)) (defBody (topS 19)) (defScope (topS 19)) .none kV7 dc7 pm7 an7 cd7 ct7) ["n", "one", "other"] := def_mk X Gs a7 l7 c7 k7 (fun us hl => match us, hl with | [_, _, _], _ => rfl) rfl sc_7 rfl rfl ck_7
  have d8 : DefOk K mg tT tG 8 "_law_hand" f8 (fnOf "_law_hand" "_law_hand" (defArgs (topS 21)) (defBody (topS 21)) (defScope (topS 21)) .none kV8 dc8 pm8 an8 cd8 ct8) ["script"] := def_mk X Gs a8 l8 c8 k8 (fun us hl => match us, hl with | [_], _ => rfl) rfl sc_8 rfl rfl ck_8
  have d9 : DefOk K mg tT tG 9 "_law_draw" f9 (fnOf "_law_draw" "_law_draw" (defArgs (topS 22)) (defBody (topS 22)) (defScope (topS 22)) .none kV9 dc9 pm9 an9 cd9 ct9) ["hand", "many"] := def_mk X Gs a9 l9 c9 k9 (fun us hl => match us, hl with | [_, _], _ => rfl) rfl sc_9 rfl rfl ck_9
  have d10 : DefOk K mg tT tG 10 "_law_some" f10 (fnOf "_law_some" "_law_some" (defArgs (topS 23)) (defBody (topS 23)) (defScope (topS 23)) .none kV10 dc10 pm10 an10 cd10 ct10) ["hand", "things"] := def_mk X Gs a10 l10 c10 k10 (fun us hl => match us, hl with | [_, _], _ => rfl) rfl sc_10 rfl rfl ck_10
  have d11 : DefOk K mg tT tG 11 "_law_is" f11 (fnOf "_law_is" "_law_is" (defArgs (topS 24)) (defBody (topS 24)) (defScope (topS 24)) .none kV11 dc11 pm11 an11 cd11 ct11) ["told", "due"] := def_mk X Gs a11 l11 c11 k11 (fun us hl => match us, hl with | [_, _], _ => rfl) rfl sc_11 rfl rfl ck_11
  have d12 : DefOk K mg tT tG 12 "_law_common" f12 (fnOf "_law_common" "_law_common" (defArgs (topS 25)) (defBody (topS 25)) (defScope (topS 25)) .none kV12 dc12 pm12 an12 cd12 ct12) ["one", "other"] := def_mk X Gs a12 l12 c12 k12 (fun us hl => match us, hl with | [_, _], _ => rfl) rfl sc_12 rfl rfl ck_12
  have d13 : DefOk K mg tT tG 13 "law" f13 (fnOf "law" "law" (defArgs (topS 26)) (defBody (topS 26)) (defScope (topS 26)) .none kV13 dc13 pm13 an13 cd13 ct13) ["script"] := def_mk X Gs a13 l13 c13 k13 (fun us hl => match us, hl with | [_], _ => rfl) rfl sc_13 rfl rfl ck_13
  have e := hfa.symm.trans (mg_of X Gs a13)
  cases e
  have M : ModOk K mg tT tG := mod_mk X Gs bl gc ⟨⟨_, _, _, d0⟩, ⟨_, _, _, d1⟩, ⟨_, _, _, d2⟩, ⟨_, _, _, d3⟩, ⟨_, _, _, d4⟩, ⟨_, _, _, d5⟩, ⟨_, _, _, d6⟩, ⟨_, _, _, d7⟩, ⟨_, _, _, d8⟩, ⟨_, _, _, d9⟩, ⟨_, _, _, d10⟩, ⟨_, _, _, d11⟩, ⟨_, _, _, d12⟩, ⟨_, _, _, d13⟩, trivial⟩
  exact ⟨_, fun s v => .of_eq rfl, fun base _ _ => law_one M d13 nl pl⟩
end
end Zk83
/-! Z21: the evaluator's equations -/
namespace Z
open PySem
section
variable {T : Tbl} {cal : Nat → List D → Hs → R} {e : En} {h : Hs}
@[simp] theorem evf_nil : ev T cal (.nil) false e h = (.ok (.tup []) h) := id rfl
@[simp] theorem evt_nil : ev T cal (.nil) true e h = (.ok (.tup []) h) := id rfl
@[simp] theorem evf_cons {a r} : ev T cal (.cons a r) false e h = ((ev T cal a false e h).bind fun x h => (ev T cal r false e h).bind fun l h => .ok (.tup (x :: l.items)) h) := id rfl
@[simp] theorem evt_cons {a r} : ev T cal (.cons a r) true e h = ((ev T cal a false e h).bind fun x h => (ev T cal r false e h).bind fun l h => .ok (.tup (x :: l.items)) h) := id rfl
@[simp] theorem evf_and {a b} : ev T cal (.and a b) false e h = ((ev T cal a false e h).bind fun x h => match x with
    | .bl true => ev T cal b false e h
    | .bl false => .ok (.bl false) h
    | _ => .err) := id rfl
@[simp] theorem evt_and {a b} : ev T cal (.and a b) true e h = ((ev T cal a true e h).bind fun x h => match x with
    | .bl true => ev T cal b true e h
    | .bl false => .ok (.bl false) h
    | _ => .err) := id rfl
@[simp] theorem evf_or {a b} : ev T cal (.or a b) false e h = ((ev T cal a false e h).bind fun x h => match x with
    | .bl false => ev T cal b false e h
    | .bl true => .ok (.bl true) h
    | _ => .err) := id rfl
@[simp] theorem evt_or {a b} : ev T cal (.or a b) true e h = ((ev T cal a true e h).bind fun x h => match x with
    | .bl false => ev T cal b true e h
    | .bl true => .ok (.bl true) h
    | _ => .err) := id rfl
@[simp] theorem evf_not {a} : ev T cal (.not a) false e h = ((ev T cal a false e h).bind fun x h => match (truth x) with
    | some b => .ok (.bl (!b)) h
    | none => .err) := id rfl
@[simp] theorem evt_not {a} : ev T cal (.not a) true e h = ((ev T cal a true e h).bind fun x h => match (isBl x) with
    | some b => .ok (.bl (!b)) h
    | none => .err) := id rfl
@[simp] theorem evf_ite {c a b} : ev T cal (.ite c a b) false e h = ((ev T cal c true e h).bind fun x h => match x with
    | .bl true => (ev T cal a false e h).bind fun x h => .ok x h
    | .bl false => (ev T cal b false e h).bind fun x h => .ok x h
    | _ => .err) := id rfl
@[simp] theorem evt_ite {c a b} : ev T cal (.ite c a b) true e h = ((ev T cal c true e h).bind fun x h => match x with
    | .bl true => (ev T cal a false e h).bind fun x h => bool1 h (truth x)
    | .bl false => (ev T cal b false e h).bind fun x h => bool1 h (truth x)
    | _ => .err) := id rfl
@[simp] theorem evf_c {d} : ev T cal (.c d) false e h = (.ok d h) := id rfl
@[simp] theorem evt_c {d} : ev T cal (.c d) true e h = (bool1 h (truth d)) := id rfl
@[simp] theorem evf_v {i} : ev T cal (.v i) false e h = (match e[i]? with
    | some (some d) => if d.isOwn then .err else .ok d h
    | _ => .err) := id rfl
@[simp] theorem evt_v {i} : ev T cal (.v i) true e h = (match e[i]? with
    | some (some d) => if d.isOwn then .err else bool1 h (truth d)
    | _ => .err) := id rfl
@[simp] theorem evf_b {i} : ev T cal (.b i) false e h = (match e[i]? with
    | some (some d) => .ok d h
    | _ => .err) := id rfl
@[simp] theorem evt_b {i} : ev T cal (.b i) true e h = (match e[i]? with
    | some (some d) => bool1 h (truth d)
    | _ => .err) := id rfl
@[simp] theorem evf_g {n} : ev T cal (.g n) false e h = (match T.gcs[n]? with
    | some d => .ok d h
    | _ => .err) := id rfl
@[simp] theorem evt_g {n} : ev T cal (.g n) true e h = (match T.gcs[n]? with
    | some d => bool1 h (truth d)
    | _ => .err) := id rfl
@[simp] theorem evf_bin {o a b} : ev T cal (.bin o a b) false e h = ((ev T cal a false e h).bind fun x h => (ev T cal b false e h).bind fun y h =>
      (R.ofO h (opB o x y)).bind fun x h => .ok x h) := id rfl
@[simp] theorem evt_bin {o a b} : ev T cal (.bin o a b) true e h = ((ev T cal a false e h).bind fun x h => (ev T cal b false e h).bind fun y h =>
      (R.ofO h (opB o x y)).bind fun x h => bool1 h (truth x)) := id rfl
@[simp] theorem evf_neg {a} : ev T cal (.neg a) false e h = ((ev T cal a false e h).bind fun x h => match x with
    | .int i => .ok (.int (-i)) h
    | _ => .err) := id rfl
@[simp] theorem evt_neg {a} : ev T cal (.neg a) true e h = ((ev T cal a false e h).bind fun x h => match x with
    | .int i => bool1 h (truth (.int (-i)))
    | _ => .err) := id rfl
@[simp] theorem evf_cmp {o a b} : ev T cal (.cmp o a b) false e h = ((ev T cal a false e h).bind fun x h => (ev T cal b false e h).bind fun y h => bool1 h (opC o x y)) := id rfl
@[simp] theorem evt_cmp {o a b} : ev T cal (.cmp o a b) true e h = ((ev T cal a false e h).bind fun x h => (ev T cal b false e h).bind fun y h => bool1 h (opC o x y)) := id rfl
@[simp] theorem evf_chain {o p a b c} : ev T cal (.chain o p a b c) false e h = ((ev T cal a false e h).bind fun x h => (ev T cal b false e h).bind fun y h => match opC o x y with
    | some true => (ev T cal c false e h).bind fun z h => bool1 h (opC p y z)
    | some false => .ok (.bl false) h
    | none => .err) := id rfl
@[simp] theorem evt_chain {o p a b c} : ev T cal (.chain o p a b c) true e h = ((ev T cal a false e h).bind fun x h => (ev T cal b false e h).bind fun y h => match opC o x y with
    | some true => (ev T cal c false e h).bind fun z h => bool1 h (opC p y z)
    | some false => .ok (.bl false) h
    | none => .err) := id rfl
@[simp] theorem evf_tup {l} : ev T cal (.tup l) false e h = ((ev T cal l false e h).bind fun x h => .ok (.tup (x.items.map D.frz)) h) := id rfl
@[simp] theorem evt_tup {l} : ev T cal (.tup l) true e h = ((ev T cal l false e h).bind fun x h => bool1 h (truth (.tup (x.items.map D.frz)))) := id rfl
@[simp] theorem evf_lst {l} : ev T cal (.lst l) false e h = ((ev T cal l false e h).bind fun x h => .ok (.own (x.items.map D.frz)) h) := id rfl
@[simp] theorem evt_lst {l} : ev T cal (.lst l) true e h = ((ev T cal l false e h).bind fun x h => bool1 h (truth (.own (x.items.map D.frz)))) := id rfl
@[simp] theorem evf_dsp {ks vs} : ev T cal (.dsp ks vs) false e h = ((ev T cal ks false e h).bind fun x h => (ev T cal vs false e h).bind fun y h =>
      .ok (.odc (x.items.map D.frz) (y.items.map D.frz)) h) := id rfl
@[simp] theorem evt_dsp {ks vs} : ev T cal (.dsp ks vs) true e h = ((ev T cal ks false e h).bind fun x h => (ev T cal vs false e h).bind fun y h =>
      bool1 h (truth (.odc (x.items.map D.frz) (y.items.map D.frz)))) := id rfl
@[simp] theorem evf_idx {a i} : ev T cal (.idx a i) false e h = ((ev T cal a false e h).bind fun x h => (ev T cal i false e h).bind fun y h =>
      (R.ofO h (opIdx x y h)).bind fun x h => .ok x h) := id rfl
@[simp] theorem evt_idx {a i} : ev T cal (.idx a i) true e h = ((ev T cal a false e h).bind fun x h => (ev T cal i false e h).bind fun y h =>
      (R.ofO h (opIdx x y h)).bind fun x h => bool1 h (truth x)) := id rfl
@[simp] theorem evf_slc {a lo hi} : ev T cal (.slc a lo hi) false e h = ((ev T cal a false e h).bind fun x h => (prt lo (ev T cal lo false e h) h).bind fun l h => (prt hi (ev T cal hi false e h) h).bind fun r h =>
      (R.ofO h (opSlc x l r)).bind fun x h => .ok x h) := id rfl
@[simp] theorem evt_slc {a lo hi} : ev T cal (.slc a lo hi) true e h = ((ev T cal a false e h).bind fun x h => (prt lo (ev T cal lo false e h) h).bind fun l h => (prt hi (ev T cal hi false e h) h).bind fun r h =>
      (R.ofO h (opSlc x l r)).bind fun x h => bool1 h (truth x)) := id rfl
@[simp] theorem evf_rev {a} : ev T cal (.rev a) false e h = ((ev T cal a false e h).bind fun x h => (R.ofO h (opRev x)).bind fun x h => .ok x h) := id rfl
@[simp] theorem evt_rev {a} : ev T cal (.rev a) true e h = ((ev T cal a false e h).bind fun x h => (R.ofO h (opRev x)).bind fun x h => bool1 h (truth x)) := id rfl
@[simp] theorem evf_bi {f l} : ev T cal (.bi f l) false e h = ((ev T cal l false e h).bind fun x h => (R.ofO h (opBi f x.items h)).bind fun x h => .ok x h) := id rfl
@[simp] theorem evt_bi {f l} : ev T cal (.bi f l) true e h = ((ev T cal l false e h).bind fun x h => (R.ofO h (opBi f x.items h)).bind fun x h => bool1 h (truth x)) := id rfl
@[simp] theorem evf_me {m a l} : ev T cal (.me m a l) false e h = ((ev T cal a false e h).bind fun x h => (ev T cal l false e h).bind fun y h => (R.ofO h (opMe m x y.items h)).bind fun x h => .ok x h) := id rfl
@[simp] theorem evt_me {m a l} : ev T cal (.me m a l) true e h = ((ev T cal a false e h).bind fun x h => (ev T cal l false e h).bind fun y h => (R.ofO h (opMe m x y.items h)).bind fun x h => bool1 h (truth x)) := id rfl
@[simp] theorem evf_call {f l} : ev T cal (.call f l) false e h = ((ev T cal l false e h).bind fun x h => (cal f (x.items.map D.frz) h).bind fun x h => .ok x h) := id rfl
@[simp] theorem evt_call {f l} : ev T cal (.call f l) true e h = ((ev T cal l false e h).bind fun x h => (cal f (x.items.map D.frz) h).bind fun x h => bool1 h (truth x)) := id rfl
@[simp] theorem evf_lc {tg it cd el} : ev T cal (.lc tg it cd el) false e h = ((ev T cal it false e h).bind fun x h => match x.iter with
    | some xs => (lcF (fun x h => match asgT tg x (wipeT tg e) with
        | some e1 => (ev T cal cd true e1 h).bind fun b h => match b with
          | .bl true => (ev T cal el false e1 h).bind fun y h => .ok (.tup [y.frz]) h
          | .bl false => .ok (.tup []) h
          | _ => .err
        | none => .err) xs h []).bind fun x h => .ok x h
    | none => .err) := id rfl
@[simp] theorem evt_lc {tg it cd el} : ev T cal (.lc tg it cd el) true e h = ((ev T cal it false e h).bind fun x h => match x.iter with
    | some xs => (lcF (fun x h => match asgT tg x (wipeT tg e) with
        | some e1 => (ev T cal cd true e1 h).bind fun b h => match b with
          | .bl true => (ev T cal el false e1 h).bind fun y h => .ok (.tup [y.frz]) h
          | .bl false => .ok (.tup []) h
          | _ => .err
        | none => .err) xs h []).bind fun x h => bool1 h (truth x)
    | none => .err) := id rfl
@[simp] theorem evf_dc {tg it cd k v} : ev T cal (.dc tg it cd k v) false e h = (.err) := id rfl
@[simp] theorem evt_dc {tg it cd k v} : ev T cal (.dc tg it cd k v) true e h = (.err) := id rfl
@[simp] theorem st_never : evS T cal (.never) e h = (.err) := id rfl
@[simp] theorem st_skip : evS T cal (.skip) e h = (.next e h) := id rfl
@[simp] theorem st_seq {a b} : evS T cal (.seq a b) e h = ((evS T cal a e h).andThen fun e h => evS T cal b e h) := id rfl
@[simp] theorem st_set {i m} : evS T cal (.set i m) e h = ((ev T cal m false e h).toS e fun d h => .next (e.set i (some d.frz)) h) := id rfl
@[simp] theorem st_seto {i m} : evS T cal (.seto i m) e h = ((ev T cal m false e h).toS e fun d h => .next (e.set i (some d)) h) := id rfl
@[simp] theorem st_setl {i m} : evS T cal (.setl i m) e h = ((ev T cal m false e h).toS e fun d h => match d with
    | .own xs => .next (e.set i (some (.loc h.length))) (h ++ [xs])
    | _ => .err) := id rfl
@[simp] theorem st_asg {tg m} : evS T cal (.asg tg m) e h = ((ev T cal m false e h).toS e fun d h => match asgT tg d.frz e with
    | some e => .next e h
    | none => .err) := id rfl
@[simp] theorem st_par {tg m} : evS T cal (.par tg m) e h = ((ev T cal m false e h).toS e fun d h => match asgT tg d e with
    | some e => .next e h
    | none => .err) := id rfl
@[simp] theorem st_idxs {i k m} : evS T cal (.idxs i k m) e h = ((ev T cal m false e h).toS e fun d h => if hasOwn e i h then (ev T cal k false e h).toS e fun k h => match k with
    | .int j => onOwn e i h fun xs => setAt xs j d.frz
    | _ => .err else .err) := id rfl
@[simp] theorem st_aug {i o m} : evS T cal (.aug i o m) e h = (match e[i]? with
    | some (some x) => (ev T cal m false e h).toS e fun y h => match x, y with
      | .int a, .int b => match opB o (.int a) (.int b) with
        | some z => .next (e.set i (some z)) h
        | none => .err
      | _, _ => .err
    | _ => .err) := id rfl
@[simp] theorem st_app {i m} : evS T cal (.app i m) e h = (if hasOwn e i h then (ev T cal m false e h).toS e fun d h => onOwn e i h fun xs => if lim (xs.length + 1) then some (xs ++ [d.frz]) else none else .err) := id rfl
@[simp] theorem st_ext {i m} : evS T cal (.ext i m) e h = (if hasOwn e i h then (ev T cal m false e h).toS e fun d h => match d.frz with
    | .lst ys => onOwn e i h fun xs => if lim (xs.length + ys.length) then some (xs ++ ys) else none
    | _ => .err else .err) := id rfl
@[simp] theorem st_pop {tg i} : evS T cal (.pop tg i) e h = (match (listOwn e i h).bind List.getLast? with
    | some d => (onOwn e i h fun xs => some xs.dropLast).andThen fun e h => match asgT tg d e with
      | some e => .next e h
      | none => .err
    | none => .err) := id rfl
@[simp] theorem st_ex {m} : evS T cal (.ex m) e h = ((ev T cal m false e h).toS e fun _ h => .next e h) := id rfl
@[simp] theorem st_ret {m} : evS T cal (.ret m) e h = ((ev T cal m false e h).toS e fun d h => .ret d h) := id rfl
@[simp] theorem st_retv {i} : evS T cal (.retv i) e h = (match e[i]? with
    | some (some d) => .ret d h
    | _ => .err) := id rfl
@[simp] theorem st_ife {c a b} : evS T cal (.ife c a b) e h = ((ev T cal c true e h).toS e fun x h => match x with
    | .bl true => evS T cal a e h
    | .bl false => evS T cal b e h
    | _ => .err) := id rfl
@[simp] theorem st_for {tg it b} : evS T cal (.for tg it b) e h = ((ev T cal it false e h).toS e fun x h => match x.iter with
    | some xs => forF (fun x e h => match asgT tg x e with
      | some e => evS T cal b e h
      | none => .err) xs e h
    | none => .err) := id rfl
@[simp] theorem st_whl {c b} : evS T cal (.whl c b) e h = (whlF (fun e h => ev T cal c true e h) (fun e h => evS T cal b e h) fuel e h) := id rfl
@[simp] theorem st_brk : evS T cal (.brk) e h = (.brk e h) := id rfl
@[simp] theorem st_raise {c l} : evS T cal (.raise c l) e h = ((ev T cal l false e h).toS e fun x h => .exc (.ex c (x.items.map D.frz)) e h) := id rfl
@[simp] theorem st_fz {i} : evS T cal (.fz i) e h = (match e[i]? with
    | some (some d) => .next (e.set i (some d.frz)) h
    | _ => .next e h) := id rfl
@[simp] theorem st_fg {i} : evS T cal (.fg i) e h = (.next (e.set i none) h) := id rfl
end
end Z
namespace Zk83
open PySem Z
theorem s0 (d : Nat) (i : Int) (hs : Hs) : runN tT (d + 1) 0 [.int i] hs = .ok (.bl true) hs := rfl
theorem s1 (d : Nat) (i lo hi : Int) (hs : Hs) (h1 : lo ≤ i) (h2 : i ≤ hi) : runN tT (d + 2) 1 [.int i, .int lo, .int hi] hs = .ok (.bl true) hs := by
  have e1 : decide (i < lo) = false := decide_eq_false (by omega)
  have e2 : decide (hi < i) = false := decide_eq_false (by omega)
  rw [r_is_within]
  simp [b_is_within, evS, ev, s0, e1, e2]
theorem s2 (d : Nat) (xs : List D) (lo hi : Int) (hs : Hs) (h1 : lo ≤ xs.length) (h2 : xs.length ≤ hi) : runN tT (d + 1) 2 [.tup xs, .int lo, .int hi] hs = .ok (.bl true) hs := by
  have e1 : ¬ (xs.length : Int) < lo := by omega
  have e2 : ¬ hi < (xs.length : Int) := by omega
  rw [r_is_sized]
  simp [b_is_sized, evS, ev, isTy, e1, e2]
def RowOk (n : Int) (xs : List Int) : Prop := 1 ≤ xs.length ∧ xs.length ≤ 6 ∧ ∀ z ∈ xs, 0 ≤ z ∧ z < n
theorem check_ok (d : Nat) (n : Int) (one other : List Int) (hs : Hs) (h1 : 2 ≤ n) (h2 : n ≤ 7) (r1 : RowOk n one) (r2 : RowOk n other) :
    runN tT (d + 3) 4 [.int n, .tup (one.map D.int), .tup (other.map D.int)] hs = .ok .non hs := by
  have e1 := s1 d n 2 7 hs h1 h2
  obtain ⟨a1, a2, a3⟩ := r1
  obtain ⟨b1, b2, b3⟩ := r2
  have e2 := s2 (d + 1) (one.map D.int) 1 6 hs (by simp; omega) (by simp; omega)
  have e3 := s2 (d + 1) (other.map D.int) 1 6 hs (by simp; omega) (by simp; omega)
  have al : ∀ xs : List Int, opBi .all [.own (xs.map fun _ => D.bl true)] hs = some (.bl true) := fun xs => by
    have := bi_all (bs := xs.map fun _ => true) (d := .own (xs.map fun _ => D.bl true)) (h := hs) (.inr (by rw [List.map_map]; rfl))
    rw [this, show (xs.map fun _ => true).all id = true by simp]
  rw [r_check_rounds]
  simp [b_check_rounds, evS, ev, e1, forF, asgT, e2, e3]
  rw [lcF_intsM (fun _ => .bl true) fun i hi => by
      obtain ⟨i1, i2⟩ := a3 i hi
      have e3 := s1 d i 0 (n - 1) hs i1 (by omega)
      simp [asgT, wipeT, e3]]
  simp [al, e3, asgT]
  rw [lcF_intsM (fun _ => .bl true) fun i hi => by
      obtain ⟨i1, i2⟩ := b3 i hi
      have e3 := s1 d i 0 (n - 1) hs i1 (by omega)
      simp [asgT, wipeT, e3]]
  simp [al]
/-- both are in one place at that hour -/
def at1 (xs : List Int) (h : Int) : Int := xs.getD (h % xs.length).toNat 0
def Met (one other : List Int) (h : Int) : Bool := at1 one h == at1 other h
theorem ix_row (d : List Int) (h : Int) (h1 : 0 < d.length) : at? (d.map D.int) (h % d.length) = some (.int (at1 d h)) := by
  unfold at1
  have q1 := Int.emod_nonneg h (show (d.length : Int) ≠ 0 by omega)
  have q2 := Int.emod_lt_of_pos h (show (0 : Int) < d.length by omega)
  rw [at_nn q1, List.getElem?_map, List.getElem?_eq_getElem (show (h % d.length).toNat < d.length by omega), List.getD_eq_getElem?_getD, List.getElem?_eq_getElem (show (h % d.length).toNat < d.length by omega)]
  rfl
theorem raw_ok (d : Nat) (one other : List Int) (m : Int) (hs : Hs) (a1 : 0 < one.length) (b1 : 0 < other.length) (m0 : 0 ≤ m) (m1 : m ≤ 1000) :
    runN tT (d + 1) 5 [.tup (one.map D.int), .tup (other.map D.int), .int m] hs = .ok (optI (fstI (Met one other) (m + 1))) hs := by
  rw [r_raw_met]
  have hr : opBi .range [.int (m + 1)] hs = some (.lst (rng 0 (m + 1))) := by
    show (if _ then _ else _) = _
    rw [if_pos (by simp; omega)]
  have a1' : (0 : Int) < one.length := by omega
  have b1' : (0 : Int) < other.length := by omega
  have ma : ∀ i : Int, opB .mod (.int i) (.int one.length) = some (.int (i % one.length)) := fun i => b_mod a1'
  have mb : ∀ i : Int, opB .mod (.int i) (.int other.length) = some (.int (i % other.length)) := fun i => b_mod b1'
  simp [b_raw_met, evS, ev, hr]
  rw [rng_ints, lcF_filter (Met one other) fun i hi => by
    have e1 := ix_row one i a1
    have e2 := ix_row other i b1
    cases hm : Met one other i with
    | true =>
      have : at1 one i = at1 other i := eq_of_beq hm
      simp [asgT, wipeT, ma, mb, e1, e2, this]
    | false =>
      have : (at1 one i == at1 other i) = false := hm
      simp [asgT, wipeT, ma, mb, e1, e2, this]]
  unfold fstI
  cases hl : (intsR 0 (m + 1)).filter (Met one other) with
  | nil => simp [optI]
  | cons y ys => simp [optI]
theorem is_ok (d : Nat) (o : Option Int) (hs : Hs) : runN tT (d + 1) 11 [optI o, optI o] hs = .ok (.bl true) hs := by
  rw [r__law_is]
  cases o with
  | none => simp [b__law_is, evS, ev, optI, isTy]
  | some x => simp [b__law_is, evS, ev, optI, isTy]
theorem is_str (d : Nat) (s : Str) (hs : Hs) : runN tT (d + 1) 11 [.str s, .str s] hs = .ok (.bl true) hs := by
  rw [r__law_is]
  have : opC .eq (.str s) (.str s) = some true := by
    simp [opC, D.pl, D.eqv]
  simp [b__law_is, evS, ev, isTy, this]
theorem is_int (d : Nat) (x : Int) (hs : Hs) : runN tT (d + 1) 11 [.int x, .int x] hs = .ok (.bl true) hs := is_ok d (some x) hs
theorem is_pair (d : Nat) (s : Str) (x : Int) (hs : Hs) : runN tT (d + 2) 11 [.tup [.str s, .int x], .tup [.str s, .int x]] hs = .ok (.bl true) hs := by
  rw [r__law_is]
  have al : opBi .all [.own [.bl true, .bl true]] hs = some (.bl true) := rfl
  simp [b__law_is, evS, ev, isTy, zipD, lcF, asgT, wipeT, is_str, is_int, al]
theorem com_ok (a b : Int) (a1 : 1 ≤ a) (a2 : a ≤ 6) (b1 : 1 ≤ b) (b2 : b ≤ 6) : ∃ c, ∀ (d : Nat) (hs : Hs), runN tT (d + 1) 3 [.int a, .int b] hs = .ok (.int c) hs ∧ runN tT (d + 1) 12 [.int a, .int b] hs = .ok (.int c) hs := by
  have ha : a = 1 ∨ a = 2 ∨ a = 3 ∨ a = 4 ∨ a = 5 ∨ a = 6 := by omega
  have hb : b = 1 ∨ b = 2 ∨ b = 3 ∨ b = 4 ∨ b = 5 ∨ b = 6 := by omega
  rcases ha with rfl | rfl | rfl | rfl | rfl | rfl <;> rcases hb with rfl | rfl | rfl | rfl | rfl | rfl <;> exact ⟨_, fun _ _ => ⟨rfl, rfl⟩⟩
/-- the rounds come again -/
theorem met_mod (one other : List Int) (h : Int) : Met one other (h % (one.length * other.length)) = Met one other h := by
  unfold Met at1
  rw [Int.emod_emod_of_dvd h (Int.dvd_mul_right ..), Int.emod_emod_of_dvd h (Int.dvd_mul_left ..)]
theorem fst_ever (one other : List Int) (a1 : 0 < one.length) (a2 : one.length ≤ 6) (b1 : 0 < other.length) (b2 : other.length ≤ 6) : fstI (Met one other) ((one.length : Int) * other.length + 1) = fstI (Met one other) 101 := by
  have p1 : (0 : Int) < (one.length : Int) * other.length := Int.mul_pos (by omega) (by omega)
  have p2 : (one.length : Int) * other.length ≤ 6 * 6 := Int.mul_le_mul (by omega) (by omega) (by omega) (by omega)
  rcases fstI_is (Met one other) 101 with ⟨e, h⟩ | ⟨x, e, h1, h2, h3, h4⟩
  · rw [e]
    exact fstI_none fun i i1 i2 => h i i1 (by omega)
  · rw [e]
    refine fstI_some h1 ?_ h3 h4
    have q1 := Int.emod_nonneg x (show (one.length : Int) * other.length ≠ 0 by omega)
    have q2 := Int.emod_lt_of_pos x p1
    by_cases hx : x < (one.length : Int) * other.length + 1
    · exact hx
    · have := h4 (x % ((one.length : Int) * other.length)) q1 (by omega)
      rw [met_mod, h3] at this
      cases this
theorem fst_cut (P : Int → Bool) (m : Int) (m1 : m ≤ 100) : fstI P (m + 1) = match fstI P 101 with
    | some x => if x ≤ m then some x else none
    | none => none := by
  rcases fstI_is P 101 with ⟨e, h⟩ | ⟨x, e, h1, h2, h3, h4⟩
  · rw [e]
    exact fstI_none fun i i1 i2 => h i i1 (by omega)
  · rw [e]
    show _ = if x ≤ m then some x else none
    by_cases hx : x ≤ m
    · rw [if_pos hx]; exact fstI_some h1 (by omega) h3 h4
    · rw [if_neg hx]; exact fstI_none fun i i1 i2 => h4 i i1 (by omega)
theorem rounds_ok (d : Nat) (n m : Int) (one other : List Int) (hs : Hs) (h1 : 2 ≤ n) (h2 : n ≤ 7) (r1 : RowOk n one) (r2 : RowOk n other) (m0 : 0 ≤ m) (m1 : m ≤ 100) :
    runN tT (d + 4) 6 [.int n, .tup (one.map D.int), .tup (other.map D.int), .int m] hs = .ok (optI (fstI (Met one other) (m + 1))) hs := by
  have e1 := check_ok d n one other hs h1 h2 r1 r2
  have e2 := s1 (d + 1) m 0 100 hs m0 m1
  have e3 := raw_ok (d + 2) one other m hs (by have := r1.1; omega) (by have := r2.1; omega) m0 (by omega)
  rw [r_met_by_rounds]
  simp [b_met_by_rounds, evS, ev, e1, e2, e3]
def everD (c : Int) : Option Int → D
  | some x => .tup [.str "hour", .int x]
  | none => .tup [.str "never", .int c]
theorem ever_cal {cal : Nat → List D → Hs → R} {n c : Int} {one other : List Int} {hs : Hs} {o : Option Int} (sm : small64 (one.length : Int) = true) (e1 : cal 4 [.int n, .tup (one.map D.int), .tup (other.map D.int)] hs = .ok .non hs)
    (e3 : cal 5 [.tup (one.map D.int), .tup (other.map D.int), .int ((one.length : Int) * other.length)] hs = .ok (optI o) hs) (hc : cal 3 [.int one.length, .int other.length] hs = .ok (.int c) hs) :
    fin (evS tT cal b_meet_ever [some (.int n), some (.tup (one.map D.int)), some (.tup (other.map D.int)), none] hs) = .ok (everD c o) hs := by
  cases o with
  | none => simp [b_meet_ever, e1, e3, sm, hc, optI, everD]
  | some x => simp [b_meet_ever, e1, e3, sm, optI, everD]
theorem ever_ok (d : Nat) (n : Int) (one other : List Int) (hs : Hs) (h1 : 2 ≤ n) (h2 : n ≤ 7) (r1 : RowOk n one) (r2 : RowOk n other) {c : Int} (hc : runN tT (d + 3) 3 [.int one.length, .int other.length] hs = .ok (.int c) hs) :
    runN tT (d + 4) 7 [.int n, .tup (one.map D.int), .tup (other.map D.int)] hs = .ok (everD c (fstI (Met one other) 101)) hs := by
  have e1 := check_ok d n one other hs h1 h2 r1 r2
  obtain ⟨a1, a2, _⟩ := r1
  obtain ⟨b1, b2, _⟩ := r2
  have p1 : (0 : Int) < (one.length : Int) * other.length := Int.mul_pos (by omega) (by omega)
  have p2 : (one.length : Int) * other.length ≤ 6 * 6 := Int.mul_le_mul (by omega) (by omega) (by omega) (by omega)
  have e3 := raw_ok (d + 2) one other ((one.length : Int) * other.length) hs (by omega) (by omega) (by omega) (by omega)
  rw [fst_ever one other (by omega) a2 (by omega) b2] at e3
  rw [r_meet_ever]
  exact ever_cal (decide_eq_true (by omega)) e1 e3 hc
theorem is_ever (d : Nat) (c : Int) (o : Option Int) (hs : Hs) : runN tT (d + 2) 11 [everD c o, everD c o] hs = .ok (.bl true) hs := by
  cases o with
  | none => exact is_pair d "never" c hs
  | some x => exact is_pair d "hour" x hs
theorem row_ok {n : Int} {hd : List D} (k : Nat) (hk : 1 ≤ k) (hk2 : k ≤ 6) (ho : HandOk hd) (n0 : 0 < n) (n1 : n < 100) (e0 : En) (h10 : e0[1]? = some (some (.loc 0))) (h3 : e0[3]? = some (some (.int n))) (hl : e0.length = 11) :
    ∃ xs hd', lcF (turnLc tT (runN tT 41) (.v 10) (.c (.bl true)) (E.call 9 (E.cons (E.v 1) (E.cons (E.v 3) E.nil))) e0) (rng 0 k) [hd] [] = .ok (.own (xs.map D.int)) [hd'] ∧ RowOk n xs ∧ HandOk hd' := by
  obtain ⟨zs, hd', e, q1, q2, q3⟩ := lcF_draws (fun z => 0 ≤ z ∧ z < n) (turn := turnLc tT (runN tT 41) (.v 10) (.c (.bl true)) (E.call 9 (E.cons (E.v 1) (E.cons (E.v 3) E.nil))) e0) (xs := rng 0 k) (hd := hd) (fun x hd ho => by
    obtain ⟨z, hd', e, p1, p2, p3⟩ := draw_ok 40 (n := 0) (hs := [hd]) (m := n) rfl ho n0 (by omega)
    have w1 : ((wipeT (.v 10) e0).set 10 (some x))[1]? = some (some (.loc 0)) := by simp [wipeT, h10]
    have w3 : ((wipeT (.v 10) e0).set 10 (some x))[3]? = some (some (.int n)) := by simp [wipeT, h3]
    refine ⟨z, hd', ?_, ⟨p1, p2⟩, p3⟩
    have e' : runN tT 41 9 [.loc 0, .int n] [hd] = .ok (.int z) [hd'] := by simpa using e
    simp [turnLc, asgT, elTurn, w1, w3, e']) ho
  rw [rng_len] at q1
  exact ⟨zs, hd', e, ⟨by omega, by omega, q2⟩, q3⟩
def turnS : S := match b_law with
  | .seq _ (.seq (.for _ _ b) _) => b
  | _ => .skip
theorem turn_cal {cal : Nat → List D → Hs → R} {hd hd1 hd2 hd3 hd4 hd5 hd6 hd7 : List D} {x1 x2 x3 m hours c : Int} {one other : List Int} {s x : D} {a2 a3 a4 a5 a6 a7 a8 a9 a10 : Option D}
    (c1 : cal 9 [.loc 0, .int 6] [hd] = .ok (.int x1) [hd1]) (c2 : cal 9 [.loc 0, .int 6] [hd1] = .ok (.int x2) [hd2]) (b2 : opBi .range [.int (1 + x2)] [hd2] = some (.lst (rng 0 (1 + x2))))
    (c3 : lcF (turnLc tT cal (.v 10) (.c (.bl true)) (E.call 9 (E.cons (E.v 1) (E.cons (E.v 3) E.nil))) [some s, some (.loc 0), some x, some (.int (2 + x1)), a4, a5, a6, a7, a8, a9, a10]) (rng 0 (1 + x2)) [hd2] [] = .ok (.own (one.map D.int)) [hd3])
    (c4 : cal 9 [.loc 0, .int 6] [hd3] = .ok (.int x3) [hd4]) (b4 : opBi .range [.int (1 + x3)] [hd4] = some (.lst (rng 0 (1 + x3))))
    (c5 : lcF (turnLc tT cal (.v 10) (.c (.bl true)) (E.call 9 (E.cons (E.v 1) (E.cons (E.v 3) E.nil))) [some s, some (.loc 0), some x, some (.int (2 + x1)), some (.tup (one.map D.int)), a5, a6, a7, a8, a9, a10]) (rng 0 (1 + x3)) [hd4] [] = .ok (.own (other.map D.int)) [hd5])
    (c6 : cal 10 [.loc 0, .lst [.int 4, .int 101]] [hd5] = .ok (.int m) [hd6]) (c7 : cal 9 [.loc 0, .int m] [hd6] = .ok (.int hours) [hd7])
    (o1 : 0 < one.length) (o2 : 0 < other.length)
    (c8 : cal 6 [.int (2 + x1), .tup (one.map D.int), .tup (other.map D.int), .int hours] [hd7] = .ok (optI (match fstI (Met one other) 101 with
      | some x => if x ≤ hours then some x else none
      | none => none)) [hd7])
    (c9 : ∀ o, cal 11 [optI o, optI o] [hd7] = .ok (.bl true) [hd7]) (c10 : cal 7 [.int (2 + x1), .tup (one.map D.int), .tup (other.map D.int)] [hd7] = .ok (everD c (fstI (Met one other) 101)) [hd7])
    (c11 : cal 12 [.int one.length, .int other.length] [hd7] = .ok (.int c) [hd7]) (c12 : ∀ o, cal 11 [everD c o, everD c o] [hd7] = .ok (.bl true) [hd7]) :
    ∃ e', (match asgT (.v 2) x [some s, some (.loc 0), a2, a3, a4, a5, a6, a7, a8, a9, a10] with
      | some e => evS tT cal turnS e [hd]
      | none => .err) = .next e' [hd7] ∧ ∃ b2 b3 b4 b5 b6 b7 b8 b9 b10, e' = [some s, some (.loc 0), b2, b3, b4, b5, b6, b7, b8, b9, b10] := by
  have a1' : (0 : Int) < one.length := by omega
  have b1' : (0 : Int) < other.length := by omega
  have ma : ∀ i : Int, opB .mod (.int i) (.int one.length) = some (.int (i % one.length)) := fun i => b_mod a1'
  have mb : ∀ i : Int, opB .mod (.int i) (.int other.length) = some (.int (i % other.length)) := fun i => b_mod b1'
  have hr : opBi .range [.int 101] [hd7] = some (.lst (rng 0 101)) := rfl
  have hF : ∀ y, lcF (turnLc tT cal (.v 9) (E.cmp .eq (E.idx (E.v 4) (E.bin .mod (E.bi .int (E.cons (E.v 9) E.nil)) (E.bi .len (E.cons (E.v 4) E.nil)))) (E.idx (E.v 5) (E.bin .mod (E.bi .int (E.cons (E.v 9) E.nil)) (E.bi .len (E.cons (E.v 5) E.nil))))) (E.v 9) [some s, some (.loc 0), some x, some (.int (2 + x1)), some (.tup (one.map D.int)), some (.tup (other.map D.int)), some (.int hours), y, a8, a9, a10]) (rng 0 101) [hd7] [] = .ok (.own ((intsR 0 101).filter (Met one other) |>.map D.int)) [hd7] := fun y => by
    rw [rng_ints, lcF_filter (Met one other) fun i hi => by
      have e1 := ix_row one i o1
      have e2 := ix_row other i o2
      cases hm : Met one other i with
      | true =>
        have : at1 one i = at1 other i := eq_of_beq hm
        simp [turnLc, elTurn, asgT, wipeT, ma, mb, e1, e2, this]
      | false =>
        have : (at1 one i == at1 other i) = false := hm
        simp [turnLc, elTurn, asgT, wipeT, ma, mb, e1, e2, this]]
    rfl
  simp only [asgT]
  have hf : fstI (Met one other) 101 = ((intsR 0 101).filter (Met one other)).head? := rfl
  cases hl : (intsR 0 101).filter (Met one other) with
  | nil =>
    rw [hl] at hF hf
    rw [hf] at c8 c10
    have c9' := c9 none
    have c12' := c12 none
    simp only [List.head?_nil, optI, everD] at c8 c9' c10 c12'
    simp [turnS, b_law, -evf_lc, ev_lc, c1, c2, b2, c3, c4, b4, c5, c6, c7, hr, hF, c8, c9', c10, c11, c12']
  | cons y ys =>
    rw [hl] at hF hf
    rw [hf] at c8 c10
    have c12' := c12 (some y)
    by_cases hy : y ≤ hours
    · have hy' : ¬ hours < y := by omega
      have c9' := c9 (some y)
      simp only [List.head?_cons, optI, everD, if_pos hy] at c8 c9' c10 c12'
      have e0 : (0 : Int) < (ys.length : Int) + 1 := by omega
      simp [turnS, b_law, -evf_lc, ev_lc, c1, c2, b2, c3, c4, b4, c5, c6, c7, hr, hF, c8, c9', c10, c11, c12', hy', e0]
    · have hy' : hours < y := by omega
      have c9' := c9 none
      simp only [List.head?_cons, optI, everD, if_neg hy] at c8 c9' c10 c12'
      have e0 : (0 : Int) < (ys.length : Int) + 1 := by omega
      simp [turnS, b_law, -evf_lc, ev_lc, c1, c2, b2, c3, c4, b4, c5, c6, c7, hr, hF, c8, c9', c10, c11, c12', hy', e0]
theorem rng_of {k : Nat} {hs : Hs} (hk : k ≤ 1000) : opBi .range [.int k] hs = some (.lst (rng 0 k)) := by
  show (if _ then _ else _) = _
  rw [if_pos (by simp; omega)]
theorem plain : PlainLaw tT 42 13 := by
  intro ns hl
  rw [r_law]
  obtain ⟨hd, eh, ho⟩ := hand_ok 40 ns []
  have hr : opBi .range [.int 9] [hd] = some (.lst (rng 0 9)) := rfl
  have hb : b_law = .seq (.setl 1 (E.call 8 (E.cons (E.v 0) E.nil))) (.seq (.for (E.v 2) (E.bi .range (E.cons (E.c (D.int (9))) E.nil)) turnS) (.ret (E.c (D.bl true)))) := rfl
  rw [hb]
  simp [eh, hr]
  generalize hF : forF _ _ _ _ = r
  obtain ⟨e', h', rfl, _⟩ : ∃ e' h', r = .next e' h' ∧ ∃ hd b2 b3 b4 b5 b6 b7 b8 b9 b10, h' = [hd] ∧ HandOk hd ∧ e' = [some (.lst (ns.map D.int)), some (.loc 0), b2, b3, b4, b5, b6, b7, b8, b9, b10] := by
    rw [← hF]
    refine forF_inv (fun e h => ∃ hd b2 b3 b4 b5 b6 b7 b8 b9 b10, h = [hd] ∧ HandOk hd ∧ e = [some (.lst (ns.map D.int)), some (.loc 0), b2, b3, b4, b5, b6, b7, b8, b9, b10]) (fun x hx e h hq => ?_) ⟨hd, none, none, none, none, none, none, none, none, none, rfl, ho, rfl⟩
    obtain ⟨hd, a2, a3, a4, a5, a6, a7, a8, a9, a10, rfl, ho, rfl⟩ := hq
    obtain ⟨x1, d1, e1, p1, q1, ho1⟩ := draw_ok 40 (n := 0) (hs := [hd]) (m := 6) rfl ho (by decide) (by decide)
    obtain ⟨x2, d2, e2, p2, q2, ho2⟩ := draw_ok 40 (n := 0) (hs := [d1]) (m := 6) rfl ho1 (by decide) (by decide)
    obtain ⟨k2, hk2⟩ : ∃ k : Nat, 1 + x2 = k := ⟨(1 + x2).toNat, by omega⟩
    obtain ⟨one, d3, e3, r1, ho3⟩ := row_ok (n := 2 + x1) k2 (by omega) (by omega) ho2 (by omega) (by omega) [some (.lst (ns.map D.int)), some (.loc 0), some x, some (.int (2 + x1)), a4, a5, a6, a7, a8, a9, a10] rfl rfl rfl
    obtain ⟨x3, d4, e4, p4, q4, ho4⟩ := draw_ok 40 (n := 0) (hs := [d3]) (m := 6) rfl ho3 (by decide) (by decide)
    obtain ⟨k3, hk3⟩ : ∃ k : Nat, 1 + x3 = k := ⟨(1 + x3).toNat, by omega⟩
    obtain ⟨other, d5, e5, r2, ho5⟩ := row_ok (n := 2 + x1) k3 (by omega) (by omega) ho4 (by omega) (by omega) [some (.lst (ns.map D.int)), some (.loc 0), some x, some (.int (2 + x1)), some (.tup (one.map D.int)), a5, a6, a7, a8, a9, a10] rfl rfl rfl
    obtain ⟨z, d6, hz, e6, ho6⟩ := some_ok 39 (n := 0) (hs := [d5]) (xs := [.int 4, .int 101]) rfl ho5 (by simp) (by decide)
    obtain ⟨m, rfl, m1, m2⟩ : ∃ m : Int, z = .int m ∧ 0 < m ∧ m ≤ 101 := by
      simp at hz
      rcases hz with rfl | rfl
      · exact ⟨4, rfl, by decide, by decide⟩
      · exact ⟨101, rfl, by decide, by decide⟩
    obtain ⟨hours, d7, e7, p7, q7, ho7⟩ := draw_ok 40 (n := 0) (hs := [d6]) (m := m) rfl ho6 m1 (by omega)
    simp only [List.set_cons_zero] at e1 e2 e4 e6 e7
    obtain ⟨c, hc⟩ := com_ok one.length other.length (by have := r1.1; omega) (by have := r1.2.1; omega) (by have := r2.1; omega) (by have := r2.2.1; omega)
    have f1 := rounds_ok 37 (2 + x1) hours one other [d7] (by omega) (by omega) r1 r2 p7 (by omega)
    rw [fst_cut _ hours (by omega)] at f1
    have f2 := ever_ok 37 (2 + x1) one other [d7] (by omega) (by omega) r1 r2 (c := c) (hc 39 [d7]).1
    obtain ⟨e', he, b2, b3, b4, b5, b6, b7, b8, b9, b10, rfl⟩ := turn_cal (cal := runN tT 41) (x := x) (s := .lst (ns.map D.int)) (a2 := a2) (a3 := a3) (a4 := a4) (a5 := a5) (a6 := a6) (a7 := a7) (a8 := a8) (a9 := a9) (a10 := a10) e1 e2 (by rw [hk2]; exact rng_of (by omega)) (by rw [hk2]; exact e3) e4 (by rw [hk3]; exact rng_of (by omega)) (by rw [hk3]; exact e5) e6 e7 (by have := r1.1; omega) (by have := r2.1; omega) f1 (fun o => is_ok 40 o _) f2 (hc 40 [d7]).2 (fun o => is_ever 39 c o _)
    exact ⟨_, _, he, d7, b2, b3, b4, b5, b6, b7, b8, b9, b10, rfl, ho7, rfl⟩
  simp
end Zk83
open PySem PySem.W PyProof.Rows
set_option maxRecDepth 100000 in
set_option maxHeartbeats 0 in
theorem PySem.Challenge.cw_siegeworks_k83_whole_rounds_that_meet_holds : PySem.Challenge.rw_siegeworks_k83_whole_rounds_that_meet.Holds := by
  w_on; o_law; k_head; (case hw => w_witness2)
  k_fill
  refine L2.walk_of (l := PySem.Challenge.rw_siegeworks_k83_whole_rounds_that_meet) (n := 63) (k := 42) (x := "script") (CX := fun w => L2.CX PySem.Challenge.rw_siegeworks_k83_whole_rounds_that_meet.prog w) (sp := fun w => Z.spLaw _) rfl (by decide) rfl ⟨rfl, by decide, by decide⟩ (fun w h Y => PySem.W.kIn_of Y) ?F (fun _ _ a ns hl hO hS => ⟨a, ns, rfl, hl, hO, hS, fun _ => rfl⟩) (fun _ _ _ _ _ ⟨_, _, _, _, _, _, _, _, _, _, _, _, h⟩ => h)
  case F =>
    intro w mg fa h KX G hmg
    refine' Zk83.all_mk Zk83.plain KX G hmg rfl rfl rfl ?a0 ?l0 ?c0 ?k0 ?a1 ?l1 ?c1 ?k1 ?a2 ?l2 ?c2 ?k2 ?a3 ?l3 ?c3 ?k3 ?a4 ?l4 ?c4 ?k4 ?a5 ?l5 ?c5 ?k5 ?a6 ?l6 ?c6 ?k6 ?a7 ?l7 ?c7 ?k7 ?a8 ?l8 ?c8 ?k8 ?a9 ?l9 ?c9 ?k9 ?a10 ?l10 ?c10 ?k10 ?a11 ?l11 ?c11 ?k11 ?a12 ?l12 ?c12 ?k12 ?a13 ?l13 ?c13 ?k13
    (case a0 => k_is); (case l0 => k_is); (case c0 => k_is); (case k0 => k_is)
    (case a1 => k_is); (case l1 => k_is); (case c1 => k_is); (case k1 => k_is)
    (case a2 => k_is); (case l2 => k_is); (case c2 => k_is); (case k2 => k_is)
    (case a3 => k_is); (case l3 => k_is); (case c3 => k_is); (case k3 => k_is)
    (case a4 => k_is); (case l4 => k_is); (case c4 => k_is); (case k4 => k_is)
    (case a5 => k_is); (case l5 => k_is); (case c5 => k_is); (case k5 => k_is)
    (case a6 => k_is); (case l6 => k_is); (case c6 => k_is); (case k6 => k_is)
    (case a7 => k_is); (case l7 => k_is); (case c7 => k_is); (case k7 => k_is)
    (case a8 => k_is); (case l8 => k_is); (case c8 => k_is); (case k8 => k_is)
    (case a9 => k_is); (case l9 => k_is); (case c9 => k_is); (case k9 => k_is)
    (case a10 => k_is); (case l10 => k_is); (case c10 => k_is); (case k10 => k_is)
    (case a11 => k_is); (case l11 => k_is); (case c11 => k_is); (case k11 => k_is)
    (case a12 => k_is); (case l12 => k_is); (case c12 => k_is); (case k12 => k_is)
    (case a13 => k_is); (case l13 => k_is); (case c13 => k_is); (case k13 => k_is)

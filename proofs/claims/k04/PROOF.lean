import PyProof.Rows.All
import HandS.ForMost
import HandS.ForExc
import HandS.Walk
import HandS.Deep
import HandS.IsInst
import HandS.Style
import HandS.Conv
import HandS.SetFor
import HandS.ExcIs
import HandS.SetKeys
import PyProof.P3Statements
import PyProof.EqLayable
import KE.SortData
import HandS.ExcValue
import HandS.ExcBuiltin
import PyProof.ListStr
import KE.DataMinMax
import HandS.Head0
import HandS.Head1
import HandS.Head2
import HandS.HeadEnd
import HandS.HeadHook1
import HandS.HeadHook2
import HandS.Defaults
import PySem.Challenge.RW_toplists_k04_whole_fair
section
set_option Elab.async false
set_option linter.all false
namespace Tl
/-- each thing once, in the order of its first coming -/
def dd {α : Type} [BEq α] (l : List α) : List α := l.foldl (fun s k => if s.any (· == k) then s else s ++ [k]) []
end Tl
end
section
set_option Elab.async false
set_option linter.all false
namespace Tl
open PySem (PyData Str)
abbrev D := PyData
/-- the drawing state: the numbers, the counter -/
abbrev G := Option (List Int × Int)
inductive Cell where
  | und | val (d : D) | own (ds : List D) | drw | exn (c : Nat) | scr (ns : List Int)
abbrev Env := List Cell
inductive R (α : Type) where
  | ok (a : α) (g : G) | exc (c : Nat) (g : G) | bad
def R.bind {α β : Type} : R α → (α → G → R β) → R β
  | .ok a g, f => f a g
  | .exc c g, _ => .exc c g
  | .bad, _ => .bad
inductive O where
  | nx (r : Env) (g : G) | rt (d : D) (g : G) | bk (r : Env) (g : G) | ct (r : Env) (g : G) | ex (c : Nat) (r : Env) (g : G) | bad
/-- from an expression's end -/
def R.st {α : Type} (r : Env) : R α → (α → G → O) → O
  | .ok a g, f => f a g
  | .exc c g, _ => .ex c r g
  | .bad, _ => .bad
def O.andThen : O → (Env → G → O) → O
  | .nx r g, f => f r g
  | o, _ => o
abbrev Fn := List Cell → G → R D
inductive Un where
  | neg | notv | len | lenset | sum | min1 | max1 | sorted | all | any | abs | list | tuple | str | int | rev | lrange | lstr | sortedset | minS
  deriving DecidableEq
inductive Bi where
  | add | sub | mul | fdiv | mod | eq | ne | lt | le | gt | ge | isin | notin | instr | notinstr | min2 | max2 | idx | upto | from_ | index | count | join | split
  deriving DecidableEq
inductive Ty where
  | int | bool | list | str
  deriving DecidableEq
inductive Tg where
  | nm (i : Nat) | two (i j : Nat) | three (i j k : Nat)
  deriving DecidableEq
inductive E where
  | var (i : Nat)
  | con (d : D)
  | glo (n : Nat) (d : D)
  | un (o : Un) (a : E)
  | bi (o : Bi) (a b : E)
  | le2 (a b c : E)
  | le3 (a b c d : E)
  | isc (a : E) (d : D)
  | isnc (a : E) (d : D)
  | and (a b : E)
  | or (a b : E)
  | ite (c a b : E)
  | lst (as : E)
  | tup (as : E)
  | nil
  | cons (a as : E)
  | call (f : Nat) (as : E)
  | isi (a : E) (t : Ty)
  | isx (i : Nat) (c : Nat)
  | lc (t : Tg) (it c e : E)
  | itl (a : E)
  | itt (a : E)
  | its (a : E)
  | rng1 (a : E)
  | rng2 (a b : E)
  | enum (a : E)
  | zip (a b : E)
  | bor (e : E)
/-- the most items -/
def lim : Nat := 1000000
/-! ### operations on data -/
def dInts (l : List Int) : D := .list (l.map .int)
def toInts : List D → Option (List Int)
  | [] => some []
  | .int i :: r => (toInts r).map (i :: ·)
  | _ :: _ => none
def toStrs : List D → Option (List Str)
  | [] => some []
  | .str i :: r => (toStrs r).map (i :: ·)
  | _ :: _ => none
def toBls : List D → Option (List Bool)
  | [] => some []
  | .bool i :: r => (toBls r).map (i :: ·)
  | _ :: _ => none
def chars (z : Str) : List D := z.cps.toList.map fun c => .str ⟨#[c]⟩
def rangeD (a : Int) (n : Nat) : List D := (List.range n).map fun i => .int (a + (i : Nat))
/-- a slice's place -/
def sIx (n d : Nat) : Option Int → Nat
  | none => d
  | some v => if v < 0 then (v + (n : Int)).toNat else min v.toNat n
def cut {α : Type} (xs : List α) (lo hi : Option Int) : List α := (xs.drop (sIx xs.length 0 lo)).take (sIx xs.length xs.length hi - sIx xs.length 0 lo)
def ixN (n : Nat) (i : Int) : Option Nat := if 0 ≤ i then (if i < n then some i.toNat else none) else if -(n : Int) ≤ i then some (i + n).toNat else none
def atI {α : Type} (xs : List α) (i : Int) : Option α := (ixN xs.length i).bind fun j => xs[j]?
def shp (d : D) : Bool := decide (d.depth ≤ 60)
def smallI (i : Int) : Bool := decide (-(2 ^ 62) ≤ i) && decide (i < 2 ^ 62)
/-- may be sorted: alike, of one kind that has an order -/
def sortOk (ds : List D) : Bool := (ds.all fun a => ds.all fun b => PySem.W.alike a b) && ((ds.all fun d => match d with | .tuple (_ :: _) => true | _ => false) || (ds.all fun d => match d with | .none => false | .tuple _ => false | _ => true)) && ds.all shp
def sortD (ds : List D) : List D := ds.mergeSort (PySem.W.dataLe false id)
def minI : List Int → Option Int
  | [] => none
  | x :: r => some (r.foldl min x)
def maxI : List Int → Option Int
  | [] => none
  | x :: r => some (r.foldl max x)
def minSt : List Str → Option Str
  | [] => none
  | x :: r => some (r.foldl (fun a y => if PySem.W.dataLt (.str y) (.str a) then y else a) x)
def uop : Un → D → Option D
  | .neg, .int i => some (.int (-i))
  | .notv, .bool b => some (.bool !b)
  | .len, .list ds => some (.int ds.length)
  | .len, .tuple ds => some (.int ds.length)
  | .len, .str z => some (.int z.length)
  | .lenset, .list ds => match toInts ds with
    | some ns => if ns.length ≤ 1000 then some (.int (dd ns).length) else none
    | none => match toStrs ds with
      | some ss => if ss.length ≤ 1000 then some (.int (dd ss).length) else none
      | none => none
  | .sum, .list ds => (toInts ds).map fun ns => .int ns.sum
  | .min1, .list ds => (toInts ds).bind fun ns => (minI ns).map .int
  | .minS, .list ds => (toStrs ds).bind fun ss => (minSt ss).map .str
  | .max1, .list ds => (toInts ds).bind fun ns => (maxI ns).map .int
  | .sorted, .list ds => if sortOk ds then some (.list (sortD ds)) else none
  | .all, .list ds => (toBls ds).map fun bs => .bool (bs.all id)
  | .any, .list ds => (toBls ds).map fun bs => .bool (bs.any id)
  | .abs, .int i => some (.int (if i < 0 then -i else i))
  | .list, .list ds => some (.list ds)
  | .list, .tuple ds => some (.list ds)
  | .lstr, .str z => some (.list (chars z))
  | .tuple, .list ds => some (.tuple ds)
  | .rev, .list ds => some (.list ds.reverse)
  | .lrange, .int n => if 0 ≤ n ∧ n ≤ 1000 then some (.list (rangeD 0 n.toNat)) else none
  | _, _ => none
def eqD (a b : D) : Option Bool := if shp a && shp b then some (PyData.eqv a b) else none
def inD (a : D) (ds : List D) : Option Bool := if shp a && shp (.list ds) then some (ds.any fun z => PyData.eqv z a) else none
/-- the first place -/
def indexD (ds : List D) (a : D) : Option Nat := if shp a && shp (.list ds) then ds.findIdx? (fun z => PyData.eqv z a) else none
def mulOk (i j : Int) : Bool := (decide (-(2 ^ 64) < i) && decide (i < 2 ^ 64)) || (decide (-(2 ^ 64) < j) && decide (j < 2 ^ 64))
def bop : Bi → D → D → Option D
  | .add, .int i, .int j => some (.int (i + j))
  | .add, .str x, .str y => if x.length + y.length ≤ lim then some (.str (x ++ y)) else none
  | .add, .list xs, .list ys => if xs.length + ys.length ≤ lim then some (.list (xs ++ ys)) else none
  | .sub, .int i, .int j => some (.int (i - j))
  | .mul, .int i, .int j => if mulOk i j then some (.int (i * j)) else none
  | .mul, .list xs, .int j => if 0 ≤ j ∧ j ≤ 1000 ∧ xs.length * j.toNat ≤ lim then some (.list (List.replicate j.toNat xs).flatten) else none
  | .fdiv, .int i, .int j => if 0 < j ∧ j < 1073741824 then some (.int (i / j)) else none
  | .mod, .int i, .int j => if 0 < j then some (.int (i % j)) else none
  | .eq, a, b => (eqD a b).map .bool
  | .ne, a, b => (eqD a b).map fun k => .bool !k
  | .lt, .int i, .int j => some (.bool (decide (i < j)))
  | .le, .int i, .int j => some (.bool (decide (i ≤ j)))
  | .gt, .int i, .int j => some (.bool (decide (j < i)))
  | .ge, .int i, .int j => some (.bool (decide (j ≤ i)))
  | .isin, a, .list ds => (inD a ds).map .bool
  | .notin, a, .list ds => (inD a ds).map fun k => .bool !k
  | .instr, .str x, .str y => if x.length = 1 then some (.bool (y.cps.toList.any fun c => decide (x.cps.toList = [c]))) else none
  | .min2, .int i, .int j => some (.int (if j < i then j else i))
  | .max2, .int i, .int j => some (.int (if j > i then j else i))
  | .idx, .list ds, .int i => atI ds i
  | .idx, .tuple ds, .int i => atI ds i
  | .idx, .str z, .int i => (atI z.cps.toList i).map fun c => .str ⟨#[c]⟩
  | .upto, .list ds, .int i => some (.list (cut ds none (some i)))
  | .upto, .str z, .int i => some (.str ⟨(cut z.cps.toList none (some i)).toArray⟩)
  | .from_, .list ds, .int i => some (.list (cut ds (some i) none))
  | .from_, .str z, .int i => some (.str ⟨(cut z.cps.toList (some i) none).toArray⟩)
  | .index, .list ds, a => (indexD ds a).map fun j => .int (j : Nat)
  | .count, .list ds, a => if shp a && shp (.list ds) then some (.int (ds.countP fun z => PyData.eqv z a : Nat)) else none
  | _, _, _ => none
/-- a method's object is of its kind -/
def preB : Bi → D → Bool
  | .index, .list _ => true
  | .index, _ => false
  | .count, .list _ => true
  | .count, _ => false
  | .join, .str _ => true
  | .join, _ => false
  | .split, .str _ => true
  | .split, _ => false
  | _, _ => true
def isTy : Ty → D → Bool
  | .int, .int _ => true
  | .int, .bool _ => true
  | .bool, .bool _ => true
  | .list, .list _ => true
  | .str, .str _ => true
  | _, _ => false
/-- x is c, for None, True, False -/
def isD (d c : D) : Option Bool := match c, d with
  | .none, .none => some true
  | .none, _ => some false
  | .bool a, .bool b => some (decide (b = a))
  | _, _ => none
def bl? : D → Option Bool
  | .bool b => some b
  | _ => none
/-- an owned list is read -/
def own? : E → Env → Option D
  | .var i, r => match r[i]? with
    | some (.own ds) => some (.list ds)
    | _ => none
  | _, _ => none
def cell? : E → Env → Option Cell
  | .var i, r => match r[i]? with
    | some .drw => some .drw
    | some (.exn c) => some (.exn c)
    | _ => none
  | _, _ => none
def vals? : List Cell → Option (List D)
  | [] => some []
  | .val d :: r => (vals? r).map (d :: ·)
  | _ :: _ => none
def setT : Tg → D → Env → Option Env
  | .nm i, d, r => some (r.set i (.val d))
  | .two i j, .tuple [a, b], r => some ((r.set i (.val a)).set j (.val b))
  | .three i j k, .tuple [a, b, c], r => some (((r.set i (.val a)).set j (.val b)).set k (.val c))
  | _, _, _ => none
def R.of {α : Type} (g : G) : Option α → R α
  | some a => .ok a g
  | none => .bad
/-- a comprehension -/
def lcL (c : D → G → R Bool) (e : D → G → R D) : List D → G → R (List D)
  | [], g => .ok [] g
  | x :: xs, g => match c x g with
    | .ok true g1 => (match e x g1 with
      | .ok y g2 => (match lcL c e xs g2 with
        | .ok ys g3 => .ok (y :: ys) g3
        | _ => .bad)
      | _ => .bad)
    | .ok false g1 => lcL c e xs g1
    | _ => .bad
/-- all that one owns, as data -/
def frz1 : Cell → Cell
  | .own ds => .val (.list ds)
  | c => c
def flatD : D → Bool
  | .none => true
  | .bool _ => true
  | .int _ => true
  | .str _ => true
  | _ => false
def isSub (c d : Nat) : Bool := d != 8 && (c == d || d == 6 || d == 7)
mutual
def evE (F : Nat → Fn) : E → Env → G → R D
  | .var i, r, g => match r[i]? with
    | some (.val d) => .ok d g
    | _ => .bad
  | .con d, _, g => .ok d g
  | .glo _ d, _, g => .ok d g
  | .un o a, r, g => ((match own? a r with | some d => .ok d g | none => evE F a r g) : R D).bind fun d g => R.of g (uop o d)
  | .bi o a b, r, g => ((match own? a r with | some d => .ok d g | none => evE F a r g) : R D).bind fun x g => match preB o x with
    | true => ((match own? b r with | some d => .ok d g | none => evE F b r g) : R D).bind fun y g => R.of g (bop o x y)
    | false => .bad
  | .le2 a b c, r, g => (evE F a r g).bind fun x g => (evE F b r g).bind fun y g => match x, y with
    | .int i, .int j => if i ≤ j then (evE F c r g).bind fun z g => (match z with | .int k => .ok (.bool (decide (j ≤ k))) g | _ => .bad) else .ok (.bool false) g
    | _, _ => .bad
  | .le3 a b c d, r, g => (evE F a r g).bind fun x g => (evE F b r g).bind fun y g => match x, y with
    | .int i, .int j => if i ≤ j then (evE F c r g).bind fun z g => (match z with
        | .int k => if j ≤ k then (evE F d r g).bind fun u g => (match u with | .int l => .ok (.bool (decide (k ≤ l))) g | _ => .bad) else .ok (.bool false) g
        | _ => .bad) else .ok (.bool false) g
    | _, _ => .bad
  | .isc a c, r, g => (evE F a r g).bind fun x g => R.of g ((isD x c).map .bool)
  | .isnc a c, r, g => (evE F a r g).bind fun x g => R.of g ((isD x c).map fun k => .bool !k)
  | .and a b, r, g => (evE F a r g).bind fun x g => match x with
    | .bool true => evE F b r g
    | .bool false => .ok (.bool false) g
    | _ => .bad
  | .or a b, r, g => (evE F a r g).bind fun x g => match x with
    | .bool true => .ok (.bool true) g
    | .bool false => evE F b r g
    | _ => .bad
  | .ite c a b, r, g => (evE F c r g).bind fun x g => match x with
    | .bool true => evE F a r g
    | .bool false => evE F b r g
    | _ => .bad
  | .lst as, r, g => (evA F as r g).bind fun cs g => R.of g ((vals? cs).bind fun ds => if ds.length ≤ lim then some (.list ds) else none)
  | .tup as, r, g => (evA F as r g).bind fun cs g => R.of g ((vals? cs).bind fun ds => if ds.length ≤ lim then some (.tuple ds) else none)
  | .nil, _, _ => .bad
  | .cons _ _, _, _ => .bad
  | .call f as, r, g => (evA F as r g).bind fun cs g => F f cs g
  | .isi a t, r, g => (evE F a r g).bind fun x g => .ok (.bool (isTy t x)) g
  | .isx i c, r, g => match r[i]? with
    | some (.exn d) => if d < 6 then .ok (.bool (isSub d c)) g else .bad
    | some (.val .none) => if c = 8 then .ok (.bool true) g else .bad
    | _ => .bad
  | .lc t it c e, r, g => (evE F it r g).bind fun x g => match x with
    | .list xs => (match lcL (fun x g => match setT t x r with
          | some r1 => (evE F c r1 g).bind fun k g => R.of g (bl? k)
          | none => .bad) (fun x g => match setT t x r with
          | some r1 => evE F e r1 g
          | none => .bad) xs g with
        | .ok ys g => .ok (.list ys) g
        | _ => .bad)
    | _ => .bad
  | .itl a, r, g => (evE F a r g).bind fun x g => match x with
    | .list xs => .ok (.list xs) g
    | _ => .bad
  | .itt a, r, g => (evE F a r g).bind fun x g => match x with
    | .tuple xs => .ok (.list xs) g
    | _ => .bad
  | .its a, r, g => (evE F a r g).bind fun x g => match x with
    | .str z => .ok (.list (chars z)) g
    | _ => .bad
  | .rng1 a, r, g => (evE F a r g).bind fun x g => match x with
    | .int n => if n ≤ lim ∧ -(2 ^ 62) ≤ n then .ok (.list (rangeD 0 n.toNat)) g else .bad
    | _ => .bad
  | .rng2 a b, r, g => (evE F a r g).bind fun x g => (evE F b r g).bind fun y g => match x, y with
    | .int m, .int n => if n - m ≤ lim ∧ smallI m = true ∧ smallI n = true then .ok (.list (rangeD m (n - m).toNat)) g else .bad
    | _, _ => .bad
  | .enum a, r, g => (evE F a r g).bind fun x g => match x with
    | .list xs => .ok (.list (xs.zipIdx.map fun p => .tuple [.int (p.2 : Nat), p.1])) g
    | _ => .bad
  | .zip a b, r, g => (evE F a r g).bind fun x g => (evE F b r g).bind fun y g => match x, y with
    | .list xs, .list ys => .ok (.list (List.zipWith (fun x y => .tuple [x, y]) xs ys)) g
    | _, _ => .bad
  | .bor e, r, g => (evE F e (r.map frz1) g).bind fun d g => match flatD d with
    | true => .ok d g
    | false => .bad
def evA (F : Nat → Fn) : E → Env → G → R (List Cell)
  | .nil, _, g => .ok [] g
  | .cons a as, r, g => ((match cell? a r with | some c => .ok c g | none => (evE F a r g).bind fun d g => .ok (.val d) g) : R Cell).bind fun c g => (evA F as r g).bind fun cs g => .ok (c :: cs) g
  | _, _, _ => .bad
end
/-! ### statements -/
/-- l.remove(x), numbers or texts -/
def remD (ds : List D) : D → Option (List D)
  | .int k => (toInts ds).bind fun ns => (ns.findIdx? (· == k)).map fun j => ds.eraseIdx j
  | .str k => (toStrs ds).bind fun ns => (ns.findIdx? (· == k)).map fun j => ds.eraseIdx j
  | _ => none
inductive Sm where
  | nil
  | cons (s r : Sm)
  | asg (i : Nat) (e : E)
  | mk (i : Nat) (e : E)
  | frz (i : Nat)
  | par (t : Tg) (o : List Bool) (as : E)
  | unp (t : Tg) (e : E)
  | aug (i : Nat) (o : Bi) (e : E)
  | drop (e : E)
  | app (i : Nat) (e : E)
  | rem (i : Nat) (e : E)
  | seti (i : Nat) (k e : E)
  | seti2 (i : Nat) (k1 k2 a b : E)
  | augi (i : Nat) (k : E) (o : Bi) (e : E)
  | ite (c : E) (a b : Sm)
  | for_ (t : Tg) (it : E) (b : Sm)
  | whl (n : Nat) (c : E) (b : Sm)
  | ret (e : E)
  | brk | cont
  | raise (c : Nat)
  | try_ (b : Sm) (i j : Nat)
  | start (i j : Nat)
  | mk3 (i j k : Nat)
def forL (f : D → Env → G → O) : List D → Env → G → O
  | [], r, g => .nx r g
  | x :: xs, r, g => match f x r g with
    | .nx r g => forL f xs r g
    | .ct r g => forL f xs r g
    | .bk r g => .nx r g
    | o => o
def whlL (c : Env → G → R Bool) (f : Env → G → O) : Nat → Env → G → O
  | 0, _, _ => .bad
  | n + 1, r, g => match c r g with
    | .ok true g => (match f r g with
      | .nx r g => whlL c f n r g
      | .ct r g => whlL c f n r g
      | .bk r g => .nx r g
      | o => o)
    | .ok false g => .nx r g
    | .exc k g => .ex k r g
    | .bad => .bad
def evT (F : Nat → Fn) (e : E) (r : Env) (g : G) : R Bool := (evE F e r g).bind fun k g => R.of g (bl? k)
def evC (F : Nat → Fn) (a : E) (r : Env) (g : G) : R D := match own? a r with | some d => .ok d g | none => evE F a r g
def frzC : Cell → Option Cell
  | .own ds => some (.val (.list ds))
  | .val d => some (.val d)
  | _ => none
def setO : Nat → Bool → Cell → Env → Option Env
  | i, false, .val d, r => some (r.set i (.val d))
  | i, true, .val (.list ds), r => some (r.set i (.own ds))
  | _, _, _, _ => none
def setPar : Tg → List Bool → List Cell → Env → Option Env
  | .two i j, [o1, o2], [a, b], r => (setO i o1 a r).bind (setO j o2 b)
  | .three i j k, [o1, o2, o3], [a, b, c], r => ((setO i o1 a r).bind (setO j o2 b)).bind (setO k o3 c)
  | _, _, _, _ => none
def evS (F : Nat → Fn) : Sm → Env → G → O
  | .nil, r, g => .nx r g
  | .cons s t, r, g => (evS F s r g).andThen fun r g => evS F t r g
  | .asg i e, r, g => (evE F e r g).st r fun d g => .nx (r.set i (.val d)) g
  | .mk i e, r, g => (evE F e r g).st r fun d g => match d with
    | .list ds => .nx (r.set i (.own ds)) g
    | _ => .bad
  | .frz i, r, g => match (r[i]?).bind frzC with
    | some c => .nx (r.set i c) g
    | none => .bad
  | .par t o as, r, g => (evA F as r g).st r fun cs g => match setPar t o cs r with
    | some r => .nx r g
    | none => .bad
  | .unp t e, r, g => (evE F e r g).st r fun d g => match setT t d r with
    | some r => .nx r g
    | none => .bad
  | .aug i o e, r, g => match r[i]? with
    | some (.val (.int x)) => (evE F e r g).st r fun y g => match y with
      | .int y => (match bop o (.int x) (.int y) with
        | some z => .nx (r.set i (.val z)) g
        | none => .bad)
      | _ => .bad
    | _ => .bad
  | .drop e, r, g => (evE F e r g).st r fun _ g => .nx r g
  | .app i e, r, g => match r[i]? with
    | some (.own ds) => (evE F e r g).st r fun d g => if ds.length < lim then .nx (r.set i (.own (ds ++ [d]))) g else .bad
    | _ => .bad
  | .rem i e, r, g => match r[i]? with
    | some (.own ds) => (evE F e r g).st r fun d g => match remD ds d with
      | some es => .nx (r.set i (.own es)) g
      | none => .bad
    | _ => .bad
  | .seti i k e, r, g => match r[i]? with
    | some (.own ds) => (evE F e r g).st r fun d g => (evE F k r g).st r fun k g => match k with
      | .int k => (match ixN ds.length k with
        | some j => .nx (r.set i (.own (ds.set j d))) g
        | none => .bad)
      | _ => .bad
    | _ => .bad
  | .seti2 i k1 k2 a b, r, g => match r[i]? with
    | some (.own ds) => (evE F a r g).st r fun x g => (evE F b r g).st r fun y g => (evE F k1 r g).st r fun k1 g => match k1 with
      | .int k1 => (match ixN ds.length k1 with
        | some j1 => (evE F k2 (r.set i (.own (ds.set j1 x))) g).st (r.set i (.own (ds.set j1 x))) fun k2 g => match k2 with
          | .int k2 => (match ixN ds.length k2 with
            | some j2 => .nx (r.set i (.own ((ds.set j1 x).set j2 y))) g
            | none => .bad)
          | _ => .bad
        | none => .bad)
      | _ => .bad
    | _ => .bad
  | .augi i k o e, r, g => match r[i]? with
    | some (.own ds) => (evE F k r g).st r fun k g => match k with
      | .int k => (match (ixN ds.length k).bind fun j => ds[j]? with
        | some (.int x) => (evE F e r g).st r fun y g => (match y with
          | .int y => (match bop o (.int x) (.int y), ixN ds.length k with
            | some z, some j => .nx (r.set i (.own (ds.set j z))) g
            | _, _ => .bad)
          | _ => .bad)
        | _ => .bad)
      | _ => .bad
    | _ => .bad
  | .ite c a b, r, g => (evT F c r g).st r fun k g => match k with
    | true => evS F a r g
    | false => evS F b r g
  | .for_ t it b, r, g => (evE F it r g).st r fun x g => match x with
    | .list xs => forL (fun x r g => match setT t x r with
      | some r => evS F b r g
      | none => .bad) xs r g
    | _ => .bad
  | .whl n c b, r, g => whlL (fun r g => evT F c r g) (fun r g => evS F b r g) n r g
  | .ret e, r, g => (evE F e r g).st r fun d g => .rt d g
  | .brk, r, g => .bk r g
  | .cont, r, g => .ct r g
  | .raise c, r, g => .ex c r g
  | .try_ b i j, r, g => match evS F b r g with
    | .ex c r g => if c < 6 then .nx ((r.set i .und).set j (.exn c)) g else .bad
    | o => o
  | .mk3 i j k, r, g => .nx (((r.set i (.own [])).set j (.own [])).set k (.own [])) g
  | .start i j, r, g => match r[j]?, g with
    | some (.scr ns), none => .nx (r.set i .drw) (some (if ns = [] then [0] else ns, 0))
    | _, _ => .bad
/-- a def: n parameters, m slots -/
def fnD (F : Nat → Fn) (n m : Nat) (b : Sm) : Fn := fun cs g =>
  if cs.length = n then
    match evS F b (cs ++ List.replicate (m - n) .und) g with
    | .nx _ g => .ok .none g
    | .rt d g => .ok d g
    | .ex c _ g => .exc c g
    | _ => .bad
  else .bad
end Tl
end
section
set_option Elab.async false
set_option linter.all false
set_option maxRecDepth 100000
namespace Tl
open PySem PySem.Spec PyProof.Rows L2
/-! ### what stands for a datum in the frozen heap -/
mutual
inductive Rp (F : Hp) : V → D → Prop
  | non : Rp F .non .none
  | bl (b : Bool) : Rp F (.bl b) (.bool b)
  | int (i : Int) : Rp F (.int i) (.int i)
  | str (x : Str) : x.length ≤ lim → PyData.strOk x = true → Rp F (.str x) (.str x)
  | lst {a : Addr} {xs : List V} {ds : List D} : F a = some (.lst xs) → RpAll F xs ds → ds.length ≤ lim → Rp F (.ref a) (.list ds)
  | tup {a : Addr} {xs : List V} {ds : List D} : F a = some (.tup xs) → RpAll F xs ds → ds.length ≤ lim → Rp F (.ref a) (.tuple ds)
inductive RpAll (F : Hp) : List V → List D → Prop
  | nil : RpAll F [] []
  | cons {v : V} {vs : List V} {d : D} {ds : List D} : Rp F v d → RpAll F vs ds → RpAll F (v :: vs) (d :: ds)
end
mutual
theorem Rp.mono {F F' : Hp} (s : Same F F') : ∀ {v : V} {d : D}, Rp F v d → Rp F' v d
  | _, _, .non => .non
  | _, _, .bl b => .bl b
  | _, _, .int i => .int i
  | _, _, .str x h k => .str x h k
  | _, _, .lst h r l => .lst (s _ _ h) (RpAll.mono s r) l
  | _, _, .tup h r l => .tup (s _ _ h) (RpAll.mono s r) l
theorem RpAll.mono {F F' : Hp} (s : Same F F') : ∀ {vs : List V} {ds : List D}, RpAll F vs ds → RpAll F' vs ds
  | _, _, .nil => .nil
  | _, _, .cons h t => .cons (Rp.mono s h) (RpAll.mono s t)
end
mutual
theorem Rp.dp {K : PySem.W.Frag} {F H : Hp} (s : Same F H) : ∀ {v : V} {d : D}, Rp F v d → Dp K H v d
  | _, _, .non => .non
  | _, _, .bl b => .bl b
  | _, _, .int i => .int i
  | _, _, .str x h k => .str x
  | _, _, .lst h r l => .lst (.inl (.inl (s _ _ h))) (RpAll.dp s r)
  | _, _, .tup h r l => .tup (.inl (.inl (s _ _ h))) (RpAll.dp s r)
theorem RpAll.dp {K : PySem.W.Frag} {F H : Hp} (s : Same F H) : ∀ {vs : List V} {ds : List D}, RpAll F vs ds → DpAll K H vs ds
  | _, _, .nil => .nil
  | _, _, .cons h t => .cons (Rp.dp s h) (RpAll.dp s t)
end
mutual
theorem Rp.lay {F : Hp} : ∀ {v : V} {d : D}, Rp F v d → d.canLay0 = true
  | _, _, .non => by simp [PyData.canLay0]
  | _, _, .bl b => by simp [PyData.canLay0]
  | _, _, .int i => by simp [PyData.canLay0]
  | _, _, .str x h k => by simp [PyData.canLay0, k]
  | _, _, .lst h r l => by simp [PyData.canLay0, RpAll.lay r]
  | _, _, .tup h r l => by simp [PyData.canLay0, RpAll.lay r]
theorem RpAll.lay {F : Hp} : ∀ {vs : List V} {ds : List D}, RpAll F vs ds → PyData.canLayAll0 ds = true
  | _, _, .nil => by simp [PyData.canLayAll0]
  | _, _, .cons h t => by simp [PyData.canLayAll0, Rp.lay h, RpAll.lay t]
end
theorem RpAll.length {F : Hp} : ∀ {vs : List V} {ds : List D}, RpAll F vs ds → vs.length = ds.length
  | _, _, .nil => rfl
  | _, _, .cons h t => by rw [List.length_cons, List.length_cons, RpAll.length t]
theorem RpAll.get {F : Hp} : ∀ {vs : List V} {ds : List D} {i : Nat} {d : D}, RpAll F vs ds → ds[i]? = some d → ∃ v, vs[i]? = some v ∧ Rp F v d
  | _, _, _, _, .nil, e => by simp at e
  | _, _, 0, _, .cons h t, e => by simp at e; subst e; exact ⟨_, rfl, h⟩
  | _, _, i + 1, d, .cons h t, e => by
    obtain ⟨v, h1, h2⟩ := RpAll.get (i := i) (d := d) t (by simpa using e)
    exact ⟨v, by simpa using h1, h2⟩
theorem RpAll.getV {F : Hp} : ∀ {vs : List V} {ds : List D} {i : Nat} {v : V}, RpAll F vs ds → vs[i]? = some v → ∃ d, ds[i]? = some d ∧ Rp F v d
  | _, _, _, _, .nil, e => by simp at e
  | _, _, 0, _, .cons h t, e => by simp at e; subst e; exact ⟨_, rfl, h⟩
  | _, _, i + 1, v, .cons h t, e => by
    obtain ⟨d, h1, h2⟩ := RpAll.getV (i := i) (v := v) t (by simpa using e)
    exact ⟨d, by simpa using h1, h2⟩
theorem RpAll.append {F : Hp} : ∀ {vs ws : List V} {ds es : List D}, RpAll F vs ds → RpAll F ws es → RpAll F (vs ++ ws) (ds ++ es)
  | _, _, _, _, .nil, s => s
  | _, _, _, _, .cons h t, s => .cons h (RpAll.append t s)
theorem RpAll.take {F : Hp} : ∀ {vs : List V} {ds : List D} (n : Nat), RpAll F vs ds → RpAll F (vs.take n) (ds.take n)
  | _, _, 0, _ => .nil
  | _, _, _ + 1, .nil => .nil
  | _, _, n + 1, .cons h t => .cons h (RpAll.take n t)
theorem RpAll.drop {F : Hp} : ∀ {vs : List V} {ds : List D} (n : Nat), RpAll F vs ds → RpAll F (vs.drop n) (ds.drop n)
  | _, _, 0, r => r
  | _, _, _ + 1, .nil => .nil
  | _, _, n + 1, .cons h t => RpAll.drop n t
theorem RpAll.set {F : Hp} {v : V} {d : D} (h : Rp F v d) : ∀ {vs : List V} {ds : List D} (i : Nat), RpAll F vs ds → RpAll F (vs.set i v) (ds.set i d)
  | _, _, _, .nil => .nil
  | _, _, 0, .cons _ t => .cons h t
  | _, _, i + 1, .cons q t => .cons q (RpAll.set h i t)
theorem RpAll.erase {F : Hp} : ∀ {vs : List V} {ds : List D} (i : Nat), RpAll F vs ds → RpAll F (vs.eraseIdx i) (ds.eraseIdx i)
  | _, _, _, .nil => .nil
  | _, _, 0, .cons _ t => t
  | _, _, i + 1, .cons q t => .cons q (RpAll.erase i t)
theorem RpAll.reverse {F : Hp} : ∀ {vs : List V} {ds : List D}, RpAll F vs ds → RpAll F vs.reverse ds.reverse
  | _, _, .nil => .nil
  | _, _, .cons h t => by
    rw [List.reverse_cons, List.reverse_cons]
    exact RpAll.append (RpAll.reverse t) (.cons h .nil)
theorem RpAll.flat {F : Hp} {vs : List V} {ds : List D} (h : RpAll F vs ds) : ∀ k : Nat, RpAll F (List.replicate k vs).flatten (List.replicate k ds).flatten
  | 0 => .nil
  | k + 1 => by
    rw [List.replicate_succ, List.replicate_succ, List.flatten_cons, List.flatten_cons]
    exact RpAll.append h (RpAll.flat h k)
theorem rp_ints {F : Hp} : ∀ {vs : List V} {ds : List D} {ns : List Int}, RpAll F vs ds → toInts ds = some ns → vs = ns.map V.int ∧ ds = ns.map .int
  | _, _, ns, .nil, e => by cases e; exact ⟨rfl, rfl⟩
  | _, _, ns, .cons (d := d) (ds := ds) h t, e => by
    cases d with
    | int i =>
      simp only [toInts] at e
      cases q : toInts ds with
      | none => rw [q] at e; cases e
      | some ms =>
        rw [q] at e
        cases e
        obtain ⟨h1, h2⟩ := rp_ints t q
        cases h
        rw [h1, h2]
        exact ⟨rfl, rfl⟩
    | _ => simp [toInts] at e
theorem rp_strs {F : Hp} : ∀ {vs : List V} {ds : List D} {ns : List Str}, RpAll F vs ds → toStrs ds = some ns → vs = ns.map V.str ∧ ds = ns.map .str
  | _, _, ns, .nil, e => by cases e; exact ⟨rfl, rfl⟩
  | _, _, ns, .cons (d := d) (ds := ds) h t, e => by
    cases d with
    | str i =>
      simp only [toStrs] at e
      cases q : toStrs ds with
      | none => rw [q] at e; cases e
      | some ms =>
        rw [q] at e
        cases e
        obtain ⟨h1, h2⟩ := rp_strs t q
        cases h
        rw [h1, h2]
        exact ⟨rfl, rfl⟩
    | _ => simp [toStrs] at e
theorem rp_bls {F : Hp} : ∀ {vs : List V} {ds : List D} {ns : List Bool}, RpAll F vs ds → toBls ds = some ns → vs = ns.map V.bl ∧ ds = ns.map .bool
  | _, _, ns, .nil, e => by cases e; exact ⟨rfl, rfl⟩
  | _, _, ns, .cons (d := d) (ds := ds) h t, e => by
    cases d with
    | bool i =>
      simp only [toBls] at e
      cases q : toBls ds with
      | none => rw [q] at e; cases e
      | some ms =>
        rw [q] at e
        cases e
        obtain ⟨h1, h2⟩ := rp_bls t q
        cases h
        rw [h1, h2]
        exact ⟨rfl, rfl⟩
    | _ => simp [toBls] at e
theorem ints_rp {F : Hp} : ∀ (ns : List Int), RpAll F (ns.map V.int) (ns.map .int)
  | [] => .nil
  | i :: r => .cons (.int i) (ints_rp r)
/-! ### the drawing state, steps of the heaps -/
abbrev DA := Option (Addr × Addr)
def isDr (da : DA) (b : Addr) : Prop := ∃ p, da = some p ∧ (b = p.1 ∨ b = p.2)
def GOk (H : Hp) (g : G) (da : DA) : Prop := match g, da with
  | none, none => True
  | some (ns, c), some (a, n) => a ≠ n ∧ H a = some (.lst [.ref n, .int c]) ∧ H n = some (.lst (ns.map V.int)) ∧ ns ≠ [] ∧ ns.length ≤ 1000
  | _, _ => False
theorem GOk.same {H H' : Hp} {g : G} {da : DA} (s : Same H H') (h : GOk H g da) : GOk H' g da := by
  unfold GOk at h ⊢
  split at h
  · trivial
  · obtain ⟨h1, h2, h3, h4⟩ := h
    exact ⟨h1, s _ _ h2, s _ _ h3, h4⟩
  · exact h
/-- something new is laid -/
structure Al (F H F' H' : Hp) : Prop where
  fr : Same F F'
  sub : Same F' H'
  keep : Same H H'
  new : ∀ b o, H b = some o → F b = none → F' b = none
theorem Al.refl {F H : Hp} (s : Same F H) : Al F H F H := ⟨Same.refl F, s, Same.refl H, fun _ _ _ h => h⟩
theorem Al.trans {F H F1 H1 F2 H2 : Hp} (a : Al F H F1 H1) (b : Al F1 H1 F2 H2) : Al F H F2 H2 :=
  ⟨a.fr.trans b.fr, b.sub, a.keep.trans b.keep, fun x o h n => b.new x o (a.keep x o h) (a.new x o h n)⟩
theorem same_upd {H : Hp} {p : Addr} {o : HO} (h : H p = none) : Same H (upd H p o) := fun b x e => by
  rw [upd_ne (ne_of_none e h)]
  exact e
theorem Al.one {F H : Hp} {p : Addr} {o : HO} (s : Same F H) (h : H p = none) : Al F H (upd F p o) (upd H p o) :=
  ⟨same_upd (s.free h), fun b x e => by
    by_cases hb : b = p
    · subst hb
      rw [upd_same] at e ⊢
      exact e
    · rw [upd_ne hb] at e ⊢
      exact s b x e, same_upd h, fun b x e n => by
    rw [upd_ne (ne_of_none e h)]
    exact n⟩
/-- laid, but not frozen -/
theorem Al.side {F H : Hp} {p : Addr} {o : HO} (s : Same F H) (h : H p = none) : Al F H F (upd H p o) :=
  ⟨Same.refl F, s.trans (same_upd h), same_upd h, fun _ _ _ n => n⟩
structure Nx (da : DA) (F H F' H' : Hp) (g' : G) : Prop where
  fr : Same F F'
  sub : Same F' H'
  keep : ∀ b o, H b = some o → ¬ isDr da b → H' b = some o
  new : ∀ b o, H b = some o → F b = none → F' b = none
  gok : GOk H' g' da
  tho : ∀ b o, H b = some o → ∃ o', H' b = some o'
theorem Nx.refl {da : DA} {F H : Hp} {g : G} (s : Same F H) (h : GOk H g da) : Nx da F H F H g := ⟨Same.refl F, s, fun _ _ e _ => e, fun _ _ _ n => n, h, fun _ o e => ⟨o, e⟩⟩
theorem Nx.trans {da : DA} {F H F1 H1 F2 H2 : Hp} {g1 g2 : G} (a : Nx da F H F1 H1 g1) (b : Nx da F1 H1 F2 H2 g2) : Nx da F H F2 H2 g2 :=
  ⟨a.fr.trans b.fr, b.sub, fun x o h n => b.keep x o (a.keep x o h n) n, fun x o h n => by
    obtain ⟨o', h'⟩ := a.tho x o h
    exact b.new x o' h' (a.new x o h n), b.gok, fun x o h => by
    obtain ⟨o', h'⟩ := a.tho x o h
    exact b.tho x o' h'⟩
theorem Nx.al {da : DA} {F H F1 H1 F2 H2 : Hp} {g : G} (a : Nx da F H F1 H1 g) (b : Al F1 H1 F2 H2) : Nx da F H F2 H2 g :=
  a.trans ⟨b.fr, b.sub, fun x o h _ => b.keep x o h, b.new, a.gok.same b.keep, fun x o h => ⟨o, b.keep x o h⟩⟩
theorem Nx.of_al {da : DA} {F H F2 H2 : Hp} {g : G} (h : GOk H g da) (b : Al F H F2 H2) : Nx da F H F2 H2 g :=
  ⟨b.fr, b.sub, fun x o h _ => b.keep x o h, b.new, h.same b.keep, fun x o h => ⟨o, b.keep x o h⟩⟩
/-! ### what may be read: a datum, or an owned list -/
def Ow (F H : Hp) (da : DA) (a : Addr) (ds : List D) : Prop := ∃ xs, H a = some (.lst xs) ∧ F a = none ∧ ¬ isDr da a ∧ RpAll F xs ds ∧ ds.length ≤ lim
def Cp (F H : Hp) (da : DA) (v : V) (d : D) : Prop := Rp F v d ∨ ∃ a ds, v = .ref a ∧ d = .list ds ∧ Ow F H da a ds
theorem Ow.nx {F H F' H' : Hp} {da : DA} {g : G} {a : Addr} {ds : List D} (n : Nx da F H F' H' g) (h : Ow F H da a ds) : Ow F' H' da a ds := by
  obtain ⟨xs, h1, h2, h3, h4, h5⟩ := h
  exact ⟨xs, n.keep _ _ h1 h3, n.new _ _ h1 h2, h3, h4.mono n.fr, h5⟩
theorem Cp.nx {F H F' H' : Hp} {da : DA} {g : G} {v : V} {d : D} (n : Nx da F H F' H' g) (h : Cp F H da v d) : Cp F' H' da v d := by
  rcases h with h | ⟨a, ds, h1, h2, h3⟩
  · exact .inl (h.mono n.fr)
  · exact .inr ⟨a, ds, h1, h2, h3.nx n⟩
theorem Cp.list {F H : Hp} {da : DA} {v : V} {ds : List D} (s : Same F H) (h : Cp F H da v (.list ds)) : ∃ a xs, v = .ref a ∧ H a = some (.lst xs) ∧ RpAll F xs ds ∧ ds.length ≤ lim := by
  rcases h with h | ⟨a, es, h1, h2, xs, h3, _, _, h4, h5⟩
  · cases h with
    | lst h r l => exact ⟨_, _, rfl, s _ _ h, r, l⟩
  · cases h2
    exact ⟨a, xs, h1, h3, h4, h5⟩
theorem Cp.flat {F H : Hp} {da : DA} {v : V} {d : D} (h : Cp F H da v d) (n : ∀ ds, d ≠ .list ds) : Rp F v d := by
  rcases h with h | ⟨a, es, _, h2, _⟩
  · exact h
  · exact absurd h2 (n es)
theorem Cp.dp {K : PySem.W.Frag} {F H : Hp} {da : DA} {v : V} {d : D} (s : Same F H) (h : Cp F H da v d) : Dp K H v d := by
  rcases h with h | ⟨a, ds, rfl, rfl, xs, h1, _, _, h2, _⟩
  · exact h.dp s
  · exact .lst (.inl (.inl h1)) (h2.dp s)
theorem Cp.lay {F H : Hp} {da : DA} {v : V} {d : D} (h : Cp F H da v d) : d.canLay0 = true := by
  rcases h with h | ⟨a, ds, rfl, rfl, xs, h1, _, _, h2, _⟩
  · exact h.lay
  · simp [PyData.canLay0, h2.lay]
theorem shp_shaped {d : D} (h : d.canLay0 = true) (k : shp d = true) : SeqAt.shaped d = true := by
  have q : d.depth ≤ 60 := of_decide_eq_true k
  unfold SeqAt.shaped
  rw [h, Bool.true_and]
  exact decide_eq_true (by omega)
end Tl
end
section
set_option Elab.async false
set_option linter.all false
set_option maxRecDepth 100000
namespace Tl
open PySem PySem.Spec PyProof.Rows L2
theorem lim_line {n : Nat} (h : n ≤ lim) : n < sizeLine := by
  rw [sizeLine_eq]
  exact Nat.lt_of_le_of_lt h (by decide)
theorem lim_line' {n : Nat} (h : n ≤ lim) : n ≤ sizeLine := Nat.le_of_lt (lim_line h)
/-! ### operations by values -/
def S1 (o : Un) (r : V → Hp → VK → Prop) : Prop := ∀ (F H : Hp) (da : DA) (x : V) (d dz : D) (Q : VK), Same F H → Cp F H da x d → uop o d = some dz → (∀ v F' H', Al F H F' H' → Rp F' v dz → Q v H') → r x H Q
def S2 (o : Bi) (r : R2) : Prop := ∀ (F H : Hp) (da : DA) (x y : V) (d e dz : D) (Q : VK), Same F H → Cp F H da x d → Cp F H da y e → bop o d e = some dz → (∀ v F' H', Al F H F' H' → Rp F' v dz → Q v H') → r x y H Q
section
variable {K : PySem.W.Frag}
theorem cp_int {F H : Hp} {da : DA} {x : V} {i : Int} (h : Cp F H da x (.int i)) : x = .int i := by
  have q := h.flat (fun _ z => nomatch z)
  cases q
  rfl
theorem cp_bl {F H : Hp} {da : DA} {x : V} {i : Bool} (h : Cp F H da x (.bool i)) : x = .bl i := by
  have q := h.flat (fun _ z => nomatch z)
  cases q
  rfl
theorem cp_str {F H : Hp} {da : DA} {x : V} {i : Str} (h : Cp F H da x (.str i)) : x = .str i ∧ i.length ≤ lim ∧ PyData.strOk i = true := by
  have q := h.flat (fun _ z => nomatch z)
  cases q with
  | str _ h1 h2 => exact ⟨rfl, h1, h2⟩
theorem cp_tup {F H : Hp} {da : DA} {x : V} {ds : List D} (s : Same F H) (h : Cp F H da x (.tuple ds)) : ∃ a xs, x = .ref a ∧ H a = some (.tup xs) ∧ RpAll F xs ds ∧ ds.length ≤ lim := by
  have q := h.flat (fun _ z => nomatch z)
  cases q with
  | tup h1 h2 h3 => exact ⟨_, _, rfl, s _ _ h1, h2, h3⟩
theorem new_lst {F H : Hp} {xs : List V} {ds : List D} {Q : VK} (s : Same F H) (r : RpAll F xs ds) (l : ds.length ≤ lim) (k : ∀ v F' H', Al F H F' H' → Rp F' v (.list ds) → Q v H') (p : Addr) (hp : H p = none) : Q (.ref p) (upd H p (.lst xs)) :=
  k _ _ _ (Al.one s hp) (.lst upd_same (r.mono (same_upd (s.free hp))) l)
theorem new_tup {F H : Hp} {xs : List V} {ds : List D} {Q : VK} (s : Same F H) (r : RpAll F xs ds) (l : ds.length ≤ lim) (k : ∀ v F' H', Al F H F' H' → Rp F' v (.tuple ds) → Q v H') (p : Addr) (hp : H p = none) : Q (.ref p) (upd H p (.tup xs)) :=
  k _ _ _ (Al.one s hp) (.tup upd_same (r.mono (same_upd (s.free hp))) l)
/-! one operand -/
theorem s1_neg : S1 .neg (rU fun i => .int (-i)) := by
  intro F H da x d dz Q s c e k
  cases d with
  | int i =>
    cases e
    exact ⟨i, cp_int c, k _ _ _ (Al.refl s) (.int _)⟩
  | _ => simp [uop] at e
def rNotV : V → Hp → VK → Prop := fun x H Q => ∃ c, x = .bl c ∧ Q (.bl (!c)) H
theorem s1_not : S1 .notv rNotV := by
  intro F H da x d dz Q s c e k
  cases d with
  | bool i =>
    cases e
    exact ⟨i, cp_bl c, k _ _ _ (Al.refl s) (.bl _)⟩
  | _ => simp [uop] at e
def rLenV (K : PySem.W.Frag) : V → Hp → VK → Prop := fun x H Q => ∃ y n, [x] = [y] ∧ LenV K y H n ∧ Q (.int n) H
theorem s1_len : S1 .len (rLenV K) := by
  intro F H da x d dz Q s c e k
  cases d with
  | str i =>
    cases e
    obtain ⟨h1, h2, h3⟩ := cp_str c
    subst h1
    exact ⟨_, _, rfl, ⟨lim_line' h2, rfl⟩, k _ _ _ (Al.refl s) (.int _)⟩
  | list ds =>
    cases e
    obtain ⟨a, xs, h1, h2, h3, h4⟩ := c.list s
    subst h1
    refine ⟨_, ds.length, rfl, .inl ⟨xs, .inl (.inl h2), h3.length.symm⟩, k _ _ _ (Al.refl s) (.int _)⟩
  | tuple ds =>
    cases e
    obtain ⟨a, xs, h1, h2, h3, h4⟩ := cp_tup s c
    subst h1
    refine ⟨_, ds.length, rfl, .inr ⟨xs, .inl (.inl h2), h3.length.symm⟩, k _ _ _ (Al.refl s) (.int _)⟩
  | _ => simp [uop] at e
theorem s1_sum : S1 .sum (fun x H Q => rSum K [x] H Q) := by
  intro F H da x d dz Q s c e k
  cases d with
  | list ds =>
    obtain ⟨a, xs, h1, h2, h3, h4⟩ := c.list s
    simp only [uop] at e
    cases q : toInts ds with
    | none => rw [q] at e; cases e
    | some ns =>
      rw [q] at e
      cases e
      obtain ⟨h5, h6⟩ := rp_ints h3 q
      subst h1 h5
      exact ⟨a, ns, rfl, .inl (.inl h2), k _ _ _ (Al.refl s) (.int _)⟩
  | _ => simp [uop] at e
theorem foldl_min : ∀ (r : List Int) (x : Int), (r.foldl min x = x ∨ r.foldl min x ∈ r) ∧ r.foldl min x ≤ x ∧ ∀ y ∈ r, r.foldl min x ≤ y
  | [], x => ⟨.inl rfl, Int.le_refl _, fun _ h => nomatch h⟩
  | z :: r, x => by
    obtain ⟨h1, h2, h3⟩ := foldl_min r (min x z)
    rw [List.foldl_cons]
    refine ⟨?_, by omega, fun y hy => ?_⟩
    · rcases h1 with h1 | h1
      · rcases Int.le_total x z with h | h
        · left; omega
        · right; rw [h1]; have : min x z = z := by omega
          rw [this]; exact List.mem_cons_self
      · right; exact List.mem_cons_of_mem _ h1
    · rcases List.mem_cons.mp hy with h | h
      · omega
      · exact h3 y h
theorem foldl_max : ∀ (r : List Int) (x : Int), (r.foldl max x = x ∨ r.foldl max x ∈ r) ∧ x ≤ r.foldl max x ∧ ∀ y ∈ r, y ≤ r.foldl max x
  | [], x => ⟨.inl rfl, Int.le_refl _, fun _ h => nomatch h⟩
  | z :: r, x => by
    obtain ⟨h1, h2, h3⟩ := foldl_max r (max x z)
    rw [List.foldl_cons]
    refine ⟨?_, by omega, fun y hy => ?_⟩
    · rcases h1 with h1 | h1
      · rcases Int.le_total z x with h | h
        · left; omega
        · right; rw [h1]; have : max x z = z := by omega
          rw [this]; exact List.mem_cons_self
      · right; exact List.mem_cons_of_mem _ h1
    · rcases List.mem_cons.mp hy with h | h
      · omega
      · exact h3 y h
theorem minI_is {ns : List Int} {m z : Int} (h : minI ns = some z) (h1 : m ∈ ns) (h2 : ∀ y, y ∈ ns → m ≤ y) : m = z := by
  cases ns with
  | nil => cases h
  | cons x r =>
    cases h
    obtain ⟨a, b, c⟩ := foldl_min r x
    have h3 : m ≤ r.foldl min x := by
      rcases a with a | a
      · rw [a]; exact h2 x List.mem_cons_self
      · exact h2 _ (List.mem_cons_of_mem _ a)
    rcases List.mem_cons.mp h1 with e | e
    · omega
    · have := c m e; omega
theorem maxI_is {ns : List Int} {m z : Int} (h : maxI ns = some z) (h1 : m ∈ ns) (h2 : ∀ y, y ∈ ns → y ≤ m) : m = z := by
  cases ns with
  | nil => cases h
  | cons x r =>
    cases h
    obtain ⟨a, b, c⟩ := foldl_max r x
    have h3 : r.foldl max x ≤ m := by
      rcases a with a | a
      · rw [a]; exact h2 x List.mem_cons_self
      · exact h2 _ (List.mem_cons_of_mem _ a)
    rcases List.mem_cons.mp h1 with e | e
    · omega
    · have := c m e; omega
theorem minI_pos {ns : List Int} {z : Int} (h : minI ns = some z) : 0 < ns.length := by
  cases ns with
  | nil => cases h
  | cons x r => simp
theorem maxI_pos {ns : List Int} {z : Int} (h : maxI ns = some z) : 0 < ns.length := by
  cases ns with
  | nil => cases h
  | cons x r => simp
theorem s1_min : S1 .min1 (fun x H Q => rMin K [x] H Q) := by
  intro F H da x d dz Q s c e k
  cases d with
  | list ds =>
    obtain ⟨a, xs, h1, h2, h3, h4⟩ := c.list s
    simp only [uop] at e
    cases q : toInts ds with
    | none => rw [q] at e; cases e
    | some ns =>
      rw [q] at e
      cases q2 : minI ns with
      | none => simp only [Option.bind_some, q2] at e; cases e
      | some z =>
        simp only [Option.bind_some, q2] at e
        cases e
        obtain ⟨h5, h6⟩ := rp_ints h3 q
        subst h1 h5
        refine ⟨a, ns, rfl, .inl (.inl h2), minI_pos q2, fun m hm hle => ?_⟩
        rw [minI_is q2 hm hle]
        exact k _ _ _ (Al.refl s) (.int _)
  | _ => simp [uop] at e
theorem s1_max : S1 .max1 (fun x H Q => rMax K [x] H Q) := by
  intro F H da x d dz Q s c e k
  cases d with
  | list ds =>
    obtain ⟨a, xs, h1, h2, h3, h4⟩ := c.list s
    simp only [uop] at e
    cases q : toInts ds with
    | none => rw [q] at e; cases e
    | some ns =>
      rw [q] at e
      cases q2 : maxI ns with
      | none => simp only [Option.bind_some, q2] at e; cases e
      | some z =>
        simp only [Option.bind_some, q2] at e
        cases e
        obtain ⟨h5, h6⟩ := rp_ints h3 q
        subst h1 h5
        refine ⟨a, ns, rfl, .inl (.inl h2), maxI_pos q2, fun m hm hle => ?_⟩
        rw [maxI_is q2 hm hle]
        exact k _ _ _ (Al.refl s) (.int _)
  | _ => simp [uop] at e
theorem s1_all : S1 .all (fun x H Q => rAll K [x] H Q) := by
  intro F H da x d dz Q s c e k
  cases d with
  | list ds =>
    obtain ⟨a, xs, h1, h2, h3, h4⟩ := c.list s
    simp only [uop] at e
    cases q : toBls ds with
    | none => rw [q] at e; cases e
    | some ns =>
      rw [q] at e
      cases e
      obtain ⟨h5, h6⟩ := rp_bls h3 q
      subst h1 h5
      exact ⟨a, ns, rfl, .inl (.inl h2), k _ _ _ (Al.refl s) (.bl _)⟩
  | _ => simp [uop] at e
theorem s1_any : S1 .any (fun x H Q => rAny K [x] H Q) := by
  intro F H da x d dz Q s c e k
  cases d with
  | list ds =>
    obtain ⟨a, xs, h1, h2, h3, h4⟩ := c.list s
    simp only [uop] at e
    cases q : toBls ds with
    | none => rw [q] at e; cases e
    | some ns =>
      rw [q] at e
      cases e
      obtain ⟨h5, h6⟩ := rp_bls h3 q
      subst h1 h5
      exact ⟨a, ns, rfl, .inl (.inl h2), k _ _ _ (Al.refl s) (.bl _)⟩
  | _ => simp [uop] at e
theorem s1_abs : S1 .abs (fun x H Q => ∃ i, [x] = [.int i] ∧ Q (.int (if i < 0 then -i else i)) H) := by
  intro F H da x d dz Q s c e k
  cases d with
  | int i =>
    cases e
    exact ⟨i, by rw [cp_int c], k _ _ _ (Al.refl s) (.int _)⟩
  | _ => simp [uop] at e
theorem s1_list : S1 .list (fun x H Q => ∃ p ys, [x] = [.ref p] ∧ (SqL K H p ys ∨ SqT K H p ys) ∧ ∀ l, H l = none → Q (.ref l) (upd H l (.lst ys))) := by
  intro F H da x d dz Q s c e k
  cases d with
  | list ds =>
    cases e
    obtain ⟨a, xs, h1, h2, h3, h4⟩ := c.list s
    subst h1
    exact ⟨a, xs, rfl, .inl (.inl (.inl h2)), fun p hp => new_lst s h3 h4 k p hp⟩
  | tuple ds =>
    cases e
    obtain ⟨a, xs, h1, h2, h3, h4⟩ := cp_tup s c
    subst h1
    exact ⟨a, xs, rfl, .inr (.inl (.inl h2)), fun p hp => new_lst s h3 h4 k p hp⟩
  | _ => simp [uop] at e
theorem s1_tuple : S1 .tuple (fun x H Q => ∃ p ys, [x] = [.ref p] ∧ ((SqL K H p ys ∧ ∀ l, H l = none → Q (.ref l) (upd H l (.tup ys))) ∨ (SqT K H p ys ∧ Q (.ref p) H))) := by
  intro F H da x d dz Q s c e k
  cases d with
  | list ds =>
    cases e
    obtain ⟨a, xs, h1, h2, h3, h4⟩ := c.list s
    subst h1
    exact ⟨a, xs, rfl, .inl ⟨.inl (.inl h2), fun p hp => new_tup s h3 h4 k p hp⟩⟩
  | _ => simp [uop] at e
theorem s1_rev : S1 .rev (fun x H Q => ∃ a xs, x = .ref a ∧ SqL K H a xs ∧ ∀ p, H p = none → Q (.ref p) (upd H p (.lst xs.reverse))) := by
  intro F H da x d dz Q s c e k
  cases d with
  | list ds =>
    cases e
    obtain ⟨a, xs, h1, h2, h3, h4⟩ := c.list s
    subst h1
    exact ⟨a, xs, rfl, .inl (.inl h2), fun p hp => new_lst s h3.reverse (by rw [List.length_reverse]; exact h4) k p hp⟩
  | _ => simp [uop] at e
/-! two operands -/
abbrev rAddA : R2 := fun x y H Q => (rI0 (fun i j => .int (i + j)) x y H Q) ∨ ((∃ i j, x = .str i ∧ y = .str j ∧ i.length + j.length ≤ sizeLine ∧ Q (.str (i ++ j)) H) ∨ rCat x y H Q)
theorem op_addA {X : Cx} : OpR X (binaryOp .Add) rAddA := op_add.or (op_add_str.or op_cat)
theorem strOk_append {x y : Str} (h1 : PyData.strOk x = true) (h2 : PyData.strOk y = true) : PyData.strOk (x ++ y) = true := by
  unfold PyData.strOk at *
  have e : (x ++ y).cps = x.cps ++ y.cps := rfl
  rw [e, Array.all_append, h1, h2]
  rfl
theorem length_append (x y : Str) : (x ++ y).length = x.length + y.length := by
  show (x.cps ++ y.cps).size = x.cps.size + y.cps.size
  exact Array.size_append
theorem s2_add : S2 .add rAddA := by
  intro F H da x y d e dz Q s c1 c2 q k
  cases d with
  | int i =>
    cases e with
    | int j =>
      cases q
      exact .inl ⟨i, j, cp_int c1, cp_int c2, k _ _ _ (Al.refl s) (.int _)⟩
    | _ => simp [bop] at q
  | str i =>
    cases e with
    | str j =>
      simp only [bop] at q
      split at q
      · rename_i hl
        cases q
        obtain ⟨h1, h2, h3⟩ := cp_str c1
        obtain ⟨h4, h5, h6⟩ := cp_str c2
        exact .inr (.inl ⟨i, j, h1, h4, lim_line' hl, k _ _ _ (Al.refl s) (.str _ (by rw [length_append]; exact hl) (strOk_append h3 h6))⟩)
      · cases q
    | _ => simp [bop] at q
  | list xs =>
    cases e with
    | list ys =>
      simp only [bop] at q
      split at q
      · rename_i hl
        cases q
        obtain ⟨a, us, h1, h2, h3, h4⟩ := c1.list s
        obtain ⟨b, ws, g1, g2, g3, g4⟩ := c2.list s
        refine .inr (.inr ⟨a, b, us, ws, h1, g1, h2, g2, by rw [h3.length, g3.length]; exact lim_line' hl, fun p hp => new_lst s (h3.append g3) (by rw [List.length_append]; exact hl) k p hp⟩)
      · cases q
    | _ => simp [bop] at q
  | _ => simp [bop] at q
theorem s2_sub : S2 .sub (rI0 fun i j => .int (i - j)) := by
  intro F H da x y d e dz Q s c1 c2 q k
  cases d with
  | int i =>
    cases e with
    | int j =>
      cases q
      exact ⟨i, j, cp_int c1, cp_int c2, k _ _ _ (Al.refl s) (.int _)⟩
    | _ => simp [bop] at q
  | _ => simp [bop] at q
abbrev rMulA : R2 := fun x y H Q => (rI CMul (fun i j => .int (i * j)) x y H Q) ∨ rRep x y H Q
theorem op_mulA {X : Cx} : OpR X (binaryOp .Mult) rMulA := op_mul.or op_rep
theorem mulOk_is {i j : Int} (h : mulOk i j = true) : CMul i j := by
  unfold mulOk at h
  simp only [Bool.or_eq_true, Bool.and_eq_true, decide_eq_true_eq] at h
  exact h
theorem s2_mul : S2 .mul rMulA := by
  intro F H da x y d e dz Q s c1 c2 q k
  cases d with
  | int i =>
    cases e with
    | int j =>
      simp only [bop] at q
      split at q
      · rename_i hm
        cases q
        exact .inl ⟨i, j, cp_int c1, cp_int c2, mulOk_is hm, k _ _ _ (Al.refl s) (.int _)⟩
      · cases q
    | _ => simp [bop] at q
  | list xs =>
    cases e with
    | int j =>
      simp only [bop] at q
      split at q
      · rename_i hm
        cases q
        obtain ⟨a, us, h1, h2, h3, h4⟩ := c1.list s
        obtain ⟨m1, m2, m3⟩ := hm
        refine .inr ⟨a, j, us, h1, cp_int c2, h2, by omega, by omega, by rw [h3.length]; exact lim_line' m3, fun p hp => new_lst s (h3.flat _) ?_ k p hp⟩
        simp only [List.length_flatten, List.map_replicate, List.sum_replicate_nat]
        rw [Nat.mul_comm]
        exact m3
      · cases q
    | _ => simp [bop] at q
  | _ => simp [bop] at q
theorem s2_fdiv : S2 .fdiv (rI CDiv fun i j => .int (i / j)) := by
  intro F H da x y d e dz Q s c1 c2 q k
  cases d with
  | int i =>
    cases e with
    | int j =>
      simp only [bop] at q
      split at q
      · rename_i hm
        cases q
        exact ⟨i, j, cp_int c1, cp_int c2, hm, k _ _ _ (Al.refl s) (.int _)⟩
      · cases q
    | _ => simp [bop] at q
  | _ => simp [bop] at q
theorem s2_mod : S2 .mod (rI (fun _ j => 0 < j) fun i j => .int (i % j)) := by
  intro F H da x y d e dz Q s c1 c2 q k
  cases d with
  | int i =>
    cases e with
    | int j =>
      simp only [bop] at q
      split at q
      · rename_i hm
        cases q
        exact ⟨i, j, cp_int c1, cp_int c2, hm, k _ _ _ (Al.refl s) (.int _)⟩
      · cases q
    | _ => simp [bop] at q
  | _ => simp [bop] at q
theorem s2_eq : S2 .eq (rEqD K) := by
  intro F H da x y d e dz Q s c1 c2 q k
  have q' : (eqD d e).map .bool = some dz := q
  unfold eqD at q'
  split at q'
  · rename_i hs
    cases q'
    rw [Bool.and_eq_true] at hs
    exact ⟨d, e, c1.dp s, c2.dp s, shp_shaped c1.lay hs.1, shp_shaped c2.lay hs.2, k _ _ _ (Al.refl s) (.bl _)⟩
  · cases q'
theorem s2_ne : S2 .ne (rNeD K) := by
  intro F H da x y d e dz Q s c1 c2 q k
  have q' : (eqD d e).map (fun k => PyData.bool !k) = some dz := q
  unfold eqD at q'
  split at q'
  · rename_i hs
    cases q'
    rw [Bool.and_eq_true] at hs
    exact ⟨d, e, c1.dp s, c2.dp s, shp_shaped c1.lay hs.1, shp_shaped c2.lay hs.2, k _ _ _ (Al.refl s) (.bl _)⟩
  · cases q'
theorem s2_in : S2 .isin (rInD K) := by
  intro F H da x y d e dz Q s c1 c2 q k
  cases e with
  | list ds =>
    have q' : (inD d ds).map .bool = some dz := by cases d <;> exact q
    unfold inD at q'
    split at q'
    · rename_i hs
      cases q'
      rw [Bool.and_eq_true] at hs
      exact ⟨d, ds, c1.dp s, c2.dp s, shp_shaped c1.lay hs.1, shp_shaped c2.lay hs.2, k _ _ _ (Al.refl s) (.bl _)⟩
    · cases q'
  | _ => cases d <;> simp [bop] at q
theorem s2_notin : S2 .notin (rNotInD K) := by
  intro F H da x y d e dz Q s c1 c2 q k
  cases e with
  | list ds =>
    have q' : (inD d ds).map (fun k => PyData.bool !k) = some dz := by cases d <;> exact q
    unfold inD at q'
    split at q'
    · rename_i hs
      cases q'
      rw [Bool.and_eq_true] at hs
      exact ⟨d, ds, c1.dp s, c2.dp s, shp_shaped c1.lay hs.1, shp_shaped c2.lay hs.2, k _ _ _ (Al.refl s) (.bl _)⟩
    · cases q'
  | _ => cases d <;> simp [bop] at q
theorem s2_instr : S2 .instr (fun x y H Q => ∃ (c : Nat) (z : Str), x = .str ⟨#[c]⟩ ∧ y = .str z ∧ Q (.bl (decide (c ∈ z.cps.toList))) H) := by
  intro F H da x y d e dz Q s c1 c2 q k
  cases d with
  | str u =>
    cases e with
    | str z =>
      simp only [bop] at q
      split at q
      · rename_i hl
        cases q
        obtain ⟨h1, h2, h3⟩ := cp_str c1
        obtain ⟨h4, h5, h6⟩ := cp_str c2
        obtain ⟨c, hc⟩ : ∃ c, u.cps.toList = [c] := by
          have hl' : u.cps.toList.length = 1 := by rw [Array.length_toList]; exact hl
          match h : u.cps.toList, hl' with
          | [c], _ => exact ⟨c, rfl⟩
        have hu : u = ⟨#[c]⟩ := by
          obtain ⟨cps⟩ := u
          obtain ⟨l⟩ := cps
          simp only at hc
          rw [hc]
        refine ⟨c, z, by rw [h1, hu], h4, ?_⟩
        have e : decide (c ∈ z.cps.toList) = z.cps.toList.any fun c => decide (u.cps.toList = [c]) := by
          rw [hc]
          rw [Bool.eq_iff_iff]
          simp only [decide_eq_true_eq, List.any_eq_true, List.cons.injEq, and_true]
          exact ⟨fun h => ⟨c, h, rfl⟩, fun ⟨x, h, e⟩ => e ▸ h⟩
        rw [e]
        exact k _ _ _ (Al.refl s) (.bl _)
      · cases q
    | _ => simp [bop] at q
  | _ => simp [bop] at q
theorem s2_cmp {o : Bi} {p : Int → Int → Bool} (ho : ∀ i j, bop o (.int i) (.int j) = some (.bool (p i j))) (hn : ∀ d e dz, bop o d e = some dz → ∃ i j, d = .int i ∧ e = .int j) : S2 o (rI0 fun i j => .bl (p i j)) := by
  intro F H da x y d e dz Q s c1 c2 q k
  obtain ⟨i, j, rfl, rfl⟩ := hn d e dz q
  rw [ho] at q
  cases q
  exact ⟨i, j, cp_int c1, cp_int c2, k _ _ _ (Al.refl s) (.bl _)⟩
theorem s2_lt : S2 .lt (rI0 fun i j => .bl (decide (i < j))) := s2_cmp (fun _ _ => rfl) fun d e dz q => by
  cases d <;> cases e <;> first | exact ⟨_, _, rfl, rfl⟩ | simp [bop] at q
theorem s2_le : S2 .le (rI0 fun i j => .bl (decide (i ≤ j))) := s2_cmp (fun _ _ => rfl) fun d e dz q => by
  cases d <;> cases e <;> first | exact ⟨_, _, rfl, rfl⟩ | simp [bop] at q
theorem s2_gt : S2 .gt (rI0 fun i j => .bl (decide (j < i))) := s2_cmp (fun _ _ => rfl) fun d e dz q => by
  cases d <;> cases e <;> first | exact ⟨_, _, rfl, rfl⟩ | simp [bop] at q
theorem s2_ge : S2 .ge (rI0 fun i j => .bl (decide (j ≤ i))) := s2_cmp (fun _ _ => rfl) fun d e dz q => by
  cases d <;> cases e <;> first | exact ⟨_, _, rfl, rfl⟩ | simp [bop] at q
theorem s2_min2 : S2 .min2 (fun x y H Q => ∃ i j, [x, y] = [.int i, .int j] ∧ Q (.int (if j < i then j else i)) H) := by
  intro F H da x y d e dz Q s c1 c2 q k
  cases d with
  | int i =>
    cases e with
    | int j =>
      cases q
      exact ⟨i, j, by rw [cp_int c1, cp_int c2], k _ _ _ (Al.refl s) (.int _)⟩
    | _ => simp [bop] at q
  | _ => simp [bop] at q
theorem s2_max2 : S2 .max2 (fun x y H Q => ∃ i j, [x, y] = [.int i, .int j] ∧ Q (.int (if j > i then j else i)) H) := by
  intro F H da x y d e dz Q s c1 c2 q k
  cases d with
  | int i =>
    cases e with
    | int j =>
      cases q
      exact ⟨i, j, by rw [cp_int c1, cp_int c2], k _ _ _ (Al.refl s) (.int _)⟩
    | _ => simp [bop] at q
  | _ => simp [bop] at q
theorem at_rp {F : Hp} {xs : List V} {ds : List D} {i : Int} {d : D} (r : RpAll F xs ds) (h : atI ds i = some d) : ∃ v, L2.atI xs i = some v ∧ Rp F v d := by
  unfold atI at h
  cases q : ixN ds.length i with
  | none => rw [q] at h; cases h
  | some j =>
    rw [q] at h
    obtain ⟨v, h1, h2⟩ := r.get (show ds[j]? = some d from h)
    refine ⟨v, ?_, h2⟩
    unfold L2.atI
    have e : L2.ixN xs.length i = some j := by rw [r.length]; exact q
    rw [e]
    exact h1
theorem strOk_one {z : Str} (h : PyData.strOk z = true) {c : Nat} (hc : c ∈ z.cps.toList) : PyData.strOk ⟨#[c]⟩ = true := by
  unfold PyData.strOk at *
  rw [Array.all_eq_true'] at *
  intro x hx
  have : x = c := by simpa using hx
  subst this
  exact h x (by simpa using hc)
theorem atI_mem {α : Type} {xs : List α} {i : Int} {c : α} (h : atI xs i = some c) : c ∈ xs := by
  unfold atI at h
  cases q : ixN xs.length i with
  | none => rw [q] at h; cases h
  | some j =>
    rw [q] at h
    exact List.mem_of_getElem? (show xs[j]? = some c from h)
theorem one_lim {c : Nat} : (⟨#[c]⟩ : Str).length ≤ lim := by
  show 1 ≤ lim
  decide
theorem s2_idx : S2 .idx (rIx K) := by
  intro F H da x y d e dz Q s c1 c2 q k
  cases d with
  | list ds =>
    cases e with
    | int i =>
      obtain ⟨a, us, h1, h2, h3, h4⟩ := c1.list s
      obtain ⟨v, g1, g2⟩ := at_rp h3 q
      exact .inl ⟨a, us, i, v, h1, cp_int c2, .inl (.inl h2), g1, k _ _ _ (Al.refl s) g2⟩
    | _ => simp [bop] at q
  | tuple ds =>
    cases e with
    | int i =>
      obtain ⟨a, us, h1, h2, h3, h4⟩ := cp_tup s c1
      obtain ⟨v, g1, g2⟩ := at_rp h3 q
      exact .inr (.inl ⟨a, us, i, v, h1, cp_int c2, .inl (.inl h2), g1, k _ _ _ (Al.refl s) g2⟩)
    | _ => simp [bop] at q
  | str z =>
    cases e with
    | int i =>
      obtain ⟨h1, h2, h3⟩ := cp_str c1
      simp only [bop] at q
      cases qq : atI z.cps.toList i with
      | none => rw [qq] at q; cases q
      | some c =>
        rw [qq] at q
        cases q
        exact .inr (.inr ⟨z, i, c, h1, cp_int c2, lim_line' h2, qq, k _ _ _ (Al.refl s) (.str _ one_lim (strOk_one h3 (atI_mem qq)))⟩)
    | _ => simp [bop] at q
  | _ => simp [bop] at q
theorem cut_rp {F : Hp} {xs : List V} {ds : List D} (r : RpAll F xs ds) (lo hi : Option Int) : RpAll F (cutV xs lo hi) (cut ds lo hi) := by
  have e : cutV xs lo hi = (xs.drop (sIx ds.length 0 lo)).take (sIx ds.length ds.length hi - sIx ds.length 0 lo) := by
    rw [← r.length]
    rfl
  rw [e]
  exact (r.drop _).take _
theorem cut_len {α : Type} (xs : List α) (lo hi : Option Int) : (cut xs lo hi).length ≤ xs.length := by
  unfold cut
  rw [List.length_take, List.length_drop]
  omega
theorem cutS_is (z : Str) (lo hi : Option Int) : cutS z lo hi = ⟨(cut z.cps.toList lo hi).toArray⟩ := by
  unfold cut cutS
  rw [Array.length_toList]
  rfl
theorem strOk_cut {z : Str} (h : PyData.strOk z = true) (lo hi : Option Int) : PyData.strOk ⟨(cut z.cps.toList lo hi).toArray⟩ = true := by
  unfold PyData.strOk at *
  rw [Array.all_eq_true'] at *
  intro x hx
  have hx' : x ∈ cut z.cps.toList lo hi := by simpa using hx
  unfold cut at hx'
  have := List.mem_of_mem_drop (List.mem_of_mem_take hx')
  exact h x (by simpa using this)
/-- a slice by values -/
def S3 (o : Bi) (f : Int → Option Int × Option Int) (r : V → Option Int → Option Int → Hp → VK → Prop) : Prop := ∀ (F H : Hp) (da : DA) (x y : V) (d e dz : D) (Q : VK), Same F H → Cp F H da x d → Cp F H da y e → bop o d e = some dz → (∀ v F' H', Al F H F' H' → Rp F' v dz → Q v H') →
  ∃ i, y = .int i ∧ r x (f i).1 (f i).2 H Q
abbrev rSlA (K : PySem.W.Frag) : V → Option Int → Option Int → Hp → VK → Prop := fun x lo hi H Q => rSlL K x lo hi H Q ∨ rSlS x lo hi H Q
theorem sl_A {X : Cx} : SlR X (rSlA X.K) := sl_list.or sl_str
theorem s3_upto : S3 .upto (fun i => (none, some i)) (rSlA K) := by
  intro F H da x y d e dz Q s c1 c2 q k
  cases d with
  | list ds =>
    cases e with
    | int i =>
      cases q
      obtain ⟨a, us, h1, h2, h3, h4⟩ := c1.list s
      exact ⟨i, cp_int c2, .inl ⟨a, us, h1, .inl (.inl h2), fun p hp => new_lst s (cut_rp h3 _ _) (Nat.le_trans (cut_len _ _ _) h4) k p hp⟩⟩
    | _ => simp [bop] at q
  | str z =>
    cases e with
    | int i =>
      cases q
      obtain ⟨h1, h2, h3⟩ := cp_str c1
      refine ⟨i, cp_int c2, .inr ⟨z, h1, lim_line' h2, ?_⟩⟩
      rw [cutS_is]
      refine k _ _ _ (Al.refl s) (.str _ ?_ (strOk_cut h3 _ _))
      exact Nat.le_trans (show (cut z.cps.toList none (some i)).toArray.size ≤ z.cps.size by simpa using cut_len z.cps.toList none (some i)) h2
    | _ => simp [bop] at q
  | _ => simp [bop] at q
theorem s3_from : S3 .from_ (fun i => (some i, none)) (rSlA K) := by
  intro F H da x y d e dz Q s c1 c2 q k
  cases d with
  | list ds =>
    cases e with
    | int i =>
      cases q
      obtain ⟨a, us, h1, h2, h3, h4⟩ := c1.list s
      exact ⟨i, cp_int c2, .inl ⟨a, us, h1, .inl (.inl h2), fun p hp => new_lst s (cut_rp h3 _ _) (Nat.le_trans (cut_len _ _ _) h4) k p hp⟩⟩
    | _ => simp [bop] at q
  | str z =>
    cases e with
    | int i =>
      cases q
      obtain ⟨h1, h2, h3⟩ := cp_str c1
      refine ⟨i, cp_int c2, .inr ⟨z, h1, lim_line' h2, ?_⟩⟩
      rw [cutS_is]
      refine k _ _ _ (Al.refl s) (.str _ ?_ (strOk_cut h3 _ _))
      exact Nat.le_trans (show (cut z.cps.toList (some i) none).toArray.size ≤ z.cps.size by simpa using cut_len z.cps.toList (some i) none) h2
    | _ => simp [bop] at q
  | _ => simp [bop] at q
end
end Tl
end
section
set_option Elab.async false
set_option linter.all false
set_option autoImplicit false
set_option maxRecDepth 100000
namespace Tl
open PySem PySem.Spec PyProof.Rows L2
/-! ### an exception that is kept behind its clause -/
/-- an exception object of the class cls at a -/
def ExH (cls : Value) (d : Option Addr) (a : Addr) : HO := .ext fun h => ∃ (oe : Obj) (vs : Array Value), h.get? a = some oe ∧ Zc cls d oe ∧ oe.data = .fields vs
theorem exH_ok {P : Program} {w : World} {H : Hp} {h : Heap} {a : Addr} {cls : Value} {d : Option Addr} {oe : Obj} {vs : Array Value} (e : h.get? a = some oe) (z : Zc cls d oe) (q : oe.data = .fields vs) : ObjOk P w H h a (ExH cls d a) :=
  ⟨⟨oe, vs, e, z, q⟩, ⟨oe, e⟩, fun h1 h2 ⟨o, v, e1, z1, q1⟩ k => ⟨o, v, k o e1, z1, q1⟩⟩
def wKeep (K : PySem.W.Frag) (c : Value) (i j : Nat) (Wout : WX) (D : Ends) : WX := fun cls d σ H =>
  ∃ b, PySem.W.exmOne K cls c = some b ∧ (b = true → ∀ a, H a = none → D.nx (((σ.set i (some (.ref a))).set j (some (.ref a))).set i none) (upd H a (ExH cls d a))) ∧ (b = false → Wout cls d σ H)
section
variable {X : Cx} {pins : List (Addr × Obj)} {σ : L2.St} {H : Hp} {s : Shared}
/-- an object that is not tracked yet, new since the entry, is tracked from here on -/
theorem Inv.take {a : Addr} {o : HO} (I : Inv X pins σ H s) (hn : H a = none) (n0 : X.s_0.heap.get? a = none) (nL : a ≠ X.env.locals) (nP : ∀ p ∈ X.pn ++ pins, p.1 ≠ a) (nC : ∀ v, ¬ s.heap.IsCell a v) (new : ObjOk X.prog X.w (upd H a o) s.heap a o) : Inv X pins σ (upd H a o) s := by
  refine ⟨I.ok, I.os, I.bare, ⟨I.base.keep, I.base.slot, fun b u q n hx => ?_, I.base.there, fun b xs q => ?_, fun b u v q => ?_, fun b ps q => ?_⟩, I.loc, I.cell, ?_, fun x c e => ?_, fun p hp => ?_, ?_, I.len⟩
  · rw [upd_ne (fun z => by rw [z, n0] at q; cases q)]
    exact I.base.free b u q n hx
  · have := I.base.tups b xs q
    rw [upd_ne (ne_of_none this hn)]
    exact this
  · have := I.base.frzs b u v q
    rw [upd_ne (ne_of_none this hn)]
    exact this
  · obtain ⟨more, e⟩ := I.base.tbls b ps q
    exact ⟨more, by rw [upd_ne (ne_of_none e hn)]; exact e⟩
  · rw [upd_ne (Ne.symm nL)]
    exact I.free
  · have hc : c ≠ a := fun z => by
      obtain ⟨v, hv⟩ := I.cell x c e
      rw [z] at hv
      exact nC v hv
    rw [upd_ne hc]
    exact I.freeC x c e
  · obtain ⟨q1, q2, q3, q4, q5⟩ := I.pin p hp
    exact ⟨q1, by rw [upd_ne (nP p hp)]; exact q2, q3, q4, q5⟩
  · exact I.hok.laidN (fun _ _ e => e) hn new
end
section
variable {X : Cx} {x n y : Str} {c : Value} {i j : Nat} {body : List Stmt} {np pos pos' py pn' ps : Pos} {tb : WX → TS} {Wout : WX}
/-- try: body / except x as n: y = n -/
theorem ps_try_keep (hs : X.stack = X.env :: X.outer) (hf : X.env.frame = some X.env.locals) (hN : X.N.Nodup) (hi : X.N[i]? = some n) (hln : X.env.kindOf n = some .local) (hj : X.N[j]? = some y) (hly : X.env.kindOf y = some .local) (hnd : (n == ("__debug__" : Str)) = false) (hnc : (n == ("__classdict__" : Str)) = false) (hc : Names X x c) (tk : Takes X Wout) (hx : X.ex = [])
    (hb : ∀ (W : WX) (pn : List (Addr × Obj)) (xe : Value → Shared → Prop), Takes (X.tr pn xe) W → PassesOwn (model X.prog X.w) X.A X.env xe → PSs (X.tr pn xe) body (tb W)) :
    PS X (.Try body [.ExceptHandler (some (.Name x np)) (some n) [.Assign [.Name y py] (.Name n pn') ps] pos'] [] [] pos) (fun D σ H => tb (wKeep X.K c i j Wout D) D σ H) := by
  refine ⟨fun pins s σ H D I h => ?_⟩
  have okX := I.ok
  have frm : X.A.frames = some (X.env :: X.outer) := by rw [okX.frames, hs]
  have locN : Loc X.env.scope n := .inl hln
  have locY : Loc X.env.scope y := .inl hly
  refine wpAny_Try_except ?_
  refine wpAny_mono ((hb (wKeep X.K c i j Wout D) (X.pn ++ pins) (fun u t1 => wpAny (model X.prog X.w) X.A (noteFrame u X.env) (fun _ t2 => wpAny (model X.prog X.w) X.A (setFlight u none) (fun _ t3 =>
    wpAny (model X.prog X.w) X.A (handleBy u X.env [.ExceptHandler (some (.Name x np)) (some n) [.Assign [.Name y py] (.Name n pn') ps] pos']) (SP X pins D) X.xe t3) X.xe t2) X.xe t1) (fun u t xx => ?_) PassesOwn.looking).run [] s σ H D (I.toTry _) h) (fun f t hsp => ?_) (fun _ _ z => z)
  · obtain ⟨a, B, tI, pins', σ1, H1, cls, d, rfl, J0, nb, up, sky, na, os, ag, b, b1, yes, no⟩ := xx
    have J : Inv X pins σ1 H1 tI := J0.ofTry okX
    have sky1 : Sky B (X.env :: X.outer) a (Zc cls d) X.env.locals t.heap := by rw [← hs]; exact sky
    show wpAny (model X.prog X.w) X.A (noteFrame (.ref a) X.env) _ _ _
    refine Sky.land Zc.steady frm hf sky1 fun h3 fl3 up3 => ?_
    have J3 : Inv X pins σ1 H1 { t with heap := h3 } := J.landed nb fl3.1 (up.trans up3) os ag
    obtain ⟨o3, w3, g3, z3, d3⟩ := fl3.there
    have offFr : ∀ {hh : Heap} {o : Obj} {vs : Array Value}, hh.FunFrames B (X.env :: X.outer) → hh.get? a = some o → o.data = .fields vs → a ∉ frs (X.env :: X.outer) := fun {hh o vs} ff e dd hm => by
      obtain ⟨_, o', e', nf⟩ := ff.mem hm
      rw [e] at e'; cases e'
      exact nf _ dd
    have nfr := offFr fl3.2.2.1 g3 d3
    have nL : a ≠ X.env.locals := fun z => nfr (List.mem_filterMap.mpr ⟨X.env, List.mem_cons_self, by rw [hf, z]⟩)
    have nF : a ∉ X.fs := fun hm => by
      obtain ⟨e, he, q⟩ := List.mem_filterMap.mp hm
      exact nfr (List.mem_filterMap.mpr ⟨e, List.mem_cons_of_mem _ he, q⟩)
    have nI : tI.heap.get? a = none := by
      cases q : tI.heap.get? a with
      | none => rfl
      | some o =>
        have := nb a o q (by rw [hs]; exact nfr)
        rw [fl3.2.1] at this
        cases this
    have n0 : X.s_0.heap.get? a = none := by
      cases q : X.s_0.heap.get? a with
      | none => rfl
      | some o =>
        obtain ⟨o', e'⟩ := J.base.there a o q (by rw [hx]; exact List.not_mem_nil)
        rw [nI] at e'
        cases e'
    have nP : ∀ p ∈ X.pn ++ pins, p.1 ≠ a := fun p hp z => by
      have := (J.pin p hp).1
      rw [z, nI] at this
      cases this
    have S3 := J3.suite g3 d3 na nL nF
    refine wpAny_handleBy_cons (codeAny_handlers_test ?_) (by intro q; cases q)
    have LT : PySem.W.Looks (model X.prog X.w) h3 (typeOf (.ref a)) cls := fun A Q E s k q => wpAny_typeOf_ref (k _ _ g3) (by rw [z3.1]; exact q)
    have LM := PySem.W.exm_one (M := model X.prog X.w) (J3.kIn) LT b1
    have tst : ∀ {Q : Value → Shared → Prop} {E : Value → Shared → Prop}, Q c { t with heap := h3 } → wpAny (model X.prog X.w) (X.A.mark (some (.ref a))) (eval (.Name x np) X.env) Q E { t with heap := h3 } := fun {Q E} q => by
      obtain ⟨hg, hdbg, hm | ⟨hm, hv, hnn⟩⟩ := hc
      · exact ld_glob (X := X.suite a ((a, o3) :: (X.pn ++ pins))) S3 hg hm q hdbg
      · exact ld_blt (X := X.suite a ((a, o3) :: (X.pn ++ pins))) S3 hg hm hv q hnn hdbg
    refine tst (LM.here ?_)
    cases b with
    | true =>
      refine codeAny_handlers_suite_as ?_
      refine HandSPX.lands_againZ fl3 fun h4 fl4 up4 => ?_
      have J4 : Inv X pins σ1 H1 { t with heap := h4 } := J.landed nb fl4.1 ((up.trans up3).trans up4) os ag
      obtain ⟨o4, w4, g4, z4, d4⟩ := fl4.there
      have S4 := J4.suite g4 d4 na nL nF
      refine store_ok (X := X.suite a ((a, o4) :: (X.pn ++ pins))) (v := .ref a) S4 hN hi locN rfl (fun t5 S5 => ?_) (.inr hln)
      have suite : PSs (X.suite a ((a, o4) :: (X.pn ++ pins))) [.Assign [.Name y py] (.Name n pn') ps] (tAsg (tVar i) (gName j)) :=
        pss_one (ps_set (X := X.suite a ((a, o4) :: (X.pn ++ pins))) hN hj locY (pe_var hi (.inl hln) hnd hnc) rfl (.inr hly))
      have lenI : i < σ1.length := by rw [J.len]; exact (List.getElem?_eq_some_iff.mp hi).1
      refine wpAny_mono (suite.run [] t5 _ H1 { nx := fun σ' H' => σ' = (σ1.set i (some (.ref a))).set j (some (.ref a)) ∧ H' = H1, rt := fun _ _ => False, bk := fun _ _ => False, ct := fun _ _ => False } S5 ⟨.ref a, List.getElem?_set_self lenI, rfl, rfl⟩) (fun f s6 hsp => ?_) (fun _ _ z => False.elim z)
      cases f with
      | next =>
        obtain ⟨σ6, H6, S6, rfl, rfl⟩ := hsp
        obtain ⟨p1, p2, p3, p4, p5⟩ := S6.pin (a, o4) (List.mem_append_left _ List.mem_cons_self)
        have J6 : Inv X pins _ _ s6 := S6.unsuite okX
        have J7 := Inv.take (o := ExH cls d a) J6 p2 n0 nL nP (fun v hv => by
          obtain ⟨oc, e1, e2⟩ := hv
          have e3 : o4 = oc := Option.some.inj (p1.symm.trans e1)
          subst e3
          rw [d4] at e2
          cases e2) (exH_ok p1 z4 d4)
        exact gone_ok J7 hN hi hln fun s7 J8 => ⟨_, _, J8, yes rfl a na⟩
      | brk => obtain ⟨_, _, _, z⟩ := hsp; exact False.elim z
      | cont => obtain ⟨_, _, _, z⟩ := hsp; exact False.elim z
      | ret u => obtain ⟨_, _, _, _, _, z⟩ := hsp; exact False.elim z
    | false =>
      show wpAny _ X.A (handleBy (.ref a) X.env []) _ _ _
      refine wpAny_handleBy_nil ?_
      obtain ⟨k1, k2, k3, oe, vs, T, oT, ts', he, hz, hd, h1, hr⟩ := id fl3
      unfold PySem.passOn
      refine wpAny_bind (wpAny_field he hd h1 ?_)
      rw [if_neg (show ¬ ((Value.ref T == Value.none) = true) from by simp)]
      have fin : wpAny (model X.prog X.w) X.A (setFlight (.ref a) X.env.frame) (fun _ t4 => wpAny (model X.prog X.w) X.A (throw (.ref a) : Sem Flow) (SP X pins D) X.xe t4) X.xe { t with heap := h3 } := by
        rw [hf]
        refine HandSPX.setFlight_upZ fl3 fun h4 hh4 up4 => wpAny_throw (tk _ _ ?_)
        exact ⟨a, B, tI, pins, σ1, H1, cls, d, rfl, J, nb, (up.trans up3).trans up4, .inr (.inr (by rw [hs]; exact hh4)), na, os, ag, no rfl⟩
      first
        | exact wpAny_bind (wpAny_pure (wpAny_bind fin))
        | exact wpAny_bind fin
  · cases f with
    | next =>
      obtain ⟨σ2, H2, J2, q⟩ := hsp
      exact wpAny_execs_nil ⟨σ2, H2, J2.ofTry okX, q⟩
    | brk =>
      obtain ⟨σ2, H2, J2, q⟩ := hsp
      exact ⟨σ2, H2, J2.ofTry okX, q⟩
    | cont =>
      obtain ⟨σ2, H2, J2, q⟩ := hsp
      exact ⟨σ2, H2, J2.ofTry okX, q⟩
    | ret u =>
      obtain ⟨v, σ2, H2, J2, rr, q⟩ := hsp
      exact ⟨v, σ2, H2, J2.ofTry okX, rr, q⟩
end
end Tl
end
section
set_option Elab.async false
set_option linter.all false
set_option autoImplicit false
set_option maxRecDepth 100000
namespace Tl
open PySem PySem.Spec PyProof.Rows L2
/-! ### isinstance of an exception that is kept; l.count(x) of data -/
def rIsX (K : PySem.W.Frag) : List V → Hp → VK → Prop := fun xs H Q => ∃ (a D : Addr) (c : V) (u : Value) (b : Bool), xs = [.ref a, c] ∧ H a = some (ExH (.ref D) none a) ∧ ExcC K D ∧ ClsV c u ∧ PySem.W.kitOne K (.ref D) u = some b ∧ Q (.bl b) H
def rCountD (K : PySem.W.Frag) : V → List V → Hp → VK → Prop := fun x xs H Q => ∃ (a : Addr) (y : V) (d : PyData) (ds : List PyData), x = V.ref a ∧ xs = [y] ∧ Dp K H (V.ref a) (.list ds) ∧ Dp K H y d ∧
  SeqAt.shaped (.list ds) = true ∧ SeqAt.shaped d = true ∧ Q (.int (ds.countP fun z => PyData.eqv z d : Nat)) H
section
variable {X : Cx}
theorem call_isX : CallR X (.builtin "isinstance") (rIsX X.K) := by
  intro pins s σ H xs us Q I r h
  obtain ⟨a, D, c, u, b, rfl, hH, C, k, e, q⟩ := h
  obtain ⟨u1, u2, rfl, r1, r2⟩ := vals2 r
  cases (show u1 = Value.ref a from r1)
  have e2 := k.eq r2
  subst e2
  obtain ⟨⟨oe, vs, hget, hz, hv⟩, _⟩ := (show ObjOk X.prog X.w H s.heap a (ExH (.ref D) none a) from I.hok a _ hH)
  have J : PySem.W.InstAt s.heap a oe D none := by
    obtain ⟨oc, od, oda, osl⟩ := oe
    obtain ⟨h1, h2⟩ := hz
    dsimp only at h1 h2 hv
    subst h1 h2 hv
    exact ⟨hget, rfl, rfl, trivial⟩
  exact PySem.W.kia_one (PySem.W.handS_kitx_exc C.hg C.hk C.hs C.hd C.ha C.hn C.ht C.hm) I.kIn J e (fun z => nomatch z) fun tk => ⟨.bl b, H, I.tok tk, rfl, q⟩
theorem mt_countD (hu : X.A.units + 65 < cLine) : MtR X "list.count" (rCountD X.K) := by
  intro pins s σ H x xs v us Q I rx rxs h
  obtain ⟨a, y, d, ds, rfl, rfl, hl, hy, sl, sd, q⟩ := h
  cases rx
  cases rxs with
  | cons ry rt =>
    rename_i uy ut
    cases rt
    obtain ⟨bs, r1⟩ := Dp.reads I d y uy hy ry
    have hxs : PyData.canLayAll0 ds = true := SeqAt.canLay_of_shaped sl
    have hroom : X.A.units + 1 + min (PyData.depthAll ds) d.depth < cLine := room_in_shaped sd hu
    cases hl with
    | lst hs ha =>
      obtain ⟨its, rv, ⟨⟨cls, dd, data, sls⟩, n, ho, hc, hdn, hdt⟩, hlen⟩ := I.list hs
      simp only at hc hdt
      subst hc hdt
      obtain ⟨as, h4⟩ := Dp.readsAll I ds _ its ha rv
      have hmap : its.map (SeqAt.readOf s.heap) = ds := SeqAt.readsAll_map ds its as hxs h4
      refine call_meets PySem.F.slot_list_count ⟨_, ho, rfl⟩ PySem.F.entry_list_count (PySem.F.args_list_count_2 _ _)
        (SeqAt.list_countAt a its.toArray n dd sls uy (fun u => PyData.eqv (SeqAt.readOf s.heap u) d)) ⟨ho, SeqAt.items_eqAt (vs := its.toArray) (show ReadsAll s.heap its.toArray.toList ds as from h4) r1 hxs (SeqAt.canLay_of_shaped sd) hroom, ?_⟩
      have ec : its.toArray.toList.countP (fun u => PyData.eqv (SeqAt.readOf s.heap u) d) = ds.countP fun z => PyData.eqv z d := by
        rw [← hmap, List.countP_map]
        rfl
      refine ⟨.int (ds.countP (fun z => PyData.eqv z d) : Nat), H, I.tok _, ⟨s.toks, ?_⟩, q⟩
      show Value.int ((its.toArray.toList.countP (fun u => PyData.eqv (SeqAt.readOf s.heap u) d) : Nat) : Int) s.toks = _
      rw [ec]
end
end Tl
end
section
set_option Elab.async false
set_option linter.all false
set_option autoImplicit false
set_option maxRecDepth 100000
namespace Tl
open PySem PySem.Spec PyProof.Rows L2
abbrev St := L2.St
abbrev Cls := Nat → Addr
variable {cl : Cls}
/-! ### slots -/
def SlotOk (K : PySem.W.Frag) (cl : Cls) (F H : Hp) (da : DA) (sv : Option (Option V)) : Cell → Prop
  | .und => True
  | .val d => ∃ v, sv = some (some v) ∧ Rp F v d
  | .own ds => ∃ a, sv = some (some (.ref a)) ∧ Ow F H da a ds
  | .drw => ∃ p, da = some p ∧ sv = some (some (.ref p.1))
  | .exn c => ∃ a, sv = some (some (.ref a)) ∧ F a = some (ExH (.ref (cl c)) none a)
  | .scr ns => ∃ a, sv = some (some (.ref a)) ∧ SqL K F a (ns.map V.int) ∧ ns.length ≤ 1000
theorem GOk.has {H : Hp} {g : G} {da : DA} {b : Addr} (h : GOk H g da) (d : isDr da b) : ∃ o, H b = some o := by
  obtain ⟨p, rfl, hb⟩ := d
  cases g with
  | none => exact False.elim h
  | some q =>
    obtain ⟨_, h1, h2, _⟩ := h
    rcases hb with rfl | rfl
    · exact ⟨_, h1⟩
    · exact ⟨_, h2⟩
structure Rep (K : PySem.W.Frag) (cl : Cls) (F H : Hp) (da : DA) (σ : St) (r : Env) (g : G) : Prop where
  sub : Same F H
  gok : GOk H g da
  slot : ∀ (i : Nat) (c : Cell), r[i]? = some c → SlotOk K cl F H da σ[i]? c
  len : r.length = σ.length
  apart : ∀ (i j : Nat) (a : Addr) (ds es : List D), r[i]? = some (.own ds) → r[j]? = some (.own es) → σ[i]? = some (some (.ref a)) → σ[j]? = some (some (.ref a)) → i = j
  nod : ∀ b, isDr da b → F b = none
theorem SqL.same {K : PySem.W.Frag} {F F' : Hp} {a : Addr} {xs : List V} (s : Same F F') (h : SqL K F a xs) : SqL K F' a xs := s.seq h
theorem SlotOk.nx {K : PySem.W.Frag} {F H F' H' : Hp} {da : DA} {g : G} {sv : Option (Option V)} {c : Cell} (n : Nx da F H F' H' g) (h : SlotOk K cl F H da sv c) : SlotOk K cl F' H' da sv c := by
  cases c with
  | und => trivial
  | val d => obtain ⟨v, e, h⟩ := h; exact ⟨v, e, h.mono n.fr⟩
  | own ds => obtain ⟨a, e, h⟩ := h; exact ⟨a, e, h.nx n⟩
  | drw => exact h
  | exn c => obtain ⟨a, e, h⟩ := h; exact ⟨a, e, n.fr _ _ h⟩
  | scr ns => obtain ⟨a, e, h, l⟩ := h; exact ⟨a, e, n.fr.seq h, l⟩
theorem Rep.nx {K : PySem.W.Frag} {F H F' H' : Hp} {da : DA} {g g' : G} {σ : St} {r : Env} (h : Rep K cl F H da σ r g) (n : Nx da F H F' H' g') : Rep K cl F' H' da σ r g' :=
  ⟨n.sub, n.gok, fun i c e => (h.slot i c e).nx n, h.len, h.apart, fun b d => by
    obtain ⟨o, e⟩ := h.gok.has d
    exact n.new b o e (h.nod b d)⟩
/-- a value is stored -/
theorem Rep.set {K : PySem.W.Frag} {F H : Hp} {da : DA} {g : G} {σ : St} {r : Env} {i : Nat} {v : V} {d : D} (h : Rep K cl F H da σ r g) (q : Rp F v d) : Rep K cl F H da (σ.set i (some v)) (r.set i (.val d)) g := by
  refine ⟨h.sub, h.gok, fun j c e => ?_, by rw [List.length_set, List.length_set]; exact h.len, fun j k a ds es e1 e2 e3 e4 => ?_, h.nod⟩
  · by_cases hj : i = j
    · subst hj
      have hr : i < r.length := by
        by_cases hr : i < r.length
        · exact hr
        · rw [List.getElem?_eq_none (by simpa using hr)] at e; cases e
      rw [List.getElem?_set_self (by rw [← h.len]; exact hr)]
      rw [List.getElem?_set_self hr] at e
      cases e
      exact ⟨v, rfl, q⟩
    · rw [List.getElem?_set_ne hj] at e ⊢
      exact h.slot j c e
  · have hj : i ≠ j := fun z => by
      subst z
      have hr : i < r.length := by
        by_cases hr : i < r.length
        · exact hr
        · rw [List.getElem?_eq_none (by simpa using hr)] at e1; cases e1
      rw [List.getElem?_set_self hr] at e1
      cases e1
    have hk : i ≠ k := fun z => by
      subst z
      have hr : i < r.length := by
        by_cases hr : i < r.length
        · exact hr
        · rw [List.getElem?_eq_none (by simpa using hr)] at e2; cases e2
      rw [List.getElem?_set_self hr] at e2
      cases e2
    rw [List.getElem?_set_ne hj] at e1 e3
    rw [List.getElem?_set_ne hk] at e2 e4
    exact h.apart j k a ds es e1 e2 e3 e4
/-- a slot is forgotten -/
theorem Rep.wipe {K : PySem.W.Frag} {F H : Hp} {da : DA} {g : G} {σ : St} {r : Env} (h : Rep K cl F H da σ r g) (i : Nat) (o : Option V) : Rep K cl F H da (σ.set i o) (r.set i .und) g := by
  refine ⟨h.sub, h.gok, fun j c e => ?_, by rw [List.length_set, List.length_set]; exact h.len, fun j k a ds es e1 e2 e3 e4 => ?_, h.nod⟩
  · by_cases hj : i = j
    · subst hj
      have hr : i < r.length := by
        by_cases hr : i < r.length
        · exact hr
        · rw [List.getElem?_eq_none (by simpa using hr)] at e; cases e
      rw [List.getElem?_set_self hr] at e
      cases e
      trivial
    · rw [List.getElem?_set_ne hj] at e ⊢
      exact h.slot j c e
  · have hj : i ≠ j := fun z => by
      subst z
      have hr : i < r.length := by
        by_cases hr : i < r.length
        · exact hr
        · rw [List.getElem?_eq_none (by simpa using hr)] at e1; cases e1
      rw [List.getElem?_set_self hr] at e1
      cases e1
    have hk : i ≠ k := fun z => by
      subst z
      have hr : i < r.length := by
        by_cases hr : i < r.length
        · exact hr
        · rw [List.getElem?_eq_none (by simpa using hr)] at e2; cases e2
      rw [List.getElem?_set_self hr] at e2
      cases e2
    rw [List.getElem?_set_ne hj] at e1 e3
    rw [List.getElem?_set_ne hk] at e2 e4
    exact h.apart j k a ds es e1 e2 e3 e4
/-! ### a reading from an evaluation -/
/-- what is wanted behind an evaluation -/
def Post {α β : Type} (cl : Cls) (W : WX) (σ : St) (rel : Hp → Hp → DA → β → α → Prop) (da : DA) (F H : Hp) (Q : β → Hp → Prop) : R α → Prop
  | .ok d g' => ∀ v F' H', Nx da F H F' H' g' → rel F' H' da v d → Q v H'
  | .exc c g' => ∀ F' H', Nx da F H F' H' g' → W (.ref (cl c)) none σ H'
  | .bad => False
def tM {α β : Type} (K : PySem.W.Frag) (cl : Cls) (W : WX) (rel : Hp → Hp → DA → β → α → Prop) (m : Env → G → R α) : St → Hp → (β → Hp → Prop) → Prop := fun σ H Q =>
  ∃ F da r g, Rep K cl F H da σ r g ∧ Post cl W σ rel da F H Q (m r g)
abbrev relE : Hp → Hp → DA → V → D → Prop := fun F _ _ v d => Rp F v d
abbrev relC : Hp → Hp → DA → V → D → Prop := fun F H da v d => Cp F H da v d
abbrev relT : Hp → Hp → DA → Bool → Bool → Prop := fun _ _ _ b d => b = d
def ArgOk (cl : Cls) (F : Hp) (da : DA) (v : V) : Cell → Prop
  | .val d => Rp F v d
  | .drw => ∃ p, da = some p ∧ v = .ref p.1
  | .exn c => ∃ a, v = .ref a ∧ F a = some (ExH (.ref (cl c)) none a)
  | _ => False
inductive ArgsOk (cl : Cls) (F : Hp) (da : DA) : List V → List Cell → Prop
  | nil : ArgsOk cl F da [] []
  | cons {v : V} {vs : List V} {c : Cell} {cs : List Cell} : ArgOk cl F da v c → ArgsOk cl F da vs cs → ArgsOk cl F da (v :: vs) (c :: cs)
theorem ArgOk.mono {F F' : Hp} {da : DA} {v : V} {c : Cell} (s : Same F F') (h : ArgOk cl F da v c) : ArgOk cl F' da v c := by
  cases c with
  | val d => exact Rp.mono s h
  | drw => exact h
  | exn c => obtain ⟨a, e, h⟩ := h; exact ⟨a, e, s _ _ h⟩
  | _ => exact h
theorem ArgsOk.mono {F F' : Hp} {da : DA} (s : Same F F') : ∀ {vs : List V} {cs : List Cell}, ArgsOk cl F da vs cs → ArgsOk cl F' da vs cs
  | _, _, .nil => .nil
  | _, _, .cons h t => .cons (h.mono s) (ArgsOk.mono s t)
abbrev relA (cl : Cls) : Hp → Hp → DA → List V → List Cell → Prop := fun F _ da vs cs => ArgsOk cl F da vs cs
section
variable {K : PySem.W.Frag} {cl : Cls} {W : WX} {σ : St} {da : DA}
theorem Post.nx {α β : Type} {rel : Hp → Hp → DA → β → α → Prop} {F H F1 H1 : Hp} {g1 : G} {Q : β → Hp → Prop} {x : R α} (n : Nx da F H F1 H1 g1) (h : Post cl W σ rel da F H Q x) : Post cl W σ rel da F1 H1 Q x := by
  cases x with
  | ok d g' => exact fun v F' H' n2 => h v F' H' (n.trans n2)
  | exc c g' => exact fun F' H' n2 => h F' H' (n.trans n2)
  | bad => exact h
/-- go on behind a part of an evaluation -/
theorem Post.bind {α β α' β' : Type} {rel : Hp → Hp → DA → β → α → Prop} {rel' : Hp → Hp → DA → β' → α' → Prop} {x : R α} {f : α → G → R α'} {F H : Hp} {Q : β' → Hp → Prop} {Q' : β → Hp → Prop}
    (h : Post cl W σ rel' da F H Q (x.bind f))
    (k : ∀ (a : α) (g1 : G) (v : β) (F1 H1 : Hp), Nx da F H F1 H1 g1 → rel F1 H1 da v a → Post cl W σ rel' da F1 H1 Q (f a g1) → Q' v H1) : Post cl W σ rel da F H Q' x := by
  cases x with
  | ok a g1 => exact fun v F1 H1 n rl => k a g1 v F1 H1 n rl (Post.nx n h)
  | exc c g' => exact h
  | bad => exact h
theorem Post.imp {α β : Type} {rel : Hp → Hp → DA → β → α → Prop} {F H : Hp} {Q Q' : β → Hp → Prop} {x : R α} (h : Post cl W σ rel da F H Q x) (k : ∀ v H1, Q v H1 → Q' v H1) : Post cl W σ rel da F H Q' x := by
  cases x with
  | ok d g' => exact fun v F' H' n2 r => k v H' (h v F' H' n2 r)
  | exc c g' => exact h
  | bad => exact h
/-- the last step is an operation that lays at most something new -/
theorem Post.al {F H : Hp} {g : G} {o : Option D} {Q : VK} (gk : GOk H g da) (h : Post cl W σ (fun F _ _ v d => Rp F v d) da F H Q (R.of g o)) : ∃ dz, o = some dz ∧ ∀ v F' H', Al F H F' H' → Rp F' v dz → Q v H' := by
  cases o with
  | none => exact h.elim
  | some dz => exact ⟨dz, rfl, fun v F' H' a r => h v F' H' (Nx.of_al gk a) r⟩
end
theorem impE {X : Cx} {e : Expr} {t t' : TE} (h : PE X e t) (k : ∀ σ H Q, t' σ H Q → t σ H Q) : PE X e t' := ⟨fun pins s σ H Q I q => h.run pins s σ H Q I (k σ H Q q)⟩
theorem impT {X : Cx} {e : Expr} {t t' : TT} (h : PT X e t) (k : ∀ σ H Q, t' σ H Q → t σ H Q) : PT X e t' := ⟨fun pins s σ H Q I q => h.run pins s σ H Q I (k σ H Q q)⟩
theorem impA {X : Cx} {e : List Expr} {t t' : TA} (h : PA X e t) (k : ∀ σ H Q, t' σ H Q → t σ H Q) : PA X e t' := ⟨fun pos pins s σ H Q I q => h.run pos pins s σ H Q I (k σ H Q q)⟩
theorem impI {X : Cx} {tg e : Expr} {t t' : TI} (h : PI X tg e t) (k : ∀ σ H Q, t' σ H Q → t σ H Q) : PI X tg e t' := ⟨fun pins s σ H Q I q => h.run pins s σ H Q I (k σ H Q q)⟩
theorem impS {X : Cx} {e : Stmt} {t t' : TS} (h : PS X e t) (k : ∀ D σ H, t' D σ H → t D σ H) : PS X e t' := ⟨fun pins s σ H D I q => h.run pins s σ H D I (k D σ H q)⟩
theorem impSs {X : Cx} {e : List Stmt} {t t' : TS} (h : PSs X e t) (k : ∀ D σ H, t' D σ H → t D σ H) : PSs X e t' := ⟨fun pins s σ H D I q => h.run pins s σ H D I (k D σ H q)⟩
section
variable {K : PySem.W.Frag} {cl : Cls} {W : WX} {Φ : Nat → Fn}
abbrev tE (K : PySem.W.Frag) (cl : Cls) (W : WX) (Φ : Nat → Fn) (e : E) : TE := tM K cl W relE (evE Φ e)
abbrev tC (K : PySem.W.Frag) (cl : Cls) (W : WX) (Φ : Nat → Fn) (e : E) : TE := tM K cl W relC (evC Φ e)
abbrev tT (K : PySem.W.Frag) (cl : Cls) (W : WX) (Φ : Nat → Fn) (e : E) : TT := tM K cl W relT (evT Φ e)
abbrev tA (K : PySem.W.Frag) (cl : Cls) (W : WX) (Φ : Nat → Fn) (e : E) : TA := tM K cl W (relA cl) (evA Φ e)
theorem rd_un {o : Un} {a : E} {r1 : V → Hp → VK → Prop} (s1 : S1 o r1) {σ : St} {H : Hp} {Q : VK} (h : tE K cl W Φ (.un o a) σ H Q) : tC K cl W Φ a σ H (fun x H1 => r1 x H1 Q) := by
  obtain ⟨F, da, r, g, Rr, h⟩ := h
  have h : Post cl W σ relE da F H Q ((evC Φ a r g).bind fun d g => R.of g (uop o d)) := h
  refine ⟨F, da, r, g, Rr, Post.bind h fun d g1 v F1 H1 n c q => ?_⟩
  obtain ⟨dz, e, k⟩ := Post.al n.gok q
  exact s1 F1 H1 da v d dz Q n.sub c e k
theorem rd_bi {o : Bi} {a b : E} {r2 : R2} (s2 : S2 o r2) {σ : St} {H : Hp} {Q : VK} (h : tE K cl W Φ (.bi o a b) σ H Q) : tC K cl W Φ a σ H (fun x H1 => tC K cl W Φ b σ H1 fun y H2 => r2 x y H2 Q) := by
  obtain ⟨F, da, r, g, Rr, h⟩ := h
  have h : Post cl W σ relE da F H Q ((evC Φ a r g).bind fun x g => match preB o x with
    | true => (evC Φ b r g).bind fun y g => R.of g (bop o x y)
    | false => .bad) := h
  refine ⟨F, da, r, g, Rr, Post.bind h fun d g1 v F1 H1 n c q => ?_⟩
  cases pb : preB o d with
  | false => simp only [pb] at q; exact q.elim
  | true =>
  simp only [pb] at q
  refine ⟨F1, da, r, g1, Rr.nx n, Post.bind q fun e g2 u F2 H2 n2 c2 q2 => ?_⟩
  obtain ⟨dz, e3, k⟩ := Post.al n2.gok q2
  exact s2 F2 H2 da v u d e dz Q n2.sub (c.nx n2) c2 e3 k
end
end Tl
end
section
set_option Elab.async false
set_option linter.all false
set_option autoImplicit false
set_option maxRecDepth 100000
namespace Tl
open PySem PySem.Spec PyProof.Rows
/-! ### set(xs) of keys of any kind -/
theorem dd_snoc {α : Type} [BEq α] (l : List α) (x : α) : dd (l ++ [x]) = if (dd l).any (· == x) then dd l else dd l ++ [x] := by
  unfold dd
  rw [List.foldl_append]
  rfl
theorem dd_le {α : Type} [BEq α] (l : List α) : (dd l).length ≤ l.length := by
  have h : ∀ (l s : List α), (l.foldl (fun s k => if s.any (· == k) then s else s ++ [k]) s).length ≤ s.length + l.length := by
    intro l
    induction l with
    | nil => intro s; simp
    | cons x r ih =>
      intro s
      rw [List.foldl_cons]
      refine Nat.le_trans (ih _) ?_
      split <;> simp <;> omega
  have q := h l []
  simpa [dd] using q
theorem dd_any_snoc {α : Type} [DecidableEq α] [BEq α] [LawfulBEq α] (l : List α) (x k : α) : (dd (l ++ [x])).any (· == k) = ((dd l).any (· == k) || decide (k = x)) := by
  rw [dd_snoc]
  by_cases h : (dd l).any (· == x) = true
  · rw [if_pos h]
    by_cases e : k = x
    · subst e; rw [h]; simp
    · simp [e]
  · rw [if_neg h, List.any_append]
    by_cases e : k = x
    · subst e; simp
    · have z : (x == k) = false := by simpa [beq_iff_eq] using (fun q : x = k => e q.symm)
      simp [z, e]
section
variable {prog : Program} {w : World} {κ : Type} [DecidableEq κ] [BEq κ] [LawfulBEq κ] {A : Around} {I : Addr} {n : Nat} {fp wr : List Addr} {G : Array GenState → Array GenState → Prop} {P : Nat → Value → Prop} {St : Nat → Shared → Prop} {R : Result → Shared → Prop}
theorem up_loop (kd : KeyKind prog w κ) (Wk : WalksS prog w A.in1 I fp wr G n P St) (c : Addr) (nc : c ∉ fp) (xs : List κ) (ln : xs.length = n) (small : n ≤ 1000)
    (at_ : ∀ i v, P i v → ∃ x, xs[i]? = some x ∧ kd.is x v = true ∧ v.scannable = true) :
    ∀ (k i : Nat) (s : Shared), n - i = k → i ≤ n → St i s → s.heap.SetOf kd c (fun q => (dd (xs.take i)).any (· == q)) (dd (xs.take i)).length →
      (∀ s', Moved (c :: wr) G s s' → s'.heap.SetOf kd c (fun q => (dd xs).any (· == q)) (dd xs).length → R (.ok (.ret .none)) s') →
      codeAny (model prog w) A (.builtin "set.update.loop" ⟨[.ref c, .ref I], []⟩) R s := by
  have cw : c ∉ wr := fun z => nc (Wk.sub _ z)
  have sb : ∀ b ∈ wr, b ∈ c :: wr := fun b z => List.mem_cons_of_mem _ z
  intro k
  induction k with
  | zero =>
    intro i s e1 e2 st hs hR
    obtain rfl : i = n := by omega
    refine codeAny_builtin F.entry_set_update_loop ?_
    rw [Around.under_plainId F.plain_set_update_loop _]
    show wpAny _ A.in1 (pyNext (.ref I) >>= _) _ _ s
    refine wpAny_bind (Wk.done s _ _ st fun s' mv => ?_)
    show wpAny _ A.in1 (ret Value.none) _ _ s'
    have tk : xs.take i = xs := List.take_of_length_le (by omega)
    rw [tk] at hs
    obtain ⟨o, es, ep, t, ho, rest⟩ := hs
    exact wpAny_pure (hR s' (mv.mono sb) ⟨o, es, ep, t, mv.heap c _ cw ho, rest⟩)
  | succ k ih =>
    intro i s e1 e2 st hs hR
    have lt : i < n := by omega
    refine codeAny_builtin F.entry_set_update_loop ?_
    rw [Around.under_plainId F.plain_set_update_loop _]
    show wpAny _ A.in1 (pyNext (.ref I) >>= _) _ _ s
    refine wpAny_bind (Wk.item i s _ _ lt st fun v s' pv st' mv => ?_)
    obtain ⟨x, hx, isx, isc⟩ := at_ i v pv
    have hs2 : s'.heap.SetOf kd c (fun q => (dd (xs.take i)).any (· == q)) (dd (xs.take i)).length := by
      obtain ⟨o, es, ep, t, ho, rest⟩ := hs
      exact ⟨o, es, ep, t, mv.heap c _ cw ho, rest⟩
    show wpAny _ A.in1 (holding [v] (setAdd c v) >>= _) _ _ s'
    refine wpAny_bind (wpAny_holding ?_)
    unfold setAdd
    refine wpAny_holding (wpAny_bind (kd.pyHash (k := x) isx ?_))
    have room : (dd (xs.take i)).length + 1 < scanBound := by
      have := dd_le (xs.take i)
      rw [List.length_take] at this
      unfold scanBound
      omega
    have tk : xs.take (i + 1) = xs.take i ++ [x] := by
      rw [List.take_add_one, hx]
      rfl
    refine wpAny_setAddHashed_of (knd := kd) (s := { s' with toks := s'.toks + 1 }) isx isc hs2 room fun h' hk hs3 => ?_
    have hs4 : h'.SetOf kd c (fun q => (dd (xs.take (i + 1))).any (· == q)) (dd (xs.take (i + 1))).length :=
      SetOf_congr hs3 (fun q => by rw [tk, dd_any_snoc]) (by rw [tk, dd_snoc]; split <;> simp_all)
    refine wpAny_pure ⟨plainId_quiet F.plain_set_update_loop _, ih (i + 1) _ (by omega) lt (Wk.frame _ s' _ _ st' (Nat.le_succ _) fun b hb o e => ?_) hs4 fun s2 mv2 hs5 => ?_⟩
    · rw [hk.2 b (fun z : b = c => nc (z ▸ hb))]; exact e
    · refine hR s2 (Moved.trans Wk.gtrans ((mv.mono sb).then_heap (Nat.le_succ _) fun b o hb e => ?_) mv2) hs5
      rw [hk.2 b (fun z : b = c => hb (z ▸ List.mem_cons_self))]; exact e
end
abbrev eSet (led : Bool) : Obj := { cls := .type "set", dict := none, data := .set #[] 0 (.fresh 0 0 led) }
set_option maxHeartbeats 3200000 in
theorem call_set_keys {prog : Program} {w : World} {κ : Type} [DecidableEq κ] [BEq κ] [LawfulBEq κ] (kd : KeyKind prog w κ) {A : Around} {E : Value → Shared → Prop} {s : Shared} {l : Addr} {its : Array Value} {xs : List κ} {Q : Value → Shared → Prop} (hh : A.handled = none) (hl : s.heap.IsList l its)
    (ln : xs.length = its.size) (at_ : ∀ (i : Nat) (v : Value), its[i]? = some v → ∃ x, xs[i]? = some x ∧ kd.is x v = true ∧ v.scannable = true) (small : xs.length ≤ 1000)
    (h : ∀ (h' : Heap) (tk : Nat), h'.SetOf kd s.heap.objs.size (fun k => (dd xs).any (· == k)) (dd xs).length → (∀ b o, b < s.heap.objs.size → s.heap.get? b = some o → h'.get? b = some o) → Q (.ref s.heap.objs.size) { s with heap := h', toks := tk }) :
    wpAny (model prog w) A (call (.type "set") [.ref l]) Q E s := by
  obtain ⟨c1, tl, hmro⟩ := PySem.F.called_set.mro
  have q1 := PySem.F.called_set.made
  have q2 := PySem.F.called_set.sub
  refine wpAny_call (codeAny_of_tree ?_)
  show wpAny _ _ (callAny (.type "set") _) _ _ _
  refine wpAny_pure ⟨Code.quiet_builtin _ (by decide +kernel), codeAny_builtin PySem.F.entry_type_call ?_⟩
  rw [Around.under_plain (weight_type_call_type "set" [.ref l] []) rfl]
  have q3 := PySem.F.called_set.notType
  have q4 := PySem.F.called_set.canCreate
  have q5 := PySem.F.typeCall_set_1 (.ref l)
  repeat (first | with_reducible assumption | (first
      | with_reducible (first | refine wpAny_pure ?_ | refine wpAny_bind ?_ | refine wpAny_of_eq (by assumption) ?_ | refine wpAny_holding ?_ | refine wpAny_typeOf (by assumption) ?_ | refine wpAny_run ?_ | refine wpAny_runValue ?_ | refine wpAny_call ?_)
      | with_reducible (first | refine wpAny_standAt ?_ | refine wpAny_point ?_ | refine wpAny_rule ?_ | refine wpAny_letGo ?_ | refine wpAny_attempt ?_ | refine wpAny_throw ?_)
      | with_reducible (first | refine wpAny_specialOf_val (by assumption) (by assumption) ?_ | refine wpAny_specialOf (by assumption) (by assumption) ?_ | refine wpAny_isInstance_val (by assumption) (by assumption) ?_ | refine wpAny_isInstance (by assumption) (by assumption) ?_)
      | wp_delta
      | ((with_reducible apply wpAny_ite_false); focus (first | rfl | (simp [*]; done)))
      | ((with_reducible apply wpAny_ite_true); focus (first | rfl | (simp [*]; done)))
      | ((with_reducible apply wpAny_load'); focus (heap_get; done))
      | ((with_reducible apply wpAny_loadPart'); focus (heap_get; done))
      | ((with_reducible apply wpAny_update'); focus (heap_get; done))
      | ((with_reducible apply wpAny_updatePart'); focus (heap_get; done))
      | ((with_reducible apply wpAny_handled_none); focus (assumption; done))))
  refine codeAny_mono (code_set_new_1 (.ref l) (E := E) (Q₁ := fun obj s1 => ∃ led : Bool, obj = .ref s.heap.objs.size ∧ s1 = { s with heap := s.heap.push (eSet led) }) fun led => ⟨led, rfl, rfl⟩) fun r s1 hr => ?_
  match r, hr with
  | .error e, hr => exact hr
  | .ok (.ret obj), hr =>
    obtain ⟨led, rfl, rfl⟩ := hr
    have gS : (s.heap.push (eSet led)).get? s.heap.objs.size = some (eSet led) := Heap.get?_push_size _ rfl
    have tS : Shared.TypeIs { s with heap := s.heap.push (eSet led) } (.ref s.heap.objs.size) "set" := ⟨_, gS, rfl⟩
    have q6 := PySem.F.called_set.init.lookup
    have q7 := PySem.F.called_set.init.bind (.ref s.heap.objs.size)
    repeat (first | with_reducible assumption | (first
        | with_reducible (first | refine wpAny_pure ?_ | refine wpAny_bind ?_ | refine wpAny_of_eq (by assumption) ?_ | refine wpAny_holding ?_ | refine wpAny_typeOf (by assumption) ?_ | refine wpAny_run ?_ | refine wpAny_runValue ?_ | refine wpAny_call ?_)
        | with_reducible (first | refine wpAny_standAt ?_ | refine wpAny_point ?_ | refine wpAny_rule ?_ | refine wpAny_letGo ?_ | refine wpAny_attempt ?_ | refine wpAny_throw ?_)
        | with_reducible (first | refine wpAny_specialOf_val (by assumption) (by assumption) ?_ | refine wpAny_specialOf (by assumption) (by assumption) ?_ | refine wpAny_isInstance_val (by assumption) (by assumption) ?_ | refine wpAny_isInstance (by assumption) (by assumption) ?_)
        | wp_delta
        | ((with_reducible apply wpAny_ite_false); focus (first | rfl | (simp [*]; done)))
        | ((with_reducible apply wpAny_ite_true); focus (first | rfl | (simp [*]; done)))
        | ((with_reducible apply wpAny_load'); focus (heap_get; done))
        | ((with_reducible apply wpAny_loadPart'); focus (heap_get; done))
        | ((with_reducible apply wpAny_update'); focus (heap_get; done))
        | ((with_reducible apply wpAny_updatePart'); focus (heap_get; done))
        | ((with_reducible apply wpAny_handled_none); focus (assumption; done))))
    refine codeAny_mono (codeAny_call_builtin (R := wants (fun r s2 => r = .none ∧ ∃ h' tk, s2 = { s with heap := h', toks := tk } ∧
        h'.SetOf kd s.heap.objs.size (fun k => (dd xs).any (· == k)) (dd xs).length ∧ (∀ b o, b < s.heap.objs.size → s.heap.get? b = some o → h'.get? b = some o)) E) PySem.F.called_set.init.plain PySem.F.entry_set_init (check_set_init_1 tS ?_)) fun r2 s2 hr2 => ?_
    · obtain ⟨⟨ocls, odict, odata, oslots⟩, g1, g2, nl, g3⟩ := hl
      simp only at g2 g3
      subst g2; subst g3
      have g4 : (s.heap.push (eSet led)).get? l = some { cls := .type "list", dict := odict, data := .seq its nl, slots := oslots } := Heap.get?_push_of_some _ g1
      have u1 := PySem.F.sub_list_set
      have u2 := PySem.F.sub_list_frozenset
      have u3 : (Value.type "list" == Value.type "dict") = false := by decide
      have g5 : (s.heap.push (eSet led)).IsList l its := ⟨_, g4, rfl, nl, rfl⟩
      unfold Builtin.«set.__init__» noKeywords Builtin.Frozenset.updateFrom
      generalize hPI : pyIter = PI
      repeat (first
          | with_reducible (first | refine wpAny_pure ?_ | refine wpAny_bind ?_ | refine wpAny_of_eq (by assumption) ?_ | refine wpAny_holding ?_ | refine wpAny_typeOf (by assumption) ?_ | refine wpAny_run ?_ | refine wpAny_runValue ?_ | refine wpAny_call ?_)
          | with_reducible (first | refine wpAny_standAt ?_ | refine wpAny_point ?_ | refine wpAny_rule ?_ | refine wpAny_letGo ?_ | refine wpAny_attempt ?_ | refine wpAny_throw ?_)
          | with_reducible (first | refine wpAny_specialOf_val (by assumption) (by assumption) ?_ | refine wpAny_specialOf (by assumption) (by assumption) ?_ | refine wpAny_isInstance_val (by assumption) (by assumption) ?_ | refine wpAny_isInstance (by assumption) (by assumption) ?_)
          | wp_delta
          | ((with_reducible apply wpAny_ite_false); focus (first | rfl | (simp [*]; done)))
          | ((with_reducible apply wpAny_ite_true); focus (first | rfl | (simp [*]; done)))
          | ((with_reducible apply wpAny_load'); focus (heap_get; done))
          | ((with_reducible apply wpAny_loadPart'); focus (heap_get; done))
          | ((with_reducible apply wpAny_update'); focus (heap_get; done))
          | ((with_reducible apply wpAny_updatePart'); focus (heap_get; done))
          | ((with_reducible apply wpAny_handled_none); focus (assumption; done)))
      subst hPI
      refine wpAny_pyIter_list g5 (wpAny_bind (wpAny_runValue ?_))
      have lS : l < s.heap.objs.size := Heap.lt_size g1
      have h3 : A.in1.in1.in1.handled = none := by simp [hh]
      have nI : l ≠ (s.heap.push (eSet led)).objs.size := by
        rw [Heap.size_push]; exact Nat.ne_of_lt (Nat.lt_succ_of_lt lS)
      have nS : s.heap.objs.size ∉ [(s.heap.push (eSet led)).objs.size, l] := by
        rw [Heap.size_push]; simp only [List.mem_cons, List.not_mem_nil, or_false, not_or]; exact ⟨Nat.ne_of_lt (Nat.lt_succ_self _), Nat.ne_of_gt lS⟩
      refine up_loop kd ((Walks.list h3 _ l nI its).toS) s.heap.objs.size nS xs ln (by omega) (fun i v hv => at_ i v hv) (its.size - 0) 0 _ (by omega) (Nat.zero_le _)
        ⟨⟨_, Heap.get?_push_size _ rfl, rfl, rfl⟩, g5.push _⟩ ?_ ?_
      · have hget : ((s.heap.push (eSet led)).push { cls := .type "list_iterator", data := .fields #[.ref l, .int 0 0] }).get? s.heap.objs.size = some (eSet led) := Heap.get?_push_of_some _ gS
        exact SetOf_congr ((setObjOf_fresh (knd := kd) led).setOf hget (by unfold scanBound; omega)) (fun _ => rfl) rfl
      · intro s' hm hS'
        obtain ⟨h', g', d', tk', os'⟩ := s'
        have eg : g' = s.gens := hm.gens
        have ed : d' = s.drawn := hm.drawn
        have eo : os' = s.os := hm.os
        subst eg; subst ed; subst eo
        show wpAny _ _ _ _ _ _
        refine wpAny_pure ?_
        show wpAny _ _ (ret Value.none) _ _ _
        refine wpAny_pure ⟨rfl, h', tk', rfl, hS', fun b o hb e => ?_⟩
        refine hm.heap b o ?_ (Heap.get?_push_of_some _ (Heap.get?_push_of_some _ e))
        simp only [List.mem_cons, List.not_mem_nil, or_false, not_or]
        rw [Heap.size_push]
        exact ⟨Nat.ne_of_lt hb, Nat.ne_of_lt (Nat.lt_succ_of_lt hb)⟩
    · match r2, hr2 with
      | .error e, hr2 => exact hr2
      | .ok (.ret r), hr2 =>
        obtain ⟨rfl, h', tk, rfl, hS', hk'⟩ := hr2
        repeat (first | with_reducible assumption | (first
            | with_reducible (first | refine wpAny_pure ?_ | refine wpAny_bind ?_ | refine wpAny_of_eq (by assumption) ?_ | refine wpAny_holding ?_ | refine wpAny_typeOf (by assumption) ?_ | refine wpAny_run ?_ | refine wpAny_runValue ?_ | refine wpAny_call ?_)
            | with_reducible (first | refine wpAny_standAt ?_ | refine wpAny_point ?_ | refine wpAny_rule ?_ | refine wpAny_letGo ?_ | refine wpAny_attempt ?_ | refine wpAny_throw ?_)
            | with_reducible (first | refine wpAny_specialOf_val (by assumption) (by assumption) ?_ | refine wpAny_specialOf (by assumption) (by assumption) ?_ | refine wpAny_isInstance_val (by assumption) (by assumption) ?_ | refine wpAny_isInstance (by assumption) (by assumption) ?_)
            | wp_delta
            | ((with_reducible apply wpAny_ite_false); focus (first | rfl | (simp [*]; done)))
            | ((with_reducible apply wpAny_ite_true); focus (first | rfl | (simp [*]; done)))
            | ((with_reducible apply wpAny_load'); focus (heap_get; done))
            | ((with_reducible apply wpAny_loadPart'); focus (heap_get; done))
            | ((with_reducible apply wpAny_update'); focus (heap_get; done))
            | ((with_reducible apply wpAny_updatePart'); focus (heap_get; done))
            | ((with_reducible apply wpAny_handled_none); focus (assumption; done))))
        exact h _ _ hS' hk'
      | .ok .next, hr2 => exact hr2.elim
      | .ok .brk, hr2 => exact hr2.elim
      | .ok .cont, hr2 => exact hr2.elim
  | .ok .next, hr => exact hr.elim
  | .ok .brk, hr => exact hr.elim
  | .ok .cont, hr => exact hr.elim
end Tl
end
section
set_option Elab.async false
set_option linter.all false
set_option autoImplicit false
set_option maxRecDepth 100000
namespace Tl
open PySem PySem.Spec PyProof.Rows L2
/-! ### sorted, of data that are alike -/
theorem each_zip {F : Hp} : ∀ {xs : List V} {ds : List D} {us : List Value}, RpAll F xs ds → Vals xs us → PySem.W.EachIs (fun (u : Value) (p : V × D) => RelV p.1 u ∧ Rp F p.1 p.2) us (xs.zip ds)
  | _, _, _, .nil, .nil => .nil
  | _, _, _, .cons h t, .cons r q => .cons ⟨r, h⟩ (each_zip t q)
theorem zip_snd {F : Hp} : ∀ {xs : List V} {ds : List D}, RpAll F xs ds → (xs.zip ds).map Prod.snd = ds
  | _, _, .nil => rfl
  | _, _, .cons h t => by
    rw [List.zip_cons_cons, List.map_cons, zip_snd t]
theorem vals_each {F : Hp} : ∀ {us : List Value} {ps : List (V × D)}, PySem.W.EachIs (fun (u : Value) (p : V × D) => RelV p.1 u ∧ Rp F p.1 p.2) us ps → Vals (ps.map Prod.fst) us ∧ RpAll F (ps.map Prod.fst) (ps.map Prod.snd)
  | _, _, .nil => ⟨.nil, .nil⟩
  | _, _, .cons h t => ⟨.cons h.1 (vals_each t).1, .cons h.2 (vals_each t).2⟩
theorem sortOk_alike {ds : List D} (h : sortOk ds = true) : PySem.W.AllAlike ds := by
  unfold sortOk at h
  simp only [Bool.and_eq_true, List.all_eq_true] at h
  exact fun d hd e he => h.1.1 d hd e he
theorem sortOk_able {ds : List D} (h : sortOk ds = true) : PySem.W.Sortable ds := by
  unfold sortOk at h
  simp only [Bool.and_eq_true, Bool.or_eq_true, List.all_eq_true] at h
  rcases h.1.2 with q | q
  · refine .inl fun d hd => ?_
    have z := q d hd
    split at z
    · exact ⟨_, _, rfl⟩
    · cases z
  · refine .inr fun d hd => ?_
    have z := q d hd
    split at z
    · cases z
    · cases z
    · rename_i h1 h2
      exact ⟨h1, fun xs e => h2 xs e⟩
theorem sortOk_shp {ds : List D} (h : sortOk ds = true) : ∀ d ∈ ds, d.depth ≤ 60 := by
  unfold sortOk at h
  simp only [Bool.and_eq_true, List.all_eq_true] at h
  exact fun d hd => of_decide_eq_true (h.2 d hd)
def rSortD (K : PySem.W.Frag) : V → Hp → VK → Prop := fun x H Q => ∃ (F : Hp) (a : Addr) (xs : List V) (ds : List D), Same F H ∧ x = .ref a ∧ SqL K H a xs ∧ RpAll F xs ds ∧ sortOk ds = true ∧ ds.length ≤ lim ∧
  ∀ p ys, H p = none → RpAll F ys (sortD ds) → Q (.ref p) (upd H p (.lst ys))
theorem cr_sortD {X : Cx} (hu : X.A.units + 64 < cLine) : CallR X (.builtin "sorted") (fun xs H Q => ∃ x, xs = [x] ∧ rSortD X.K x H Q) := by
  intro pins s σ H xs us Q I r h
  obtain ⟨x, rfl, F, a, vs, ds, sF, rfl, hs, ra, ok, hl, q⟩ := h
  obtain ⟨u, rfl, rx⟩ := vals1 r
  cases rx
  obtain ⟨its, rv, pl, hz⟩ := I.list hs
  obtain ⟨as, rds⟩ := Dp.readsAll I ds vs its (ra.dp sF) rv
  have ez := each_zip ra rv
  have em : (vs.zip ds).map Prod.snd = ds := zip_snd ra
  have er : PySem.W.EachIs (fun (v : Value) (b : V × D) => ∃ as, Reads s.heap v (Prod.snd b) as) its (vs.zip ds) := PySem.W.readsAll_each (h := s.heap) (vs := its) (as := as) Prod.snd (by rw [em]; exact rds)
  have hlen : (vs.zip ds).length = ds.length := by rw [← List.length_map (f := Prod.snd), em]
  refine PySem.W.sorted_data (enc := Prod.snd) (bs := vs.zip ds) pl.isList ez er (by rw [em]; exact sortOk_alike ok) (by rw [em]; exact sortOk_able ok) (by rw [hlen]; exact lim_line' hl) (fun b hb => ?_) fun out ho eo => ?_
  · have hb2 : b.2 ∈ ds := by rw [← em]; exact List.mem_map_of_mem hb
    have := sortOk_shp ok _ hb2
    omega
  · obtain ⟨v1, v2⟩ := vals_each eo
    have e2 : ((vs.zip ds).mergeSort (PySem.W.dataLe false Prod.snd)).map Prod.snd = sortD ds := by
      rw [PySem.W.sort_maps (r := PySem.W.dataLe false Prod.snd) (s := PySem.W.dataLe false id) Prod.snd (fun _ _ _ _ => rfl), em]
      rfl
    rw [e2] at v2
    obtain ⟨ep, he'⟩ := PyProof.Rows.sortedAll_at s.heap its out.toArray
    have hlen2 : (((vs.zip ds).mergeSort (PySem.W.dataLe false Prod.snd)).map Prod.fst).length ≤ sizeLine := by
      rw [List.length_map, List.length_mergeSort, hlen]
      exact lim_line' hl
    exact ⟨.ref _, upd H (s.heap.objs.size + 1) (.lst _), I.laid (t' := s.toks) (fun _ _ => PyProof.Rows.sortedAll_old) (Nat.le_succ _) ⟨hlen2, out, ep, v1, he'⟩, rfl, q _ _ (I.hok.fresh (Nat.le_succ _)) v2⟩
theorem s1_sorted {K : PySem.W.Frag} : S1 .sorted (rSortD K) := by
  intro F H da x d dz Q s c e k
  cases d with
  | list ds =>
    obtain ⟨a, xs, h1, h2, h3, h4⟩ := c.list s
    simp only [uop] at e
    split at e
    · rename_i ok
      cases e
      exact ⟨F, a, xs, ds, s, h1, .inl (.inl h2), h3, ok, h4, fun p ys hp ry => new_lst s ry (by unfold sortD; rw [List.length_mergeSort]; exact h4) k p hp⟩
    · cases e
  | _ => simp [uop] at e
/-! ### min of texts -/
def rMinS (K : PySem.W.Frag) : V → Hp → VK → Prop := fun x H Q => ∃ (F : Hp) (a : Addr) (xs : List V) (ss : List Str) (z : Str), Same F H ∧ x = .ref a ∧ SqL K H a xs ∧ RpAll F xs (ss.map .str) ∧ minSt ss = some z ∧ Q (.str z) H
theorem minD_strs (x : Str) : ∀ r : List Str, PySem.W.minD (.str x) (r.map .str) = .str (r.foldl (fun a y => if PySem.W.dataLt (.str y) (.str a) then y else a) x) := by
  intro r
  unfold PySem.W.minD
  induction r generalizing x with
  | nil => rfl
  | cons y r ih =>
    rw [List.map_cons, List.foldl_cons, List.foldl_cons]
    by_cases h : PySem.W.dataLt (.str y) (.str x) = true
    · rw [if_pos h, if_pos h]
      exact ih y
    · rw [if_neg h, if_neg h]
      exact ih x
theorem cr_minS {X : Cx} (hc : X.calm = true) (hu : X.A.units + 64 < cLine) : CallR X (.builtin "min") (fun xs H Q => ∃ x, xs = [x] ∧ rMinS X.K x H Q) := by
  intro pins s σ H xs us Q I r h
  obtain ⟨x, rfl, F, a, vs, ss, z, sF, rfl, hs, ra, hm, q⟩ := h
  obtain ⟨u, rfl, rx⟩ := vals1 r
  cases rx
  obtain ⟨its, rv, pl, hz⟩ := I.list hs
  obtain ⟨as, rds⟩ := Dp.readsAll I (ss.map .str) vs its (ra.dp sF) rv
  cases ss with
  | nil => cases hm
  | cons s0 ss =>
    cases hm
    refine PySem.W.min_list_data (I.ok.hd hc) pl.isList (by simpa using rds) ?_ ?_ fun i v h' tk bs hi hr hk => ?_
    · refine ⟨fun d hd e he => ?_, fun d hd => ?_⟩
      · rw [← List.map_cons] at hd he
        obtain ⟨d', _, rfl⟩ := List.mem_map.mp hd
        obtain ⟨e', _, rfl⟩ := List.mem_map.mp he
        simp [PySem.W.alike]
      · rw [← List.map_cons] at hd
        obtain ⟨d', _, rfl⟩ := List.mem_map.mp hd
        exact fun z => by cases z
    · have : ∀ l : List Str, PyData.depthAll (l.map .str) = 0 := by
        intro l
        induction l with
        | nil => simp [PyData.depthAll]
        | cons x r ih => simp [PyData.depthAll, PyData.depth, ih]
      have := this (s0 :: ss)
      rw [List.map_cons] at this
      omega
    · have hi : its[i]? = some v := by simpa using hi
      have hlt : i < vs.length := by rw [rv.length]; exact (List.getElem?_eq_some_iff.mp hi).1
      have hw : vs[i]? = some vs[i] := List.getElem?_eq_getElem hlt
      obtain ⟨v', hv', rw'⟩ := rv.get hw
      have ev : v' = v := Option.some.inj (hv'.symm.trans hi)
      subst ev
      generalize vs[i] = w at *
      obtain ⟨d, hd, rp⟩ := ra.getV hw
      rw [List.getElem?_map] at hd
      cases hq : (s0 :: ss)[i]? with
      | none => rw [hq] at hd; cases hd
      | some t =>
        rw [hq] at hd
        cases hd
        cases rp
        obtain ⟨tk', rfl⟩ := rw'
        rw [minD_strs] at hr
        cases hr
        exact ⟨.str _, H, I.kept hk, ⟨tk', rfl⟩, q⟩
theorem s1_minS {K : PySem.W.Frag} : S1 .minS (rMinS K) := by
  intro F H da x d dz Q s c e k
  cases d with
  | list ds =>
    obtain ⟨a, xs, h1, h2, h3, h4⟩ := c.list s
    simp only [uop] at e
    cases q : toStrs ds with
    | none => rw [q] at e; cases e
    | some ss =>
      rw [q] at e
      cases q2 : minSt ss with
      | none => simp only [Option.bind_some, q2] at e; cases e
      | some z =>
        simp only [Option.bind_some, q2] at e
        cases e
        have eds : ds = ss.map .str := (rp_strs h3 q).2
        subst eds
        refine ⟨F, a, xs, ss, z, s, h1, .inl (.inl h2), h3, q2, k _ _ _ (Al.refl s) ?_⟩
        have hz : z ∈ ss := by
          cases ss with
          | nil => cases q2
          | cons x r =>
            cases q2
            have : ∀ (r : List Str) (x : Str), r.foldl (fun a y => if PySem.W.dataLt (.str y) (.str a) then y else a) x = x ∨ r.foldl (fun a y => if PySem.W.dataLt (.str y) (.str a) then y else a) x ∈ r := by
              intro r
              induction r with
              | nil => intro x; exact .inl rfl
              | cons y r ih =>
                intro x
                rw [List.foldl_cons]
                split
                · rcases ih y with h | h
                  · right; rw [h]; exact .head _
                  · exact .inr (.tail _ h)
                · rcases ih x with h | h
                  · exact .inl h
                  · exact .inr (.tail _ h)
            rcases this r x with h | h
            · rw [h]; exact .head _
            · exact .tail _ h
        obtain ⟨i, hi⟩ := List.mem_iff_getElem?.mp hz
        have hd : (ss.map PyData.str)[i]? = some (.str z) := by rw [List.getElem?_map, hi]; rfl
        obtain ⟨w, _, rp⟩ := h3.get hd
        cases rp with
        | str _ a b => exact .str z a b
  | _ => simp [uop] at e
/-! ### len(set(xs)) -/
theorem firstMet_dd (ns : List Int) : firstMet (fun i => ns.getD i 0) ns.length = dd ns := by
  have e : (List.range ns.length).map (fun i => ns.getD i 0) = ns := by
    refine List.ext_getElem? fun i => ?_
    rw [List.getElem?_map]
    by_cases h : i < ns.length
    · rw [List.getElem?_range h]
      simp [h]
    · rw [List.getElem?_eq_none (by simpa using h), List.getElem?_eq_none (by simpa using h)]
      rfl
  unfold firstMet
  rw [e]
  rfl
theorem dd_len {α : Type} [BEq α] (l : List α) : (dd l).length ≤ l.length := by
  have h : ∀ (l s : List α), (l.foldl (fun s k => if s.any (· == k) then s else s ++ [k]) s).length ≤ s.length + l.length := by
    intro l
    induction l with
    | nil => intro s; simp
    | cons x r ih =>
      intro s
      rw [List.foldl_cons]
      refine Nat.le_trans (ih _) ?_
      split <;> simp <;> omega
  have q := h l []
  simpa [dd] using q
def rLenSet (K : PySem.W.Frag) : V → Hp → VK → Prop := fun x H Q => ∃ l : Addr, x = .ref l ∧ ((∃ ns : List Int, SqL K H l (ns.map V.int) ∧ ns.length ≤ 1000 ∧ Q (.int ((dd ns).length : Nat)) H) ∨ (∃ ss : List Str, SqL K H l (ss.map V.str) ∧ ss.length ≤ 1000 ∧ Q (.int ((dd ss).length : Nat)) H))
/-- set(xs) of texts -/
theorem strs_key {prog : Program} {w : World} {its : List Value} {ss : List Str} (h : StrsAre its ss) (i : Nat) (v : Value) (e : its[i]? = some v) : ∃ x, ss[i]? = some x ∧ (PySem.strKind prog w).is x v = true ∧ v.scannable = true := by
  induction h generalizing i with
  | nil => simp at e
  | cons n t hr ih =>
    cases i with
    | zero =>
      simp at e
      exact ⟨n, rfl, by rw [← e]; exact strKind_is _ _ _ _, by rw [← e]; rfl⟩
    | succ i => exact ih i (by simpa using e)
theorem strs_len {its : List Value} {ss : List Str} (h : StrsAre its ss) : ss.length = its.length := by
  induction h with
  | nil => rfl
  | cons n t hr ih => simp [ih]
theorem call_set_strs {prog : Program} {w : World} {A : Around} {E : Value → Shared → Prop} {s : Shared} {l : Addr} {its : List Value} {ss : List Str} {Q : Value → Shared → Prop} (hh : A.handled = none) (hl : s.heap.IsList l its.toArray) (hi : StrsAre its ss) (hb : ss.length ≤ 1000)
    (h : ∀ (h' : Heap) (tk : Nat), h'.SetOf (PySem.strKind prog w) s.heap.objs.size (fun k => (dd ss).any (· == k)) (dd ss).length → (∀ b o, b < s.heap.objs.size → s.heap.get? b = some o → h'.get? b = some o) → Q (.ref s.heap.objs.size) { s with heap := h', toks := tk }) :
    wpAny (model prog w) A (call (.type "set") [.ref l]) Q E s :=
  call_set_keys (PySem.strKind prog w) hh hl (by rw [strs_len hi, List.size_toArray]) (fun i v e => strs_key hi i v (by simpa using e)) hb h
theorem pe_lenSet1 {X : Cx} {a : Expr} {ta : TE} {p p2 q pos : Pos} (hc : X.calm = true) (hg : Gl X "len") (hm : X.mg "len" = none) (hg2 : Gl X "set") (hm2 : X.mg "set" = none) (ha : PE X a ta)
    (na : starEach [a] X.env = (false, eval a X.env) :: starEach [] X.env) : PE X (.Call (.Name "len" p) [.Call (.Name "set" p2) [a] [] q] [] pos) (fun σ H Q => ta σ H fun x H1 => rLenSet X.K x H1 Q) := by
  refine ⟨fun pins s σ H Q I h => ?_⟩
  refine Call_ (ld_blt I hg hm boot_len ?_)
  refine PyProof.Rows.callWith_builtin1 (PyProof.Rows.args_cons ?_ rfl) rfl rfl
  refine Call_ (ld_blt I hg2 hm2 boot_set ?_)
  refine PyProof.Rows.callWith_type1 (PyProof.Rows.args_cons (thn (ha.run pins s σ H _ I h) fun v s1 hh => PyProof.Rows.args_nil ?_) na) na rfl
  obtain ⟨x, H1, I1, r1, l, rfl, hq⟩ := hh
  cases r1
  rcases hq with ⟨ns, hq, hn, q1⟩ | ⟨ns, hq, hn, q1⟩
  · obtain ⟨its, rv, pl, hz⟩ := I1.list hq
    have hi := intsAre_of rv
    have hlen : its.length = ns.length := hi.length
    have hsz : its.toArray.size = ns.length := by rw [List.size_toArray, hlen]
    refine PySem.call_set_list (ns := ns) (I1.ok.hd hc) pl.isList (by simpa using hi) (by rw [hsz]; unfold scanBound; omega) fun h' tk hS hk => ?_
    rw [hsz, firstMet_dd] at hS
    refine PyProof.Rows.args_nil ?_
    obtain ⟨o, es, ep, t, ho, hex, hd, _, _, _, hf, hnn⟩ := hS
    have I2 : Inv X pins σ H1 { s1 with heap := h', toks := tk } := I1.kept fun b o e => hk b o (Heap.lt_size e) e
    have hdd := dd_len ns
    refine call_len_set ho hex hd hf (by rw [hnn]; omega) ⟨.int ((dd ns).length : Nat), H1, I2.tok _, ⟨_, by rw [hnn]⟩, q1⟩
  · obtain ⟨its, rv, pl, hz⟩ := I1.list hq
    refine call_set_strs (I1.ok.hd hc) pl.isList rv.strs hn fun h' tk hS hk => ?_
    refine PyProof.Rows.args_nil ?_
    obtain ⟨o, es, ep, t, ho, hex, hd, _, _, _, hf, hnn⟩ := hS
    have I2 : Inv X pins σ H1 { s1 with heap := h', toks := tk } := I1.kept fun b o e => hk b o (Heap.lt_size e) e
    have hdd := dd_len ns
    refine call_len_set ho hex hd hf (by rw [hnn]; omega) ⟨.int ((dd ns).length : Nat), H1, I2.tok _, ⟨_, by rw [hnn]⟩, q1⟩
theorem s1_lenset {K : PySem.W.Frag} : S1 .lenset (rLenSet K) := by
  intro F H da x d dz Q s c e k
  cases d with
  | list ds =>
    obtain ⟨a, xs, h1, h2, h3, h4⟩ := c.list s
    subst h1
    simp only [uop] at e
    cases q : toInts ds with
    | some ns =>
      rw [q] at e
      simp only at e
      split at e
      · rename_i hn
        cases e
        obtain ⟨h5, h6⟩ := rp_ints h3 q
        subst h5
        exact ⟨a, rfl, .inl ⟨ns, .inl (.inl h2), hn, k _ _ _ (Al.refl s) (.int _)⟩⟩
      · cases e
    | none =>
      rw [q] at e
      simp only at e
      cases q2 : toStrs ds with
      | some ns =>
        rw [q2] at e
        simp only at e
        split at e
        · rename_i hn
          cases e
          obtain ⟨h5, h6⟩ := rp_strs h3 q2
          subst h5
          exact ⟨a, rfl, .inr ⟨ns, .inl (.inl h2), hn, k _ _ _ (Al.refl s) (.int _)⟩⟩
        · cases e
      | none =>
        rw [q2] at e
        cases e
  | _ => simp [uop] at e
theorem rg_rp {F : Hp} (n : Int) : RpAll F (rgV 0 n) (rangeD 0 n.toNat) := by
  unfold rgV rangeD
  rw [Int.sub_zero]
  have go : ∀ l : List Nat, RpAll F (l.map fun i => V.int (0 + (i : Nat))) (l.map fun i => PyData.int (0 + (i : Nat))) := by
    intro l
    induction l with
    | nil => exact .nil
    | cons i r ih => exact .cons (.int _) ih
  exact go _
theorem rangeD_len (a : Int) (n : Nat) : (rangeD a n).length = n := by
  unfold rangeD
  rw [List.length_map, List.length_range]
theorem s1_lrange : S1 .lrange (fun x H Q => ∃ n, x = .int n ∧ RgOk 0 n ∧ ∀ q, H q = none → Q (.ref q) (upd H q (.lst (rgV 0 n)))) := by
  intro F H da x d dz Q s c e k
  cases d with
  | int n =>
    simp only [uop] at e
    split at e
    · rename_i hn
      cases e
      refine ⟨n, cp_int c, RgOk.of_le (by omega) (by omega) (by omega) hn.1, fun p hp => new_lst s (rg_rp n) ?_ k p hp⟩
      rw [rangeD_len]
      unfold lim
      omega
    · cases e
  | _ => simp [uop] at e
/-! ### list(text) -/
theorem cr_lstr {X : Cx} (hc : X.calm = true) : CallR X (.type "list") (fun xs H Q => ∃ z : Str, xs = [.str z] ∧ z.length ≤ lim ∧ ∀ p, H p = none → Q (.ref p) (upd H p (.lst (z.cps.toList.map fun c => .str ⟨#[c]⟩)))) := by
  intro pins s σ H xs us Q I r h
  obtain ⟨z, rfl, hl, q⟩ := h
  obtain ⟨u, rfl, t, rfl⟩ := vals1 r
  refine PySem.call_list_str (I.ok.hd hc) z t (fun h' tk acc c' kp e it => ?_) (lim_line' hl)
  have hv : Vals (z.cps.toList.map fun c => V.str ⟨#[c]⟩) acc.toList := by
    refine vals_of_at (by rw [List.length_map, Array.length_toList, Array.length_toList, it.1]) fun j x u hx hu => ?_
    rw [Array.getElem?_toList] at hu
    obtain ⟨c, tk, hc1, rfl⟩ := it.2 j u hu
    rw [List.getElem?_map, Array.getElem?_toList, hc1] at hx
    cases hx
    exact ⟨tk, rfl⟩
  refine ⟨.ref s.heap.objs.size, upd H s.heap.objs.size (.lst _), I.laid (t' := tk) kp (Nat.le_refl _) (show ObjOk X.prog X.w _ h' _ (.lst _) from ⟨?_, acc.toList, c', hv, ?_⟩), rfl, q _ (I.hok.fresh (Nat.le_refl _))⟩
  · rw [List.length_map, Array.length_toList]
    exact lim_line' hl
  · rw [Array.toArray_toList]
    exact e
theorem chars_rp {F : Hp} {z : Str} (h : PyData.strOk z = true) : RpAll F (z.cps.toList.map fun c => V.str ⟨#[c]⟩) (chars z) := by
  have go : ∀ l : List Nat, (∀ c ∈ l, c ∈ z.cps.toList) → RpAll F (l.map fun c => V.str ⟨#[c]⟩) (l.map fun c => PyData.str ⟨#[c]⟩) := by
    intro l
    induction l with
    | nil => exact fun _ => .nil
    | cons c r ih => exact fun hh => .cons (.str _ one_lim (strOk_one h (hh c List.mem_cons_self))) (ih fun x hx => hh x (List.mem_cons_of_mem _ hx))
  exact go _ fun _ h => h
theorem s1_lstr : S1 .lstr (fun x H Q => ∃ z : Str, [x] = [V.str z] ∧ z.length ≤ lim ∧ ∀ p, H p = none → Q (.ref p) (upd H p (.lst (z.cps.toList.map fun c => .str ⟨#[c]⟩)))) := by
  intro F H da x d dz Q s c e k
  cases d with
  | str z =>
    cases e
    obtain ⟨h1, h2, h3⟩ := cp_str c
    refine ⟨z, by rw [h1], h2, fun p hp => new_lst s (chars_rp h3) ?_ k p hp⟩
    unfold chars
    rw [List.length_map, Array.length_toList]
    exact h2
  | _ => simp [uop] at e
end Tl
end
section
set_option Elab.async false
set_option linter.all false
set_option autoImplicit false
set_option maxRecDepth 100000
namespace Tl
open PySem PySem.Spec PyProof.Rows L2
/-! ### what is checked of the text -/
/-- where one stands: the slots' names, the scope, which names' cells were made here -/
structure Stat where
  N : List Str
  sc : Scope
  fn : Str → Bool
/-- the program: functions' names, the functions at hand, constants, classes of errors -/
structure Tab where
  nm : List Str
  fs : List Nat
  gs : List (Str × D)
  cn : List Str
def isVis : Option NameKind → Bool
  | some .local => true
  | some .cell => true
  | some .free => true
  | _ => false
def isGl : Option NameKind → Bool
  | some .globalImplicit => true
  | _ => false
def isLo : Option NameKind → Bool
  | some .local => true
  | _ => false
def isCe : Option NameKind → Bool
  | some .cell => true
  | _ => false
def okV (S : Stat) (i : Nat) (x : Str) : Bool := decide (S.N[i]? = some x) && isVis (S.sc.names.lookup x) && !(x == ("__debug__" : Str)) && !(x == ("__classdict__" : Str))
def okG (S : Stat) (x : Str) : Bool := isGl (S.sc.names.lookup x) && !(x == ("__debug__" : Str))
/-- a built-in's name -/
def okB (S : Stat) (x y : Str) : Bool := decide (x = y) && okG S x
/-- a name that is stored -/
def okL (S : Stat) (i : Nat) (x : Str) : Bool := decide (S.N[i]? = some x) && (isLo (S.sc.names.lookup x) || (isCe (S.sc.names.lookup x) && S.fn x))
def okC : D → Const → Bool
  | .none, .none => true
  | .bool a, .bool b => a == b
  | .int a, .int b => decide (a = b)
  | .str a, .str b => decide (a = b) && decide (a.length ≤ lim) && PyData.strOk a
  | _, _ => false
def sameC : D → D → Bool
  | .int a, .int b => decide (a = b)
  | .str a, .str b => decide (a = b)
  | _, _ => false
def isNB : D → Bool
  | .none => true
  | .bool _ => true
  | _ => false
def noStar : Expr → Bool
  | .Starred _ _ => false
  | _ => true
def noSlice : Expr → Bool
  | .Slice _ _ _ _ => false
  | _ => true
def noSet : Expr → Bool
  | .Set _ _ _ => false
  | _ => true
/-- attribute's base that is no call of super -/
def noCall0 : Expr → Bool
  | .Call (.Name _ _) [] [] _ => false
  | _ => true
/-- a test by its value's truth -/
def plainT : Expr → Bool
  | .UnaryOp .Not _ _ => false
  | .BoolOp _ _ _ => false
  | .IfExp _ _ _ _ => false
  | .Compare _ _ _ _ => false
  | _ => true
theorem star_ok {e : Expr} {es : List Expr} {env : PySem.Env} (h : noStar e = true) : starEach (e :: es) env = (false, eval e env) :: starEach es env := by
  cases e <;> first | rfl | simp [noStar] at h
theorem stars_ok {pos : Pos} {env : PySem.Env} : ∀ {es : List Expr}, es.all noStar = true → (backTo pos (starEach es env)).any (·.1) = false
  | [], _ => rfl
  | e :: es, h => by
    rw [List.all_cons, Bool.and_eq_true] at h
    rw [star_ok h.1]
    have := stars_ok (pos := pos) (env := env) h.2
    simpa [backTo] using this
theorem base_ok {e : Expr} {name : Str} {env : PySem.Env} (h : noCall0 e = true) : attributeBase e name env (eval e env) = eval e env := by
  cases e with
  | Call f as ks pos =>
    cases f with
    | Name x p =>
      cases as with
      | nil =>
        cases ks with
        | nil => simp [noCall0] at h
        | cons _ _ => rfl
      | cons _ _ => rfl
    | _ => rfl
  | _ => rfl
theorem plain_ok {e : Expr} {env : PySem.Env} (h : plainT e = true) (whole : Sem Value) : isTrue e env whole = (do let v ← whole; standAt e.pos; holding [v] (truthy v)) := by
  cases e with
  | UnaryOp op x pos =>
    cases op with
    | Not => simp [plainT] at h
    | _ => rfl
  | BoolOp _ _ _ => simp [plainT] at h
  | IfExp _ _ _ _ => simp [plainT] at h
  | Compare _ _ _ _ => simp [plainT] at h
  | _ => rfl
theorem behind_ok {e : Expr} {op : CmpOp} (h : noSet e = true) : behindInMarks op e = false := by
  cases e <;> first | rfl | simp [noSet] at h
theorem slice_ok {e : Expr} (h : noSlice e = true) : PlainIx e := by
  intro o i
  cases e <;> first | rfl | simp [noSlice] at h
theorem iter_ok {e : Expr} {env : PySem.Env} (h : noSet e = true) (x : Value) : foldedSetIterable e env x = pure x := by
  cases e <;> first | rfl | simp [noSet] at h
/-! ### the checks -/
def okU (o : Un) (k : Expr → Bool) (S : Stat) (x : Expr) : Bool := match o, x with
  | .neg, .UnaryOp .USub y _ => k y
  | .notv, .UnaryOp .Not y _ => k y
  | .len, .Call (.Name f _) [y] [] _ => okB S f "len" && noStar y && k y
  | .lenset, .Call (.Name f _) [.Call (.Name h _) [y] [] _] [] _ => okB S f "len" && okB S h "set" && noStar y && k y
  | .sum, .Call (.Name f _) [y] [] _ => okB S f "sum" && noStar y && k y
  | .min1, .Call (.Name f _) [y] [] _ => okB S f "min" && noStar y && k y
  | .minS, .Call (.Name f _) [y] [] _ => okB S f "min" && noStar y && k y
  | .max1, .Call (.Name f _) [y] [] _ => okB S f "max" && noStar y && k y
  | .sorted, .Call (.Name f _) [y] [] _ => okB S f "sorted" && noStar y && k y
  | .all, .Call (.Name f _) [y] [] _ => okB S f "all" && noStar y && k y
  | .any, .Call (.Name f _) [y] [] _ => okB S f "any" && noStar y && k y
  | .abs, .Call (.Name f _) [y] [] _ => okB S f "abs" && noStar y && k y
  | .list, .Call (.Name f _) [y] [] _ => okB S f "list" && noStar y && k y
  | .lstr, .Call (.Name f _) [y] [] _ => okB S f "list" && noStar y && k y
  | .tuple, .Call (.Name f _) [y] [] _ => okB S f "tuple" && noStar y && k y
  | .lrange, .Call (.Name f _) [.Call (.Name h _) [y] [] _] [] _ => okB S f "list" && okB S h "range" && noStar y && k y
  | .rev, .Subscript y (.Slice none none (some (.UnaryOp .USub (.Constant (.int i) _ _) _)) _) _ => decide (i = 1) && k y
  | _, _ => false
def okCmp (o : Bi) (op : CmpOp) : Bool := match o, op with
  | .eq, .Eq => true
  | .ne, .NotEq => true
  | .lt, .Lt => true
  | .le, .LtE => true
  | .gt, .Gt => true
  | .ge, .GtE => true
  | .isin, .In => true
  | .instr, .In => true
  | .notin, .NotIn => true
  | _, _ => false
def okOp (o : Bi) (op : Operator) : Bool := match o, op with
  | .add, .Add => true
  | .sub, .Sub => true
  | .mul, .Mult => true
  | .fdiv, .FloorDiv => true
  | .mod, .Mod => true
  | _, _ => false
def okBi (o : Bi) (k l : Expr → Bool) (S : Stat) (x : Expr) : Bool := match x with
  | .BinOp a op b _ => okOp o op && k a && l b
  | .Compare a [op] [b] _ => okCmp o op && noSet b && k a && l b
  | .Subscript a (.Slice none (some b) none _) _ => decide (o = .upto) && k a && l b
  | .Subscript a (.Slice (some b) none none _) _ => decide (o = .from_) && k a && l b
  | .Subscript a b _ => decide (o = .idx) && noSlice b && k a && l b
  | .Call (.Name f _) [a, b] [] _ => ((decide (o = .min2) && okB S f "min") || (decide (o = .max2) && okB S f "max")) && noStar a && noStar b && k a && l b
  | .Call (.Attribute a m p) [b] [] q => ((decide (o = .index) && decide (m = ("index" : Str))) || (decide (o = .count) && decide (m = ("count" : Str)))) && (p.endLine == q.line) && noCall0 a && noStar b && k a && l b
  | _ => false
def tyName : Ty → Str
  | .int => "int"
  | .bool => "bool"
  | .list => "list"
  | .str => "str"
/-- a target, and its own slots -/
def okTg (S : Stat) (t : Tg) (x : Expr) : Bool := match t, x with
  | .nm i, .Name a _ => okL S i a
  | .two i j, .Tuple [.Name a _, .Name b _] _ _ => okL S i a && okL S j b && decide (i ≠ j)
  | .three i j k, .Tuple [.Name a _, .Name b _, .Name c _] _ _ => okL S i a && okL S j b && okL S k c && decide (i ≠ j) && decide (i ≠ k) && decide (j ≠ k)
  | _, _ => false
def tgOwn (t : Tg) (x : Expr) : List (Str × Nat) := match t, x with
  | .nm i, .Name a _ => [(a, i)]
  | .two i j, .Tuple [.Name a _, .Name b _] _ _ => [(a, i), (b, j)]
  | .three i j k, .Tuple [.Name a _, .Name b _, .Name c _] _ _ => [(a, i), (b, j), (c, k)]
  | _, _ => []
def blkS (S : Stat) (scope : Scope) : Stat := ⟨S.N, relS scope S.sc, fun x => scope.names.lookup x == some .cell⟩
def noLC : Expr → Bool
  | .ListComp _ _ _ _ => false
  | _ => true
def isTrueC : E → Bool
  | .con (.bool true) => true
  | _ => false
/-- isinstance of what was caught (c: its class; 6, 7: the bases), x is None (8) -/
def okX (T : Tab) (S : Stat) (i c : Nat) (x : Expr) : Bool := decide (T.cn.length = 6) && match x with
  | .Compare (.Name v _) [.Is] [.Constant .none _ _] _ => decide (c = 8) && okV S i v
  | .Call (.Name f _) [.Name v _, .Name u _] [] _ => okB S f "isinstance" && okV S i v && okG S u && (decide (T.cn[c]? = some u) || (decide (c = 6) && decide (u = ("ListError" : Str))) || (decide (c = 7) && decide (u = ("ValueError" : Str))))
  | _ => false
mutual
def okE (T : Tab) : E → Stat → Expr → Bool
  | .var i, S, x => match x with
    | .Name a _ => okV S i a
    | _ => false
  | .con d, _, x => match x with
    | .Constant c _ _ => okC d c
    | _ => false
  | .glo _ d, S, x => match x with
    | .Name a _ => okG S a && T.gs.any fun p => decide (p.1 = a) && sameC d p.2
    | _ => false
  | .un o a, S, x => okU o (fun y => okE T a S y) S x
  | .bi o a b, S, x => okBi o (fun y => okE T a S y) (fun y => okE T b S y) S x
  | .le2 a b c, S, x => match x with
    | .Compare u [.LtE, .LtE] [v, w] _ => noSet w && okE T a S u && okE T b S v && okE T c S w
    | _ => false
  | .le3 a b c d, S, x => match x with
    | .Compare u [.LtE, .LtE, .LtE] [v, w, z] _ => noSet z && okE T a S u && okE T b S v && okE T c S w && okE T d S z
    | _ => false
  | .isc a d, S, x => match x with
    | .Compare u [.Is] [.Constant c _ _] _ => isNB d && okC d c && okE T a S u
    | _ => false
  | .isnc a d, S, x => match x with
    | .Compare u [.IsNot] [.Constant c _ _] _ => isNB d && okC d c && okE T a S u
    | _ => false
  | .and a b, S, x => match x with
    | .BoolOp .And [u, v] _ => okE T a S u && okE T b S v
    | .BoolOp .And (u :: v :: w :: r) p => okE T a S u && okE T b S (.BoolOp .And (v :: w :: r) p)
    | _ => false
  | .or a b, S, x => match x with
    | .BoolOp .Or [u, v] _ => okE T a S u && okE T b S v
    | .BoolOp .Or (u :: v :: w :: r) p => okE T a S u && okE T b S (.BoolOp .Or (v :: w :: r) p)
    | _ => false
  | .ite c a b, S, x => match x with
    | .IfExp u v w _ => okT T c S u && okE T a S v && okE T b S w
    | _ => false
  | .lst as, S, x => match x with
    | .List es _ => okA T as S es
    | _ => false
  | .tup as, S, x => match x with
    | .Tuple es _ _ => okA T as S es
    | _ => false
  | .call f as, S, x => match x with
    | .Call (.Name a _) es [] _ => okG S a && decide (T.nm[f]? = some a) && decide (f ∈ T.fs) && es.all noStar && okA T as S es
    | _ => false
  | .isi a t, S, x => match x with
    | .Call (.Name f _) [y, .Name u _] [] _ => okB S f "isinstance" && okB S u (tyName t) && noStar y && okE T a S y
    | _ => false
  | .isx i c, S, x => okX T S i c x
  | .lc t it c e, S, x => match x with
    | .ListComp el [⟨tg, iter, ifs, 0⟩] scope _ => okI T it S tg iter && noSet iter && blkC S.N S.sc scope (tgOwn t tg) && okTg (blkS S scope) t tg &&
        (match ifs with
          | [] => isTrueC c
          | [y] => okT T c (blkS S scope) y
          | _ => false) && okE T e (blkS S scope) el
    | _ => false
  | .bor e, S, x => noLC x && okE T e S x
  | _, _, _ => false
def okT (T : Tab) : E → Stat → Expr → Bool
  | .un .notv a, S, x => match x with
    | .UnaryOp .Not y _ => okT T a S y
    | _ => false
  | .bi o a b, S, x => (match x with
    | .Compare u [op] [v] _ => okCmp o op && noSet v && okE T a S u && okE T b S v
    | _ => plainT x && okBi o (fun y => okE T a S y) (fun y => okE T b S y) S x)
  | .le2 a b c, S, x => match x with
    | .Compare u [.LtE, .LtE] [v, w] _ => noSet w && okE T a S u && okE T b S v && okE T c S w
    | _ => false
  | .le3 a b c d, S, x => match x with
    | .Compare u [.LtE, .LtE, .LtE] [v, w, z] _ => noSet z && okE T a S u && okE T b S v && okE T c S w && okE T d S z
    | _ => false
  | .isc a d, S, x => match x with
    | .Compare u [.Is] [.Constant c _ _] _ => isNB d && okC d c && okE T a S u
    | _ => false
  | .isnc a d, S, x => match x with
    | .Compare u [.IsNot] [.Constant c _ _] _ => isNB d && okC d c && okE T a S u
    | _ => false
  | .and a b, S, x => match x with
    | .BoolOp .And [u, v] _ => okT T a S u && okT T b S v
    | .BoolOp .And (u :: v :: w :: r) p => okT T a S u && okT T b S (.BoolOp .And (v :: w :: r) p)
    | _ => false
  | .or a b, S, x => match x with
    | .BoolOp .Or [u, v] _ => okT T a S u && okT T b S v
    | .BoolOp .Or (u :: v :: w :: r) p => okT T a S u && okT T b S (.BoolOp .Or (v :: w :: r) p)
    | _ => false
  | .var i, S, x => match x with
    | .Name a _ => okV S i a
    | _ => false
  | .un o a, S, x => plainT x && okU o (fun y => okE T a S y) S x
  | .call f as, S, x => match x with
    | .Call (.Name a _) es [] _ => okG S a && decide (T.nm[f]? = some a) && decide (f ∈ T.fs) && es.all noStar && okA T as S es
    | _ => false
  | .isi a t, S, x => match x with
    | .Call (.Name f _) [y, .Name u _] [] _ => okB S f "isinstance" && okB S u (tyName t) && noStar y && okE T a S y
    | _ => false
  | .isx i c, S, x => okX T S i c x
  | .bor e, S, x => plainT x && okE T e S x
  | _, _, _ => false
def okA (T : Tab) : E → Stat → List Expr → Bool
  | .nil, _, es => es.isEmpty
  | .cons a as, S, es => match es with
    | x :: xs => noStar x && okE T a S x && okA T as S xs
    | [] => false
  | _, _, _ => false
def okI (T : Tab) : E → Stat → Expr → Expr → Bool
  | .itl a, S, _, x => okE T a S x
  | .itt a, S, _, x => okE T a S x
  | .its a, S, _, x => okE T a S x
  | .rng1 a, S, _, x => match x with
    | .Call (.Name f _) [y] [] _ => okB S f "range" && noStar y && okE T a S y
    | _ => false
  | .rng2 a b, S, _, x => match x with
    | .Call (.Name f _) [y, z] [] _ => okB S f "range" && noStar y && noStar z && okE T a S y && okE T b S z
    | _ => false
  | .enum a, S, tg, x => match tg, x with
    | .Tuple _ _ _, .Call (.Name f _) [y] [] _ => okB S f "enumerate" && noStar y && okE T a S y
    | _, _ => false
  | .zip a b, S, tg, x => match tg, x with
    | .Tuple _ _ _, .Call (.Name f _) [y, z] [] _ => okB S f "zip" && noStar y && noStar z && okE T a S y && okE T b S z
    | _, _ => false
  | _, _, _, _ => false
end
end Tl
end
section
set_option Elab.async false
set_option linter.all false
set_option autoImplicit false
set_option maxRecDepth 100000
namespace Tl
open PySem PySem.Spec PyProof.Rows L2
def blts : List Str := ["len", "set", "sum", "min", "max", "sorted", "all", "any", "abs", "list", "tuple", "str", "int", "bool", "range", "enumerate", "zip", "isinstance"]
/-- a def's promise: it does what its evaluation says -/
def spF (cl : Cls) (m : Fn) : Sp := fun vs H Q E => ∃ (F : Hp) (da : DA) (g : G) (cs : List Cell), Same F H ∧ GOk H g da ∧ (∀ b, isDr da b → F b = none) ∧ ArgsOk cl F da vs cs ∧ Post cl (fun c d _ H => E c d H) [] relE da F H Q (m cs g)
/-- what isinstance and except must know of the errors' classes -/
def ExF (K : PySem.W.Frag) (mg : Str → Option Value) (cl : Cls) (T : Tab) : Prop := T.cn.length = 6 → ∃ L, mg "ListError" = some (.ref L) ∧ mg "ValueError" = none ∧ (∀ (c : Nat) (x : Str), T.cn[c]? = some x → mg x = some (.ref (cl c))) ∧ ∀ c, c < 6 →
  ExcC K (cl c) ∧ PySem.W.kitOne K (.ref (cl c)) (.type "ValueError") = some true ∧ PySem.W.kitOne K (.ref (cl c)) (.ref L) = some true ∧ PySem.W.exmOne K (.ref (cl c)) (.ref L) = some true ∧ ∀ d, d < 6 → PySem.W.kitOne K (.ref (cl c)) (.ref (cl d)) = some (c == d)
structure XOk (T : Tab) (cl : Cls) (Φ : Nat → Fn) (k : Nat) (W : WX) (S : Stat) (X : Cx) : Prop where
  hN : X.N = S.N
  hsc : X.env.scope = S.sc
  hfn : X.fn = S.fn
  nd : S.N.Nodup
  calm : X.calm = true
  room : Room k X.A
  blt : ∀ x ∈ blts, X.mg x = none
  glo : ∀ p ∈ T.gs, ∃ v u, X.mg p.1 = some u ∧ RelV v u ∧ ∀ F, Rp F v p.2
  pass : ∀ σ, PassesAt (L2.CX X.prog X.w) X σ (WE W σ)
  fun_ : ∀ i ∈ T.fs, ∃ x f fd ps, T.nm[i]? = some x ∧ X.mg x = some (.ref f) ∧ PySem.W.keepIn X.K (.ref f) = true ∧ Binds X.K fd ps [] ∧ FnOk X.prog X.w X.K X.mg X.base (L2.CX X.prog X.w) k f fd ps (spF cl (Φ i))
  exf : ExF X.K X.mg cl T
abbrev W0 : WX := fun _ _ _ _ => False
theorem passW0 {X : Cx} (σ : St) : PassesAt (L2.CX X.prog X.w) X σ (WE W0 σ) := fun pins H s e s' I h => passL pins σ H s e s' I h
section
variable {T : Tab} {cl : Cls} {Φ : Nat → Fn} {k : Nat} {W : WX} {S : Stat} {X : Cx}
theorem and2 {a b : Bool} (h : (a && b) = true) : a = true ∧ b = true := by
  rw [Bool.and_eq_true] at h
  exact h
theorem XOk.gl (h : XOk T cl Φ k W S X) {x : Str} (q : okG S x = true) : Gl X x ∧ (x == ("__debug__" : Str)) = false := by
  obtain ⟨h1, h2⟩ := and2 q
  constructor
  · show X.env.scope.names.lookup x = some .globalImplicit
    rw [h.hsc]
    unfold isGl at h1
    split at h1
    · assumption
    · cases h1
  · simpa using h2
theorem XOk.bl (h : XOk T cl Φ k W S X) {x y : Str} (q : okB S x y = true) (hy : y ∈ blts) : x = y ∧ Gl X y ∧ X.mg y = none := by
  obtain ⟨h1, h2⟩ := and2 q
  have e : x = y := of_decide_eq_true h1
  subst e
  exact ⟨rfl, (h.gl h2).1, h.blt _ hy⟩
theorem XOk.var (h : XOk T cl Φ k W S X) {i : Nat} {x : Str} {pos : Pos} (q : okV S i x = true) : PE X (.Name x pos) (tVar i) := by
  obtain ⟨q1, h4⟩ := and2 q
  obtain ⟨q2, h3⟩ := and2 q1
  obtain ⟨h1, h2⟩ := and2 q2
  refine pe_var (by rw [h.hN]; exact of_decide_eq_true h1) ?_ (by simpa using h3) (by simpa using h4)
  unfold Vis
  rw [h.hsc]
  unfold isVis at h2
  split at h2
  · exact .inl (by assumption)
  · exact .inr (.inl (by assumption))
  · exact .inr (.inr (by assumption))
  · cases h2
theorem XOk.loc (h : XOk T cl Φ k W S X) {i : Nat} {x : Str} (q : okL S i x = true) : X.N[i]? = some x ∧ L2.Loc X.env.scope x ∧ (X.fn x = true ∨ X.env.scope.names.lookup x = some .local) := by
  obtain ⟨h1, h2⟩ := and2 q
  refine ⟨by rw [h.hN]; exact of_decide_eq_true h1, ?_⟩
  unfold L2.Loc
  rw [h.hsc, h.hfn]
  rw [Bool.or_eq_true] at h2
  rcases h2 with h2 | h2
  · unfold isLo at h2
    split at h2
    · exact ⟨.inl (by assumption), .inr (by assumption)⟩
    · cases h2
  · obtain ⟨h3, h4⟩ := and2 h2
    unfold isCe at h3
    split at h3
    · exact ⟨.inr (by assumption), .inl h4⟩
    · cases h3
theorem XOk.ndX (h : XOk T cl Φ k W S X) : X.N.Nodup := by
  rw [h.hN]
  exact h.nd
theorem XOk.units (h : XOk T cl Φ k W S X) : X.A.units + 65 < cLine := by
  have := h.room.un
  omega
/-! ### names and constants -/
theorem snd_var (h : XOk T cl Φ k W S X) {i : Nat} {x : Str} {pos : Pos} (q : okV S i x = true) : PE X (.Name x pos) (tE X.K cl W Φ (.var i)) := by
  refine impE (h.var q) fun σ H Q hq => ?_
  obtain ⟨F, da, r, g, Rr, p⟩ := hq
  cases e : r[i]? with
  | none => simp only [evE, e] at p; exact p.elim
  | some c =>
    have sl := Rr.slot i c e
    cases c with
    | val d =>
      simp only [evE, e] at p
      obtain ⟨v, e1, rp⟩ := sl
      exact ⟨v, e1, p v F H (Nx.refl Rr.sub Rr.gok) rp⟩
    | _ => simp only [evE, e] at p; exact p.elim
theorem snd_varC (h : XOk T cl Φ k W S X) {i : Nat} {x : Str} {pos : Pos} (q : okV S i x = true) : PE X (.Name x pos) (tC X.K cl W Φ (.var i)) := by
  refine impE (h.var q) fun σ H Q hq => ?_
  obtain ⟨F, da, r, g, Rr, p⟩ := hq
  cases e : r[i]? with
  | none => simp only [evC, own?, evE, e] at p; exact p.elim
  | some c =>
    have sl := Rr.slot i c e
    cases c with
    | val d =>
      simp only [evC, own?, evE, e] at p
      obtain ⟨v, e1, rp⟩ := sl
      exact ⟨v, e1, p v F H (Nx.refl Rr.sub Rr.gok) (.inl rp)⟩
    | own ds =>
      simp only [evC, own?, evE, e] at p
      obtain ⟨a, e1, ow⟩ := sl
      exact ⟨.ref a, e1, p _ F H (Nx.refl Rr.sub Rr.gok) (.inr ⟨a, ds, rfl, rfl, ow⟩)⟩
    | _ => simp only [evC, own?, evE, e] at p; exact p.elim
theorem post_weak {σ : St} {da : DA} {F H : Hp} {Q : VK} {x : R D} (h : Post cl W σ relC da F H Q x) : Post cl W σ relE da F H Q x := by
  cases x with
  | ok d g => exact fun v F' H' n r => h v F' H' n (.inl r)
  | exc c g => exact h
  | bad => exact h
/-- what may be a datum may be read -/
theorem to_C (h : XOk T cl Φ k W S X) {a : E} {x : Expr} (q : okE T a S x = true) (p : PE X x (tE X.K cl W Φ a)) : PE X x (tC X.K cl W Φ a) := by
  cases a with
  | var i =>
    simp only [okE] at q
    split at q
    · exact snd_varC h q
    · cases q
  | _ =>
    refine impE p fun σ H Q hq => ?_
    obtain ⟨F, da, r, g, Rr, z⟩ := hq
    exact ⟨F, da, r, g, Rr, post_weak z⟩
theorem const_ok {d : D} {c : Const} {j : Nat} {pos : Pos} (q : okC d c = true) : ∃ v, PE X (.Constant c j pos) (L2.tC v) ∧ ∀ F, Rp F v d := by
  cases d with
  | none => cases c <;> first | exact ⟨.non, pe_non, fun _ => .non⟩ | simp [okC] at q
  | bool b =>
    cases c with
    | bool b' =>
      have e : b = b' := by simpa [okC] using q
      subst e
      exact ⟨.bl b, pe_bl, fun _ => .bl b⟩
    | _ => simp [okC] at q
  | int b =>
    cases c with
    | int b' =>
      have e : b = b' := by simpa [okC] using q
      subst e
      exact ⟨.int b, pe_int, fun _ => .int b⟩
    | _ => simp [okC] at q
  | str b =>
    cases c with
    | str b' =>
      simp only [okC, Bool.and_eq_true, decide_eq_true_eq] at q
      obtain ⟨⟨e, h1⟩, h2⟩ := q
      subst e
      exact ⟨.str b, pe_str, fun _ => .str b h1 h2⟩
    | _ => simp [okC] at q
  | _ => cases c <;> simp [okC] at q
theorem snd_con {d : D} {c : Const} {j : Nat} {pos : Pos} (q : okC d c = true) : PE X (.Constant c j pos) (tE X.K cl W Φ (.con d)) := by
  obtain ⟨v, p, rp⟩ := const_ok (X := X) (j := j) (pos := pos) q
  refine impE p fun σ H Q hq => ?_
  obtain ⟨F, da, r, g, Rr, p⟩ := hq
  exact p v F H (Nx.refl Rr.sub Rr.gok) (rp F)
theorem snd_glo (h : XOk T cl Φ k W S X) {n : Nat} {d : D} {x : Str} {pos : Pos} (q : (okG S x && T.gs.any fun p => decide (p.1 = x) && sameC d p.2) = true) : PE X (.Name x pos) (tE X.K cl W Φ (.glo n d)) := by
  obtain ⟨q1, q2⟩ := and2 q
  obtain ⟨p, hp, q2⟩ := List.any_eq_true.mp q2
  obtain ⟨q3, q4⟩ := and2 q2
  have e1 : p.1 = x := of_decide_eq_true q3
  obtain ⟨v, u, h1, h2, h3⟩ := h.glo p hp
  rw [e1] at h1
  have ed : d = p.2 := by
    obtain ⟨p1, p2⟩ := p
    cases d <;> cases p2 <;> simp [sameC] at q4 <;> simp [q4]
  obtain ⟨g1, g2⟩ := h.gl q1
  refine impE (pe_glob g1 h1 h2 g2) fun σ H Q hq => ?_
  obtain ⟨F, da, r, g, Rr, p⟩ := hq
  have p : Post cl W σ relE da F H Q (.ok d g) := p
  rw [ed] at p
  exact p v F H (Nx.refl Rr.sub Rr.gok) (h3 F)
/-! ### one operand -/
theorem snd_un (h : XOk T cl Φ k W S X) {o : Un} {a : E} {x : Expr} (ih : ∀ y, okE T a S y = true → PE X y (tC X.K cl W Φ a)) (q : okU o (fun y => okE T a S y) S x = true) : PE X x (tE X.K cl W Φ (.un o a)) := by
  unfold okU at q
  split at q
  · exact impE (pe_un un_neg (ih _ q)) fun σ H Q hq => rd_un s1_neg hq
  · exact impE (pe_not (ih _ q)) fun σ H Q hq => rd_un s1_not hq
  · obtain ⟨q1, q3⟩ := and2 q
    obtain ⟨q1, q2⟩ := and2 q1
    obtain ⟨rfl, g, m⟩ := h.bl q1 (by decide +kernel)
    exact impE (pe_callB call_len g m boot_len (pa_cons (ih _ q3) pa_nil (star_ok q2)) (he := star_ok q2)) fun σ H Q hq => rd_un (s1_len (K := X.K)) hq
  · obtain ⟨q1, q4⟩ := and2 q
    obtain ⟨q1, q3⟩ := and2 q1
    obtain ⟨q1, q2⟩ := and2 q1
    obtain ⟨rfl, g, m⟩ := h.bl q1 (by decide +kernel)
    obtain ⟨rfl, g', m'⟩ := h.bl q2 (by decide +kernel)
    exact impE (pe_lenSet1 h.calm g m g' m' (ih _ q4) (star_ok q3)) fun σ H Q hq => rd_un (s1_lenset (K := X.K)) hq
  · obtain ⟨q1, q3⟩ := and2 q
    obtain ⟨q1, q2⟩ := and2 q1
    obtain ⟨rfl, g, m⟩ := h.bl q1 (by decide +kernel)
    exact impE (pe_callB (cr_sum h.calm) g m boot_sum (pa_cons (ih _ q3) pa_nil (star_ok q2)) (he := star_ok q2)) fun σ H Q hq => rd_un (s1_sum (K := X.K)) hq
  · obtain ⟨q1, q3⟩ := and2 q
    obtain ⟨q1, q2⟩ := and2 q1
    obtain ⟨rfl, g, m⟩ := h.bl q1 (by decide +kernel)
    exact impE (pe_callB (cr_min h.calm) g m boot_min (pa_cons (ih _ q3) pa_nil (star_ok q2)) (he := star_ok q2)) fun σ H Q hq => rd_un (s1_min (K := X.K)) hq
  · obtain ⟨q1, q3⟩ := and2 q
    obtain ⟨q1, q2⟩ := and2 q1
    obtain ⟨rfl, g, m⟩ := h.bl q1 (by decide +kernel)
    refine impE (pe_callB (cr_minS h.calm (by have := h.units; omega)) g m boot_min (pa_cons (ih _ q3) pa_nil (star_ok q2)) (he := star_ok q2)) fun σ H Q hq => ?_
    have z := rd_un (s1_minS (K := X.K)) hq
    obtain ⟨F, da, r, g, Rr, z⟩ := z
    refine ⟨F, da, r, g, Rr, Post.imp z fun v H1 z => ⟨v, rfl, z⟩⟩
  · obtain ⟨q1, q3⟩ := and2 q
    obtain ⟨q1, q2⟩ := and2 q1
    obtain ⟨rfl, g, m⟩ := h.bl q1 (by decide +kernel)
    exact impE (pe_callB (cr_max h.calm) g m boot_max (pa_cons (ih _ q3) pa_nil (star_ok q2)) (he := star_ok q2)) fun σ H Q hq => rd_un (s1_max (K := X.K)) hq
  · obtain ⟨q1, q3⟩ := and2 q
    obtain ⟨q1, q2⟩ := and2 q1
    obtain ⟨rfl, g, m⟩ := h.bl q1 (by decide +kernel)
    refine impE (pe_callB (cr_sortD (by have := h.units; omega)) g m boot_sorted (pa_cons (ih _ q3) pa_nil (star_ok q2)) (he := star_ok q2)) fun σ H Q hq => ?_
    have z := rd_un (s1_sorted (K := X.K)) hq
    obtain ⟨F, da, r, g, Rr, z⟩ := z
    refine ⟨F, da, r, g, Rr, Post.imp z fun v H1 z => ⟨v, rfl, z⟩⟩
  · obtain ⟨q1, q3⟩ := and2 q
    obtain ⟨q1, q2⟩ := and2 q1
    obtain ⟨rfl, g, m⟩ := h.bl q1 (by decide +kernel)
    exact impE (pe_callB (cr_all h.calm) g m boot_all (pa_cons (ih _ q3) pa_nil (star_ok q2)) (he := star_ok q2)) fun σ H Q hq => rd_un (s1_all (K := X.K)) hq
  · obtain ⟨q1, q3⟩ := and2 q
    obtain ⟨q1, q2⟩ := and2 q1
    obtain ⟨rfl, g, m⟩ := h.bl q1 (by decide +kernel)
    exact impE (pe_callB (cr_any h.calm) g m boot_any (pa_cons (ih _ q3) pa_nil (star_ok q2)) (he := star_ok q2)) fun σ H Q hq => rd_un (s1_any (K := X.K)) hq
  · obtain ⟨q1, q3⟩ := and2 q
    obtain ⟨q1, q2⟩ := and2 q1
    obtain ⟨rfl, g, m⟩ := h.bl q1 (by decide +kernel)
    exact impE (pe_callB call_abs g m boot_abs (pa_cons (ih _ q3) pa_nil (star_ok q2)) (he := star_ok q2)) fun σ H Q hq => rd_un s1_abs hq
  · obtain ⟨q1, q3⟩ := and2 q
    obtain ⟨q1, q2⟩ := and2 q1
    obtain ⟨rfl, g, m⟩ := h.bl q1 (by decide +kernel)
    exact impE (pe_callTy call_list_of g m boot_list (pa_cons (ih _ q3) pa_nil (star_ok q2)) (he := star_ok q2)) fun σ H Q hq => rd_un (s1_list (K := X.K)) hq
  · obtain ⟨q1, q3⟩ := and2 q
    obtain ⟨q1, q2⟩ := and2 q1
    obtain ⟨rfl, g, m⟩ := h.bl q1 (by decide +kernel)
    exact impE (pe_callTy (cr_lstr h.calm) g m boot_list (pa_cons (ih _ q3) pa_nil (star_ok q2)) (he := star_ok q2)) fun σ H Q hq => rd_un s1_lstr hq
  · obtain ⟨q1, q3⟩ := and2 q
    obtain ⟨q1, q2⟩ := and2 q1
    obtain ⟨rfl, g, m⟩ := h.bl q1 (by decide +kernel)
    exact impE (pe_callTy call_tuple_of g m boot_tuple (pa_cons (ih _ q3) pa_nil (star_ok q2)) (he := star_ok q2)) fun σ H Q hq => rd_un (s1_tuple (K := X.K)) hq
  · obtain ⟨q1, q4⟩ := and2 q
    obtain ⟨q1, q3⟩ := and2 q1
    obtain ⟨q1, q2⟩ := and2 q1
    obtain ⟨rfl, g, m⟩ := h.bl q1 (by decide +kernel)
    obtain ⟨rfl, g', m'⟩ := h.bl q2 (by decide +kernel)
    exact impE (pe_listRg h.calm g m (prg_1 g' m' (ih _ q4) (star_ok q3))) fun σ H Q hq => rd_un s1_lrange hq
  · obtain ⟨q1, q2⟩ := and2 q
    have e := of_decide_eq_true q1
    subst e
    exact impE (pe_revL (ih _ q2)) fun σ H Q hq => rd_un (s1_rev (K := X.K)) hq
  · cases q
end
end Tl
end
section
set_option Elab.async false
set_option linter.all false
set_option autoImplicit false
set_option maxRecDepth 100000
namespace Tl
open PySem PySem.Spec PyProof.Rows L2
section
variable {T : Tab} {cl : Cls} {Φ : Nat → Fn} {k : Nat} {W : WX} {S : Stat} {X : Cx}
/-! ### index -/
theorem findIdx_spec {α : Type} {p : α → Bool} : ∀ {l : List α} {j : Nat}, l.findIdx? p = some j → (∃ z, l[j]? = some z ∧ p z = true) ∧ ∀ (m : Nat) (z : α), m < j → l[m]? = some z → p z = false := by
  intro l j h
  obtain ⟨hj, h1, h2⟩ := List.findIdx?_eq_some_iff_getElem.mp h
  refine ⟨⟨l[j], List.getElem?_eq_getElem hj, h1⟩, fun m z hm e => ?_⟩
  have := h2 m hm
  have hml : m < l.length := Nat.lt_trans hm hj
  rw [List.getElem?_eq_getElem hml] at e
  cases e
  simpa using this
theorem s2_index {K : PySem.W.Frag} : S2 .index (fun x y H Q => rIndexD K x [y] H Q) := by
  intro F H da x y d e dz Q s c1 c2 q kk
  cases d with
  | list ds =>
    have q' : (indexD ds e).map (fun j => PyData.int (j : Nat)) = some dz := by cases e <;> exact q
    unfold indexD at q'
    split at q'
    · rename_i hs
      rw [Bool.and_eq_true] at hs
      cases qq : ds.findIdx? (fun z => PyData.eqv z e) with
      | none => rw [qq] at q'; cases q'
      | some j =>
        rw [qq] at q'
        cases q'
        obtain ⟨⟨z, h1, h2⟩, h3⟩ := findIdx_spec qq
        obtain ⟨a, us, g1, g2, g3, g4⟩ := c1.list s
        subst g1
        exact ⟨a, y, e, ds, j, z, rfl, rfl, c1.dp s, c2.dp s, shp_shaped c1.lay hs.2, shp_shaped c2.lay hs.1, h1, h2, h3, kk _ _ _ (Al.refl s) (.int _)⟩
    · cases q'
  | _ => cases e <;> simp [bop] at q
theorem s2_count {K : PySem.W.Frag} : S2 .count (fun x y H Q => rCountD K x [y] H Q) := by
  intro F H da x y d e dz Q s c1 c2 q kk
  cases d with
  | list ds =>
    have q' : (if shp e && shp (.list ds) then some (PyData.int (ds.countP fun z => PyData.eqv z e : Nat)) else none) = some dz := by cases e <;> exact q
    split at q'
    · rename_i hs
      rw [Bool.and_eq_true] at hs
      cases q'
      obtain ⟨a, us, g1, g2, g3, g4⟩ := c1.list s
      subst g1
      exact ⟨a, y, e, ds, rfl, rfl, c1.dp s, c2.dp s, shp_shaped c1.lay hs.2, shp_shaped c2.lay hs.1, kk _ _ _ (Al.refl s) (.int _)⟩
    · cases q'
  | _ => cases e <;> simp [bop] at q
/-! ### two operands -/
theorem opR_cmp (h : XOk T cl Φ k W S X) {o : Bi} {op : CmpOp} (q : okCmp o op = true) : ∃ r, OpR X (compareOp op) r ∧ S2 o r := by
  have hu := h.units
  unfold okCmp at q
  split at q
  · exact ⟨_, op_eqD (by omega), s2_eq⟩
  · exact ⟨_, op_neD (by omega), s2_ne⟩
  · exact ⟨_, op_lt, s2_lt⟩
  · exact ⟨_, op_le, s2_le⟩
  · exact ⟨_, op_gt, s2_gt⟩
  · exact ⟨_, op_ge, s2_ge⟩
  · exact ⟨_, op_inD hu, s2_in⟩
  · exact ⟨_, op_in_sign, s2_instr⟩
  · exact ⟨_, op_notInD hu, s2_notin⟩
  · cases q
theorem opR_bin {o : Bi} {op : Operator} (q : okOp o op = true) : ∃ r, OpR X (binaryOp op) r ∧ S2 o r := by
  unfold okOp at q
  split at q
  · exact ⟨_, op_addA, s2_add⟩
  · exact ⟨_, op_sub, s2_sub⟩
  · exact ⟨_, op_mulA, s2_mul⟩
  · exact ⟨_, op_fdiv, s2_fdiv⟩
  · exact ⟨_, op_mod, s2_mod⟩
  · cases q
theorem rd_sl {o : Bi} {f : Int → Option Int × Option Int} {r3 : V → Option Int → Option Int → Hp → VK → Prop} (s3 : S3 o f r3) {a b : E} {σ : St} {H : Hp} {Q : VK} (h : tE X.K cl W Φ (.bi o a b) σ H Q) :
    tC X.K cl W Φ a σ H (fun x H1 => tC X.K cl W Φ b σ H1 fun y H2 => ∃ i, y = .int i ∧ r3 x (f i).1 (f i).2 H2 Q) := by
  have s2 : S2 o (fun x y H Q => ∃ i, y = .int i ∧ r3 x (f i).1 (f i).2 H Q) := s3
  exact rd_bi s2 h
theorem snd_bi (h : XOk T cl Φ k W S X) {o : Bi} {a b : E} {x : Expr} (ia : ∀ y, okE T a S y = true → PE X y (tC X.K cl W Φ a)) (ib : ∀ y, okE T b S y = true → PE X y (tC X.K cl W Φ b))
    (q : okBi o (fun y => okE T a S y) (fun y => okE T b S y) S x = true) : PE X x (tE X.K cl W Φ (.bi o a b)) := by
  unfold okBi at q
  split at q
  · obtain ⟨q1, q3⟩ := and2 q
    obtain ⟨q1, q2⟩ := and2 q1
    obtain ⟨r, h1, h2⟩ := opR_bin (X := X) q1
    exact impE (pe_op h1 (ia _ q2) (ib _ q3)) fun σ H Q hq => rd_bi h2 hq
  · obtain ⟨q1, q4⟩ := and2 q
    obtain ⟨q1, q3⟩ := and2 q1
    obtain ⟨q1, q2⟩ := and2 q1
    obtain ⟨r, h1, h2⟩ := opR_cmp h q1
    exact impE (pe_cmpR h1 (ia _ q3) (ib _ q4) (behind_ok q2)) fun σ H Q hq => rd_bi h2 hq
  · obtain ⟨q1, q3⟩ := and2 q
    obtain ⟨q1, q2⟩ := and2 q1
    have e := of_decide_eq_true q1
    subst e
    exact impE (pe_slice sl_A (ia _ q2) po_none (po_some (ib _ q3))) fun σ H Q hq => rd_sl s3_upto hq
  · obtain ⟨q1, q3⟩ := and2 q
    obtain ⟨q1, q2⟩ := and2 q1
    have e := of_decide_eq_true q1
    subst e
    exact impE (pe_slice sl_A (ia _ q2) (po_some (ib _ q3)) po_none) fun σ H Q hq => rd_sl s3_from hq
  · obtain ⟨q1, q4⟩ := and2 q
    obtain ⟨q1, q3⟩ := and2 q1
    obtain ⟨q1, q2⟩ := and2 q1
    have e := of_decide_eq_true q1
    subst e
    exact impE (pe_ix ix_seq (ia _ q3) (ib _ q4) (slice_ok q2)) fun σ H Q hq => rd_bi s2_idx hq
  · obtain ⟨q1, q5⟩ := and2 q
    obtain ⟨q1, q4⟩ := and2 q1
    obtain ⟨q1, q3⟩ := and2 q1
    obtain ⟨q1, q2⟩ := and2 q1
    rw [Bool.or_eq_true] at q1
    rcases q1 with q1 | q1
    · obtain ⟨q1, q6⟩ := and2 q1
      have e := of_decide_eq_true q1
      subst e
      obtain ⟨rfl, g, m⟩ := h.bl q6 (by decide +kernel)
      exact impE (pe_callB (call_min2 h.calm) g m boot_min (pa_cons (ia _ q4) (pa_cons (ib _ q5) pa_nil (star_ok q3)) (star_ok q2)) (he := star_ok q2) (hpl := stars_ok (by simp [q3]))) fun σ H Q hq => rd_bi s2_min2 hq
    · obtain ⟨q1, q6⟩ := and2 q1
      have e := of_decide_eq_true q1
      subst e
      obtain ⟨rfl, g, m⟩ := h.bl q6 (by decide +kernel)
      exact impE (pe_callB (call_max2 h.calm) g m boot_max (pa_cons (ia _ q4) (pa_cons (ib _ q5) pa_nil (star_ok q3)) (star_ok q2)) (he := star_ok q2) (hpl := stars_ok (by simp [q3]))) fun σ H Q hq => rd_bi s2_max2 hq
  · obtain ⟨q1, q7⟩ := and2 q
    obtain ⟨q1, q6⟩ := and2 q1
    obtain ⟨q1, q5⟩ := and2 q1
    obtain ⟨q1, q4⟩ := and2 q1
    obtain ⟨q1, q3⟩ := and2 q1
    rw [Bool.or_eq_true] at q1
    rcases q1 with q1 | q1
    · obtain ⟨q1, q2⟩ := and2 q1
      have e := of_decide_eq_true q1
      subst e
      have e := of_decide_eq_true q2
      subst e
      refine impE (pe_bm PySem.F.plainAttrs_list PySem.F.slot_list_index PySem.F.type_list_index (mt_indexD h.units) (ia _ q6) (pa_cons (ib _ q7) pa_nil (star_ok q5)) (base_ok q4) (by rw [star_ok q5]; rfl) q3 (star_ok q5) rfl) fun σ H Q hq => ?_
      obtain ⟨F, da, r, g, Rr, z⟩ := hq
      have z : Post cl W σ relE da F H Q ((evC Φ a r g).bind fun x g => match preB .index x with
        | true => (evC Φ b r g).bind fun y g => R.of g (bop .index x y)
        | false => .bad) := z
      refine ⟨F, da, r, g, Rr, Post.bind z fun d g1 v F1 H1 n c p => ?_⟩
      have hl : ∃ ds, d = .list ds := by
        cases d with
        | list ds => exact ⟨ds, rfl⟩
        | _ => exact False.elim p
      obtain ⟨ds, rfl⟩ := hl
      obtain ⟨aa, us, g1', g2', g3', g4'⟩ := c.list n.sub
      subst g1'
      refine ⟨.inl ⟨rfl, us, .inl (.inl g2')⟩, F1, da, r, g1, Rr.nx n, Post.bind p fun e g2 u F2 H2 n2 c2 q2 => ?_⟩
      obtain ⟨dz, e3, kk⟩ := Post.al n2.gok q2
      exact s2_index F2 H2 da _ u _ e dz Q n2.sub (c.nx n2) c2 e3 kk
    · obtain ⟨q1, q2⟩ := and2 q1
      have e := of_decide_eq_true q1
      subst e
      have e := of_decide_eq_true q2
      subst e
      refine impE (pe_bm PySem.F.plainAttrs_list PySem.F.slot_list_count PySem.F.type_list_count (mt_countD h.units) (ia _ q6) (pa_cons (ib _ q7) pa_nil (star_ok q5)) (base_ok q4) (by rw [star_ok q5]; rfl) q3 (star_ok q5) rfl) fun σ H Q hq => ?_
      obtain ⟨F, da, r, g, Rr, z⟩ := hq
      have z : Post cl W σ relE da F H Q ((evC Φ a r g).bind fun x g => match preB .count x with
        | true => (evC Φ b r g).bind fun y g => R.of g (bop .count x y)
        | false => .bad) := z
      refine ⟨F, da, r, g, Rr, Post.bind z fun d g1 v F1 H1 n c p => ?_⟩
      have hl : ∃ ds, d = .list ds := by
        cases d with
        | list ds => exact ⟨ds, rfl⟩
        | _ => exact False.elim p
      obtain ⟨ds, rfl⟩ := hl
      obtain ⟨aa, us, g1', g2', g3', g4'⟩ := c.list n.sub
      subst g1'
      refine ⟨.inl ⟨rfl, us, .inl (.inl g2')⟩, F1, da, r, g1, Rr.nx n, Post.bind p fun e g2 u F2 H2 n2 c2 q2 => ?_⟩
      obtain ⟨dz, e3, kk⟩ := Post.al n2.gok q2
      exact s2_count F2 H2 da _ u _ e dz Q n2.sub (c.nx n2) c2 e3 kk
  · cases q
end
end Tl
end
section
set_option Elab.async false
set_option linter.all false
set_option autoImplicit false
set_option maxRecDepth 100000
namespace Tl
open PySem PySem.Spec PyProof.Rows L2
section
variable {T : Tab} {cl : Cls} {Φ : Nat → Fn} {k : Nat} {W : WX} {S : Stat} {X : Cx} {K : PySem.W.Frag}
/-! ### tests -/
theorem tT_tE {e : E} {σ : St} {H : Hp} {Q : Bool → Hp → Prop} (h : tT K cl W Φ e σ H Q) : tE K cl W Φ e σ H (fun x H' => ∃ c, x = .bl c ∧ Q c H') := by
  obtain ⟨F, da, r, g, Rr, z⟩ := h
  have z : Post cl W σ relT da F H Q ((evE Φ e r g).bind fun k g => R.of g (bl? k)) := z
  refine ⟨F, da, r, g, Rr, ?_⟩
  cases q : evE Φ e r g with
  | ok d g1 =>
    rw [q] at z
    intro v F' H' n rp
    cases d with
    | bool b =>
      have z : Post cl W σ relT da F H Q (.ok b g1) := z
      cases rp
      exact ⟨b, rfl, z b F' H' n rfl⟩
    | _ => exact False.elim z
  | exc c g1 => rw [q] at z; exact z
  | bad => rw [q] at z; exact z
theorem pt_bool {op : BoolOp} {vs : List Expr} {p : Pos} {t : TT} (h : PT X (.BoolOp op vs p) t) : PW X (.BoolOp op vs p) t := ⟨fun whole pins s σ H Q I q => by
  have z := h.run pins s σ H Q I q
  have e : isTrue (.BoolOp op vs p) X.env whole = isTrue (.BoolOp op vs p) X.env (eval (.BoolOp op vs p) X.env) := rfl
  rw [e]
  exact z⟩
/-- a test from a value -/
theorem pt_of {e : E} {x : Expr} (p : PE X x (tE X.K cl W Φ e)) (h : plainT x = true) : PT X x (tT X.K cl W Φ e) := impT (pt_val p (plain_ok h)) fun σ H Q hq => tT_tE hq
theorem rd_notT {a : E} {σ : St} {H : Hp} {Q : Bool → Hp → Prop} (h : tT K cl W Φ (.un .notv a) σ H Q) : tT K cl W Φ a σ H (fun c H1 => Q (!c) H1) := by
  obtain ⟨F, da, r, g, Rr, z⟩ := h
  have z : Post cl W σ relT da F H Q (((evC Φ a r g).bind fun d g => R.of g (uop .notv d)).bind fun k g => R.of g (bl? k)) := z
  refine ⟨F, da, r, g, Rr, ?_⟩
  show Post cl W σ relT da F H _ ((evE Φ a r g).bind fun k g => R.of g (bl? k))
  have ec : evC Φ a r g = evE Φ a r g ∨ ∃ ds, evC Φ a r g = .ok (.list ds) g := by
    unfold evC
    cases q : own? a r with
    | none => exact .inl rfl
    | some d =>
      unfold own? at q
      split at q
      · split at q
        · cases q; exact .inr ⟨_, rfl⟩
        · cases q
      · cases q
  rcases ec with ec | ⟨ds, ec⟩
  · rw [ec] at z
    cases q : evE Φ a r g with
    | ok d g1 =>
      rw [q] at z
      cases d with
      | bool b =>
        have z : Post cl W σ relT da F H Q (.ok (!b) g1) := z
        exact fun v F' H' n e => z (!v) F' H' n (by rw [e])
      | _ => exact False.elim z
    | exc c g1 => rw [q] at z; exact z
    | bad => rw [q] at z; exact z
  · rw [ec] at z
    exact False.elim z
theorem rd_andT {a b : E} {σ : St} {H : Hp} {Q : Bool → Hp → Prop} (h : tT K cl W Φ (.and a b) σ H Q) : tT K cl W Φ a σ H (fun c H1 => if c = true then tT K cl W Φ b σ H1 Q else Q false H1) := by
  obtain ⟨F, da, r, g, Rr, z⟩ := h
  have z : Post cl W σ relT da F H Q (((evE Φ a r g).bind fun x g => match x with
    | .bool true => evE Φ b r g
    | .bool false => .ok (.bool false) g
    | _ => .bad).bind fun k g => R.of g (bl? k)) := z
  refine ⟨F, da, r, g, Rr, ?_⟩
  show Post cl W σ relT da F H _ ((evE Φ a r g).bind fun k g => R.of g (bl? k))
  cases q : evE Φ a r g with
  | ok d g1 =>
    rw [q] at z
    cases d with
    | bool c =>
      cases c with
      | true =>
        intro v F' H' n e
        have e : v = true := e
        subst e
        rw [if_pos rfl]
        exact ⟨F', da, r, g1, Rr.nx n, Post.nx n z⟩
      | false =>
        intro v F' H' n e
        have e : v = false := e
        subst e
        rw [if_neg Bool.false_ne_true]
        exact z false F' H' n rfl
    | _ => exact False.elim z
  | exc c g1 => rw [q] at z; exact z
  | bad => rw [q] at z; exact z
theorem rd_orT {a b : E} {σ : St} {H : Hp} {Q : Bool → Hp → Prop} (h : tT K cl W Φ (.or a b) σ H Q) : tT K cl W Φ a σ H (fun c H1 => if c = true then Q true H1 else tT K cl W Φ b σ H1 Q) := by
  obtain ⟨F, da, r, g, Rr, z⟩ := h
  have z : Post cl W σ relT da F H Q (((evE Φ a r g).bind fun x g => match x with
    | .bool true => .ok (.bool true) g
    | .bool false => evE Φ b r g
    | _ => .bad).bind fun k g => R.of g (bl? k)) := z
  refine ⟨F, da, r, g, Rr, ?_⟩
  show Post cl W σ relT da F H _ ((evE Φ a r g).bind fun k g => R.of g (bl? k))
  cases q : evE Φ a r g with
  | ok d g1 =>
    rw [q] at z
    cases d with
    | bool c =>
      cases c with
      | false =>
        intro v F' H' n e
        have e : v = false := e
        subst e
        rw [if_neg Bool.false_ne_true]
        exact ⟨F', da, r, g1, Rr.nx n, Post.nx n z⟩
      | true =>
        intro v F' H' n e
        have e : v = true := e
        subst e
        rw [if_pos rfl]
        exact z true F' H' n rfl
    | _ => exact False.elim z
  | exc c g1 => rw [q] at z; exact z
  | bad => rw [q] at z; exact z
/-! ### values: and, or, if, chains, is -/
theorem rd_and {a b : E} {σ : St} {H : Hp} {Q : VK} (h : tE K cl W Φ (.and a b) σ H Q) : tE K cl W Φ a σ H (fun x H1 => ∃ c, x = .bl c ∧ if c = true then tE K cl W Φ b σ H1 Q else Q (.bl false) H1) := by
  obtain ⟨F, da, r, g, Rr, z⟩ := h
  refine ⟨F, da, r, g, Rr, Post.bind z fun d g1 v F1 H1 n rp p => ?_⟩
  cases d with
  | bool c =>
    cases rp
    refine ⟨c, rfl, ?_⟩
    cases c with
    | true => rw [if_pos rfl]; exact ⟨F1, da, r, g1, Rr.nx n, p⟩
    | false => rw [if_neg Bool.false_ne_true]; exact p (.bl false) F1 H1 (Nx.refl n.sub n.gok) (.bl false)
  | _ => exact False.elim p
theorem rd_or {a b : E} {σ : St} {H : Hp} {Q : VK} (h : tE K cl W Φ (.or a b) σ H Q) : tE K cl W Φ a σ H (fun x H1 => ∃ c, x = .bl c ∧ if c = true then Q (.bl true) H1 else tE K cl W Φ b σ H1 Q) := by
  obtain ⟨F, da, r, g, Rr, z⟩ := h
  refine ⟨F, da, r, g, Rr, Post.bind z fun d g1 v F1 H1 n rp p => ?_⟩
  cases d with
  | bool c =>
    cases rp
    refine ⟨c, rfl, ?_⟩
    cases c with
    | false => rw [if_neg Bool.false_ne_true]; exact ⟨F1, da, r, g1, Rr.nx n, p⟩
    | true => rw [if_pos rfl]; exact p (.bl true) F1 H1 (Nx.refl n.sub n.gok) (.bl true)
  | _ => exact False.elim p
theorem rd_ite {c a b : E} {σ : St} {H : Hp} {Q : VK} (h : tE K cl W Φ (.ite c a b) σ H Q) : tT K cl W Φ c σ H (fun d H1 => if d = true then tE K cl W Φ a σ H1 Q else tE K cl W Φ b σ H1 Q) := by
  obtain ⟨F, da, r, g, Rr, z⟩ := h
  have z : Post cl W σ relE da F H Q ((evE Φ c r g).bind fun x g => match x with
    | .bool true => evE Φ a r g
    | .bool false => evE Φ b r g
    | _ => .bad) := z
  refine ⟨F, da, r, g, Rr, ?_⟩
  show Post cl W σ relT da F H _ ((evE Φ c r g).bind fun k g => R.of g (bl? k))
  cases q : evE Φ c r g with
  | ok d g1 =>
    rw [q] at z
    cases d with
    | bool c =>
      intro v F' H' n e
      have e : v = c := e
      subst e
      cases v with
      | true => rw [if_pos rfl]; exact ⟨F', da, r, g1, Rr.nx n, Post.nx n z⟩
      | false => rw [if_neg Bool.false_ne_true]; exact ⟨F', da, r, g1, Rr.nx n, Post.nx n z⟩
    | _ => exact False.elim z
  | exc c g1 => rw [q] at z; exact z
  | bad => rw [q] at z; exact z
theorem rd_le2 {a b c : E} {σ : St} {H : Hp} {Q : VK} (h : tE K cl W Φ (.le2 a b c) σ H Q) :
    tChain (rI0 fun i j => .bl (decide (i ≤ j))) (rI0 fun i j => .bl (decide (i ≤ j))) (tE K cl W Φ a) (tE K cl W Φ b) (tE K cl W Φ c) σ H Q := by
  obtain ⟨F, da, r, g, Rr, z⟩ := h
  refine ⟨F, da, r, g, Rr, Post.bind z fun d g1 v F1 H1 n rp p => ?_⟩
  refine ⟨F1, da, r, g1, Rr.nx n, Post.bind p fun e g2 u F2 H2 n2 rp2 p2 => ?_⟩
  cases d with
  | int i =>
    cases e with
    | int j =>
      cases rp
      cases rp2
      refine ⟨i, j, rfl, rfl, decide (i ≤ j), rfl, ?_⟩
      by_cases hij : i ≤ j
      · rw [if_pos (decide_eq_true hij)]
        simp only [if_pos hij] at p2
        refine ⟨F2, da, r, g2, (Rr.nx n).nx n2, Post.bind p2 fun e3 g3 w F3 H3 n3 rp3 p3 => ?_⟩
        cases e3 with
        | int l =>
          cases rp3
          exact ⟨j, l, rfl, rfl, p3 _ F3 H3 (Nx.refl n3.sub n3.gok) (.bl _)⟩
        | _ => exact False.elim p3
      · rw [if_neg (by simpa using hij)]
        simp only [if_neg hij] at p2
        exact p2 _ F2 H2 (Nx.refl n2.sub n2.gok) (.bl _)
    | _ => exact False.elim p2
  | _ => exact False.elim p2
/-! three in a row -/
abbrev rLe0 : R2 := rI0 fun i j => .bl (decide (i ≤ j))
def tChain3 (ta tb tc td : TE) : TE := fun σ H Q => ta σ H fun x H1 => tb σ H1 fun y H2 => rLe0 x y H2 fun z H3 => ∃ k, z = .bl k ∧
  (if k = true then tc σ H3 fun w H4 => rLe0 y w H4 fun z2 H5 => ∃ k2, z2 = .bl k2 ∧ (if k2 = true then td σ H5 fun u H6 => rLe0 w u H6 Q else Q (.bl false) H5) else Q (.bl false) H3)
section
variable {a b c d : Expr} {ta tb tc td : TE} {pos : Pos}
theorem pe_chain3 (ha : PE X a ta) (hb : PE X b tb) (hc : PE X c tc) (hd : PE X d td) (hm : lastMarks [.LtE, .LtE, .LtE] [b, c, d] = false) : PE X (.Compare a [.LtE, .LtE, .LtE] [b, c, d] pos) (tChain3 ta tb tc td) := by
  refine ⟨fun pins s σ H Q I h => ?_⟩
  refine Compare_chain (thn (ha.run pins s σ H _ I h) fun v s1 ⟨x, H1, I1, r1, q1⟩ => chain_link (thn (hb.run pins s1 σ H1 _ I1 q1) fun u s2 ⟨y, H2, I2, r2, q2⟩ =>
    thn (op_le pins s2 σ H2 x y v u _ I2 r1 r2 q2) fun e s3 ⟨z, H3, I3, r3, k, ek, q3⟩ => ?_)) hm
  subst ek
  cases r3
  refine wpAny_truthy_bool ?_
  cases k with
  | false => exact ite_ff ⟨.bl false, H3, I3, rfl, q3⟩
  | true =>
    refine ite_tt (chain_link (thn (hc.run pins s3 σ H3 _ I3 q3) fun w s4 ⟨x4, H4, I4, r4, q4⟩ => thn (op_le pins s4 σ H4 y x4 u w _ I4 r2 r4 q4) fun e s5 ⟨z5, H5, I5, r5, k2, ek2, q5⟩ => ?_))
    subst ek2
    cases r5
    refine wpAny_truthy_bool ?_
    cases k2 with
    | false => exact ite_ff ⟨.bl false, H5, I5, rfl, q5⟩
    | true => exact ite_tt (chain_last (thn (hd.run pins s5 σ H5 _ I5 q5) fun w' s6 ⟨z', H6, I6, r6, q6⟩ => op_le pins s6 σ H6 x4 z' w w' Q I6 r4 r6 q6))
theorem pt_chain3 (ha : PE X a ta) (hb : PE X b tb) (hc : PE X c tc) (hd : PE X d td) (hm : lastMarks [.LtE, .LtE, .LtE] [b, c, d] = false) : PT X (.Compare a [.LtE, .LtE, .LtE] [b, c, d] pos) (tTest (tChain3 ta tb tc td)) := by
  refine ⟨fun pins s σ H Q I h => ?_⟩
  refine isTrue_chain (thn (ha.run pins s σ H _ I h) fun v s1 ⟨x, H1, I1, r1, q1⟩ => test_link (thn (hb.run pins s1 σ H1 _ I1 q1) fun u s2 ⟨y, H2, I2, r2, q2⟩ =>
    thn (op_le pins s2 σ H2 x y v u _ I2 r1 r2 q2) fun e s3 ⟨z, H3, I3, r3, k, ek, q3⟩ => ?_)) hm
  subst ek
  cases r3
  refine wpAny_truthy_bool ?_
  cases k with
  | false =>
    obtain ⟨k', e', q'⟩ := q3
    cases e'
    exact ite_ff ⟨H3, I3, q'⟩
  | true =>
    refine ite_tt (test_link (thn (hc.run pins s3 σ H3 _ I3 q3) fun w s4 ⟨x4, H4, I4, r4, q4⟩ => thn (op_le pins s4 σ H4 y x4 u w _ I4 r2 r4 q4) fun e s5 ⟨z5, H5, I5, r5, k2, ek2, q5⟩ => ?_))
    subst ek2
    cases r5
    refine wpAny_truthy_bool ?_
    cases k2 with
    | false =>
      obtain ⟨k', e', q'⟩ := q5
      cases e'
      exact ite_ff ⟨H5, I5, q'⟩
    | true =>
      refine ite_tt (test_last (thn (hd.run pins s5 σ H5 _ I5 q5) fun w' s6 ⟨z', H6, I6, r6, q6⟩ => thn (op_le pins s6 σ H6 x4 z' w w' _ I6 r4 r6 q6) fun e s7 ⟨z7, H7, I7, r7, k', ek', q7⟩ => ?_))
      subst ek'
      cases r7
      exact wpAny_truthy_bool ⟨H7, I7, q7⟩
end
theorem rd_le3 {a b c d : E} {σ : St} {H : Hp} {Q : VK} (h : tE K cl W Φ (.le3 a b c d) σ H Q) : tChain3 (tE K cl W Φ a) (tE K cl W Φ b) (tE K cl W Φ c) (tE K cl W Φ d) σ H Q := by
  obtain ⟨F, da, r, g, Rr, z⟩ := h
  refine ⟨F, da, r, g, Rr, Post.bind z fun d g1 v F1 H1 n rp p => ?_⟩
  refine ⟨F1, da, r, g1, Rr.nx n, Post.bind p fun e g2 u F2 H2 n2 rp2 p2 => ?_⟩
  cases d with
  | int i =>
    cases e with
    | int j =>
      cases rp
      cases rp2
      refine ⟨i, j, rfl, rfl, decide (i ≤ j), rfl, ?_⟩
      by_cases hij : i ≤ j
      · rw [if_pos (decide_eq_true hij)]
        simp only [if_pos hij] at p2
        refine ⟨F2, da, r, g2, (Rr.nx n).nx n2, Post.bind p2 fun e3 g3 w F3 H3 n3 rp3 p3 => ?_⟩
        cases e3 with
        | int l =>
          cases rp3
          refine ⟨j, l, rfl, rfl, decide (j ≤ l), rfl, ?_⟩
          by_cases hjl : j ≤ l
          · rw [if_pos (decide_eq_true hjl)]
            simp only [if_pos hjl] at p3
            refine ⟨F3, da, r, g3, ((Rr.nx n).nx n2).nx n3, Post.bind p3 fun e4 g4 w4 F4 H4 n4 rp4 p4 => ?_⟩
            cases e4 with
            | int m =>
              cases rp4
              exact ⟨l, m, rfl, rfl, p4 _ F4 H4 (Nx.refl n4.sub n4.gok) (.bl _)⟩
            | _ => exact False.elim p4
          · rw [if_neg (by simpa using hjl)]
            simp only [if_neg hjl] at p3
            exact p3 _ F3 H3 (Nx.refl n3.sub n3.gok) (.bl _)
        | _ => exact False.elim p3
      · rw [if_neg (by simpa using hij)]
        simp only [if_neg hij] at p2
        exact p2 _ F2 H2 (Nx.refl n2.sub n2.gok) (.bl _)
    | _ => exact False.elim p2
  | _ => exact False.elim p2
def isNo : D → Bool
  | .none => true
  | _ => false
theorem rp_non {F : Hp} {v : V} {d : D} (h : Rp F v d) : decide (v = .non) = isNo d := by
  cases h <;> rfl
theorem isD_none (d : D) : isD d .none = some (isNo d) := by cases d <;> rfl
theorem rd_iscN {a : E} {σ : St} {H : Hp} {Q : VK} (h : tE K cl W Φ (.isc a .none) σ H Q) : tE K cl W Φ a σ H (fun x H1 => Q (.bl (decide (x = .non))) H1) := by
  obtain ⟨F, da, r, g, Rr, z⟩ := h
  refine ⟨F, da, r, g, Rr, Post.bind z fun e g1 v F1 H1 n rp p => ?_⟩
  rw [rp_non rp]
  rw [isD_none] at p
  exact p _ F1 H1 (Nx.refl n.sub n.gok) (.bl _)
theorem rd_isncN {a : E} {σ : St} {H : Hp} {Q : VK} (h : tE K cl W Φ (.isnc a .none) σ H Q) : tE K cl W Φ a σ H (fun x H1 => Q (.bl (!decide (x = .non))) H1) := by
  obtain ⟨F, da, r, g, Rr, z⟩ := h
  refine ⟨F, da, r, g, Rr, Post.bind z fun e g1 v F1 H1 n rp p => ?_⟩
  rw [rp_non rp]
  rw [isD_none] at p
  exact p _ F1 H1 (Nx.refl n.sub n.gok) (.bl _)
theorem rd_iscB {a : E} {b : Bool} {σ : St} {H : Hp} {Q : VK} (h : tE K cl W Φ (.isc a (.bool b)) σ H Q) : tE K cl W Φ a σ H (fun x H1 => ∃ c d, x = .bl c ∧ V.bl b = .bl d ∧ Q (.bl (decide (c = d))) H1) := by
  obtain ⟨F, da, r, g, Rr, z⟩ := h
  refine ⟨F, da, r, g, Rr, Post.bind z fun e g1 v F1 H1 n rp p => ?_⟩
  cases e with
  | bool c =>
    cases rp
    exact ⟨c, b, rfl, rfl, p _ F1 H1 (Nx.refl n.sub n.gok) (.bl _)⟩
  | _ => exact False.elim p
theorem rd_isncB {a : E} {b : Bool} {σ : St} {H : Hp} {Q : VK} (h : tE K cl W Φ (.isnc a (.bool b)) σ H Q) : tE K cl W Φ a σ H (fun x H1 => ∃ c d, x = .bl c ∧ V.bl b = .bl d ∧ Q (.bl (!decide (c = d))) H1) := by
  obtain ⟨F, da, r, g, Rr, z⟩ := h
  refine ⟨F, da, r, g, Rr, Post.bind z fun e g1 v F1 H1 n rp p => ?_⟩
  cases e with
  | bool c =>
    cases rp
    exact ⟨c, b, rfl, rfl, p _ F1 H1 (Nx.refl n.sub n.gok) (.bl _)⟩
  | _ => exact False.elim p
/-- is, is not -/
theorem snd_isc {a : E} {d : D} {u : Expr} {c : Const} {j : Nat} {p1 pos : Pos} (ia : PE X u (tE X.K cl W Φ a)) (q : (isNB d && okC d c) = true) :
    PE X (.Compare u [.Is] [.Constant c j p1] pos) (tE X.K cl W Φ (.isc a d)) ∧ PT X (.Compare u [.Is] [.Constant c j p1] pos) (tT X.K cl W Φ (.isc a d)) ∧
    PE X (.Compare u [.IsNot] [.Constant c j p1] pos) (tE X.K cl W Φ (.isnc a d)) ∧ PT X (.Compare u [.IsNot] [.Constant c j p1] pos) (tT X.K cl W Φ (.isnc a d)) := by
  obtain ⟨q1, q2⟩ := and2 q
  cases d with
  | none =>
    cases c with
    | none =>
      refine ⟨impE (pe_cmpR op_isN ia pe_non (nomark _)) fun σ H Q hq => ?_, impT (pt_cmpR op_isN ia pe_non (nomark _)) fun σ H Q hq => ?_, impE (pe_cmpR op_notN ia pe_non (nomark _)) fun σ H Q hq => ?_, impT (pt_cmpR op_notN ia pe_non (nomark _)) fun σ H Q hq => ?_⟩
      · obtain ⟨F, da, r, g, Rr, z⟩ := rd_iscN hq
        exact ⟨F, da, r, g, Rr, Post.imp z fun v H1 z => ⟨rfl, z⟩⟩
      · obtain ⟨F, da, r, g, Rr, z⟩ := rd_iscN (tT_tE hq)
        exact ⟨F, da, r, g, Rr, Post.imp z fun v H1 z => ⟨rfl, z⟩⟩
      · obtain ⟨F, da, r, g, Rr, z⟩ := rd_isncN hq
        exact ⟨F, da, r, g, Rr, Post.imp z fun v H1 z => ⟨rfl, z⟩⟩
      · obtain ⟨F, da, r, g, Rr, z⟩ := rd_isncN (tT_tE hq)
        exact ⟨F, da, r, g, Rr, Post.imp z fun v H1 z => ⟨rfl, z⟩⟩
    | _ => simp [okC] at q2
  | bool b =>
    cases c with
    | bool b' =>
      have e : b = b' := by simpa [okC] using q2
      subst e
      exact ⟨impE (pe_cmpR op_isBl ia pe_bl (nomark _)) fun σ H Q hq => rd_iscB hq, impT (pt_cmpR op_isBl ia pe_bl (nomark _)) fun σ H Q hq => rd_iscB (tT_tE hq),
        impE (pe_cmpR op_notBl ia pe_bl (nomark _)) fun σ H Q hq => rd_isncB hq, impT (pt_cmpR op_notBl ia pe_bl (nomark _)) fun σ H Q hq => rd_isncB (tT_tE hq)⟩
    | _ => simp [okC] at q2
  | _ => simp [isNB] at q1
/-! ### displays -/
theorem args_vals {F : Hp} {da : DA} : ∀ {vs : List V} {cs : List Cell} {ds : List D}, ArgsOk cl F da vs cs → vals? cs = some ds → RpAll F vs ds
  | _, _, _, .nil, e => by cases e; exact .nil
  | _, _, _, .cons (c := c) (cs := cs) h t, e => by
    cases c with
    | val d =>
      simp only [vals?] at e
      cases q : vals? cs with
      | none => rw [q] at e; cases e
      | some es =>
        rw [q] at e
        cases e
        exact .cons h (args_vals t q)
    | _ => simp [vals?] at e
theorem snd_lst {as : E} {es : List Expr} {pos : Pos} (ia : PA X es (tA X.K cl W Φ as)) : PE X (.List es pos) (tE X.K cl W Φ (.lst as)) := by
  refine impE (pe_lst ia) fun σ H Q hq => ?_
  obtain ⟨F, da, r, g, Rr, z⟩ := hq
  refine ⟨F, da, r, g, Rr, Post.bind z fun cs g1 vs F1 H1 n ao p => ?_⟩
  obtain ⟨dz, e, kk⟩ := Post.al n.gok p
  cases q : vals? cs with
  | none => rw [q] at e; cases e
  | some ds =>
    rw [q] at e
    simp only [Option.bind_some] at e
    split at e
    · rename_i hl
      cases e
      have ra := args_vals ao q
      exact ⟨by rw [ra.length]; exact lim_line' hl, fun p hp => new_lst n.sub ra hl kk p hp⟩
    · cases e
theorem snd_tup {as : E} {es : List Expr} {j : Nat} {pos : Pos} (ia : PA X es (tA X.K cl W Φ as)) : PE X (.Tuple es j pos) (tE X.K cl W Φ (.tup as)) := by
  refine impE (pe_tup ia) fun σ H Q hq => ?_
  obtain ⟨F, da, r, g, Rr, z⟩ := hq
  refine ⟨F, da, r, g, Rr, Post.bind z fun cs g1 vs F1 H1 n ao p => ?_⟩
  obtain ⟨dz, e, kk⟩ := Post.al n.gok p
  cases q : vals? cs with
  | none => rw [q] at e; cases e
  | some ds =>
    rw [q] at e
    simp only [Option.bind_some] at e
    split at e
    · rename_i hl
      cases e
      have ra := args_vals ao q
      exact ⟨by rw [ra.length]; exact lim_line' hl, fun p hp => new_tup n.sub ra hl kk p hp⟩
    · cases e
/-! ### arguments -/
theorem snd_nil : PA X [] (tA X.K cl W Φ .nil) := by
  refine impA pa_nil fun σ H Q hq => ?_
  obtain ⟨F, da, r, g, Rr, z⟩ := hq
  exact z [] F H (Nx.refl Rr.sub Rr.gok) .nil
def tArg (K : PySem.W.Frag) (cl : Cls) (W : WX) (Φ : Nat → Fn) (a : E) : TE := tM K cl W (fun F _ da v c => ArgOk cl F da v c) (fun r g => match cell? a r with | some c => .ok c g | none => (evE Φ a r g).bind fun d g => .ok (.val d) g)
theorem snd_arg (h : XOk T cl Φ k W S X) {a : E} {x : Expr} (q : okE T a S x = true) (p : PE X x (tE X.K cl W Φ a)) : PE X x (tArg X.K cl W Φ a) := by
  have gen : (∀ r, cell? a r = none) → PE X x (tArg X.K cl W Φ a) := fun hn => by
    refine impE p fun σ H Q hq => ?_
    obtain ⟨F, da, r, g, Rr, z⟩ := hq
    refine ⟨F, da, r, g, Rr, ?_⟩
    dsimp only at z
    rw [hn r] at z
    exact Post.bind z fun d g1 v F1 H1 n rp p => p v F1 H1 (Nx.refl n.sub n.gok) rp
  cases a with
  | var i =>
    simp only [okE] at q
    split at q
    · refine impE (h.var q) fun σ H Q hq => ?_
      obtain ⟨F, da, r, g, Rr, p⟩ := hq
      cases e : r[i]? with
      | none => simp only [cell?, evE, e] at p; exact p.elim
      | some c =>
        have sl := Rr.slot i c e
        cases c with
        | val d =>
          simp only [cell?, evE, e] at p
          obtain ⟨v, e1, rp⟩ := sl
          exact ⟨v, e1, p v F H (Nx.refl Rr.sub Rr.gok) rp⟩
        | drw =>
          simp only [cell?, evE, e] at p
          obtain ⟨pp, e0, e1⟩ := sl
          exact ⟨_, e1, p _ F H (Nx.refl Rr.sub Rr.gok) ⟨pp, e0, rfl⟩⟩
        | exn c =>
          simp only [cell?, evE, e] at p
          obtain ⟨a, e1, e2⟩ := sl
          exact ⟨_, e1, p _ F H (Nx.refl Rr.sub Rr.gok) ⟨a, rfl, e2⟩⟩
        | _ => simp only [cell?, evE, e] at p; exact p.elim
    · cases q
  | _ => exact gen fun _ => rfl
theorem snd_cons {a as : E} {x : Expr} {xs : List Expr} (ia : PE X x (tArg X.K cl W Φ a)) (is : PA X xs (tA X.K cl W Φ as)) (hs : noStar x = true) : PA X (x :: xs) (tA X.K cl W Φ (.cons a as)) := by
  refine impA (pa_cons ia is (star_ok hs)) fun σ H Q hq => ?_
  obtain ⟨F, da, r, g, Rr, z⟩ := hq
  refine ⟨F, da, r, g, Rr, Post.bind z fun c g1 v F1 H1 n ao p => ?_⟩
  refine ⟨F1, da, r, g1, Rr.nx n, Post.bind p fun cs g2 vs F2 H2 n2 ao2 p2 => ?_⟩
  exact p2 _ F2 H2 (Nx.refl n2.sub n2.gok) (.cons (ao.mono n2.fr) ao2)
/-! ### calls -/
theorem pe_callS0 {CX : CXT} {j : Nat} {f : Addr} {fd : FuncData} {ps : List Str} {sp : Sp} {E : L2.St → XK} {x : Str} {p pos : Pos} (F : FnOk X.prog X.w X.K X.mg X.base CX j f fd ps sp) (hr : Room j X.A) (hg : Gl X x) (hm : X.mg x = some (.ref f)) (hk : PySem.W.keepIn X.K (.ref f) = true) (hb : Binds X.K fd ps []) (hx : ∀ σ, PassesAt CX X σ (E σ))
    (hdb : (x == ("__debug__" : Str)) = false) : PE X (.Call (.Name x p) [] [] pos) (tCallS sp E tNil) := by
  refine ⟨fun pins s σ H Q I h => ?_⟩
  refine wpAny_Call_Name_kw (ld_glob I hg hm ?_ hdb)
  exact PySem.W.callWith_K0 I.kIn hk (run_fnS (us := []) F hr hb (hx σ) I .nil h)
theorem snd_call (h : XOk T cl Φ k W S X) {f : Nat} {as : E} {a : Str} {p pos : Pos} {es : List Expr} (ia : PA X es (tA X.K cl W Φ as)) (hA : okA T as S es = true) (q : (okG S a && decide (T.nm[f]? = some a) && decide (f ∈ T.fs) && es.all noStar) = true) :
    PE X (.Call (.Name a p) es [] pos) (tE X.K cl W Φ (.call f as)) := by
  obtain ⟨q, q4⟩ := and2 q
  obtain ⟨q, q3⟩ := and2 q
  obtain ⟨q1, q2⟩ := and2 q
  obtain ⟨g1, g2⟩ := h.gl q1
  obtain ⟨x, fa, fd, ps, e1, e2, e3, e4, e5⟩ := h.fun_ f (of_decide_eq_true q3)
  have e : x = a := by
    have := of_decide_eq_true q2
    rw [e1] at this
    exact Option.some.inj this
  subst e
  have rd : ∀ σ H Q, tE X.K cl W Φ (.call f as) σ H Q → tCallS (spF cl (Φ f)) (WE W) (tA X.K cl W Φ as) σ H Q := fun σ H Q hq => by
    obtain ⟨F, da, r, g, Rr, z⟩ := hq
    refine ⟨F, da, r, g, Rr, Post.bind z fun cs g1 vs F1 H1 n ao p => ?_⟩
    refine ⟨F1, da, g1, cs, n.sub, n.gok, (Rr.nx n).nod, ao, ?_⟩
    cases q : Φ f cs g1 with
    | ok d g2 => rw [q] at p; exact p
    | exc c g2 => rw [q] at p; exact p
    | bad => rw [q] at p; exact p
  cases es with
  | nil =>
    refine impE (pe_callS0 e5 h.room g1 e2 e3 e4 h.pass g2) fun σ H Q hq => ?_
    obtain ⟨F, da, r, g, Rr, z⟩ := rd σ H Q hq
    cases as with
    | nil => exact z [] F H (Nx.refl Rr.sub Rr.gok) .nil
    | _ => simp [okA] at hA
  | cons y ys =>
    rw [List.all_cons, Bool.and_eq_true] at q4
    exact impE (pe_callS e5 h.room g1 e2 e3 e4 h.pass ia g2 (star_ok q4.1) (stars_ok q4.2)) rd
/-! ### isinstance -/
def tyOfD : D → String
  | .none => "NoneType"
  | .bool _ => "bool"
  | .int _ => "int"
  | .str _ => "str"
  | .list _ => "list"
  | .tuple _ => "tuple"
  | .dict _ => "dict"
theorem rp_ty {F H : Hp} (s : Same F H) {v : V} {d : D} (h : Rp F v d) : TyX K H v (.type (tyOfD d)) := by
  cases h with
  | non => exact .base .non
  | bl b => exact .base (.bl b)
  | int i => exact .base (.int i)
  | str x _ _ => exact .base (.str x)
  | lst h _ _ => exact .base (.lst (s _ _ h))
  | tup h _ _ => exact .base (.tup (s _ _ h))
def tyStr : Ty → String
  | .int => "int"
  | .bool => "bool"
  | .list => "list"
  | .str => "str"
def isTyS : Ty → String → Bool
  | .int, z => z == "int" || z == "bool"
  | .bool, z => z == "bool"
  | .list, z => z == "list"
  | .str, z => z == "str"
def tys : List String := ["NoneType", "bool", "int", "str", "list", "tuple"]
theorem kit_tab : (tys.all fun z => [Ty.int, Ty.bool, Ty.list, Ty.str].all fun t => kitB z (tyStr t) == some (isTyS t z)) = true := by decide +kernel
theorem isTy_is (t : Ty) (d : D) : isTy t d = isTyS t (tyOfD d) := by
  cases t <;> cases d <;> rfl
theorem kit_all (t : Ty) {F : Hp} {v : V} {d : D} (h : Rp F v d) : PySem.W.kitOne K (.type (tyOfD d)) (.type (tyStr t)) = some (isTy t d) := by
  rw [isTy_is]
  have hz : tyOfD d ∈ tys := by cases h <;> simp [tyOfD, tys]
  have q := List.all_eq_true.mp kit_tab _ hz
  have q2 := List.all_eq_true.mp q t (by cases t <;> simp)
  exact kit_ty (beq_iff_eq.mp q2)
theorem bool_boot : bootBuiltins "bool" = some (.type "bool") := boot_bool
theorem snd_isi (h : XOk T cl Φ k W S X) {a : E} {t : Ty} {f u : Str} {p1 p2 pos : Pos} {y : Expr} (ia : PE X y (tE X.K cl W Φ a)) (q : (okB S f "isinstance" && okB S u (tyName t) && noStar y) = true) :
    PE X (.Call (.Name f p1) [y, .Name u p2] [] pos) (tE X.K cl W Φ (.isi a t)) := by
  obtain ⟨q, q3⟩ := and2 q
  obtain ⟨q1, q2⟩ := and2 q
  obtain ⟨rfl, g, m⟩ := h.bl q1 (by decide +kernel)
  obtain ⟨rfl, g', m'⟩ := h.bl q2 (by cases t <;> decide +kernel)
  have hv : bootBuiltins (tyName t) = some (.type (tyStr t)) := by
    cases t
    · exact boot_int
    · exact boot_bool
    · exact boot_list
    · exact boot_str
  have pt : PE X (.Name (tyName t) p2) (L2.tC (.ty (tyStr t))) := pe_bltn g' m' hv rfl (by cases t <;> decide +kernel) (by cases t <;> decide +kernel)
  refine impE (pe_callB call_isi g m boot_isinstance (pa_cons ia (pa_cons pt pa_nil) (star_ok q3)) (he := star_ok q3)) fun σ H Q hq => ?_
  obtain ⟨F, da, r, g, Rr, z⟩ := hq
  refine ⟨F, da, r, g, Rr, Post.bind z fun d g1 v F1 H1 n rp p => ?_⟩
  exact ⟨v, _, _, _, _, rfl, .ty _, rp_ty n.sub rp, kit_all t rp, p _ F1 H1 (Nx.refl n.sub n.gok) (.bl _)⟩
/-! ### what was caught -/
theorem rd_isx (h : XOk T cl Φ k W S X) (h6 : T.cn.length = 6) {i c : Nat} {σ : St} {H : Hp} {Q : VK} (hq : tE X.K cl W Φ (.isx i c) σ H Q) :
    (∃ (a : Addr) (d : Nat), σ[i]? = some (some (.ref a)) ∧ H a = some (ExH (.ref (cl d)) none a) ∧ d < 6 ∧ Q (.bl (isSub d c)) H) ∨ (σ[i]? = some (some .non) ∧ c = 8 ∧ Q (.bl true) H) := by
  obtain ⟨F, da, r, g, Rr, p⟩ := hq
  cases e : r[i]? with
  | none => simp only [evE, e] at p; exact p.elim
  | some x =>
    have sl := Rr.slot i x e
    cases x with
    | exn d =>
      simp only [evE, e] at p
      split at p
      · rename_i hd
        obtain ⟨a, e1, e2⟩ := sl
        exact .inl ⟨a, d, e1, Rr.sub _ _ e2, hd, p _ F H (Nx.refl Rr.sub Rr.gok) (.bl _)⟩
      · exact p.elim
    | val d =>
      cases d with
      | none =>
        simp only [evE, e] at p
        split at p
        · rename_i hc
          obtain ⟨v, e1, rp⟩ := sl
          cases rp
          exact .inr ⟨e1, hc, p _ F H (Nx.refl Rr.sub Rr.gok) (.bl _)⟩
        · exact p.elim
      | _ => simp only [evE, e] at p; exact p.elim
    | _ => simp only [evE, e] at p; exact p.elim
theorem isSub8 (d : Nat) : isSub d 8 = false := rfl
theorem snd_isx (h : XOk T cl Φ k W S X) {i c : Nat} {x : Expr} (q : okX T S i c x = true) : PE X x (tE X.K cl W Φ (.isx i c)) ∧ PT X x (tT X.K cl W Φ (.isx i c)) := by
  obtain ⟨q0, q⟩ := and2 q
  have h6 := of_decide_eq_true q0
  obtain ⟨L, mL, mV, mC, fx⟩ := h.exf h6
  split at q
  · obtain ⟨q1, q2⟩ := and2 q
    have hc := of_decide_eq_true q1
    subst hc
    have go : ∀ {σ : St} {H : Hp} {Q : VK}, tE X.K cl W Φ (.isx i 8) σ H Q → tVar i σ H (fun x H1 => V.non = V.non ∧ Q (.bl (decide (x = .non))) H1) := fun {σ H Q} hq => by
      rcases rd_isx h h6 hq with ⟨a, d, e1, _, _, z⟩ | ⟨e1, _, z⟩
      · exact ⟨_, e1, rfl, by rw [isSub8] at z; exact z⟩
      · exact ⟨_, e1, rfl, z⟩
    exact ⟨impE (pe_cmpR op_isN (h.var q2) pe_non (nomark _)) fun σ H Q hq => go hq, impT (pt_cmpR op_isN (h.var q2) pe_non (nomark _)) fun σ H Q hq => go (tT_tE hq)⟩
  · obtain ⟨q, q4⟩ := and2 q
    obtain ⟨q, q3⟩ := and2 q
    obtain ⟨q1, q2⟩ := and2 q
    obtain ⟨rfl, g, m⟩ := h.bl q1 (by decide +kernel)
    obtain ⟨g', dbg⟩ := h.gl q3
    have key : ∀ {v u : Str} {p0 p1 p2 pos : Pos} (cv : V) (cu : Value), okV S i v = true → ClsV cv cu → PE X (.Name u p2) (L2.tC cv) → (∀ d, d < 6 → PySem.W.kitOne X.K (.ref (cl d)) cu = some (isSub d c)) → c ≠ 8 → PE X (.Call (.Name "isinstance" p0) [.Name v p1, .Name u p2] [] pos) (tE X.K cl W Φ (.isx i c)) := fun cv cu qv kc pc kk h8 => by
      refine impE (pe_callB call_isX g m boot_isinstance (pa_cons (h.var qv) (pa_cons pc pa_nil))) fun σ H Q hq => ?_
      rcases rd_isx h h6 hq with ⟨a, d, e1, e2, hd, z⟩ | ⟨_, e, _⟩
      · exact ⟨_, e1, a, cl d, cv, cu, _, rfl, e2, (fx d hd).1, kc, kk d hd, z⟩
      · exact absurd e h8
    refine (fun both => ⟨both, pt_of both rfl⟩ : PE X _ (tE X.K cl W Φ (.isx i c)) → _) ?_
    · skip
      rw [Bool.or_eq_true, Bool.or_eq_true] at q4
      rcases q4 with (q4 | q4) | q4
      · have e := of_decide_eq_true q4
        have hc : c < 6 := by rw [← h6]; exact (List.getElem?_eq_some_iff.mp e).1
        refine key (.ref (cl c)) (.ref (cl c)) q2 (.own _) (pe_glob g' (mC c _ e) rfl dbg) (fun d hd => ?_) (by omega)
        rw [(fx d hd).2.2.2.2 c hc]
        have e1 : (c != 8) = true := bne_iff_ne.mpr (by omega)
        have e2 : (c == 6) = false := beq_eq_false_iff_ne.mpr (by omega)
        have e3 : (c == 7) = false := beq_eq_false_iff_ne.mpr (by omega)
        unfold isSub
        rw [e1, e2, e3, Bool.or_false, Bool.or_false, Bool.true_and]
      · obtain ⟨q5, q6⟩ := and2 q4
        have e := of_decide_eq_true q5
        subst e
        have e := of_decide_eq_true q6
        subst e
        refine key (.ref L) (.ref L) q2 (.own _) (pe_glob g' mL rfl dbg) (fun d hd => ?_) (by omega)
        rw [(fx d hd).2.2.1]
        simp [isSub]
      · obtain ⟨q5, q6⟩ := and2 q4
        have e := of_decide_eq_true q5
        subst e
        have e := of_decide_eq_true q6
        subst e
        refine key (.ty "ValueError") (.type "ValueError") q2 (.ty _) (pe_bltn g' mV boot_ValueError rfl (by decide) dbg) (fun d hd => ?_) (by omega)
        rw [(fx d hd).2.1]
        simp [isSub]
  · cases q
end
end Tl
end
section
set_option Elab.async false
set_option linter.all false
set_option autoImplicit false
set_option maxRecDepth 100000
namespace Tl
open PySem PySem.Spec PyProof.Rows L2
section
variable {T : Tab} {cl : Cls} {Φ : Nat → Fn} {k : Nat} {W : WX} {S : Stat} {X : Cx} {K : PySem.W.Frag}
/-! ### what is walked -/
/-- J yields the data xs, one after another, while what is frozen stays -/
def relI : Hp → Hp → DA → It → D → Prop := fun F _ _ J d => ∃ (xs : List D) (G : Hp → Prop) (Y : Nat → Hp → V → Hp → Prop), d = .list xs ∧ xs.length ≤ lim ∧ Walk J xs.length G Y ∧ (∀ F' H', Same F F' → Same F' H' → G H') ∧
  ∀ i F1 H1 v H2, i < xs.length → Same F F1 → Same F1 H1 → Y i H1 v H2 → ∃ x F2, xs[i]? = some x ∧ Al F1 H1 F2 H2 ∧ Rp F2 v x
abbrev tI (K : PySem.W.Frag) (cl : Cls) (W : WX) (Φ : Nat → Fn) (e : E) : TI := tM K cl W relI (evE Φ e)
theorem relI_list {F H : Hp} {da : DA} {a : Addr} {us : List V} {xs : List D} (h : F a = some (.lst us)) (r : RpAll F us xs) (l : xs.length ≤ lim) : relI F H da (Itl K a) (.list xs) := by
  refine ⟨xs, _, _, rfl, l, r.length ▸ walk_list (K := K) (a := a) (xs := us), fun F' H' s1 s2 => .inl (.inl (s2 _ _ (s1 _ _ h))), fun i F1 H1 v H2 hi s1 s2 y => ?_⟩
  obtain ⟨rfl, hv⟩ := y
  obtain ⟨x, h1, h2⟩ := r.getV hv
  exact ⟨x, F1, h1, Al.refl s2, h2.mono s1⟩
theorem relI_tup {F H : Hp} {da : DA} {a : Addr} {us : List V} {xs : List D} (h : F a = some (.tup us)) (r : RpAll F us xs) (l : xs.length ≤ lim) : relI F H da (Itt K a) (.list xs) := by
  refine ⟨xs, _, _, rfl, l, r.length ▸ walk_tup (K := K) (a := a) (xs := us), fun F' H' s1 s2 => .inl (.inl (s2 _ _ (s1 _ _ h))), fun i F1 H1 v H2 hi s1 s2 y => ?_⟩
  obtain ⟨rfl, hv⟩ := y
  obtain ⟨x, h1, h2⟩ := r.getV hv
  exact ⟨x, F1, h1, Al.refl s2, h2.mono s1⟩
theorem relI_str {F H : Hp} {da : DA} {z : Str} (l : z.length ≤ lim) (ok : PyData.strOk z = true) : relI F H da (Its z) (.list (chars z)) := by
  have hl : (chars z).length = z.cps.size := by unfold chars; rw [List.length_map, Array.length_toList]
  refine ⟨chars z, _, _, rfl, by rw [hl]; exact l, hl ▸ walk_str (z := z), fun _ _ _ _ => trivial, fun i F1 H1 v H2 hi s1 s2 y => ?_⟩
  obtain ⟨rfl, c, h1, rfl⟩ := y
  refine ⟨.str ⟨#[c]⟩, F1, ?_, Al.refl s2, .str _ one_lim (strOk_one ok ?_)⟩
  · unfold chars
    rw [List.getElem?_map, Array.getElem?_toList, h1]
    rfl
  · have := List.mem_of_getElem? (show z.cps.toList[i]? = some c by rw [Array.getElem?_toList]; exact h1)
    exact this
theorem relI_rng {F H : Hp} {da : DA} {lo : Int} {n : Nat} (l : n ≤ lim) : relI F H da (Itr lo n) (.list (rangeD lo n)) := by
  refine ⟨rangeD lo n, _, _, rfl, by rw [rangeD_len]; exact l, (by rw [rangeD_len]; exact walk_range (lo := lo) (n := n)), fun _ _ _ _ => trivial, fun i F1 H1 v H2 hi s1 s2 y => ?_⟩
  obtain ⟨rfl, rfl⟩ := y
  rw [rangeD_len] at hi
  refine ⟨.int (lo + (i : Nat)), F1, ?_, Al.refl s2, .int _⟩
  unfold rangeD
  rw [List.getElem?_map, List.getElem?_range hi]
  rfl
theorem pair_al {F1 H1 : Hp} {T' : Addr} {v w : V} {x y : D} (s2 : Same F1 H1) (hT : H1 T' = none) (r1 : Rp F1 v x) (r2 : Rp F1 w y) : Al F1 H1 (upd F1 T' (.tup [v, w])) (upd H1 T' (.tup [v, w])) ∧ Rp (upd F1 T' (.tup [v, w])) (.ref T') (.tuple [x, y]) := by
  have s3 := same_upd (o := .tup [v, w]) (s2.free hT)
  exact ⟨Al.one s2 hT, .tup upd_same (.cons (r1.mono s3) (.cons (r2.mono s3) .nil)) (by show 2 ≤ lim; decide)⟩
theorem relI_enum {F H : Hp} {da : DA} {a : Addr} {us : List V} {xs : List D} (h : F a = some (.lst us)) (r : RpAll F us xs) (l : xs.length ≤ lim) : relI F H da (Ite K a) (.list (xs.zipIdx.map fun p => .tuple [.int (p.2 : Nat), p.1])) := by
  have hl : (xs.zipIdx.map fun (p : D × Nat) => PyData.tuple [.int (p.2 : Nat), p.1]).length = xs.length := by rw [List.length_map, List.length_zipIdx]
  refine ⟨_, _, _, rfl, by rw [hl]; exact l, (hl.trans r.length.symm) ▸ walk_enum (K := K) (a := a) (xs := us), fun F' H' s1 s2 => .inl (.inl (s2 _ _ (s1 _ _ h))), fun i F1 H1 v H2 hi s1 s2 y => ?_⟩
  obtain ⟨T', x, y, rfl, hT, rfl, e1, e2⟩ := y
  cases e1
  obtain ⟨d, h1, h2⟩ := r.getV e2
  obtain ⟨a1, a2⟩ := pair_al s2 hT (.int (i : Nat)) (h2.mono s1)
  refine ⟨_, _, ?_, a1, a2⟩
  rw [List.getElem?_map, List.getElem?_zipIdx, h1]
  simp
theorem relI_zip {F H : Hp} {da : DA} {a b : Addr} {us ws : List V} {xs ys : List D} (h : F a = some (.lst us)) (r : RpAll F us xs) (l : xs.length ≤ lim) (h' : F b = some (.lst ws)) (r' : RpAll F ws ys) : relI F H da (Itz K a b) (.list (List.zipWith (fun x y => .tuple [x, y]) xs ys)) := by
  have hl : (List.zipWith (fun x y => PyData.tuple [x, y]) xs ys).length = min xs.length ys.length := by rw [List.length_zipWith]
  refine ⟨_, _, _, rfl, by rw [hl]; omega, walk_zip (K := K) (a := a) (b := b) (xs := us) (ys := ws) (by rw [hl, r.length, r'.length]), fun F' H' s1 s2 => ⟨.inl (.inl (s2 _ _ (s1 _ _ h))), .inl (.inl (s2 _ _ (s1 _ _ h')))⟩, fun i F1 H1 v H2 hi s1 s2 y => ?_⟩
  obtain ⟨T', x, y, rfl, hT, rfl, e1, e2⟩ := y
  obtain ⟨d, h1, h2⟩ := r.getV e1
  obtain ⟨d', h1', h2'⟩ := r'.getV e2
  obtain ⟨a1, a2⟩ := pair_al s2 hT (h2.mono s1) (h2'.mono s1)
  refine ⟨_, _, ?_, a1, a2⟩
  rw [List.getElem?_zipWith, h1, h1']
/-- the iterator's readings -/
theorem snd_itl {tg : Expr} {a : E} {x : Expr} (p : PE X x (tE X.K cl W Φ a)) : PI X tg x (tI X.K cl W Φ (.itl a)) := by
  refine impI (pi_list p) fun σ H Q hq => ?_
  obtain ⟨F, da, r, g, Rr, z⟩ := hq
  refine ⟨F, da, r, g, Rr, Post.bind z fun d g1 v F1 H1 n rp p => ?_⟩
  cases d with
  | list xs =>
    cases rp with
    | lst h1 h2 h3 => exact ⟨_, rfl, ⟨_, .inl (.inl (n.sub _ _ h1))⟩, p _ F1 H1 (Nx.refl n.sub n.gok) (relI_list h1 h2 h3)⟩
  | _ => exact False.elim p
theorem snd_itt {tg : Expr} {a : E} {x : Expr} (p : PE X x (tE X.K cl W Φ a)) : PI X tg x (tI X.K cl W Φ (.itt a)) := by
  refine impI (pi_tup p) fun σ H Q hq => ?_
  obtain ⟨F, da, r, g, Rr, z⟩ := hq
  refine ⟨F, da, r, g, Rr, Post.bind z fun d g1 v F1 H1 n rp p => ?_⟩
  cases d with
  | tuple xs =>
    cases rp with
    | tup h1 h2 h3 => exact ⟨_, rfl, ⟨_, .inl (.inl (n.sub _ _ h1))⟩, p _ F1 H1 (Nx.refl n.sub n.gok) (relI_tup h1 h2 h3)⟩
  | _ => exact False.elim p
theorem snd_its {tg : Expr} {a : E} {x : Expr} (p : PE X x (tE X.K cl W Φ a)) : PI X tg x (tI X.K cl W Φ (.its a)) := by
  refine impI (pi_str p) fun σ H Q hq => ?_
  obtain ⟨F, da, r, g, Rr, z⟩ := hq
  refine ⟨F, da, r, g, Rr, Post.bind z fun d g1 v F1 H1 n rp p => ?_⟩
  cases d with
  | str xs =>
    cases rp with
    | str _ h1 h2 => exact ⟨_, rfl, p _ F1 H1 (Nx.refl n.sub n.gok) (relI_str h1 h2)⟩
  | _ => exact False.elim p
theorem snd_rng1 (h : XOk T cl Φ k W S X) {tg : Expr} {a : E} {f : Str} {p1 pos : Pos} {y : Expr} (p : PE X y (tE X.K cl W Φ a)) (q : (okB S f "range" && noStar y) = true) : PI X tg (.Call (.Name f p1) [y] [] pos) (tI X.K cl W Φ (.rng1 a)) := by
  obtain ⟨q1, q2⟩ := and2 q
  obtain ⟨rfl, g, m⟩ := h.bl q1 (by decide +kernel)
  refine impI (pi_range1 g m (pa_cons p pa_nil (star_ok q2)) (star_ok q2)) fun σ H Q hq => ?_
  obtain ⟨F, da, r, g, Rr, z⟩ := hq
  refine ⟨F, da, r, g, Rr, Post.bind z fun d g1 v F1 H1 n rp p => ?_⟩
  cases d with
  | int i =>
    dsimp only at p
    split at p
    · rename_i hh
      cases rp
      have hl : (i : Int) ≤ 1000000 := hh.1
      refine ⟨i, rfl, hh.2, by omega, p _ F1 H1 (Nx.refl n.sub n.gok) (relI_rng (by unfold lim; omega))⟩
    · exact False.elim p
  | _ => exact False.elim p
theorem smallI_is {i : Int} (h : smallI i = true) : -(2 ^ 62) ≤ i ∧ i < 2 ^ 62 := by
  unfold smallI at h
  simpa using h
theorem snd_rng2 (h : XOk T cl Φ k W S X) {tg : Expr} {a b : E} {f : Str} {p1 pos : Pos} {y y2 : Expr} (p : PE X y (tE X.K cl W Φ a)) (p' : PE X y2 (tE X.K cl W Φ b)) (q : (okB S f "range" && noStar y && noStar y2) = true) : PI X tg (.Call (.Name f p1) [y, y2] [] pos) (tI X.K cl W Φ (.rng2 a b)) := by
  obtain ⟨q, q3⟩ := and2 q
  obtain ⟨q1, q2⟩ := and2 q
  obtain ⟨rfl, g, m⟩ := h.bl q1 (by decide +kernel)
  refine impI (pi_range2 g m (pa_cons p (pa_cons p' pa_nil (star_ok q3)) (star_ok q2)) (by rw [star_ok q2, star_ok q3]; rfl) (star_ok q3)) fun σ H Q hq => ?_
  obtain ⟨F, da, r, g, Rr, z⟩ := hq
  refine ⟨F, da, r, g, Rr, Post.bind z fun d g1 v F1 H1 n rp p => ?_⟩
  refine ⟨F1, da, r, g1, Rr.nx n, Post.bind p fun e g2 u F2 H2 n2 rp2 p2 => ?_⟩
  cases d with
  | int i =>
    cases e with
    | int j =>
      dsimp only at p2
      split at p2
      · rename_i hh
        cases rp
        cases rp2
        obtain ⟨h1, h2, h3⟩ := hh
        have h1 : j - i ≤ 1000000 := h1
        obtain ⟨a1, a2⟩ := smallI_is h2
        obtain ⟨b1, b2⟩ := smallI_is h3
        exact ⟨i, j, rfl, ⟨a1, a2, b1, b2⟩, p2 _ F2 H2 (Nx.refl n2.sub n2.gok) (relI_rng (by unfold lim; omega))⟩
      · exact False.elim p2
    | _ => exact False.elim p2
  | _ => exact False.elim p2
theorem snd_enum (h : XOk T cl Φ k W S X) {a : E} {f : Str} {p1 pos tpos : Pos} {y : Expr} {el : List Expr} {kk : Nat} (p : PE X y (tE X.K cl W Φ a)) (q : (okB S f "enumerate" && noStar y) = true) : PI X (.Tuple el kk tpos) (.Call (.Name f p1) [y] [] pos) (tI X.K cl W Φ (.enum a)) := by
  obtain ⟨q1, q2⟩ := and2 q
  obtain ⟨rfl, g, m⟩ := h.bl q1 (by decide +kernel)
  refine impI (pi_enum g m (pa_cons p pa_nil (star_ok q2)) (star_ok q2)) fun σ H Q hq => ?_
  obtain ⟨F, da, r, g, Rr, z⟩ := hq
  refine ⟨F, da, r, g, Rr, Post.bind z fun d g1 v F1 H1 n rp p => ?_⟩
  cases d with
  | list xs =>
    cases rp with
    | lst h1 h2 h3 => exact ⟨_, _, rfl, .inl (.inl (n.sub _ _ h1)), p _ F1 H1 (Nx.refl n.sub n.gok) (relI_enum h1 h2 h3)⟩
  | _ => exact False.elim p
theorem snd_zip (h : XOk T cl Φ k W S X) {a b : E} {f : Str} {p1 pos tpos : Pos} {y y2 : Expr} {el : List Expr} {kk : Nat} (p : PE X y (tE X.K cl W Φ a)) (p' : PE X y2 (tE X.K cl W Φ b)) (q : (okB S f "zip" && noStar y && noStar y2) = true) : PI X (.Tuple el kk tpos) (.Call (.Name f p1) [y, y2] [] pos) (tI X.K cl W Φ (.zip a b)) := by
  obtain ⟨q, q3⟩ := and2 q
  obtain ⟨q1, q2⟩ := and2 q
  obtain ⟨rfl, g, m⟩ := h.bl q1 (by decide +kernel)
  refine impI (pi_zip g m (pa_cons p (pa_cons p' pa_nil (star_ok q3)) (star_ok q2)) (star_ok q2) (stars_ok (by simp [q3]))) fun σ H Q hq => ?_
  obtain ⟨F, da, r, g, Rr, z⟩ := hq
  refine ⟨F, da, r, g, Rr, Post.bind z fun d g1 v F1 H1 n rp p => ?_⟩
  refine ⟨F1, da, r, g1, Rr.nx n, Post.bind p fun e g2 u F2 H2 n2 rp2 p2 => ?_⟩
  cases d with
  | list xs =>
    cases e with
    | list ys =>
      cases rp with
      | lst h1 h2 h3 =>
        cases rp2 with
        | lst h1' h2' h3' =>
          have s1 := n2.fr _ _ h1
          exact ⟨_, _, _, _, rfl, .inl (.inl (n2.sub _ _ s1)), .inl (.inl (n2.sub _ _ h1')), p2 _ F2 H2 (Nx.refl n2.sub n2.gok) (relI_zip s1 (h2.mono n2.fr) h3 h1' h2')⟩
    | _ => exact False.elim p2
  | _ => exact False.elim p2
/-! ### targets -/
def gT (K : PySem.W.Frag) : Tg → TG
  | .nm i => gName i
  | .two i j => gTup K 2 (gCons (gName i) (gCons (gName j) gNil))
  | .three i j l => gTup K 3 (gCons (gName i) (gCons (gName j) (gCons (gName l) gNil)))
def tgIx : Tg → List Nat
  | .nm i => [i]
  | .two i j => [i, j]
  | .three i j l => [i, j, l]
theorem pg_T (h : XOk T cl Φ k W S X) {t : Tg} {x : Expr} (q : okTg S t x = true) : PG X x (gT X.K t) := by
  unfold okTg at q
  split at q
  · obtain ⟨h1, h2, h3⟩ := h.loc q
    exact pg_name h.ndX h1 h2 h3
  · obtain ⟨q, q3⟩ := and2 q
    obtain ⟨q1, q2⟩ := and2 q
    obtain ⟨h1, h2, h3⟩ := h.loc q1
    obtain ⟨g1, g2, g3⟩ := h.loc q2
    exact pg_tup h.calm (pgs_cons (pg_name h.ndX h1 h2 h3) (pgs_cons (pg_name h.ndX g1 g2 g3) pgs_nil))
  · obtain ⟨q, _⟩ := and2 q
    obtain ⟨q, _⟩ := and2 q
    obtain ⟨q, _⟩ := and2 q
    obtain ⟨q, q3⟩ := and2 q
    obtain ⟨q1, q2⟩ := and2 q
    obtain ⟨h1, h2, h3⟩ := h.loc q1
    obtain ⟨g1, g2, g3⟩ := h.loc q2
    obtain ⟨f1, f2, f3⟩ := h.loc q3
    exact pg_tup h.calm (pgs_cons (pg_name h.ndX h1 h2 h3) (pgs_cons (pg_name h.ndX g1 g2 g3) (pgs_cons (pg_name h.ndX f1 f2 f3) pgs_nil)))
  · cases q
theorem setT_two {i j : Nat} {d : D} {r r1 : Env} (e : setT (.two i j) d r = some r1) : ∃ a b, d = .tuple [a, b] ∧ r1 = (r.set i (.val a)).set j (.val b) := by
  cases d with
  | tuple l =>
    match l, e with
    | [a, b], e => cases e; exact ⟨a, b, rfl, rfl⟩
    | [], e => simp [setT] at e
    | [a], e => simp [setT] at e
    | a :: b :: c :: l, e => simp [setT] at e
  | _ => simp [setT] at e
theorem setT_three {i j k : Nat} {d : D} {r r1 : Env} (e : setT (.three i j k) d r = some r1) : ∃ a b c, d = .tuple [a, b, c] ∧ r1 = ((r.set i (.val a)).set j (.val b)).set k (.val c) := by
  cases d with
  | tuple l =>
    match l, e with
    | [a, b, c], e => cases e; exact ⟨a, b, c, rfl, rfl⟩
    | [], e => simp [setT] at e
    | [a], e => simp [setT] at e
    | [a, b], e => simp [setT] at e
    | a :: b :: c :: d :: l, e => simp [setT] at e
  | _ => simp [setT] at e
/-- a value goes to its target -/
theorem rd_T {t : Tg} {F H : Hp} {da : DA} {g : G} {σ : St} {r r1 : Env} {v : V} {d : D} {Q : St → Hp → Prop} (Rr : Rep K cl F H da σ r g) (rp : Rp F v d) (e : setT t d r = some r1)
    (kk : ∀ σ1, Rep K cl F H da σ1 r1 g → σ1.length = σ.length → (∀ j, j ∉ tgIx t → σ1[j]? = σ[j]?) → Q σ1 H) : gT K t v σ H Q := by
  cases t with
  | nm i =>
    cases e
    refine kk _ (Rr.set rp) (by simp) fun j hj => ?_
    rw [List.getElem?_set_ne (fun z => hj (by simp [tgIx, z]))]
  | two i j =>
    obtain ⟨a, b, rfl, rfl⟩ := setT_two e
    cases rp with
    | tup h1 h2 h3 =>
      cases h2 with
      | cons r1 h2 =>
        cases h2 with
        | cons r2 h2 =>
          cases h2
          refine ⟨_, _, rfl, .inl (.inl (Rr.sub _ _ h1)), rfl, _, _, rfl, _, _, rfl, rfl, ?_⟩
          refine kk _ ((Rr.set r1).set r2) (by simp) fun l hl => ?_
          simp only [tgIx, List.mem_cons, List.not_mem_nil, or_false, not_or] at hl
          rw [List.getElem?_set_ne (fun z => hl.2 z.symm), List.getElem?_set_ne (fun z => hl.1 z.symm)]
  | three i j l =>
    obtain ⟨a, b, c, rfl, rfl⟩ := setT_three e
    cases rp with
    | tup h1 h2 h3 =>
      cases h2 with
      | cons r1 h2 =>
        cases h2 with
        | cons r2 h2 =>
          cases h2 with
          | cons r3 h2 =>
            cases h2
            refine ⟨_, _, rfl, .inl (.inl (Rr.sub _ _ h1)), rfl, _, _, rfl, _, _, rfl, _, _, rfl, rfl, ?_⟩
            refine kk _ (((Rr.set r1).set r2).set r3) (by simp) fun l hl => ?_
            simp only [tgIx, List.mem_cons, List.not_mem_nil, or_false, not_or] at hl
            rw [List.getElem?_set_ne (fun z => hl.2.2 z.symm), List.getElem?_set_ne (fun z => hl.2.1 z.symm), List.getElem?_set_ne (fun z => hl.1 z.symm)]
end
end Tl
end
section
set_option Elab.async false
set_option linter.all false
set_option autoImplicit false
set_option maxRecDepth 100000
namespace Tl
open PySem PySem.Spec PyProof.Rows L2
theorem wipe_get (σ : St) (j : Nat) : ∀ vs : List Nat, (L2.wipe σ vs)[j]? = if j ∈ vs then σ[j]?.map (fun _ => none) else σ[j]?
  | [] => by simp [L2.wipe]
  | v :: vs => by
    unfold L2.wipe
    by_cases h : v = j
    · subst h
      rw [if_pos List.mem_cons_self, List.getElem?_set]
      simp only [if_pos, wipe_length]
      by_cases hl : v < σ.length
      · rw [if_pos hl, List.getElem?_eq_getElem hl]
        rfl
      · rw [if_neg hl, List.getElem?_eq_none (by simpa using hl)]
        rfl
    · rw [List.getElem?_set_ne h, wipe_get σ j vs]
      have e : (j ∈ v :: vs) ↔ j ∈ vs := by
        rw [List.mem_cons]
        exact ⟨fun z => z.resolve_left (fun q => h q.symm), .inr⟩
      simp only [e]
theorem wipe_same {σ σ2 : St} {vs : List Nat} (hl : σ2.length = σ.length) (h : ∀ j, j ∉ vs → σ2[j]? = (L2.wipe σ vs)[j]?) : L2.wipe σ2 vs = L2.wipe σ vs := by
  refine List.ext_getElem? fun j => ?_
  rw [wipe_get, wipe_get]
  by_cases hj : j ∈ vs
  · rw [if_pos hj, if_pos hj]
    by_cases hh : j < σ.length
    · rw [List.getElem?_eq_getElem hh, List.getElem?_eq_getElem (by rw [hl]; exact hh)]
      rfl
    · rw [List.getElem?_eq_none (show σ2.length ≤ j by rw [hl]; simpa using hh), List.getElem?_eq_none (show σ.length ≤ j by simpa using hh)]
  · rw [if_neg hj, if_neg hj, h j hj, wipe_get, if_neg hj]
def wipeE (r : Env) : List Nat → Env
  | [] => r
  | v :: vs => (wipeE r vs).set v .und
theorem Rep.wipes {K : PySem.W.Frag} {cl : Cls} {F H : Hp} {da : DA} {g : G} {σ : St} {r : Env} (h : Rep K cl F H da σ r g) : ∀ vs : List Nat, Rep K cl F H da (L2.wipe σ vs) (wipeE r vs) g
  | [] => h
  | v :: vs => (Rep.wipes h vs).wipe v none
theorem set_set' {α : Type} (r : List α) (i : Nat) (a b : α) : (r.set i a).set i b = r.set i b := List.set_set ..
theorem setT_wipe {t : Tg} {d : D} {r : Env} (hd : (tgIx t).Nodup) : setT t d (wipeE r (tgIx t)) = setT t d r := by
  cases t with
  | nm i =>
    show some (((r.set i .und)).set i (.val d)) = some (r.set i (.val d))
    rw [List.set_set]
  | two i j =>
    have hij : i ≠ j := by
      simp only [tgIx, List.nodup_cons, List.mem_singleton] at hd
      exact fun z => hd.1 z
    have e : ∀ a b, (((r.set j .und).set i .und).set i (.val a)).set j (.val b) = (r.set i (.val a)).set j (.val b) := fun a b => by
      rw [List.set_set, List.set_comm _ _ (Ne.symm hij), List.set_set]
    show setT (.two i j) d ((r.set j .und).set i .und) = _
    cases d with
    | tuple l =>
      match l with
      | [a, b] =>
        show some _ = some _
        rw [e]
      | [] => rfl
      | [a] => rfl
      | a :: b :: c :: l => rfl
    | _ => rfl
  | three i j k =>
    have hh : i ≠ j ∧ i ≠ k ∧ j ≠ k := by
      simp only [tgIx, List.nodup_cons, List.mem_cons, List.not_mem_nil, or_false, not_or] at hd
      exact ⟨fun z => hd.1.1 z, fun z => hd.1.2 z, fun z => hd.2.1 z⟩
    obtain ⟨h1, h2, h3⟩ := hh
    have e : ∀ a b, ((((r.set k .und).set j .und).set i .und).set i (.val a)).set j (.val b) = ((r.set k .und).set i (.val a)).set j (.val b) := fun a b => by
      rw [List.set_set, List.set_comm _ _ (Ne.symm h1), List.set_set]
    have e2 : ∀ a b c, (((r.set k .und).set i (.val a)).set j (.val b)).set k (.val c) = ((r.set i (.val a)).set j (.val b)).set k (.val c) := fun a b c => by
      rw [List.set_comm _ _ (Ne.symm h2), List.set_comm _ _ (Ne.symm h3), List.set_set]
    show setT (.three i j k) d (((r.set k .und).set j .und).set i .und) = _
    cases d with
    | tuple l =>
      match l with
      | [a, b, c] =>
        show some _ = some _
        rw [e a b, e2]
      | [] => rfl
      | [a] => rfl
      | [a, b] => rfl
      | a :: b :: c :: d :: l => rfl
    | _ => rfl
theorem GOk.notDr {H : Hp} {g : G} {da : DA} {D : Addr} (h : GOk H g da) (hD : H D = none) : ¬ isDr da D := by
  rintro ⟨p, rfl, e⟩
  unfold GOk at h
  split at h
  · rename_i e1; cases e1
  · rename_i e1
    cases e1
    obtain ⟨_, h1, h2, _⟩ := h
    rcases e with e | e
    · rw [e] at hD
      rw [h1] at hD
      cases hD
    · rw [e] at hD
      rw [h2] at hD
      cases hD
  · exact h
theorem GOk.upd {H : Hp} {g : G} {da : DA} {D : Addr} {o : HO} (h : GOk H g da) (hD : ¬ isDr da D) : GOk (upd H D o) g da := by
  unfold GOk at h ⊢
  split at h
  · trivial
  · rename_i ns c a n
    obtain ⟨h1, h2, h3, h4⟩ := h
    refine ⟨h1, ?_, ?_, h4⟩
    · rw [upd_ne (fun z => hD ⟨_, rfl, .inl z.symm⟩)]; exact h2
    · rw [upd_ne (fun z => hD ⟨_, rfl, .inr z.symm⟩)]; exact h3
  · exact h
/-- an object that is not frozen is written; it was not there before -/
theorem Nx.put {da : DA} {F H F' H' : Hp} {g : G} {D : Addr} {o : HO} (n : Nx da F H F' H' g) (h1 : H D = none) (h2 : F' D = none) (h3 : ¬ isDr da D) : Nx da F H F' (upd H' D o) g :=
  ⟨n.fr, fun b x e => by
    rw [upd_ne (ne_of_none e h2)]
    exact n.sub b x e, fun b x e nd => by
    rw [upd_ne (ne_of_none e h1)]
    exact n.keep b x e nd, n.new, n.gok.upd h3, fun b x e => by
    rw [upd_ne (ne_of_none e h1)]
    exact n.tho b x e⟩
/-- .. and is frozen -/
theorem Nx.freeze {da : DA} {F H F' H' : Hp} {g : G} {D : Addr} {o : HO} (n : Nx da F H F' H' g) (h1 : H D = none) (h2 : F' D = none) (h3 : H' D = some o) : Nx da F H (upd F' D o) H' g :=
  ⟨n.fr.trans (same_upd h2), fun b x e => by
    by_cases hb : b = D
    · subst hb
      rw [upd_same] at e
      cases e
      exact h3
    · rw [upd_ne hb] at e
      exact n.sub b x e, n.keep, fun b x e nd => by
    rw [upd_ne (ne_of_none e h1)]
    exact n.new b x e nd, n.gok, n.tho⟩
section
variable {T : Tab} {cl : Cls} {Φ : Nat → Fn} {k : Nat} {W : WX} {S : Stat} {X : Cx} {K : PySem.W.Frag}
/-! ### a comprehension -/
theorem rd_lc {t : Tg} {it c e : E} {tt : TT} (hd : (tgIx t).Nodup) (hT : ∀ σ H Q, tT K cl W0 Φ c σ H Q → tt σ H Q) {σ : St} {H : Hp} {Q : VK} (hq : tE K cl W Φ (.lc t it c e) σ H Q) : tLc (tI K cl W Φ it) (gT K t) tt (tE K cl W0 Φ e) (tgIx t) σ H Q := by
  obtain ⟨F, da, r, g, Rr, z⟩ := hq
  refine ⟨F, da, r, g, Rr, Post.bind z fun d g1 J F1 H1 n rl p => ?_⟩
  obtain ⟨xs, Gp, Y, rfl, hl, wk, hG, hY⟩ := rl
  dsimp only at p
  generalize eC : (fun x g => match setT t x r with
      | some r1 => (evE Φ c r1 g).bind fun k g => R.of g (bl? k)
      | none => R.bad : D → G → R Bool) = C at p
  generalize eE : (fun x g => match setT t x r with
      | some r1 => evE Φ e r1 g
      | none => R.bad : D → G → R D) = Ee at p
  intro Dl hD
  cases el : lcL C Ee xs g1 with
  | exc _ _ => rw [el] at p; exact False.elim p
  | bad => rw [el] at p; exact False.elim p
  | ok ys g2 =>
  rw [el] at p
  have p : Post cl W σ relE da F1 H1 Q (.ok (.list ys) g2) := p
  have hnd : ¬ isDr da Dl := n.gok.notDr hD
  refine lc_it wk (fun i H' => ∃ F' g' acc as zs, Nx da F1 H1 F' H' g' ∧ H' Dl = some (.lst acc) ∧ F' Dl = none ∧ RpAll F' acc as ∧ acc.length ≤ i ∧ lcL C Ee (xs.drop i) g' = .ok zs g2 ∧ ys = as ++ zs) ?_ ?_ ?_ ?_
  · exact ⟨F1, g1, [], [], ys, Nx.of_al n.gok (Al.side n.sub hD), upd_same, n.sub.free hD, .nil, Nat.le_refl _, by rw [List.drop_zero]; exact el, rfl⟩
  · rintro i H' hi ⟨F', g', acc, as, zs, nx, _⟩
    exact hG F' H' nx.fr nx.sub
  · rintro i x H' H'' hi ⟨F', g', acc, as, zs, nx, hDl, hFD, ra, hac, elc, eys⟩ y
    obtain ⟨x', F2, hx, al, rp⟩ := hY i F' H' x H'' hi nx.fr nx.sub y
    have edr : xs.drop i = x' :: xs.drop (i + 1) := by
      obtain ⟨h1, h2⟩ := List.getElem?_eq_some_iff.mp hx
      rw [← List.getElem_cons_drop h1, h2]
    rw [edr] at elc
    have nx2 : Nx da F1 H1 F2 H'' g' := nx.al al
    have hDl2 : H'' Dl = some (.lst acc) := al.keep _ _ hDl
    have hFD2 : F2 Dl = none := al.new _ _ hDl hFD
    unfold lcL at elc
    cases es : setT t x' r with
    | none =>
      have : C x' g' = .bad := by rw [← eC]; simp only [es]
      rw [this] at elc
      cases elc
    | some r1 =>
      have ec : C x' g' = evT Φ c r1 g' := by rw [← eC]; simp only [es]; rfl
      have ee : ∀ g, Ee x' g = evE Φ e r1 g := fun g => by rw [← eE]; simp only [es]
      rw [ec] at elc
      have Rw : Rep K cl F2 H'' da (L2.wipe σ (tgIx t)) (wipeE r (tgIx t)) g' := ((Rr.nx (n.trans nx2)).wipes _)
      refine rd_T Rw rp (by rw [setT_wipe hd]; exact es) fun σ1 R1 len1 out1 => ?_
      refine ⟨wipe_same (by rw [len1, wipe_length]) out1, hT _ _ _ ?_⟩
      cases et : evT Φ c r1 g' with
      | bad => rw [et] at elc; cases elc
      | exc _ _ => rw [et] at elc; cases elc
      | ok b gb =>
      rw [et] at elc
      refine ⟨F2, da, r1, g', R1, ?_⟩
      rw [et]
      intro b' F3 H3 n3 eb
      have eb : b' = b := eb
      subst eb
      have nx3 := nx2.trans n3
      have hDl3 : H3 Dl = some (.lst acc) := n3.keep _ _ hDl2 hnd
      have hFD3 : F3 Dl = none := n3.new _ _ hDl2 hFD2
      cases b' with
      | false =>
        rw [if_neg Bool.false_ne_true]
        exact ⟨F3, gb, acc, as, zs, nx3, hDl3, hFD3, ra.mono (al.fr.trans n3.fr), Nat.le_succ_of_le hac, elc, eys⟩
      | true =>
        rw [if_pos rfl]
        dsimp only at elc
        rw [ee] at elc
        refine ⟨F3, da, r1, gb, R1.nx n3, ?_⟩
        cases ev : evE Φ e r1 gb with
        | bad => rw [ev] at elc; cases elc
        | exc _ _ => rw [ev] at elc; cases elc
        | ok yv gc =>
        rw [ev] at elc
        dsimp only at elc
        intro v F4 H4 n4 rp4
        cases er : lcL C Ee (xs.drop (i + 1)) gc with
        | bad => rw [er] at elc; cases elc
        | exc _ _ => rw [er] at elc; cases elc
        | ok zs' gd =>
        rw [er] at elc
        cases elc
        have hDl4 : H4 Dl = some (.lst acc) := n4.keep _ _ hDl3 hnd
        have hFD4 : F4 Dl = none := n4.new _ _ hDl3 hFD3
        refine ⟨acc, hDl4, lim_line (by omega), F4, gc, acc ++ [v], as ++ [yv], zs', (nx3.trans n4).put hD hFD4 hnd, upd_same, hFD4, (ra.mono ((al.fr.trans n3.fr).trans n4.fr)).append (.cons rp4 .nil), by rw [List.length_append, List.length_singleton]; omega, er, ?_⟩
        rw [eys, List.append_assoc]
        rfl
  · rintro H' ⟨F', g', acc, as, zs, nx, hDl, hFD, ra, hac, elc, eys⟩
    rw [List.drop_length] at elc
    unfold lcL at elc
    cases elc
    rw [List.append_nil] at eys
    subst eys
    refine p _ _ H' (nx.freeze hD hFD hDl) (.lst upd_same (ra.mono (same_upd hFD)) ?_)
    rw [← ra.length]
    omega
theorem XOk.blk (h : XOk T cl Φ k W S X) (scope : Scope) (s : Shared) (H : Hp) (C : Addr) (cs : List (Str × Addr)) (fp : List Addr) : XOk T cl Φ k W0 (blkS S scope) (X.blk s H scope (compEnvC scope cs C X.env) fp) where
  hN := h.hN
  hsc := by
    show relS scope X.env.scope = relS scope S.sc
    rw [h.hsc]
  hfn := rfl
  nd := h.nd
  calm := h.calm
  room := h.room
  blt := h.blt
  glo := h.glo
  pass := fun σ => passW0 σ
  fun_ := h.fun_
  exf := h.exf
theorem tg_own {t : Tg} {x : Expr} {S' : Stat} (q : okTg S' t x = true) : (tgOwn t x).map (·.2) = tgIx t ∧ (tgIx t).Nodup := by
  unfold okTg at q
  split at q
  · exact ⟨rfl, by simp [tgIx]⟩
  · obtain ⟨q, q3⟩ := and2 q
    have := of_decide_eq_true q3
    exact ⟨rfl, by simpa [tgIx] using this⟩
  · obtain ⟨q, q6⟩ := and2 q
    obtain ⟨q, q5⟩ := and2 q
    obtain ⟨q, q4⟩ := and2 q
    have h4 := of_decide_eq_true q4
    have h5 := of_decide_eq_true q5
    have h6 := of_decide_eq_true q6
    exact ⟨rfl, by simp only [tgIx, List.nodup_cons, List.mem_cons, List.not_mem_nil, or_false, not_or]; exact ⟨⟨h4, h5⟩, h6, not_false, List.nodup_nil⟩⟩
  · cases q
theorem rd_yes {c : E} (q : isTrueC c = true) (σ : St) (H : Hp) (Q : Bool → Hp → Prop) (hq : tT K cl W0 Φ c σ H Q) : tYes σ H Q := by
  unfold isTrueC at q
  split at q
  · obtain ⟨F, da, r, g, Rr, z⟩ := hq
    exact z true F H (Nx.refl Rr.sub Rr.gok) rfl
  · cases q
/-! ### what one owns is lent -/
theorem Rep.lend {F H : Hp} {da : DA} {g : G} {σ : St} {r : Env} (h : Rep K cl F H da σ r g) : ∃ F', Same F F' ∧ Rep K cl F' H da σ (r.map frz1) g := by
  classical
  let F' : Hp := fun b => match F b with
    | some o => some o
    | none => if ∃ (i : Nat) (ds : List D), r[i]? = some (.own ds) ∧ σ[i]? = some (some (.ref b)) then H b else none
  have s : Same F F' := fun b o e => by
    show (match F b with | some o => some o | none => _) = some o
    rw [e]
  refine ⟨F', s, fun b o e => ?_, h.gok, fun i c e => ?_, by rw [List.length_map]; exact h.len, fun i j a ds es e1 => ?_, fun b d => ?_⟩
  · have e : (match F b with | some o => some o | none => if ∃ (i : Nat) (ds : List D), r[i]? = some (.own ds) ∧ σ[i]? = some (some (.ref b)) then H b else none) = some o := e
    cases q : F b with
    | some o' =>
      rw [q] at e
      cases e
      exact h.sub _ _ q
    | none =>
      rw [q] at e
      dsimp only at e
      split at e
      · exact e
      · cases e
  · rw [List.getElem?_map] at e
    cases q : r[i]? with
    | none => rw [q] at e; cases e
    | some c' =>
      rw [q] at e
      cases e
      have sl := h.slot i c' q
      cases c' with
      | und => trivial
      | val d => obtain ⟨v, e, rp⟩ := sl; exact ⟨v, e, rp.mono s⟩
      | own ds =>
        obtain ⟨a, e, xs, h1, h2, h3, h4, h5⟩ := sl
        refine ⟨.ref a, e, .lst (xs := xs) ?_ (h4.mono s) h5⟩
        show (match F a with | some o => some o | none => if ∃ (i : Nat) (ds : List D), r[i]? = some (.own ds) ∧ σ[i]? = some (some (.ref a)) then H a else none) = some (.lst xs)
        rw [h2]
        dsimp only
        rw [if_pos ⟨i, ds, q, e⟩]
        exact h1
      | drw => exact sl
      | exn _ => obtain ⟨b, y1, y2⟩ := sl; exact ⟨b, y1, s _ _ y2⟩
      | scr ns => obtain ⟨b, y1, y2, y3⟩ := sl; exact ⟨b, y1, s.seq y2, y3⟩
  · rw [List.getElem?_map] at e1
    cases q : r[i]? with
    | none => rw [q] at e1; cases e1
    | some c' => rw [q] at e1; cases c' <;> cases e1
  · show (match F b with | some o => some o | none => if ∃ (i : Nat) (ds : List D), r[i]? = some (.own ds) ∧ σ[i]? = some (some (.ref b)) then H b else none) = none
    rw [h.nod b d]
    dsimp only
    rw [if_neg]
    rintro ⟨i, ds, e1, e2⟩
    obtain ⟨a, e3, xs, h1, h2, h3, _⟩ := h.slot i _ e1
    rw [e3] at e2
    cases e2
    exact h3 d
theorem Nx.back {da : DA} {F F' H F2 H2 : Hp} {g : G} (s : Same F F') (n : Nx da F' H F2 H2 g) : Nx da F H F H2 g :=
  ⟨Same.refl F, (s.trans n.fr).trans n.sub, n.keep, fun _ _ _ z => z, n.gok, n.tho⟩
theorem Rp.plain {F F' : Hp} {v : V} {d : D} (f : flatD d = true) (h : Rp F v d) : Rp F' v d := by
  cases h with
  | non => exact .non
  | bl b => exact .bl b
  | int i => exact .int i
  | str x h k => exact .str x h k
  | lst => cases f
  | tup => cases f
theorem snd_bor {e : E} {x : Expr} (p : PE X x (tE X.K cl W Φ e)) : PE X x (tE X.K cl W Φ (.bor e)) := by
  refine impE p fun σ H Q hq => ?_
  obtain ⟨F, da, r, g, Rr, z⟩ := hq
  obtain ⟨F', s, Rr'⟩ := Rr.lend
  refine ⟨F', da, r.map frz1, g, Rr', ?_⟩
  have z : Post cl W σ relE da F H Q ((evE Φ e (r.map frz1) g).bind fun d g => match flatD d with
    | true => .ok d g
    | false => .bad) := z
  cases q : evE Φ e (r.map frz1) g with
  | ok d g1 =>
    rw [q] at z
    simp only [R.bind] at z
    cases f : flatD d with
    | false => rw [f] at z; exact False.elim z
    | true =>
      rw [f] at z
      exact fun v F1 H1 n rp => z v F H1 (Nx.back s n) (Rp.plain f rp)
  | exc c g1 =>
    rw [q] at z
    exact fun F1 H1 n => z F H1 (Nx.back s n)
  | bad => rw [q] at z; exact z
end
end Tl
end
section
set_option Elab.async false
set_option linter.all false
set_option autoImplicit false
set_option maxRecDepth 100000
namespace Tl
open PySem PySem.Spec PyProof.Rows L2
/-- an expression's evaluation is sound, as a value, a test, arguments, something walked -/
structure Snd (T : Tab) (cl : Cls) (Φ : Nat → Fn) (a : E) : Prop where
  e : ∀ {k : Nat} {W : WX} {S : Stat} {X : Cx}, XOk T cl Φ k W S X → ∀ x, okE T a S x = true → PE X x (tE X.K cl W Φ a)
  t : ∀ {k : Nat} {W : WX} {S : Stat} {X : Cx}, XOk T cl Φ k W S X → ∀ x, okT T a S x = true → PT X x (tT X.K cl W Φ a)
  s : ∀ {k : Nat} {W : WX} {S : Stat} {X : Cx}, XOk T cl Φ k W S X → ∀ xs, okA T a S xs = true → PA X xs (tA X.K cl W Φ a)
  i : ∀ {k : Nat} {W : WX} {S : Stat} {X : Cx}, XOk T cl Φ k W S X → ∀ tg x, okI T a S tg x = true → PI X tg x (tI X.K cl W Φ a)
section
variable {T : Tab} {cl : Cls} {Φ : Nat → Fn}
theorem Snd.c {a : E} (h : Snd T cl Φ a) {k : Nat} {W : WX} {S : Stat} {X : Cx} (o : XOk T cl Φ k W S X) (x : Expr) (q : okE T a S x = true) : PE X x (tC X.K cl W Φ a) := to_C o q (h.e o x q)
theorem noT {p : Prop} (h : false = true) : p := nomatch h
theorem plain_call {f : Expr} {as : List Expr} {ks : List Keyword} {p : Pos} : plainT (.Call f as ks p) = true := rfl
theorem snd (a : E) : Snd T cl Φ a := by
  induction a with
  | var i =>
    refine ⟨@fun k W S X o x q => ?_, @fun k W S X o x q => ?_, @fun k W S X o x q => ?_, @fun k W S X o tg x q => ?_⟩
    · simp only [okE] at q
      split at q
      · exact snd_var o q
      · cases q
    · simp only [okT] at q
      split at q
      · exact pt_of (snd_var o q) rfl
      · cases q
    · simp [okA] at q
    · simp [okI] at q
  | con d =>
    refine ⟨@fun k W S X o x q => ?_, @fun k W S X o x q => ?_, @fun k W S X o x q => ?_, @fun k W S X o tg x q => ?_⟩
    · simp only [okE] at q
      split at q
      · exact snd_con q
      · cases q
    · simp [okT] at q
    · simp [okA] at q
    · simp [okI] at q
  | glo n d =>
    refine ⟨@fun k W S X o x q => ?_, @fun k W S X o x q => ?_, @fun k W S X o x q => ?_, @fun k W S X o tg x q => ?_⟩
    · simp only [okE] at q
      split at q
      · exact snd_glo o q
      · cases q
    · simp [okT] at q
    · simp [okA] at q
    · simp [okI] at q
  | un op a ih =>
    refine ⟨@fun k W S X o x q => ?_, @fun k W S X o x q => ?_, @fun k W S X o x q => ?_, @fun k W S X o tg x q => ?_⟩
    · simp only [okE] at q
      exact snd_un o (ih.c o) q
    · by_cases hn : op = .notv
      · subst hn
        simp only [okT] at q
        split at q
        · exact impT (pt_not (ih.t o _ q)) fun σ H Q hq => rd_notT hq
        · cases q
      · have q' : (plainT x && okU op (fun y => okE T a S y) S x) = true := by
          cases op <;> first | exact absurd rfl hn | (simp only [okT] at q; exact q)
        obtain ⟨q1, q2⟩ := and2 q'
        exact pt_of (snd_un o (ih.c o) q2) q1
    · simp [okA] at q
    · simp [okI] at q
  | bi op a b iha ihb =>
    refine ⟨@fun k W S X o x q => ?_, @fun k W S X o x q => ?_, @fun k W S X o x q => ?_, @fun k W S X o tg x q => ?_⟩
    · simp only [okE] at q
      exact snd_bi o (iha.c o) (ihb.c o) q
    · simp only [okT] at q
      split at q
      · obtain ⟨q, q4⟩ := and2 q
        obtain ⟨q, q3⟩ := and2 q
        obtain ⟨q1, q2⟩ := and2 q
        obtain ⟨r, h1, h2⟩ := opR_cmp o q1
        exact impT (pt_cmpR h1 (iha.c o _ q3) (ihb.c o _ q4) (behind_ok q2)) fun σ H Q hq => rd_bi h2 (tT_tE hq)
      · obtain ⟨q1, q2⟩ := and2 q
        exact pt_of (snd_bi o (iha.c o) (ihb.c o) q2) q1
    · simp [okA] at q
    · simp [okI] at q
  | le2 a b c iha ihb ihc =>
    refine ⟨@fun k W S X o x q => ?_, @fun k W S X o x q => ?_, @fun k W S X o x q => ?_, @fun k W S X o tg x q => ?_⟩
    · simp only [okE] at q
      split at q
      · obtain ⟨q, q4⟩ := and2 q
        obtain ⟨q, q3⟩ := and2 q
        obtain ⟨q1, q2⟩ := and2 q
        exact impE (pe_chain op_le op_le (iha.e o _ q2) (ihb.e o _ q3) (ihc.e o _ q4) (by unfold lastMarks; exact behind_ok q1)) fun σ H Q hq => rd_le2 hq
      · cases q
    · simp only [okT] at q
      split at q
      · obtain ⟨q, q4⟩ := and2 q
        obtain ⟨q, q3⟩ := and2 q
        obtain ⟨q1, q2⟩ := and2 q
        exact impT (pt_chain op_le op_le (iha.e o _ q2) (ihb.e o _ q3) (ihc.e o _ q4) (by unfold lastMarks; exact behind_ok q1)) fun σ H Q hq => rd_le2 (tT_tE hq)
      · cases q
    · simp [okA] at q
    · simp [okI] at q
  | le3 a b c d iha ihb ihc ihd =>
    refine ⟨@fun k W S X o x q => ?_, @fun k W S X o x q => ?_, @fun k W S X o x q => ?_, @fun k W S X o tg x q => ?_⟩
    · simp only [okE] at q
      split at q
      · obtain ⟨q, q5⟩ := and2 q
        obtain ⟨q, q4⟩ := and2 q
        obtain ⟨q, q3⟩ := and2 q
        obtain ⟨q1, q2⟩ := and2 q
        exact impE (pe_chain3 (iha.e o _ q2) (ihb.e o _ q3) (ihc.e o _ q4) (ihd.e o _ q5) (by unfold lastMarks; exact behind_ok q1)) fun σ H Q hq => rd_le3 hq
      · cases q
    · simp only [okT] at q
      split at q
      · obtain ⟨q, q5⟩ := and2 q
        obtain ⟨q, q4⟩ := and2 q
        obtain ⟨q, q3⟩ := and2 q
        obtain ⟨q1, q2⟩ := and2 q
        exact impT (pt_chain3 (iha.e o _ q2) (ihb.e o _ q3) (ihc.e o _ q4) (ihd.e o _ q5) (by unfold lastMarks; exact behind_ok q1)) fun σ H Q hq => rd_le3 (tT_tE hq)
      · cases q
    · simp [okA] at q
    · simp [okI] at q
  | isc a d ih =>
    refine ⟨@fun k W S X o x q => ?_, @fun k W S X o x q => ?_, @fun k W S X o x q => ?_, @fun k W S X o tg x q => ?_⟩
    · simp only [okE] at q
      split at q
      · obtain ⟨q1, q2⟩ := and2 q
        exact (snd_isc (ih.e o _ q2) q1).1
      · cases q
    · simp only [okT] at q
      split at q
      · obtain ⟨q1, q2⟩ := and2 q
        exact (snd_isc (ih.e o _ q2) q1).2.1
      · cases q
    · simp [okA] at q
    · simp [okI] at q
  | isnc a d ih =>
    refine ⟨@fun k W S X o x q => ?_, @fun k W S X o x q => ?_, @fun k W S X o x q => ?_, @fun k W S X o tg x q => ?_⟩
    · simp only [okE] at q
      split at q
      · obtain ⟨q1, q2⟩ := and2 q
        exact (snd_isc (ih.e o _ q2) q1).2.2.1
      · cases q
    · simp only [okT] at q
      split at q
      · obtain ⟨q1, q2⟩ := and2 q
        exact (snd_isc (ih.e o _ q2) q1).2.2.2
      · cases q
    · simp [okA] at q
    · simp [okI] at q
  | and a b iha ihb =>
    refine ⟨@fun k W S X o x q => ?_, @fun k W S X o x q => ?_, @fun k W S X o x q => ?_, @fun k W S X o tg x q => ?_⟩
    · simp only [okE] at q
      split at q
      · obtain ⟨q1, q2⟩ := and2 q
        exact impE (pe_and (iha.e o _ q1) (pe_one (ihb.e o _ q2))) fun σ H Q hq => rd_and hq
      · obtain ⟨q1, q2⟩ := and2 q
        exact impE (pe_and (iha.e o _ q1) (ihb.e o _ q2)) fun σ H Q hq => rd_and hq
      · cases q
    · simp only [okT] at q
      split at q
      · obtain ⟨q1, q2⟩ := and2 q
        exact impT (PW.pt (pw_and (iha.t o _ q1) (pw_and1 (ihb.t o _ q2)))) fun σ H Q hq => rd_andT hq
      · obtain ⟨q1, q2⟩ := and2 q
        exact impT (PW.pt (pw_and (iha.t o _ q1) (pt_bool (ihb.t o _ q2)))) fun σ H Q hq => rd_andT hq
      · cases q
    · simp [okA] at q
    · simp [okI] at q
  | or a b iha ihb =>
    refine ⟨@fun k W S X o x q => ?_, @fun k W S X o x q => ?_, @fun k W S X o x q => ?_, @fun k W S X o tg x q => ?_⟩
    · simp only [okE] at q
      split at q
      · obtain ⟨q1, q2⟩ := and2 q
        exact impE (pe_or (iha.e o _ q1) (pe_one (ihb.e o _ q2))) fun σ H Q hq => rd_or hq
      · obtain ⟨q1, q2⟩ := and2 q
        exact impE (pe_or (iha.e o _ q1) (ihb.e o _ q2)) fun σ H Q hq => rd_or hq
      · cases q
    · simp only [okT] at q
      split at q
      · obtain ⟨q1, q2⟩ := and2 q
        exact impT (PW.pt (pw_or (iha.t o _ q1) (pw_or1 (ihb.t o _ q2)))) fun σ H Q hq => rd_orT hq
      · obtain ⟨q1, q2⟩ := and2 q
        exact impT (PW.pt (pw_or (iha.t o _ q1) (pt_bool (ihb.t o _ q2)))) fun σ H Q hq => rd_orT hq
      · cases q
    · simp [okA] at q
    · simp [okI] at q
  | ite c a b ihc iha ihb =>
    refine ⟨@fun k W S X o x q => ?_, @fun k W S X o x q => ?_, @fun k W S X o x q => ?_, @fun k W S X o tg x q => ?_⟩
    · simp only [okE] at q
      split at q
      · obtain ⟨q, q3⟩ := and2 q
        obtain ⟨q1, q2⟩ := and2 q
        exact impE (pe_ifExp (ihc.t o _ q1) (iha.e o _ q2) (ihb.e o _ q3)) fun σ H Q hq => rd_ite hq
      · cases q
    · simp [okT] at q
    · simp [okA] at q
    · simp [okI] at q
  | lst as ih =>
    refine ⟨@fun k W S X o x q => ?_, @fun k W S X o x q => ?_, @fun k W S X o x q => ?_, @fun k W S X o tg x q => ?_⟩
    · simp only [okE] at q
      split at q
      · exact snd_lst (ih.s o _ q)
      · cases q
    · simp [okT] at q
    · simp [okA] at q
    · simp [okI] at q
  | tup as ih =>
    refine ⟨@fun k W S X o x q => ?_, @fun k W S X o x q => ?_, @fun k W S X o x q => ?_, @fun k W S X o tg x q => ?_⟩
    · simp only [okE] at q
      split at q
      · exact snd_tup (ih.s o _ q)
      · cases q
    · simp [okT] at q
    · simp [okA] at q
    · simp [okI] at q
  | nil =>
    refine ⟨@fun k W S X o x q => ?_, @fun k W S X o x q => ?_, @fun k W S X o x q => ?_, @fun k W S X o tg x q => ?_⟩
    · simp [okE] at q
    · simp [okT] at q
    · simp only [okA] at q
      cases x with
      | nil => exact snd_nil
      | cons _ _ => cases q
    · simp [okI] at q
  | cons a as iha ihs =>
    refine ⟨@fun k W S X o x q => ?_, @fun k W S X o x q => ?_, @fun k W S X o x q => ?_, @fun k W S X o tg x q => ?_⟩
    · simp [okE] at q
    · simp [okT] at q
    · simp only [okA] at q
      split at q
      · obtain ⟨q, q3⟩ := and2 q
        obtain ⟨q1, q2⟩ := and2 q
        exact snd_cons (snd_arg o q2 (iha.e o _ q2)) (ihs.s o _ q3) q1
      · cases q
    · simp [okI] at q
  | call f as ih =>
    refine ⟨@fun k W S X o x q => ?_, @fun k W S X o x q => ?_, @fun k W S X o x q => ?_, @fun k W S X o tg x q => ?_⟩
    · simp only [okE] at q
      split at q
      · obtain ⟨q1, q2⟩ := and2 q
        exact snd_call o (ih.s o _ q2) q2 q1
      · cases q
    · simp only [okT] at q
      split at q
      · obtain ⟨q1, q2⟩ := and2 q
        exact pt_of (snd_call o (ih.s o _ q2) q2 q1) rfl
      · cases q
    · simp [okA] at q
    · simp [okI] at q
  | isi a t ih =>
    refine ⟨@fun k W S X o x q => ?_, @fun k W S X o x q => ?_, @fun k W S X o x q => ?_, @fun k W S X o tg x q => ?_⟩
    · simp only [okE] at q
      split at q
      · obtain ⟨q1, q2⟩ := and2 q
        exact snd_isi o (ih.e o _ q2) q1
      · cases q
    · simp only [okT] at q
      split at q
      · obtain ⟨q1, q2⟩ := and2 q
        exact pt_of (snd_isi o (ih.e o _ q2) q1) rfl
      · cases q
    · simp [okA] at q
    · simp [okI] at q
  | isx i c =>
    refine ⟨@fun k W S X o x q => ?_, @fun k W S X o x q => ?_, @fun k W S X o x q => ?_, @fun k W S X o tg x q => ?_⟩
    · simp only [okE] at q
      exact (snd_isx o q).1
    · simp only [okT] at q
      exact (snd_isx o q).2
    · simp [okA] at q
    · simp [okI] at q
  | lc t it c e ihi ihc ihe =>
    refine ⟨@fun k W S X o x q => ?_, @fun k W S X o x q => ?_, @fun k W S X o x q => ?_, @fun k W S X o tg x q => ?_⟩
    · simp only [okE] at q
      split at q
      · rename_i el tg iter ifs scope pos
        obtain ⟨q, q6⟩ := and2 q
        obtain ⟨q, q5⟩ := and2 q
        obtain ⟨q, q4⟩ := and2 q
        obtain ⟨q, q3⟩ := and2 q
        obtain ⟨q1, q2⟩ := and2 q
        obtain ⟨w1, w2⟩ := tg_own q4
        have bk : BlkOk _ _ scope (tgOwn t tg) := blkOk_by q3
        rw [← o.hN, ← o.hsc] at bk
        have pg := fun (s : Shared) (H : Hp) (C : Addr) (cs : List (Str × Addr)) (fp : List Addr) => pg_T (o.blk scope s H C cs fp) q4
        have pe := fun (s : Shared) (H : Hp) (C : Addr) (cs : List (Str × Addr)) (fp : List Addr) => ihe.e (o.blk scope s H C cs fp) _ q6
        split at q5
        · refine impE (pe_lc (g := gT X.K t) (tt := tYes) (te := tE X.K cl W0 Φ e) o.calm o.ndX (ihi.i o _ _ q1) bk pg (fun _ _ _ _ _ => pts_nil) pe (iter_ok q2)) fun σ H Q hq => ?_
          rw [w1]
          exact rd_lc w2 (rd_yes q5) hq
        · refine impE (pe_lc (g := gT X.K t) (tt := tT X.K cl W0 Φ c) (te := tE X.K cl W0 Φ e) o.calm o.ndX (ihi.i o _ _ q1) bk pg (fun s H C cs fp => pts_one (ihc.t (o.blk scope s H C cs fp) _ q5)) pe (iter_ok q2)) fun σ H Q hq => ?_
          rw [w1]
          exact rd_lc w2 (fun _ _ _ z => z) hq
        · cases q5
      · cases q
    · simp [okT] at q
    · simp [okA] at q
    · simp [okI] at q
  | itl a ih =>
    refine ⟨@fun k W S X o x q => ?_, @fun k W S X o x q => ?_, @fun k W S X o x q => ?_, @fun k W S X o tg x q => ?_⟩
    · simp [okE] at q
    · simp [okT] at q
    · simp [okA] at q
    · simp only [okI] at q
      exact snd_itl (ih.e o _ q)
  | itt a ih =>
    refine ⟨@fun k W S X o x q => ?_, @fun k W S X o x q => ?_, @fun k W S X o x q => ?_, @fun k W S X o tg x q => ?_⟩
    · simp [okE] at q
    · simp [okT] at q
    · simp [okA] at q
    · simp only [okI] at q
      exact snd_itt (ih.e o _ q)
  | its a ih =>
    refine ⟨@fun k W S X o x q => ?_, @fun k W S X o x q => ?_, @fun k W S X o x q => ?_, @fun k W S X o tg x q => ?_⟩
    · simp [okE] at q
    · simp [okT] at q
    · simp [okA] at q
    · simp only [okI] at q
      exact snd_its (ih.e o _ q)
  | rng1 a ih =>
    refine ⟨@fun k W S X o x q => ?_, @fun k W S X o x q => ?_, @fun k W S X o x q => ?_, @fun k W S X o tg x q => ?_⟩
    · simp [okE] at q
    · simp [okT] at q
    · simp [okA] at q
    · simp only [okI] at q
      split at q
      · obtain ⟨q1, q2⟩ := and2 q
        exact snd_rng1 o (ih.e o _ q2) q1
      · cases q
  | rng2 a b iha ihb =>
    refine ⟨@fun k W S X o x q => ?_, @fun k W S X o x q => ?_, @fun k W S X o x q => ?_, @fun k W S X o tg x q => ?_⟩
    · simp [okE] at q
    · simp [okT] at q
    · simp [okA] at q
    · simp only [okI] at q
      split at q
      · obtain ⟨q, q3⟩ := and2 q
        obtain ⟨q1, q2⟩ := and2 q
        exact snd_rng2 o (iha.e o _ q2) (ihb.e o _ q3) q1
      · cases q
  | enum a ih =>
    refine ⟨@fun k W S X o x q => ?_, @fun k W S X o x q => ?_, @fun k W S X o x q => ?_, @fun k W S X o tg x q => ?_⟩
    · simp [okE] at q
    · simp [okT] at q
    · simp [okA] at q
    · simp only [okI] at q
      split at q
      · obtain ⟨q1, q2⟩ := and2 q
        exact snd_enum o (ih.e o _ q2) q1
      · cases q
  | zip a b iha ihb =>
    refine ⟨@fun k W S X o x q => ?_, @fun k W S X o x q => ?_, @fun k W S X o x q => ?_, @fun k W S X o tg x q => ?_⟩
    · simp [okE] at q
    · simp [okT] at q
    · simp [okA] at q
    · simp only [okI] at q
      split at q
      · obtain ⟨q, q3⟩ := and2 q
        obtain ⟨q1, q2⟩ := and2 q
        exact snd_zip o (iha.e o _ q2) (ihb.e o _ q3) q1
      · cases q
  | bor e ih =>
    refine ⟨@fun k W S X o x q => ?_, @fun k W S X o x q => ?_, @fun k W S X o x q => ?_, @fun k W S X o tg x q => ?_⟩
    · simp only [okE] at q
      exact snd_bor (ih.e o _ (and2 q).2)
    · simp only [okT] at q
      obtain ⟨q1, q2⟩ := and2 q
      exact pt_of (snd_bor (ih.e o _ q2)) q1
    · simp [okA] at q
    · simp [okI] at q
end
end Tl
end
section
set_option Elab.async false
set_option linter.all false
set_option autoImplicit false
set_option maxRecDepth 100000
namespace Tl
open PySem PySem.Spec PyProof.Rows L2
variable {cl : Cls}
/-! ### the state within a def's body: F0, H0, da0 at its entry -/
structure RepS (K : PySem.W.Frag) (cl : Cls) (F0 H0 : Hp) (da0 : DA) (F H : Hp) (da : DA) (σ : St) (r : Env) (g : G) : Prop where
  rep : Rep K cl F H da σ r g
  fr0 : Same F0 F
  keep0 : ∀ b o, H0 b = some o → ¬ isDr da0 b → H b = some o
  new0 : ∀ b o, H0 b = some o → F0 b = none → F b = none
  tho0 : ∀ b o, H0 b = some o → ∃ o', H b = some o'
  own0 : ∀ (i : Nat) (ds : List D) (a : Addr), r[i]? = some (.own ds) → σ[i]? = some (some (.ref a)) → H0 a = none
  dah : da = da0
section
variable {K : PySem.W.Frag} {F0 H0 : Hp} {da0 : DA} {F H : Hp} {da : DA} {σ : St} {r : Env} {g : G}
theorem set_lt {α : Type} {l : List α} {i j : Nat} {x y : α} (h : (l.set i x)[j]? = some y) : (i = j ∧ y = x ∧ i < l.length) ∨ (i ≠ j ∧ l[j]? = some y) := by
  by_cases hj : i = j
  · subst hj
    by_cases hl : i < l.length
    · rw [List.getElem?_set_self hl] at h
      cases h
      exact .inl ⟨rfl, rfl, hl⟩
    · rw [List.getElem?_eq_none (by simpa using hl)] at h
      cases h
  · rw [List.getElem?_set_ne hj] at h
    exact .inr ⟨hj, h⟩
theorem RepS.nx {F' H' : Hp} {g' : G} (h : RepS K cl F0 H0 da0 F H da σ r g) (n : Nx da F H F' H' g') : RepS K cl F0 H0 da0 F' H' da σ r g' := by
  refine ⟨h.rep.nx n, h.fr0.trans n.fr, fun b o e nd => ?_, fun b o e nf => ?_, fun b o e => ?_, h.own0, h.dah⟩
  · refine n.keep b o (h.keep0 b o e nd) fun z => ?_
    rw [h.dah] at z
    exact nd z
  · obtain ⟨o', e'⟩ := h.tho0 b o e
    exact n.new b o' e' (h.new0 b o e nf)
  · obtain ⟨o', e'⟩ := h.tho0 b o e
    exact n.tho b o' e'
theorem RepS.set {i : Nat} {v : V} {d : D} (h : RepS K cl F0 H0 da0 F H da σ r g) (q : Rp F v d) : RepS K cl F0 H0 da0 F H da (σ.set i (some v)) (r.set i (.val d)) g :=
  ⟨h.rep.set q, h.fr0, h.keep0, h.new0, h.tho0, fun j ds a e1 e2 => by
    rcases set_lt e1 with ⟨_, z, _⟩ | ⟨hj, e1⟩
    · cases z
    · rw [List.getElem?_set_ne hj] at e2
      exact h.own0 j ds a e1 e2, h.dah⟩
theorem RepS.wipe (h : RepS K cl F0 H0 da0 F H da σ r g) (i : Nat) (o : Option V) : RepS K cl F0 H0 da0 F H da (σ.set i o) (r.set i .und) g :=
  ⟨h.rep.wipe i o, h.fr0, h.keep0, h.new0, h.tho0, fun j ds a e1 e2 => by
    rcases set_lt e1 with ⟨_, z, _⟩ | ⟨hj, e1⟩
    · cases z
    · rw [List.getElem?_set_ne hj] at e2
      exact h.own0 j ds a e1 e2, h.dah⟩
/-- a new list of one's own -/
theorem RepS.mk' {i : Nat} {p : Addr} {xs : List V} {ds : List D} (h : RepS K cl F0 H0 da0 F H da σ r g) (hp : H p = none) (ra : RpAll F xs ds) (l : ds.length ≤ lim) : RepS K cl F0 H0 da0 F (upd H p (.lst xs)) da (σ.set i (some (.ref p))) (r.set i (.own ds)) g := by
  have hF : F p = none := h.rep.sub.free hp
  have nd : ¬ isDr da p := h.rep.gok.notDr hp
  have s := same_upd (o := .lst xs) hp
  have slotK : ∀ {sv : Option (Option V)} {c : Cell}, SlotOk K cl F H da sv c → SlotOk K cl F (upd H p (.lst xs)) da sv c := fun {sv c} q => by
    cases c with
    | own es =>
      obtain ⟨a, e, ys, h1, h2⟩ := q
      exact ⟨a, e, ys, s _ _ h1, h2⟩
    | _ => exact q
  refine ⟨⟨h.rep.sub.trans s, h.rep.gok.upd nd, fun j c e => ?_, by rw [List.length_set, List.length_set]; exact h.rep.len, fun j k a es fs e1 e2 e3 e4 => ?_, h.rep.nod⟩, h.fr0, fun b o e q => s _ _ (h.keep0 b o e q), h.new0, fun b o e => ?_, fun j es a e1 e2 => ?_, h.dah⟩
  · rcases set_lt e with ⟨rfl, rfl, hl⟩ | ⟨hj, e⟩
    · rw [List.getElem?_set_self (by rw [← h.rep.len]; exact hl)]
      exact ⟨p, rfl, xs, upd_same, hF, nd, ra, l⟩
    · rw [List.getElem?_set_ne hj]
      exact slotK (h.rep.slot j c e)
  · have ne : ∀ (m : Nat) (gs : List D) (b : Addr), r[m]? = some (.own gs) → σ[m]? = some (some (.ref b)) → b ≠ p := fun m gs b q1 q2 => by
      obtain ⟨b', z1, ys, z2, _⟩ := h.rep.slot m _ q1
      rw [z1] at q2
      cases q2
      exact ne_of_none z2 hp
    rcases set_lt e1 with ⟨z1, _, hl⟩ | ⟨hj, e1'⟩
    · rcases set_lt e2 with ⟨z2, _, _⟩ | ⟨hk, e2'⟩
      · exact z1.symm.trans z2
      · rw [List.getElem?_set_ne hk] at e4
        subst z1
        rw [List.getElem?_set_self (by rw [← h.rep.len]; exact hl)] at e3
        cases e3
        exact absurd rfl (ne k fs p e2' e4)
    · rw [List.getElem?_set_ne hj] at e3
      rcases set_lt e2 with ⟨z2, _, hl⟩ | ⟨hk, e2'⟩
      · subst z2
        rw [List.getElem?_set_self (by rw [← h.rep.len]; exact hl)] at e4
        cases e4
        exact absurd rfl (ne j es p e1' e3)
      · rw [List.getElem?_set_ne hk] at e4
        exact h.rep.apart j k a es fs e1' e2' e3 e4
  · obtain ⟨o', e'⟩ := h.tho0 b o e
    exact ⟨o', s _ _ e'⟩
  · rcases set_lt e1 with ⟨rfl, _, hl⟩ | ⟨hj, e1'⟩
    · rw [List.getElem?_set_self (by rw [← h.rep.len]; exact hl)] at e2
      cases e2
      cases q : H0 p with
      | none => rfl
      | some o =>
        obtain ⟨o', e'⟩ := h.tho0 _ o q
        rw [hp] at e'
        cases e'
    · rw [List.getElem?_set_ne hj] at e2
      exact h.own0 j es a e1' e2
/-- one's own list is changed -/
theorem RepS.put {i : Nat} {a : Addr} {ds es : List D} {xs : List V} (h : RepS K cl F0 H0 da0 F H da σ r g) (e1 : r[i]? = some (.own ds)) (e2 : σ[i]? = some (some (.ref a))) (ra : RpAll F xs es) (l : es.length ≤ lim) : RepS K cl F0 H0 da0 F (upd H a (.lst xs)) da σ (r.set i (.own es)) g := by
  obtain ⟨a', z1, ys, z2, hF, nd, _⟩ := h.rep.slot i _ e1
  rw [z1] at e2
  cases e2
  have h0 := h.own0 i ds a e1 z1
  have ne0 : ∀ b o, H0 b = some o → b ≠ a := fun b o q => ne_of_none q h0
  refine ⟨⟨fun b o q => ?_, h.rep.gok.upd nd, fun j c e => ?_, by rw [List.length_set]; exact h.rep.len, fun j k b fs gs q1 q2 q3 q4 => ?_, h.rep.nod⟩, h.fr0, fun b o q n => ?_, h.new0, fun b o q => ?_, fun j fs b q1 q2 => ?_, h.dah⟩
  · rw [upd_ne (ne_of_none q hF)]
    exact h.rep.sub b o q
  · rcases set_lt e with ⟨rfl, rfl, hl⟩ | ⟨hj, e⟩
    · exact ⟨a, z1, xs, upd_same, hF, nd, ra, l⟩
    · have sl := h.rep.slot j c e
      cases c with
      | own fs =>
        obtain ⟨b, y1, us, y2, y3⟩ := sl
        refine ⟨b, y1, us, ?_, y3⟩
        rw [upd_ne (fun z => hj ?_)]
        · exact y2
        · subst z
          exact h.rep.apart i j b ds fs e1 e z1 y1
      | _ => exact sl
  · rcases set_lt q1 with ⟨rfl, z, _⟩ | ⟨hj, q1'⟩
    · rcases set_lt q2 with ⟨rfl, _, _⟩ | ⟨hk, q2'⟩
      · rfl
      · exact h.rep.apart i k b ds gs e1 q2' q3 q4
    · rcases set_lt q2 with ⟨rfl, _, _⟩ | ⟨hk, q2'⟩
      · exact h.rep.apart j i b fs ds q1' e1 q3 q4
      · exact h.rep.apart j k b fs gs q1' q2' q3 q4
  · rw [upd_ne (ne0 b o q)]
    exact h.keep0 b o q n
  · rw [upd_ne (ne0 b o q)]
    exact h.tho0 b o q
  · rcases set_lt q1 with ⟨rfl, _, _⟩ | ⟨hj, q1'⟩
    · exact h.own0 i ds b e1 q2
    · exact h.own0 j fs b q1' q2
/-- one's own list is frozen -/
theorem RepS.frz {i : Nat} {ds : List D} (h : RepS K cl F0 H0 da0 F H da σ r g) (e1 : r[i]? = some (.own ds)) : ∃ F', RepS K cl F0 H0 da0 F' H da σ (r.set i (.val (.list ds))) g := by
  obtain ⟨a, z1, xs, z2, hF, nd, ra, l⟩ := h.rep.slot i _ e1
  have h0 := h.own0 i ds a e1 z1
  have s := same_upd (o := .lst xs) hF
  refine ⟨upd F a (.lst xs), ⟨⟨fun b o q => ?_, h.rep.gok, fun j c e => ?_, by rw [List.length_set]; exact h.rep.len, fun j k b fs gs q1 q2 q3 q4 => ?_, fun b d => by
    have hb : b ≠ a := fun z => by
      rw [z] at d
      exact nd d
    rw [upd_ne hb]
    exact h.rep.nod b d⟩, h.fr0.trans s, h.keep0, fun b o q n => ?_, h.tho0, fun j fs b q1 q2 => ?_, h.dah⟩⟩
  · by_cases hb : b = a
    · subst hb
      rw [upd_same] at q
      cases q
      exact z2
    · rw [upd_ne hb] at q
      exact h.rep.sub b o q
  · rcases set_lt e with ⟨rfl, rfl, hl⟩ | ⟨hj, e⟩
    · exact ⟨.ref a, z1, .lst upd_same (ra.mono s) l⟩
    · have sl := h.rep.slot j c e
      cases c with
      | und => trivial
      | val d => obtain ⟨v, y1, y2⟩ := sl; exact ⟨v, y1, y2.mono s⟩
      | own fs =>
        obtain ⟨b, y1, us, y2, y3, y4, y5, y6⟩ := sl
        refine ⟨b, y1, us, y2, ?_, y4, y5.mono s, y6⟩
        rw [upd_ne (fun z => hj ?_)]
        · exact y3
        · subst z
          exact h.rep.apart i j b ds fs e1 e z1 y1
      | drw => exact sl
      | exn _ => obtain ⟨b, y1, y2⟩ := sl; exact ⟨b, y1, s _ _ y2⟩
      | scr ns => obtain ⟨b, y1, y2, y3⟩ := sl; exact ⟨b, y1, s.seq y2, y3⟩
  · rcases set_lt q1 with ⟨_, z, _⟩ | ⟨hj, q1'⟩
    · cases z
    · rcases set_lt q2 with ⟨_, z, _⟩ | ⟨hk, q2'⟩
      · cases z
      · exact h.rep.apart j k b fs gs q1' q2' q3 q4
  · rw [upd_ne (ne_of_none q h0)]
    exact h.new0 b o q n
  · rcases set_lt q1 with ⟨_, z, _⟩ | ⟨hj, q1'⟩
    · cases z
    · exact h.own0 j fs b q1' q2
end
/-- from another frozen heap at the entry -/
theorem RepS.base {K : PySem.W.Frag} {F0 F1 H0 F H : Hp} {da0 da : DA} {σ : St} {r : Env} {g : G} (s : Same F0 F1) (n : ∀ b o, H0 b = some o → F0 b = none → F1 b = none) (h : RepS K cl F1 H0 da0 F H da σ r g) : RepS K cl F0 H0 da0 F H da σ r g :=
  ⟨h.rep, s.trans h.fr0, h.keep0, fun b o e q => h.new0 b o e (n b o e q), h.tho0, h.own0, h.dah⟩
theorem RepS.rebase {K : PySem.W.Frag} {F0 H0 F H : Hp} {da0 da : DA} {σ : St} {r : Env} {g : G} (h : RepS K cl F0 H0 da0 F H da σ r g) : RepS K cl F H0 da0 F H da σ r g :=
  ⟨h.rep, Same.refl F, h.keep0, fun _ _ _ q => q, h.tho0, h.own0, h.dah⟩
/-! ### a statement's reading from its evaluation -/
section
variable (K : PySem.W.Frag) (cl : Cls) (W : WX) (F0 H0 : Hp) (da0 : DA)
def PostS (D : Ends) : O → Prop
  | .nx r g => ∀ σ' F' H' da', RepS K cl F0 H0 da0 F' H' da' σ' r g → D.nx σ' H'
  | .bk r g => ∀ σ' F' H' da', RepS K cl F0 H0 da0 F' H' da' σ' r g → D.bk σ' H'
  | .ct r g => ∀ σ' F' H' da', RepS K cl F0 H0 da0 F' H' da' σ' r g → D.ct σ' H'
  | .rt d g => ∀ v σ' r' F' H' da', RepS K cl F0 H0 da0 F' H' da' σ' r' g → Rp F' v d → D.rt v H'
  | .ex c r g => ∀ σ' F' H' da', RepS K cl F0 H0 da0 F' H' da' σ' r g → W (.ref (cl c)) none σ' H'
  | .bad => False
end
def tO (K : PySem.W.Frag) (cl : Cls) (W : WX) (m : Env → G → O) : TS := fun D σ H => ∃ F0 H0 da0 F da r g, RepS K cl F0 H0 da0 F H da σ r g ∧ PostS K cl W F0 H0 da0 D (m r g)
section
variable {K : PySem.W.Frag} {cl : Cls} {W : WX} {F0 H0 : Hp} {da0 : DA}
/-- an expression, then more -/
theorem PostS.st {α β : Type} {rel : Hp → Hp → DA → β → α → Prop} {F H : Hp} {da : DA} {σ : St} {r : Env} {g : G} {x : R α} {f : α → G → O} {D : Ends} {Q : β → Hp → Prop} (RS : RepS K cl F0 H0 da0 F H da σ r g) (h : PostS K cl W F0 H0 da0 D (x.st r f))
    (k : ∀ (a : α) (g1 : G) (v : β) (F1 H1 : Hp), Nx da F H F1 H1 g1 → rel F1 H1 da v a → RepS K cl F0 H0 da0 F1 H1 da σ r g1 → PostS K cl W F0 H0 da0 D (f a g1) → Q v H1) : Post cl W σ rel da F H Q x := by
  cases x with
  | ok a g1 => exact fun v F1 H1 n rl => k a g1 v F1 H1 n rl (RS.nx n) h
  | exc c g1 => exact fun F' H' n => h σ F' H' da (RS.nx n)
  | bad => exact h
theorem PostS.mono {D D' : Ends} {o : O} (h : PostS K cl W F0 H0 da0 D o) (h1 : ∀ σ H, D.nx σ H → D'.nx σ H) (h2 : ∀ v H, D.rt v H → D'.rt v H) (h3 : ∀ σ H, D.bk σ H → D'.bk σ H) (h4 : ∀ σ H, D.ct σ H → D'.ct σ H) : PostS K cl W F0 H0 da0 D' o := by
  cases o with
  | nx r g => exact fun σ' F' H' da' q => h1 _ _ (h σ' F' H' da' q)
  | bk r g => exact fun σ' F' H' da' q => h3 _ _ (h σ' F' H' da' q)
  | ct r g => exact fun σ' F' H' da' q => h4 _ _ (h σ' F' H' da' q)
  | rt d g => exact fun v σ' r' F' H' da' q rp => h2 _ _ (h v σ' r' F' H' da' q rp)
  | ex c r g => exact h
  | bad => exact h
end
end Tl
end
section
set_option Elab.async false
set_option linter.all false
set_option autoImplicit false
set_option maxRecDepth 100000
namespace Tl
open PySem PySem.Spec PyProof.Rows L2
/-! ### what is checked of statements -/
def isFn : ScopeKind → Bool
  | .function => true
  | _ => false
def isComp : Expr → Bool
  | .ListComp _ _ _ _ => true
  | .SetComp _ _ _ _ => true
  | .DictComp _ _ _ _ _ => true
  | _ => false
def isTupE : Expr → Bool
  | .Tuple _ _ _ => true
  | _ => false
/-- y = [..]: the stores are exchanged -/
def sw (S : Stat) (x : Str) (p : Pos) (v : Expr) : Bool := match v with
  | .ListComp _ _ scope lp => isLo (S.sc.names.lookup x) && (p.line == lp.line) && !(scope.names.any fun (n, k) => n == x && (k == .local || k == .cell))
  | _ => false
def isLC : Expr → Bool
  | .ListComp _ _ _ _ => true
  | _ => false
/-- a list that is new -/
def okFr (T : Tab) (S : Stat) (e : E) (v : Expr) : Bool := match e, v with
  | .lst as, .List es _ => okA T as S es
  | .bi .mul a b, .BinOp x .Mult y _ => okE T a S x && okE T b S y
  | .bi .from_ a b, .Subscript x (.Slice (some y) none none _) _ => okE T a S x && okE T b S y
  | .un .list a, .Call (.Name f _) [y] [] _ => okB S f "list" && noStar y && okE T a S y
  | .un .lstr a, .Call (.Name f _) [y] [] _ => okB S f "list" && noStar y && okE T a S y
  | .un .lrange a, .Call (.Name f _) [.Call (.Name h _) [y] [] _] [] _ => okB S f "list" && okB S h "range" && noStar y && okE T a S y
  | _, _ => false
def okAug (o : Bi) (op : Operator) : Bool := match o, op with
  | .add, .Add => true
  | .sub, .Sub => true
  | .mul, .Mult => true
  | _, _ => false
mutual
def okS1 (T : Tab) : Sm → Stat → Stmt → Bool
  | .asg i e, S, x => match x with
    | .Assign [.Name a p] v _ => okL S i a && okE T e S v && (!isComp v || isLC v)
    | _ => false
  | .mk i e, S, x => match x with
    | .Assign [.Name a _] v _ => okL S i a && okFr T S e v
    | _ => false
  | .par t o as, S, x => match x with
    | .Assign [.Tuple ts k p] (.Tuple es _ _) _ => okTg S t (.Tuple ts k p) && okA T as S es && o.all (! ·) && !(es.all (foldedForSure 8)) && !(es.all (constantsAlone 8)) && (es.length == ts.length) && (o.length == ts.length)
    | _ => false
  | .mk3 i j l, S, x => match x with
    | .Assign [.Tuple [.Name a pa, .Name b pb, .Name c pc] _ _] (.Tuple [.List [] _, .List [] _, .List [] _] _ _) _ => okL S i a && okL S j b && okL S l c && decide (i ≠ j) && decide (i ≠ l) && decide (j ≠ l) && (isLo (S.sc.names.lookup a) && ((isLo (S.sc.names.lookup b) && (pb.line == pa.line)) && (isLo (S.sc.names.lookup c) && (pc.line == pa.line))))
    | _ => false
  | .unp t e, S, x => match x with
    | .Assign [.Tuple ts k p] v _ => okTg S t (.Tuple ts k p) && okE T e S v && !isTupE v
    | _ => false
  | .aug i o e, S, x => match x with
    | .AugAssign (.Name a _) op v _ => okL S i a && okAug o op && okE T e S v
    | _ => false
  | .drop e, S, x => match x with
    | .Expr v _ => okE T e S v && !isComp v
    | _ => false
  | .app i e, S, x => match x with
    | .Expr (.Call (.Attribute (.Name a _) m ap) [y] [] cp) _ => decide (m = ("append" : Str)) && okV S i a && noStar y && (ap.endLine == cp.line) && okE T e S y
    | _ => false
  | .rem i e, S, x => match x with
    | .Expr (.Call (.Attribute (.Name a _) m ap) [y] [] cp) _ => decide (m = ("remove" : Str)) && okV S i a && noStar y && (ap.endLine == cp.line) && okE T e S y
    | _ => false
  | .seti i k e, S, x => match x with
    | .Assign [.Subscript (.Name a _) ix _] v _ => okV S i a && noSlice ix && okE T k S ix && okE T e S v
    | _ => false
  | .seti2 i k1 k2 a b, S, x => match x with
    | .Assign [.Tuple [.Subscript (.Name x1 _) i1 _, .Subscript (.Name x2 _) i2 _] _ _] (.Tuple [v1, v2] _ _) _ => okV S i x1 && okV S i x2 && noSlice i1 && noSlice i2 && okE T k1 S i1 && okE T k2 S i2 && noStar v1 && noStar v2 && okE T a S v1 && okE T b S v2
    | _ => false
  | .augi i kx .add e, S, x => match x with
    | .AugAssign (.Subscript (.Name a _) ix _) .Add v _ => okV S i a && noSlice ix && okE T kx S ix && okE T e S v
    | _ => false
  | .ite c a b, S, x => match x with
    | .If u v w _ => okT T c S u && okSs T a S v && okSs T b S w
    | _ => false
  | .for_ t it b, S, x => match x with
    | .For tg iter body [] _ => okI T it S tg iter && noSet iter && okTg S t tg && okSs T b S body
    | _ => false
  | .whl _ c b, S, x => match x with
    | .While u body [] _ => okT T c S u && okSs T b S body
    | _ => false
  | .ret e, S, x => match x with
    | .Return (some v) _ => okE T e S v
    | _ => false
  | .brk, _, x => match x with
    | .Break _ => true
    | _ => false
  | .cont, _, x => match x with
    | .Continue _ => true
    | _ => false
  | .raise c, S, x => match x with
    | .Raise (some (.Call (.Name a _) [.Constant (.str _) _ _] [] _)) none _ => decide (T.cn[c]? = some a) && okG S a
    | _ => false
  | .try_ b i j, S, x => match x with
    | .Try body [.ExceptHandler (some (.Name u _)) (some n) [.Assign [.Name y _] (.Name n' _) _] _] [] [] _ => decide (T.cn.length = 6) && decide (u = ("ListError" : Str)) && okG S u && decide (n' = n) && decide (S.N[i]? = some n) && isLo (S.sc.names.lookup n) && decide (S.N[j]? = some y) && isLo (S.sc.names.lookup y) && decide (i ≠ j) && !(n == ("__debug__" : Str)) && !(n == ("__classdict__" : Str)) && okSs T b S body
    | _ => false
  | _, _, _ => false
def okSs (T : Tab) : Sm → Stat → List Stmt → Bool
  | .nil, _, xs => xs.isEmpty
  | .cons s r, S, xs => match s with
    | .frz _ => okSs T r S xs
    | _ => match xs with
      | x :: xs => okS1 T s S x && okSs T r S xs
      | [] => false
  | _, _, _ => false
end
/- the equations, one for each, by computing: what Lean finds by itself for so large a definition takes minutes -/
theorem okS1_asg (T : Tab) (i : Nat) (e : E) (S : Stat) (x : Stmt) : okS1 T (.asg i e) S x = (match x with
    | .Assign [.Name a p] v _ => okL S i a && okE T e S v && (!isComp v || isLC v)
    | _ => false) := rfl
theorem okS1_mk (T : Tab) (i : Nat) (e : E) (S : Stat) (x : Stmt) : okS1 T (.mk i e) S x = (match x with
    | .Assign [.Name a _] v _ => okL S i a && okFr T S e v
    | _ => false) := rfl
theorem okS1_par (T : Tab) (t : Tg) (o : List Bool) (as : E) (S : Stat) (x : Stmt) : okS1 T (.par t o as) S x = (match x with
    | .Assign [.Tuple ts k p] (.Tuple es _ _) _ => okTg S t (.Tuple ts k p) && okA T as S es && o.all (! ·) && !(es.all (foldedForSure 8)) && !(es.all (constantsAlone 8)) && (es.length == ts.length) && (o.length == ts.length)
    | _ => false) := rfl
theorem okS1_mk3 (T : Tab) (i : Nat) (j : Nat) (l : Nat) (S : Stat) (x : Stmt) : okS1 T (.mk3 i j l) S x = (match x with
    | .Assign [.Tuple [.Name a pa, .Name b pb, .Name c pc] _ _] (.Tuple [.List [] _, .List [] _, .List [] _] _ _) _ => okL S i a && okL S j b && okL S l c && decide (i ≠ j) && decide (i ≠ l) && decide (j ≠ l) && (isLo (S.sc.names.lookup a) && ((isLo (S.sc.names.lookup b) && (pb.line == pa.line)) && (isLo (S.sc.names.lookup c) && (pc.line == pa.line))))
    | _ => false) := rfl
theorem okS1_unp (T : Tab) (t : Tg) (e : E) (S : Stat) (x : Stmt) : okS1 T (.unp t e) S x = (match x with
    | .Assign [.Tuple ts k p] v _ => okTg S t (.Tuple ts k p) && okE T e S v && !isTupE v
    | _ => false) := rfl
theorem okS1_aug (T : Tab) (i : Nat) (o : Bi) (e : E) (S : Stat) (x : Stmt) : okS1 T (.aug i o e) S x = (match x with
    | .AugAssign (.Name a _) op v _ => okL S i a && okAug o op && okE T e S v
    | _ => false) := rfl
theorem okS1_drop (T : Tab) (e : E) (S : Stat) (x : Stmt) : okS1 T (.drop e) S x = (match x with
    | .Expr v _ => okE T e S v && !isComp v
    | _ => false) := rfl
theorem okS1_app (T : Tab) (i : Nat) (e : E) (S : Stat) (x : Stmt) : okS1 T (.app i e) S x = (match x with
    | .Expr (.Call (.Attribute (.Name a _) m ap) [y] [] cp) _ => decide (m = ("append" : Str)) && okV S i a && noStar y && (ap.endLine == cp.line) && okE T e S y
    | _ => false) := rfl
theorem okS1_rem (T : Tab) (i : Nat) (e : E) (S : Stat) (x : Stmt) : okS1 T (.rem i e) S x = (match x with
    | .Expr (.Call (.Attribute (.Name a _) m ap) [y] [] cp) _ => decide (m = ("remove" : Str)) && okV S i a && noStar y && (ap.endLine == cp.line) && okE T e S y
    | _ => false) := rfl
theorem okS1_seti (T : Tab) (i : Nat) (k : E) (e : E) (S : Stat) (x : Stmt) : okS1 T (.seti i k e) S x = (match x with
    | .Assign [.Subscript (.Name a _) ix _] v _ => okV S i a && noSlice ix && okE T k S ix && okE T e S v
    | _ => false) := rfl
theorem okS1_seti2 (T : Tab) (i : Nat) (k1 : E) (k2 : E) (a : E) (b : E) (S : Stat) (x : Stmt) : okS1 T (.seti2 i k1 k2 a b) S x = (match x with
    | .Assign [.Tuple [.Subscript (.Name x1 _) i1 _, .Subscript (.Name x2 _) i2 _] _ _] (.Tuple [v1, v2] _ _) _ => okV S i x1 && okV S i x2 && noSlice i1 && noSlice i2 && okE T k1 S i1 && okE T k2 S i2 && noStar v1 && noStar v2 && okE T a S v1 && okE T b S v2
    | _ => false) := rfl
theorem okS1_augi (T : Tab) (i : Nat) (kx : E) (e : E) (S : Stat) (x : Stmt) : okS1 T (.augi i kx .add e) S x = (match x with
    | .AugAssign (.Subscript (.Name a _) ix _) .Add v _ => okV S i a && noSlice ix && okE T kx S ix && okE T e S v
    | _ => false) := rfl
theorem okS1_ite (T : Tab) (c : E) (a : Sm) (b : Sm) (S : Stat) (x : Stmt) : okS1 T (.ite c a b) S x = (match x with
    | .If u v w _ => okT T c S u && okSs T a S v && okSs T b S w
    | _ => false) := rfl
theorem okS1_for (T : Tab) (t : Tg) (it : E) (b : Sm) (S : Stat) (x : Stmt) : okS1 T (.for_ t it b) S x = (match x with
    | .For tg iter body [] _ => okI T it S tg iter && noSet iter && okTg S t tg && okSs T b S body
    | _ => false) := rfl
theorem okS1_whl (T : Tab) (w0 : Nat) (c : E) (b : Sm) (S : Stat) (x : Stmt) : okS1 T (.whl w0 c b) S x = (match x with
    | .While u body [] _ => okT T c S u && okSs T b S body
    | _ => false) := rfl
theorem okS1_ret (T : Tab) (e : E) (S : Stat) (x : Stmt) : okS1 T (.ret e) S x = (match x with
    | .Return (some v) _ => okE T e S v
    | _ => false) := rfl
theorem okS1_brk (T : Tab)  (S0 : Stat) (x : Stmt) : okS1 T (.brk ) S0 x = (match x with
    | .Break _ => true
    | _ => false) := rfl
theorem okS1_cont (T : Tab)  (S0 : Stat) (x : Stmt) : okS1 T (.cont ) S0 x = (match x with
    | .Continue _ => true
    | _ => false) := rfl
theorem okS1_raise (T : Tab) (c : Nat) (S : Stat) (x : Stmt) : okS1 T (.raise c) S x = (match x with
    | .Raise (some (.Call (.Name a _) [.Constant (.str _) _ _] [] _)) none _ => decide (T.cn[c]? = some a) && okG S a
    | _ => false) := rfl
theorem okS1_try (T : Tab) (b : Sm) (i : Nat) (j : Nat) (S : Stat) (x : Stmt) : okS1 T (.try_ b i j) S x = (match x with
    | .Try body [.ExceptHandler (some (.Name u _)) (some n) [.Assign [.Name y _] (.Name n' _) _] _] [] [] _ => decide (T.cn.length = 6) && decide (u = ("ListError" : Str)) && okG S u && decide (n' = n) && decide (S.N[i]? = some n) && isLo (S.sc.names.lookup n) && decide (S.N[j]? = some y) && isLo (S.sc.names.lookup y) && decide (i ≠ j) && !(n == ("__debug__" : Str)) && !(n == ("__classdict__" : Str)) && okSs T b S body
    | _ => false) := rfl
structure YOk (T : Tab) (cl : Cls) (Φ : Nat → Fn) (k : Nat) (W : WX) (S : Stat) (X : Cx) : Prop where
  x : XOk T cl Φ k W S X
  fk : S.sc.kind = .function
  hp : PassesOwn (model X.prog X.w) X.A X.env X.xe
  tk : Takes X W
  exc : ∀ c x, T.cn[c]? = some x → X.mg x = some (.ref (cl c)) ∧ PySem.W.excIn X.K (cl c) [.type "ValueError", .type "Exception", .type "BaseException", .type "object"] "ValueError.__new__" = true ∧ PySem.W.keepIn X.K (.ref (cl c)) = true ∧ Raises X (.ref (cl c))
  st : X.stack = X.env :: X.outer
  fr : X.env.frame = some X.env.locals
  ex0 : X.ex = []
theorem YOk.tr {T : Tab} {cl : Cls} {Φ : Nat → Fn} {k : Nat} {W W' : WX} {S : Stat} {X : Cx} {pn : List (Addr × Obj)} {xe : Value → Shared → Prop} (h : YOk T cl Φ k W S X) (tk : Takes (X.tr pn xe) W') (hp : PassesOwn (model X.prog X.w) X.A X.env xe) : YOk T cl Φ k W' S (X.tr pn xe) :=
  ⟨⟨h.x.hN, h.x.hsc, h.x.hfn, h.x.nd, h.x.calm, h.x.room, h.x.blt, h.x.glo, fun σ => passAt tk σ, h.x.fun_, h.x.exf⟩, h.fk, hp, tk, h.exc, h.st, h.fr, h.ex0⟩
section
variable {T : Tab} {cl : Cls} {Φ : Nat → Fn} {k : Nat} {W : WX} {S : Stat} {X : Cx}
theorem swaps_no {v t : Expr} {l : Nat} {env : PySem.Env} (h : isComp v = false) : swapsWith v (some t) l env = pure false := by
  cases v <;> first | rfl | simp [isComp] at h
theorem swaps_no0 {v : Expr} {l : Nat} {env : PySem.Env} (h : isComp v = false) : swapsWith v none l env = pure false := by
  cases v <;> first | rfl | simp [isComp] at h
theorem swaps_noT {v : Expr} {ts : List Expr} {j l : Nat} {p : Pos} {env : PySem.Env} : swapsWith v (some (.Tuple ts j p)) l env = pure false := by
  cases v <;> rfl
theorem swaps_noS {v a b : Expr} {l : Nat} {p : Pos} {env : PySem.Env} : swapsWith v (some (.Subscript a b p)) l env = pure false := by
  cases v <;> rfl
theorem blockFn {env : PySem.Env} (h : env.scope.kind = .function) : env.blockKind = .function := by
  unfold Env.blockKind
  rw [h]
  rfl
theorem isLo_iff {o : Option NameKind} : isLo o = true ↔ o = some .local := by
  constructor
  · intro h
    unfold isLo at h
    split at h
    · rfl
    · cases h
  · rintro rfl
    rfl
theorem isLo_beq (o : Option NameKind) : (o == some NameKind.local) = isLo o := by
  cases o with
  | none => rfl
  | some k => cases k <;> rfl
theorem swaps_lc (h : YOk T cl Φ k W S X) {el : Expr} {gs : List Comprehension} {scope : Scope} {lp p : Pos} {x : Str} {l : Nat} : swapsWith (.ListComp el gs scope lp) (some (.Name x p)) l X.env = pure (sw S x p (.ListComp el gs scope lp)) := by
  have hk : X.env.scope.kind = .function := by rw [h.x.hsc]; exact h.fk
  have hb := blockFn hk
  have ky : X.env.kindOf x = S.sc.names.lookup x := by
    show X.env.scope.names.lookup x = _
    rw [h.x.hsc]
  unfold swapsWith sw
  simp only [hb, ky, isLo_beq, Expr.pos]
  rfl
/-- the readings of a block from those of its parts -/
theorem rd_cons {s t : Sm} {D : Ends} {σ : St} {H : Hp} (h : tO X.K cl W (evS Φ (.cons s t)) D σ H) : tSeq (tO X.K cl W (evS Φ s)) (tO X.K cl W (evS Φ t)) D σ H := by
  obtain ⟨F0, H0, da0, F, da, r, g, RS, p⟩ := h
  refine ⟨F0, H0, da0, F, da, r, g, RS, ?_⟩
  have p : PostS X.K cl W F0 H0 da0 D ((evS Φ s r g).andThen fun r g => evS Φ t r g) := p
  cases e : evS Φ s r g with
  | nx r1 g1 =>
    rw [e] at p
    exact fun σ' F' H' da' q => ⟨F0, H0, da0, F', da', r1, g1, q, p⟩
  | rt d g1 => rw [e] at p; exact p
  | bk r1 g1 => rw [e] at p; exact p
  | ct r1 g1 => rw [e] at p; exact p
  | ex c r1 g1 => rw [e] at p; exact p
  | bad => rw [e] at p; exact p
theorem rd_frz {i : Nat} {t : Sm} {D : Ends} {σ : St} {H : Hp} (h : tO X.K cl W (evS Φ (.cons (.frz i) t)) D σ H) : tO X.K cl W (evS Φ t) D σ H := by
  obtain ⟨F0, H0, da0, F, da, r, g, RS, p⟩ := h
  have p : PostS X.K cl W F0 H0 da0 D ((match (r[i]?).bind frzC with
    | some c => O.nx (r.set i c) g
    | none => .bad).andThen fun r g => evS Φ t r g) := p
  cases e : r[i]? with
  | none => rw [e] at p; exact False.elim p
  | some c =>
    rw [e] at p
    cases c with
    | own ds =>
      obtain ⟨F', RS'⟩ := RS.frz e
      exact ⟨F0, H0, da0, F', da, _, g, RS', p⟩
    | val d =>
      have hs : r.set i (.val d) = r := by
        refine List.ext_getElem? fun j => ?_
        by_cases hj : i = j
        · subst hj
          have hl : i < r.length := (List.getElem?_eq_some_iff.mp e).1
          rw [List.getElem?_set_self hl, e]
        · rw [List.getElem?_set_ne hj]
      have p : PostS X.K cl W F0 H0 da0 D (evS Φ t (r.set i (.val d)) g) := p
      rw [hs] at p
      exact ⟨F0, H0, da0, F, da, r, g, RS, p⟩
    | _ => exact False.elim p
theorem rd_asg {i : Nat} {e : E} {D : Ends} {σ : St} {H : Hp} (h : tO X.K cl W (evS Φ (.asg i e)) D σ H) : tE X.K cl W Φ e σ H (fun v H1 => D.nx (σ.set i (some v)) H1) := by
  obtain ⟨F0, H0, da0, F, da, r, g, RS, p⟩ := h
  exact ⟨F, da, r, g, RS.rep, PostS.st RS p fun a g1 v F1 H1 n rl RS1 p1 => p1 _ F1 H1 da (RS1.set rl)⟩
theorem snd_asg (h : YOk T cl Φ k W S X) {i : Nat} {e : E} {a : Str} {p pos : Pos} {v : Expr} (q : (okL S i a && okE T e S v && (!isComp v || isLC v)) = true) : PS X (.Assign [.Name a p] v pos) (tO X.K cl W (evS Φ (.asg i e))) := by
  obtain ⟨q, q3⟩ := and2 q
  obtain ⟨q1, q2⟩ := and2 q
  obtain ⟨l1, l2, l3⟩ := h.x.loc q1
  have plain : swapsWith v (some (.Name a p)) pos.line X.env = pure false → PS X (.Assign [.Name a p] v pos) (tO X.K cl W (evS Φ (.asg i e))) := fun hs =>
    impS (ps_set h.x.ndX l1 l2 ((snd e).e h.x v q2) hs l3) fun D σ H hq => rd_asg hq
  cases hc : isComp v with
  | false => exact plain (swaps_no hc)
  | true =>
    rw [hc] at q3
    have q3 : isLC v = true := by simpa using q3
    cases v with
    | ListComp el gs scope lp =>
      cases hs : sw S a p (.ListComp el gs scope lp) with
      | false => exact plain (by rw [swaps_lc h, hs])
      | true =>
        cases e with
        | lc t it c e =>
          simp only [okE] at q2
          split at q2
          · rename_i el' tg iter ifs scope' pos' heq
            cases heq
            obtain ⟨q, q6⟩ := and2 q2
            obtain ⟨q, q5⟩ := and2 q
            obtain ⟨q, q4⟩ := and2 q
            obtain ⟨q, q3⟩ := and2 q
            obtain ⟨q1', q2'⟩ := and2 q
            obtain ⟨w1, w2⟩ := tg_own q4
            have bk : BlkOk _ _ scope (tgOwn t tg) := blkOk_by q3
            rw [← h.x.hN, ← h.x.hsc] at bk
            have pg := fun (s : Shared) (H : Hp) (C : Addr) (cs : List (Str × Addr)) (fp : List Addr) => pg_T (h.x.blk scope s H C cs fp) q4
            have pe := fun (s : Shared) (H : Hp) (C : Addr) (cs : List (Str × Addr)) (fp : List Addr) => (snd e).e (h.x.blk scope s H C cs fp) _ q6
            have hyl : X.env.scope.names.lookup a = some .local := by
              rw [h.x.hsc]
              have hs' := hs
              unfold sw at hs'
              obtain ⟨z, _⟩ := and2 hs'
              obtain ⟨z, _⟩ := and2 z
              exact isLo_iff.mp z
            have hsw : swapsWith (.ListComp el [⟨tg, iter, ifs, 0⟩] scope lp) (some (.Name a p)) pos.line X.env = pure true := by rw [swaps_lc h, hs]
            split at q5
            · refine impS (ps_setLc (g := gT X.K t) (tt := tYes) (te := tE X.K cl W0 Φ e) h.x.calm h.x.ndX l1 hyl hsw ((snd it).i h.x _ _ q1') bk pg (fun _ _ _ _ _ => pts_nil) pe (iter_ok q2')) fun D σ H hq => ?_
              rw [w1]
              exact rd_lc w2 (rd_yes q5) (rd_asg hq)
            · refine impS (ps_setLc (g := gT X.K t) (tt := tT X.K cl W0 Φ c) (te := tE X.K cl W0 Φ e) h.x.calm h.x.ndX l1 hyl hsw ((snd it).i h.x _ _ q1') bk pg (fun s H C cs fp => pts_one ((snd c).t (h.x.blk scope s H C cs fp) _ q5)) pe (iter_ok q2')) fun D σ H hq => ?_
              rw [w1]
              exact rd_lc w2 (fun _ _ _ z => z) (rd_asg hq)
            · cases q5
          · cases q2
        | var i => simp [okE] at q2
        | con d => simp [okE] at q2
        | glo n d => simp [okE] at q2
        | un o a => cases o <;> simp [okE, okU] at q2
        | bi o a b => simp [okE, okBi] at q2
        | bor e => simp [okE, noLC] at q2
        | isx i c => simp [okE, okX] at q2
        | _ => simp [okE] at q2
    | _ => simp [isLC] at q3
end
end Tl
end
section
set_option Elab.async false
set_option linter.all false
set_option autoImplicit false
set_option maxRecDepth 100000
namespace Tl
open PySem PySem.Spec PyProof.Rows L2
section
variable {T : Tab} {cl : Cls} {Φ : Nat → Fn} {k : Nat} {W : WX} {S : Stat} {X : Cx} {K : PySem.W.Frag}
/-! ### new lists of one's own -/
theorem rd_mk_lst {i : Nat} {as : E} {D : Ends} {σ : St} {H : Hp} (h : tO X.K cl W (evS Φ (.mk i (.lst as))) D σ H) : tA X.K cl W Φ as σ H (fun vs H1 => vs.length ≤ sizeLine ∧ ∀ p, H1 p = none → D.nx (σ.set i (some (.ref p))) (upd H1 p (.lst vs))) := by
  obtain ⟨F0, H0, da0, F, da, r, g, RS, p⟩ := h
  refine ⟨F, da, r, g, RS.rep, ?_⟩
  have p : PostS X.K cl W F0 H0 da0 D (((evA Φ as r g).bind fun cs g => R.of g ((vals? cs).bind fun ds => if ds.length ≤ lim then some (PyData.list ds) else none)).st r fun (d : PyData) (g : G) => match d with
    | .list ds => O.nx (r.set i (.own ds)) g
    | _ => O.bad) := p
  cases e : evA Φ as r g with
  | ok cs g1 =>
    rw [e] at p
    intro vs F1 H1 n ao
    cases q : vals? cs with
    | none => simp only [R.bind, q, Option.bind_none, R.of, R.st] at p; exact False.elim p
    | some ds =>
      by_cases hl : ds.length ≤ lim
      · simp only [R.bind, q, Option.bind_some, if_pos hl, R.of, R.st] at p
        have ra := args_vals ao q
        exact ⟨by rw [ra.length]; exact lim_line' hl, fun pp hp => p _ F1 _ da ((RS.nx n).mk' hp ra hl)⟩
      · simp only [R.bind, q, Option.bind_some, if_neg hl, R.of, R.st] at p
        exact False.elim p
  | exc c g1 =>
    rw [e] at p
    exact fun F' H' n => p σ F' H' da (RS.nx n)
  | bad => rw [e] at p; exact p
/-- an operation that lays a new list -/
def FS2 (o : Bi) (r : R2) : Prop := ∀ (F H : Hp) (da : DA) (x y : V) (d e : D) (ds : List D) (Q : VK), Same F H → Cp F H da x d → Cp F H da y e → bop o d e = some (.list ds) → (∀ p xs, H p = none → RpAll F xs ds → ds.length ≤ lim → Q (.ref p) (upd H p (.lst xs))) → r x y H Q
def FS1 (o : Un) (r : V → Hp → VK → Prop) : Prop := ∀ (F H : Hp) (da : DA) (x : V) (d : D) (ds : List D) (Q : VK), Same F H → Cp F H da x d → uop o d = some (.list ds) → (∀ p xs, H p = none → RpAll F xs ds → ds.length ≤ lim → Q (.ref p) (upd H p (.lst xs))) → r x H Q
theorem fs2_mul : FS2 .mul rMulA := by
  intro F H da x y d e ds Q s c1 c2 q kk
  cases d with
  | int i =>
    cases e with
    | int j =>
      simp only [bop] at q
      split at q <;> cases q
    | _ => simp [bop] at q
  | list xs =>
    cases e with
    | int j =>
      simp only [bop] at q
      split at q
      · rename_i hm
        cases q
        obtain ⟨a, us, h1, h2, h3, h4⟩ := c1.list s
        obtain ⟨m1, m2, m3⟩ := hm
        refine .inr ⟨a, j, us, h1, cp_int c2, h2, by omega, by omega, by rw [h3.length]; exact lim_line' m3, fun p hp => kk p _ hp (h3.flat _) ?_⟩
        simp only [List.length_flatten, List.map_replicate, List.sum_replicate_nat]
        rw [Nat.mul_comm]
        exact m3
      · cases q
    | _ => simp [bop] at q
  | _ => simp [bop] at q
theorem fs2_from {K : PySem.W.Frag} : FS2 .from_ (fun x y H Q => ∃ i, y = .int i ∧ rSlA K x (some i) none H Q) := by
  intro F H da x y d e ds Q s c1 c2 q kk
  cases d with
  | list xs =>
    cases e with
    | int i =>
      simp only [bop] at q
      cases q
      obtain ⟨a, us, h1, h2, h3, h4⟩ := c1.list s
      exact ⟨i, cp_int c2, .inl ⟨a, us, h1, .inl (.inl h2), fun p hp => kk p _ hp (cut_rp h3 _ _) (Nat.le_trans (cut_len _ _ _) h4)⟩⟩
    | _ => simp [bop] at q
  | str z =>
    cases e with
    | int i => simp [bop] at q
    | _ => simp [bop] at q
  | _ => simp [bop] at q
theorem fs1_list : FS1 .list (fun x H Q => ∃ p ys, [x] = [.ref p] ∧ (SqL K H p ys ∨ SqT K H p ys) ∧ ∀ l, H l = none → Q (.ref l) (upd H l (.lst ys))) := by
  intro F H da x d ds Q s c e kk
  cases d with
  | list ds =>
    cases e
    obtain ⟨a, xs, h1, h2, h3, h4⟩ := c.list s
    subst h1
    exact ⟨a, xs, rfl, .inl (.inl (.inl h2)), fun p hp => kk p xs hp h3 h4⟩
  | tuple ds =>
    cases e
    obtain ⟨a, xs, h1, h2, h3, h4⟩ := cp_tup s c
    subst h1
    exact ⟨a, xs, rfl, .inr (.inl (.inl h2)), fun p hp => kk p xs hp h3 h4⟩
  | _ => simp [uop] at e
theorem fs1_lrange : FS1 .lrange (fun x H Q => ∃ n, x = .int n ∧ RgOk 0 n ∧ ∀ q, H q = none → Q (.ref q) (upd H q (.lst (rgV 0 n)))) := by
  intro F H da x d ds Q s c e k
  cases d with
  | int n =>
    simp only [uop] at e
    split at e
    · rename_i hn
      cases e
      refine ⟨n, cp_int c, RgOk.of_le (by omega) (by omega) (by omega) hn.1, fun p hp => k p _ hp (rg_rp n) ?_⟩
      rw [rangeD_len]
      unfold lim
      omega
    · cases e
  | _ => simp [uop] at e
theorem fs1_lstr : FS1 .lstr (fun x H Q => ∃ z : Str, [x] = [V.str z] ∧ z.length ≤ lim ∧ ∀ p, H p = none → Q (.ref p) (upd H p (.lst (z.cps.toList.map fun c => .str ⟨#[c]⟩)))) := by
  intro F H da x d ds Q s c e k
  cases d with
  | str z =>
    cases e
    obtain ⟨h1, h2, h3⟩ := cp_str c
    refine ⟨z, by rw [h1], h2, fun p hp => k p _ hp (chars_rp h3) ?_⟩
    unfold chars
    rw [List.length_map, Array.length_toList]
    exact h2
  | _ => simp [uop] at e
theorem rd_mk_bi {i : Nat} {o : Bi} {a b : E} {r2 : R2} (f2 : FS2 o r2) {D : Ends} {σ : St} {H : Hp} (h : tO X.K cl W (evS Φ (.mk i (.bi o a b))) D σ H) : tC X.K cl W Φ a σ H (fun x H1 => tC X.K cl W Φ b σ H1 fun y H2 => r2 x y H2 fun v H3 => D.nx (σ.set i (some v)) H3) := by
  obtain ⟨F0, H0, da0, F, da, r, g, RS, p⟩ := h
  have p : PostS X.K cl W F0 H0 da0 D (((evC Φ a r g).bind fun x g => match preB o x with
    | true => (evC Φ b r g).bind fun y g => R.of g (bop o x y)
    | false => .bad).st r fun (d : PyData) (g : G) => match d with
    | .list ds => O.nx (r.set i (.own ds)) g
    | _ => O.bad) := p
  refine ⟨F, da, r, g, RS.rep, ?_⟩
  cases e : evC Φ a r g with
  | ok d g1 =>
    rw [e] at p
    intro x F1 H1 n c
    refine ⟨F1, da, r, g1, RS.rep.nx n, ?_⟩
    simp only [R.bind] at p
    cases pb : preB o d with
    | false => rw [pb] at p; exact False.elim p
    | true =>
    rw [pb] at p
    simp only at p
    cases e2 : evC Φ b r g1 with
    | ok d2 g2 =>
      rw [e2] at p
      intro y F2 H2 n2 c2
      cases eb : bop o d d2 with
      | none => simp only [R.bind, eb, R.of, R.st] at p; exact False.elim p
      | some dz =>
        simp only [R.bind, eb, R.of, R.st] at p
        cases dz with
        | list ds => exact f2 F2 H2 da x y d d2 ds _ n2.sub (c.nx n2) c2 eb fun pp xs hp ra hl => p _ F2 _ da (((RS.nx n).nx n2).mk' hp ra hl)
        | _ => exact False.elim p
    | exc cc g2 =>
      rw [e2] at p
      exact fun F' H' n2 => p σ F' H' da ((RS.nx n).nx n2)
    | bad => rw [e2] at p; exact p
  | exc c g1 =>
    rw [e] at p
    exact fun F' H' n => p σ F' H' da (RS.nx n)
  | bad => rw [e] at p; exact p
theorem rd_mk_un {i : Nat} {o : Un} {a : E} {r1 : V → Hp → VK → Prop} (f1 : FS1 o r1) {D : Ends} {σ : St} {H : Hp} (h : tO X.K cl W (evS Φ (.mk i (.un o a))) D σ H) : tC X.K cl W Φ a σ H (fun x H1 => r1 x H1 fun v H3 => D.nx (σ.set i (some v)) H3) := by
  obtain ⟨F0, H0, da0, F, da, r, g, RS, p⟩ := h
  have p : PostS X.K cl W F0 H0 da0 D (((evC Φ a r g).bind fun d g => R.of g (uop o d)).st r fun (d : PyData) (g : G) => match d with
    | .list ds => O.nx (r.set i (.own ds)) g
    | _ => O.bad) := p
  refine ⟨F, da, r, g, RS.rep, ?_⟩
  cases e : evC Φ a r g with
  | ok d g1 =>
    rw [e] at p
    intro x F1 H1 n c
    cases eb : uop o d with
    | none => simp only [R.bind, eb, R.of, R.st] at p; exact False.elim p
    | some dz =>
      simp only [R.bind, eb, R.of, R.st] at p
      cases dz with
      | list ds => exact f1 F1 H1 da x d ds _ n.sub c eb fun pp xs hp ra hl => p _ F1 _ da ((RS.nx n).mk' hp ra hl)
      | _ => exact False.elim p
  | exc c g1 =>
    rw [e] at p
    exact fun F' H' n => p σ F' H' da (RS.nx n)
  | bad => rw [e] at p; exact p
theorem snd_mk (h : YOk T cl Φ k W S X) {i : Nat} {e : E} {a : Str} {p pos : Pos} {v : Expr} (q : (okL S i a && okFr T S e v) = true) : PS X (.Assign [.Name a p] v pos) (tO X.K cl W (evS Φ (.mk i e))) := by
  obtain ⟨q1, q2⟩ := and2 q
  obtain ⟨l1, l2, l3⟩ := h.x.loc q1
  unfold okFr at q2
  split at q2
  · exact impS (ps_set h.x.ndX l1 l2 (pe_lst ((snd _).s h.x _ q2)) rfl l3) fun D σ H hq => rd_mk_lst hq
  · obtain ⟨q3, q4⟩ := and2 q2
    exact impS (ps_set h.x.ndX l1 l2 (pe_op op_mulA ((snd _).c h.x _ q3) ((snd _).c h.x _ q4)) rfl l3) fun D σ H hq => rd_mk_bi fs2_mul hq
  · obtain ⟨q3, q4⟩ := and2 q2
    exact impS (ps_set h.x.ndX l1 l2 (pe_slice sl_A ((snd _).c h.x _ q3) (po_some ((snd _).c h.x _ q4)) po_none) rfl l3) fun D σ H hq => rd_mk_bi (fs2_from (K := X.K)) hq
  · obtain ⟨q3, q5⟩ := and2 q2
    obtain ⟨q3, q4⟩ := and2 q3
    obtain ⟨rfl, g, m⟩ := h.x.bl q3 (by decide +kernel)
    exact impS (ps_set h.x.ndX l1 l2 (pe_callTy call_list_of g m boot_list (pa_cons ((snd _).c h.x _ q5) pa_nil (star_ok q4)) (he := star_ok q4)) rfl l3) fun D σ H hq => rd_mk_un (fs1_list (K := X.K)) hq
  · obtain ⟨q3, q5⟩ := and2 q2
    obtain ⟨q3, q4⟩ := and2 q3
    obtain ⟨rfl, g, m⟩ := h.x.bl q3 (by decide +kernel)
    exact impS (ps_set h.x.ndX l1 l2 (pe_callTy (cr_lstr h.x.calm) g m boot_list (pa_cons ((snd _).c h.x _ q5) pa_nil (star_ok q4)) (he := star_ok q4)) rfl l3) fun D σ H hq => rd_mk_un fs1_lstr hq
  · obtain ⟨q3, q6⟩ := and2 q2
    obtain ⟨q3, q5⟩ := and2 q3
    obtain ⟨q3, q4⟩ := and2 q3
    obtain ⟨rfl, g, m⟩ := h.x.bl q3 (by decide +kernel)
    obtain ⟨rfl, g', m'⟩ := h.x.bl q4 (by decide +kernel)
    exact impS (ps_set h.x.ndX l1 l2 (pe_listRg h.x.calm g m (prg_1 g' m' ((snd _).c h.x _ q6) (star_ok q5))) rfl l3) fun D σ H hq => rd_mk_un fs1_lrange hq
  · cases q2
/-! ### targets, in a body -/
theorem rd_TS {F0 H0 : Hp} {da0 : DA} {t : Tg} {F H : Hp} {da : DA} {g : G} {σ : St} {r r1 : Env} {v : V} {d : D} {Q : St → Hp → Prop} (RS : RepS K cl F0 H0 da0 F H da σ r g) (rp : Rp F v d) (e : setT t d r = some r1)
    (kk : ∀ σ1, RepS K cl F0 H0 da0 F H da σ1 r1 g → Q σ1 H) : gT K t v σ H Q := by
  cases t with
  | nm i =>
    cases e
    exact kk _ (RS.set rp)
  | two i j =>
    obtain ⟨a, b, rfl, rfl⟩ := setT_two e
    cases rp with
    | tup h1 h2 h3 =>
      cases h2 with
      | cons r1 h2 =>
        cases h2 with
        | cons r2 h2 =>
          cases h2
          exact ⟨_, _, rfl, .inl (.inl (RS.rep.sub _ _ h1)), rfl, _, _, rfl, _, _, rfl, rfl, kk _ ((RS.set r1).set r2)⟩
  | three i j l =>
    obtain ⟨a, b, c, rfl, rfl⟩ := setT_three e
    cases rp with
    | tup h1 h2 h3 =>
      cases h2 with
      | cons r1 h2 =>
        cases h2 with
        | cons r2 h2 =>
          cases h2 with
          | cons r3 h2 =>
            cases h2
            exact ⟨_, _, rfl, .inl (.inl (RS.rep.sub _ _ h1)), rfl, _, _, rfl, _, _, rfl, _, _, rfl, rfl, kk _ (((RS.set r1).set r2).set r3)⟩
theorem rd_unp {t : Tg} {e : E} {D : Ends} {σ : St} {H : Hp} (h : tO X.K cl W (evS Φ (.unp t e)) D σ H) : tE X.K cl W Φ e σ H (fun v H1 => gT X.K t v σ H1 D.nx) := by
  obtain ⟨F0, H0, da0, F, da, r, g, RS, p⟩ := h
  refine ⟨F, da, r, g, RS.rep, PostS.st RS p fun a g1 v F1 H1 n rl RS1 p1 => ?_⟩
  cases es : setT t a r with
  | none => rw [es] at p1; exact False.elim p1
  | some r1 =>
    rw [es] at p1
    exact rd_TS RS1 rl es fun σ1 RS2 => p1 σ1 F1 H1 da RS2
theorem sole_T {v : Expr} {ts : List Expr} {j l : Nat} {p : Pos} {env : PySem.Env} : swapsWithSole [.Tuple ts j p] v l env = pure false := by
  cases v <;> rfl
theorem sole_S {v a b : Expr} {l : Nat} {p : Pos} {env : PySem.Env} : swapsWithSole [.Subscript a b p] v l env = pure false := by
  cases v <;> rfl
theorem stores_no {ts : List Expr} {j : Nat} {p : Pos} {v : Expr} {env : PySem.Env} (h : isTupE v = false) : swappedStores [.Tuple ts j p] v env = pure none := by
  cases v <;> first | rfl | simp [isTupE] at h
theorem snd_unp (h : YOk T cl Φ k W S X) {t : Tg} {e : E} {ts : List Expr} {j : Nat} {p pos : Pos} {v : Expr} (q : (okTg S t (.Tuple ts j p) && okE T e S v && !isTupE v) = true) : PS X (.Assign [.Tuple ts j p] v pos) (tO X.K cl W (evS Φ (.unp t e))) := by
  obtain ⟨q, q3⟩ := and2 q
  obtain ⟨q1, q2⟩ := and2 q
  exact impS (ps_asg ((snd e).e h.x v q2) (pg_T h.x q1) sole_T (stores_no (by simpa using q3)) rfl) fun D σ H hq => rd_unp hq
/-! ### small statements -/
theorem pip_of {op : Operator} {r : R2} (h : OpR X (inplaceOp op) r) : PIp X op r := h
theorem rd_aug {i : Nat} {o : Bi} {e : E} {r2 : R2} (s2 : ∀ (x y : Int) (dz : D) (H : Hp) (Q : VK), bop o (.int x) (.int y) = some dz → (∀ v, (∀ F, Rp F v dz) → Q v H) → r2 (.int x) (.int y) H Q) {D : Ends} {σ : St} {H : Hp} (h : tO X.K cl W (evS Φ (.aug i o e)) D σ H) : tAug i (tE X.K cl W Φ e) r2 D σ H := by
  obtain ⟨F0, H0, da0, F, da, r, g, RS, p⟩ := h
  simp only [evS] at p
  cases ei : r[i]? with
  | none => rw [ei] at p; exact False.elim p
  | some c =>
    rw [ei] at p
    cases c with
    | val d =>
      cases d with
      | int x =>
        obtain ⟨v, e1, rp⟩ := RS.rep.slot i _ ei
        cases rp
        refine ⟨_, e1, F, da, r, g, RS.rep, PostS.st RS p fun a g1 v F1 H1 n rl RS1 p1 => ?_⟩
        cases a with
        | int y =>
          cases rl
          cases eb : bop o (.int x) (.int y) with
          | none => simp only [eb] at p1; exact False.elim p1
          | some dz =>
            simp only [eb] at p1
            exact s2 x y dz H1 _ eb fun v rv => p1 _ F1 H1 da (RS1.set (rv F1))
        | _ => exact False.elim p1
      | _ => exact False.elim p
    | _ => exact False.elim p
theorem snd_aug (h : YOk T cl Φ k W S X) {i : Nat} {o : Bi} {e : E} {a : Str} {p pos : Pos} {op : Operator} {v : Expr} (q : (okL S i a && okAug o op && okE T e S v) = true) : PS X (.AugAssign (.Name a p) op v pos) (tO X.K cl W (evS Φ (.aug i o e))) := by
  obtain ⟨q, q3⟩ := and2 q
  obtain ⟨q1, q2⟩ := and2 q
  obtain ⟨l1, l2, l3⟩ := h.x.loc q1
  have pe := (snd (T := T) (cl := cl) (Φ := Φ) e).e h.x v q3
  unfold okAug at q2
  split at q2
  · exact impS (ps_aug h.x.ndX l1 l2 pe (pip_of iop_add) l3) fun D σ H hq => rd_aug (fun x y dz H Q eb kk => by cases eb; exact ⟨x, y, rfl, rfl, kk _ fun _ => .int _⟩) hq
  · exact impS (ps_aug h.x.ndX l1 l2 pe (pip_of iop_sub) l3) fun D σ H hq => rd_aug (fun x y dz H Q eb kk => by cases eb; exact ⟨x, y, rfl, rfl, kk _ fun _ => .int _⟩) hq
  · exact impS (ps_aug h.x.ndX l1 l2 pe (pip_of iop_mul) l3) fun D σ H hq => rd_aug (fun x y dz H Q eb kk => by
      simp only [bop] at eb
      split at eb
      · rename_i hm
        cases eb
        exact ⟨x, y, rfl, rfl, mulOk_is hm, kk _ fun _ => .int _⟩
      · cases eb) hq
  · cases q2
theorem snd_drop (h : YOk T cl Φ k W S X) {e : E} {v : Expr} {pos : Pos} (q : (okE T e S v && !isComp v) = true) : PS X (.Expr v pos) (tO X.K cl W (evS Φ (.drop e))) := by
  obtain ⟨q1, q2⟩ := and2 q
  refine impS (ps_expr ((snd e).e h.x v q1) (swaps_no0 (by simpa using q2))) fun D σ H hq => ?_
  obtain ⟨F0, H0, da0, F, da, r, g, RS, p⟩ := hq
  exact ⟨F, da, r, g, RS.rep, PostS.st RS p fun a g1 v F1 H1 n rl RS1 p1 => p1 σ F1 H1 da RS1⟩
theorem snd_ret (h : YOk T cl Φ k W S X) {e : E} {v : Expr} {pos : Pos} (q : okE T e S v = true) : PS X (.Return (some v) pos) (tO X.K cl W (evS Φ (.ret e))) := by
  refine impS (ps_ret ((snd e).e h.x v q)) fun D σ H hq => ?_
  obtain ⟨F0, H0, da0, F, da, r, g, RS, p⟩ := hq
  exact ⟨F, da, r, g, RS.rep, PostS.st RS p fun a g1 v F1 H1 n rl RS1 p1 => p1 v σ r F1 H1 da RS1 rl⟩
theorem snd_app (h : YOk T cl Φ k W S X) {i : Nat} {e : E} {a m : Str} {p ap cp pos : Pos} {y : Expr} (q : (decide (m = ("append" : Str)) && okV S i a && noStar y && (ap.endLine == cp.line) && okE T e S y) = true) :
    PS X (.Expr (.Call (.Attribute (.Name a p) m ap) [y] [] cp) pos) (tO X.K cl W (evS Φ (.app i e))) := by
  obtain ⟨q, q5⟩ := and2 q
  obtain ⟨q, q4⟩ := and2 q
  obtain ⟨q, q3⟩ := and2 q
  obtain ⟨q1, q2⟩ := and2 q
  have em := of_decide_eq_true q1
  subst em
  refine impS (ps_expr (pe_bm PySem.F.plainAttrs_list PySem.F.slot_list_append PySem.F.type_list_append mt_append (h.x.var q2) (pa_cons ((snd e).e h.x y q5) pa_nil (star_ok q3)) rfl (by rw [star_ok q3]; rfl) q4 (star_ok q3) rfl) rfl) fun D σ H hq => ?_
  obtain ⟨F0, H0, da0, F, da, r, g, RS, p⟩ := hq
  simp only [evS] at p
  cases ei : r[i]? with
  | none => rw [ei] at p; exact False.elim p
  | some c =>
    rw [ei] at p
    cases c with
    | own ds =>
      obtain ⟨ad, e1, xs, e2, e3, e4, e5, e6⟩ := RS.rep.slot i _ ei
      refine ⟨.ref ad, e1, .inl ⟨rfl, xs, .inl (.inl e2)⟩, F, da, r, g, RS.rep, PostS.st RS p fun d g1 v F1 H1 n rl RS1 p1 => ?_⟩
      split at p1
      · rename_i hl
        have k1 := n.keep _ _ e2 e4
        refine ⟨ad, xs, v, rfl, rfl, k1, by rw [e5.length]; exact lim_line (Nat.le_of_lt hl), ?_⟩
        exact p1 σ F1 _ da (RS1.put ei e1 ((e5.mono n.fr).append (.cons rl .nil)) (by rw [List.length_append]; exact hl))
      · exact False.elim p1
    | _ => exact False.elim p
theorem snd_seti (h : YOk T cl Φ k W S X) {i : Nat} {kx e : E} {a : Str} {p sp pos : Pos} {ix v : Expr} (q : (okV S i a && noSlice ix && okE T kx S ix && okE T e S v) = true) :
    PS X (.Assign [.Subscript (.Name a p) ix sp] v pos) (tO X.K cl W (evS Φ (.seti i kx e))) := by
  obtain ⟨q, q4⟩ := and2 q
  obtain ⟨q, q3⟩ := and2 q
  obtain ⟨q1, q2⟩ := and2 q
  have ha : ∀ u, assign (.Subscript (.Name a p) ix sp) X.env u = (do
      let ov ← holding [u] (eval (.Name a p) X.env)
      let iv ← holding [u, ov] (eval ix X.env)
      standAt sp
      holding [u, ov, iv] (setItem ov iv u)
      release [u, ov, iv] []) := by
    intro u
    cases ix <;> first | rfl | simp [noSlice] at q2
  refine impS (ps_asg ((snd e).e h.x v q4) (pg_sub (h.x.var q1) ((snd kx).e h.x ix q3) set_list ha) sole_S (by cases v <;> rfl) rfl) fun D σ H hq => ?_
  obtain ⟨F0, H0, da0, F, da, r, g, RS, p⟩ := hq
  simp only [evS] at p
  cases ei : r[i]? with
  | none => rw [ei] at p; exact False.elim p
  | some c =>
    rw [ei] at p
    cases c with
    | own ds =>
      obtain ⟨ad, e1, xs, e2, e3, e4, e5, e6⟩ := RS.rep.slot i _ ei
      refine ⟨F, da, r, g, RS.rep, PostS.st RS p fun d g1 v F1 H1 n rl RS1 p1 => ?_⟩
      refine ⟨.ref ad, e1, F1, da, r, g1, RS1.rep, PostS.st RS1 p1 fun kd g2 kv F2 H2 n2 rl2 RS2 p2 => ?_⟩
      cases kd with
      | int kk =>
        cases rl2
        cases eb : ixN ds.length kk with
        | none => simp only [eb] at p2; exact False.elim p2
        | some j =>
          simp only [eb] at p2
          have k2 := n2.keep _ _ (n.keep _ _ e2 e4) e4
          refine ⟨ad, xs, kk, j, rfl, rfl, k2, by rw [e5.length]; exact eb, ?_⟩
          exact p2 σ F2 _ da (RS2.put ei e1 (((e5.mono n.fr).mono n2.fr).set (rl.mono n2.fr) j) (by rw [List.length_set]; exact e6))
      | _ => exact False.elim p2
    | _ => exact False.elim p
theorem snd_raise (h : YOk T cl Φ k W S X) {c : Nat} {a m : Str} {p p2 p3 pos : Pos} {j : Nat} (q : (decide (T.cn[c]? = some a) && okG S a) = true) : PS X (.Raise (some (.Call (.Name a p) [.Constant (.str m) j p2] [] p3)) none pos) (tO X.K cl W (evS Φ (.raise c))) := by
  obtain ⟨q1, q2⟩ := and2 q
  obtain ⟨e1, e2, e3, e4⟩ := h.exc c a (of_decide_eq_true q1)
  obtain ⟨g1, g2⟩ := h.x.gl q2
  refine impS (ps_raise h.x.calm h.tk (pmk_own PySem.F.excBase_ValueError e2 e1 e3 e4 g1 g2)) fun D σ H hq => ?_
  obtain ⟨F0, H0, da0, F, da, r, g, RS, p⟩ := hq
  exact p σ F H da RS
end
end Tl
end
section
set_option Elab.async false
set_option linter.all false
set_option autoImplicit false
set_option maxRecDepth 100000
namespace Tl
open PySem PySem.Spec PyProof.Rows L2
section
variable {T : Tab} {cl : Cls} {Φ : Nat → Fn} {k : Nat} {W : WX} {S : Stat} {X : Cx} {K : PySem.W.Frag}
/-! ### a, b = x, y -/
theorem any2 {a b : Expr} (na : noStar a = true) (nb : noStar b = true) (f : Expr → Bool) (h : ∀ e, noStar e = true → f e = false) : [a, b].any f = false := by
  simp only [List.any_cons, List.any_nil, h a na, h b nb, Bool.or_false]
theorem any3 {a b c : Expr} (na : noStar a = true) (nb : noStar b = true) (nc : noStar c = true) (f : Expr → Bool) (h : ∀ e, noStar e = true → f e = false) : [a, b, c].any f = false := by
  simp only [List.any_cons, List.any_nil, h a na, h b nb, h c nc, Bool.or_false]
theorem dups2 {x y : Str} (h : x ≠ y) : ([x, y].eraseDups).length = 2 := by
  have : (y == x) = false := by simpa using Ne.symm h
  simp [List.eraseDups_cons, this, h, Ne.symm h]
theorem dups3 {x y z : Str} (h : x ≠ y) (h2 : x ≠ z) (h3 : y ≠ z) : ([x, y, z].eraseDups).length = 3 := by
  simp [List.eraseDups_cons, h, h2, h3, Ne.symm h, Ne.symm h2, Ne.symm h3]
theorem stores_two {env : PySem.Env} {x y : Str} {px py pt pt2 : Pos} {kt k2 : Nat} {a b : Expr} (hb : env.blockKind = .function) (na : noStar a = true) (nb : noStar b = true) (hxy : x ≠ y)
    (f1 : [a, b].all (foldedForSure 8) = false) (f2 : [a, b].all (constantsAlone 8) = false) :
    swappedStores [.Tuple [.Name x px, .Name y py] kt pt] (.Tuple [a, b] k2 pt2) env = pure (if isLo (env.kindOf x) && (isLo (env.kindOf y) && (py.line == px.line)) then some [x, y] else none) := by
  unfold swappedStores
  dsimp only
  rw [any2 na nb _ (fun e he => by cases e <;> first | rfl | simp [noStar] at he)]
  simp only [hb, List.length_cons, List.length_nil, isLo_beq, f1, f2, List.filterMap_cons, List.filterMap_nil, List.head?_cons, Option.map_some, Option.getD_some, Expr.pos]
  cases h1 : isLo (env.kindOf x) <;> cases h2 : isLo (env.kindOf y) <;> cases h3 : (py.line == px.line) <;> simp only [Bool.and_true, Bool.and_false, Bool.true_and, Bool.false_and, beq_self_eq_true, List.length_cons, List.length_nil, dups2 hxy, ite_true, ite_false, reduceIte] <;> rfl
theorem stores_three {env : PySem.Env} {x y z : Str} {px py pz pt pt2 : Pos} {kt k2 : Nat} {a b c : Expr} (hb : env.blockKind = .function) (na : noStar a = true) (nb : noStar b = true) (nc : noStar c = true) (hxy : x ≠ y) (hxz : x ≠ z) (hyz : y ≠ z)
    (f1 : [a, b, c].all (foldedForSure 8) = false) (f2 : [a, b, c].all (constantsAlone 8) = false) :
    swappedStores [.Tuple [.Name x px, .Name y py, .Name z pz] kt pt] (.Tuple [a, b, c] k2 pt2) env = pure (if isLo (env.kindOf x) && ((isLo (env.kindOf y) && (py.line == px.line)) && (isLo (env.kindOf z) && (pz.line == px.line))) then some [x, y, z] else none) := by
  unfold swappedStores
  dsimp only
  rw [any3 na nb nc _ (fun e he => by cases e <;> first | rfl | simp [noStar] at he)]
  simp only [hb, List.length_cons, List.length_nil, isLo_beq, f1, f2, List.filterMap_cons, List.filterMap_nil, List.head?_cons, Option.map_some, Option.getD_some, Expr.pos]
  cases h1 : isLo (env.kindOf x) <;> cases h2 : isLo (env.kindOf y) <;> cases h3 : (py.line == px.line) <;> cases h4 : isLo (env.kindOf z) <;> cases h5 : (pz.line == px.line) <;> simp only [Bool.and_true, Bool.and_false, Bool.true_and, Bool.false_and, beq_self_eq_true, List.length_cons, List.length_nil, dups3 hxy hxz hyz, ite_true, ite_false, reduceIte] <;> rfl

theorem okA_star : ∀ {as : E} {es : List Expr}, okA T as S es = true → ∀ x ∈ es, noStar x = true
  | as, [], _ => fun x hx => by cases hx
  | as, e :: es, q => by
    cases as with
    | cons a as =>
      simp only [okA] at q
      obtain ⟨q, q3⟩ := and2 q
      obtain ⟨q1, q2⟩ := and2 q
      intro x hx
      rcases List.mem_cons.mp hx with rfl | hx
      · exact q1
      · exact okA_star q3 x hx
    | nil => simp [okA] at q
    | _ => simp [okA] at q
theorem not_same {i j : Nat} {x y : Str} {N : List Str} (hn : N.Nodup) (h1 : N[i]? = some x) (h2 : N[j]? = some y) (h : i ≠ j) : x ≠ y := fun z => by
  subst z
  exact h ((List.getElem?_inj (List.getElem?_eq_some_iff.mp h1).1 hn).mp (h1.trans h2.symm))
theorem setPar_two {i j : Nat} {o : List Bool} {cs : List Cell} {r r1 : Env} (ho : o.all (! ·) = true) (h : setPar (.two i j) o cs r = some r1) : ∃ a b, cs = [.val a, .val b] ∧ r1 = (r.set i (.val a)).set j (.val b) := by
  rcases o with _ | ⟨o1, _ | ⟨o2, _ | ⟨_, _⟩⟩⟩ <;> try (simp [setPar] at h; done)
  rcases cs with _ | ⟨c1, _ | ⟨c2, _ | ⟨_, _⟩⟩⟩ <;> try (simp [setPar] at h; done)
  simp only [List.all_cons, List.all_nil, Bool.and_true, Bool.and_eq_true, Bool.not_eq_true'] at ho
  obtain ⟨rfl, rfl⟩ := ho
  cases c1 <;> simp only [setPar, setO, Option.bind_none, Option.bind_some, reduceCtorEq] at h
  cases c2 <;> simp only [setPar, setO, Option.bind_none, Option.bind_some, reduceCtorEq] at h
  cases h
  exact ⟨_, _, rfl, rfl⟩
theorem setPar_three {i j l : Nat} {o : List Bool} {cs : List Cell} {r r1 : Env} (ho : o.all (! ·) = true) (h : setPar (.three i j l) o cs r = some r1) : ∃ a b c, cs = [.val a, .val b, .val c] ∧ r1 = ((r.set i (.val a)).set j (.val b)).set l (.val c) := by
  rcases o with _ | ⟨o1, _ | ⟨o2, _ | ⟨o3, _ | ⟨_, _⟩⟩⟩⟩ <;> try (simp [setPar] at h; done)
  rcases cs with _ | ⟨c1, _ | ⟨c2, _ | ⟨c3, _ | ⟨_, _⟩⟩⟩⟩ <;> try (simp [setPar] at h; done)
  simp only [List.all_cons, List.all_nil, Bool.and_true, Bool.and_eq_true, Bool.not_eq_true'] at ho
  obtain ⟨rfl, rfl, rfl⟩ := ho
  cases c1 <;> simp only [setPar, setO, Option.bind_none, Option.bind_some, reduceCtorEq] at h
  cases c2 <;> simp only [setPar, setO, Option.bind_none, Option.bind_some, reduceCtorEq] at h
  cases c3 <;> simp only [setPar, setO, Option.bind_none, Option.bind_some, reduceCtorEq] at h
  cases h
  exact ⟨_, _, _, rfl, rfl⟩
/-- by way of a tuple -/
theorem rd_par_tup {t : Tg} {as : E} {o : List Bool} (hs : ∀ cs (r r1 : Env), setPar t o cs r = some r1 → ∃ ds, vals? cs = some ds ∧ ds.length ≤ lim ∧ setT t (.tuple ds) r = some r1) {D : Ends} {σ : St} {H : Hp} (h : tO X.K cl W (evS Φ (.par t o as)) D σ H) :
    tA X.K cl W Φ as σ H (fun vs H1 => vs.length ≤ sizeLine ∧ ∀ p, H1 p = none → gT X.K t (.ref p) σ (upd H1 p (.tup vs)) D.nx) := by
  obtain ⟨F0, H0, da0, F, da, r, g, RS, p⟩ := h
  refine ⟨F, da, r, g, RS.rep, PostS.st RS p fun cs g1 vs F1 H1 n ao RS1 p1 => ?_⟩
  cases es : setPar t o cs r with
  | none => simp only [es] at p1; exact False.elim p1
  | some r1 =>
    simp only [es] at p1
    obtain ⟨ds, e1, e2, e3⟩ := hs cs r r1 es
    have ra := args_vals ao e1
    refine ⟨by rw [ra.length]; exact lim_line' e2, fun pp hp => ?_⟩
    have al := Al.one (o := .tup vs) RS1.rep.sub hp
    have RS2 := RS1.nx (Nx.of_al RS1.rep.gok al)
    exact rd_TS RS2 (.tup upd_same (ra.mono al.fr) e2) e3 fun σ1 RS3 => p1 σ1 _ _ da RS3
theorem snd_par (h : YOk T cl Φ k W S X) {t : Tg} {o : List Bool} {as : E} {ts es : List Expr} {j j2 : Nat} {p p2 pos : Pos}
    (q : (okTg S t (.Tuple ts j p) && okA T as S es && o.all (! ·) && !(es.all (foldedForSure 8)) && !(es.all (constantsAlone 8)) && (es.length == ts.length) && (o.length == ts.length)) = true) : PS X (.Assign [.Tuple ts j p] (.Tuple es j2 p2) pos) (tO X.K cl W (evS Φ (.par t o as))) := by
  obtain ⟨y6, q7⟩ := and2 q
  obtain ⟨y5, q6⟩ := and2 y6
  obtain ⟨y4, q5⟩ := and2 y5
  obtain ⟨y3, q4⟩ := and2 y4
  obtain ⟨y2, q3⟩ := and2 y3
  obtain ⟨q1, q2⟩ := and2 y2
  clear q y6 y5 y4 y3 y2
  have pa := (snd (T := T) (cl := cl) (Φ := Φ) as).s h.x es q2
  have pg := pg_T h.x q1
  have hk : X.env.scope.kind = .function := by rw [h.x.hsc]; exact h.fk
  have hb := blockFn hk
  have ky : ∀ x, X.env.kindOf x = X.env.scope.names.lookup x := fun x => rfl
  have f1 : es.all (foldedForSure 8) = false := by simpa using q4
  have f2 : es.all (constantsAlone 8) = false := by simpa using q5
  have st := okA_star q2
  have q1' := q1
  unfold okTg at q1'
  split at q1'
  · rename_i heq; cases heq
  · rename_i i1 i2 a1 pa1 a2 pa2 _ _ heq
    cases heq
    obtain ⟨z, z3⟩ := and2 q1'
    obtain ⟨z1, z2⟩ := and2 z
    obtain ⟨m1, m2, m3⟩ := h.x.loc z1
    obtain ⟨n1, n2, n3⟩ := h.x.loc z2
    have hij := of_decide_eq_true z3
    match es, q6, st, pa, f1, f2 with
    | [u, v], _, st, pa, f1, f2 =>
      have sw := stores_two (px := pa1) (py := pa2) (pt := p) (pt2 := p2) (kt := j) (k2 := j2) hb (st u (.head _)) (st v (.tail _ (.head _))) (not_same h.x.ndX m1 n1 hij) f1 f2
      split at sw
      · rename_i hc
        obtain ⟨c1, c2⟩ := and2 hc
        obtain ⟨c2, _⟩ := and2 c2
        refine impS (ps_par h.x.calm h.x.ndX m1 n1 hij (isLo_iff.mp c1) (isLo_iff.mp c2) pa sw) fun D σ H hq => ?_
        obtain ⟨F0, H0, da0, F, da, r, g, RS, p⟩ := hq
        refine ⟨F, da, r, g, RS.rep, PostS.st RS p fun cs g1 vs F1 H1 n ao RS1 p1 => ?_⟩
        cases es : setPar (.two i1 i2) o cs r with
        | none => simp only [es] at p1; exact False.elim p1
        | some r1 =>
          simp only [es] at p1
          obtain ⟨a, b, rfl, rfl⟩ := setPar_two q3 es
          cases args_vals ao rfl with
          | cons r1 h2 => cases h2 with
            | cons r2 h2 => cases h2; exact ⟨_, _, rfl, p1 _ F1 H1 da ((RS1.set r1).set r2)⟩
      · refine impS (ps_asg (pe_tup pa) pg sole_T sw rfl) fun D σ H hq => rd_par_tup (fun cs r r1 e => ?_) hq
        obtain ⟨a, b, rfl, rfl⟩ := setPar_two q3 e
        exact ⟨[a, b], rfl, by simp [lim], rfl⟩
  · rename_i i1 i2 i3 a1 pa1 a2 pa2 a3 pa3 _ _ heq
    cases heq
    obtain ⟨z, z6⟩ := and2 q1'
    obtain ⟨z, z5⟩ := and2 z
    obtain ⟨z, z4⟩ := and2 z
    obtain ⟨z, z3⟩ := and2 z
    obtain ⟨z1, z2⟩ := and2 z
    obtain ⟨m1, m2, m3⟩ := h.x.loc z1
    obtain ⟨n1, n2, n3⟩ := h.x.loc z2
    obtain ⟨l1, l2, l3⟩ := h.x.loc z3
    have h12 := of_decide_eq_true z4
    have h13 := of_decide_eq_true z5
    have h23 := of_decide_eq_true z6
    match es, q6, st, pa, f1, f2 with
    | [u, v, w], _, st, pa, f1, f2 =>
      have sw := stores_three (px := pa1) (py := pa2) (pz := pa3) (pt := p) (pt2 := p2) (kt := j) (k2 := j2) hb (st u (.head _)) (st v (.tail _ (.head _))) (st w (.tail _ (.tail _ (.head _)))) (not_same h.x.ndX m1 n1 h12) (not_same h.x.ndX m1 l1 h13) (not_same h.x.ndX n1 l1 h23) f1 f2
      split at sw
      · rename_i hc
        obtain ⟨c1, c2⟩ := and2 hc
        obtain ⟨c2, c3⟩ := and2 c2
        obtain ⟨c2, _⟩ := and2 c2
        obtain ⟨c3, _⟩ := and2 c3
        refine impS (ps_par3 h.x.calm h.x.ndX m1 n1 l1 h12 h13 h23 (isLo_iff.mp c1) (isLo_iff.mp c2) (isLo_iff.mp c3) pa sw) fun D σ H hq => ?_
        obtain ⟨F0, H0, da0, F, da, r, g, RS, p⟩ := hq
        refine ⟨F, da, r, g, RS.rep, PostS.st RS p fun cs g1 vs F1 H1 n ao RS1 p1 => ?_⟩
        cases es : setPar (.three i1 i2 i3) o cs r with
        | none => simp only [es] at p1; exact False.elim p1
        | some r1 =>
          simp only [es] at p1
          obtain ⟨a, b, c, rfl, rfl⟩ := setPar_three q3 es
          cases args_vals ao rfl with
          | cons r1 h2 => cases h2 with
            | cons r2 h2 => cases h2 with
              | cons r3 h2 => cases h2; exact ⟨_, _, _, rfl, p1 _ F1 H1 da (((RS1.set r1).set r2).set r3)⟩
      · refine impS (ps_asg (pe_tup pa) pg sole_T sw rfl) fun D σ H hq => rd_par_tup (fun cs r r1 e => ?_) hq
        obtain ⟨a, b, c, rfl, rfl⟩ := setPar_three q3 e
        exact ⟨[a, b, c], rfl, by simp [lim], rfl⟩
  · cases q1'
theorem snd_mk3 (h : YOk T cl Φ k W S X) {i j l : Nat} {a b c : Str} {pa pb pc pt pt2 p1 p2 p3 pos : Pos} {kt k2 : Nat}
    (q : (okL S i a && okL S j b && okL S l c && decide (i ≠ j) && decide (i ≠ l) && decide (j ≠ l) && (isLo (S.sc.names.lookup a) && ((isLo (S.sc.names.lookup b) && (pb.line == pa.line)) && (isLo (S.sc.names.lookup c) && (pc.line == pa.line))))) = true) :
    PS X (.Assign [.Tuple [.Name a pa, .Name b pb, .Name c pc] kt pt] (.Tuple [.List [] p1, .List [] p2, .List [] p3] k2 pt2) pos) (tO X.K cl W (evS Φ (.mk3 i j l))) := by
  obtain ⟨q, q7⟩ := and2 q
  obtain ⟨q, q6⟩ := and2 q
  obtain ⟨q, q5⟩ := and2 q
  obtain ⟨q, q4⟩ := and2 q
  obtain ⟨q, q3⟩ := and2 q
  obtain ⟨q1, q2⟩ := and2 q
  obtain ⟨m1, m2, m3⟩ := h.x.loc q1
  obtain ⟨n1, n2, n3⟩ := h.x.loc q2
  obtain ⟨l1, l2, l3⟩ := h.x.loc q3
  have h12 := of_decide_eq_true q4
  have h13 := of_decide_eq_true q5
  have h23 := of_decide_eq_true q6
  have hk : X.env.scope.kind = .function := by rw [h.x.hsc]; exact h.fk
  have hb := blockFn hk
  have sw := stores_three (px := pa) (py := pb) (pz := pc) (pt := pt) (pt2 := pt2) (kt := kt) (k2 := k2) (a := .List [] p1) (b := .List [] p2) (c := .List [] p3) hb rfl rfl rfl (not_same h.x.ndX m1 n1 h12) (not_same h.x.ndX m1 l1 h13) (not_same h.x.ndX n1 l1 h23) rfl rfl
  have hc : (isLo (X.env.kindOf a) && ((isLo (X.env.kindOf b) && (pb.line == pa.line)) && (isLo (X.env.kindOf c) && (pc.line == pa.line)))) = true := by
    show (isLo (X.env.scope.names.lookup a) && ((isLo (X.env.scope.names.lookup b) && (pb.line == pa.line)) && (isLo (X.env.scope.names.lookup c) && (pc.line == pa.line)))) = true
    rw [h.x.hsc]
    exact q7
  rw [if_pos hc] at sw
  obtain ⟨c1, c2⟩ := and2 hc
  obtain ⟨c2, c3⟩ := and2 c2
  obtain ⟨c2, _⟩ := and2 c2
  obtain ⟨c3, _⟩ := and2 c3
  refine impS (ps_par3 h.x.calm h.x.ndX m1 n1 l1 h12 h13 h23 (isLo_iff.mp c1) (isLo_iff.mp c2) (isLo_iff.mp c3) (pa_cons (pe_lst pa_nil) (pa_cons (pe_lst pa_nil) (pa_cons (pe_lst pa_nil) pa_nil))) sw) fun D σ H hq => ?_
  obtain ⟨F0, H0, da0, F, da, r, g, RS, p⟩ := hq
  refine ⟨Nat.zero_le _, fun y1 e1 => ⟨Nat.zero_le _, fun y2 e2 => ⟨Nat.zero_le _, fun y3 e3 => ⟨_, _, _, rfl, ?_⟩⟩⟩⟩
  exact p _ F _ da (((RS.mk' e1 .nil (Nat.zero_le _)).mk' e2 .nil (Nat.zero_le _)).mk' e3 .nil (Nat.zero_le _))
end
end Tl
end
section
set_option Elab.async false
set_option linter.all false
set_option autoImplicit false
set_option maxRecDepth 100000
namespace Tl
open PySem PySem.Spec PyProof.Rows L2
section
variable {T : Tab} {cl : Cls} {Φ : Nat → Fn} {k : Nat} {W : WX} {S : Stat} {X : Cx} {K : PySem.W.Frag}
/-! ### l.remove(x) -/
theorem erase_mapS : ∀ (l : List Str) (j : Nat), (l.map V.str).eraseIdx j = (l.eraseIdx j).map V.str
  | [], j => by simp
  | a :: r, 0 => by simp
  | a :: r, j + 1 => by
    have ih := erase_mapS r j
    simp [ih]
def rRemS : V → List V → Hp → VK → Prop := fun x xs H Q => ∃ (l : Addr) (ns : List Str) (k : Str) (j : Nat), x = .ref l ∧ xs = [.str k] ∧ H l = some (.lst (ns.map V.str)) ∧ ns[j]? = some k ∧ (∀ m : Nat, m < j → ns[m]? ≠ some k) ∧ Q .non (upd H l (.lst ((ns.eraseIdx j).map V.str)))
theorem mt_removeS : MtM X "list.remove" rRemS := by
  intro pins s σ H x xs v us Q I rx rxs h
  obtain ⟨l, ns, k, j, rfl, rfl, hH, hj, hno, q⟩ := h
  cases rx
  obtain ⟨u, rfl, ru⟩ := rxs.one
  obtain ⟨t, rfl⟩ := ru
  obtain ⟨z, its, n, r, hl, e⟩ := I.lstM hH
  have hi := r.strs
  rw [List.length_map] at hl z
  have at_ : ∀ (m : Nat) (y : Str), ns[m]? = some y → ∃ tm, its[m]? = some (.str y tm) := fun m y hm => by
    obtain ⟨u, hu, ru⟩ := r.get (i := m) (x := .str y) (by rw [List.getElem?_map, hm]; rfl)
    obtain ⟨tm, rfl⟩ := ru
    exact ⟨tm, hu⟩
  have hjn : j < ns.length := (List.getElem?_eq_some_iff.mp hj).1
  have hjl : j < its.toArray.size := by rw [List.size_toArray]; omega
  refine call_meets PySem.F.slot_list_remove ⟨_, e, rfl⟩ PySem.F.entry_list_remove (PySem.F.args_list_remove_2 _ _)
    (MeetsSeq.list_remove l its.toArray n (.str k t) (isStrOf k) (fun y hy => eq_isStrOf k t hi y (by simpa using hy)) j hjl ?_ ?_ (by rw [List.size_toArray]; omega)) ⟨e, ?_⟩
  · obtain ⟨tj, hjt⟩ := at_ j k hj
    obtain ⟨h1, h2⟩ := List.getElem?_eq_some_iff.mp hjt
    have e1 : its.toArray[j] = .str k tj := by simpa using h2
    rw [e1]
    exact beq_self_eq_true k
  · intro m hm hmj
    have hmn : m < ns.length := by omega
    obtain ⟨tm, hmt⟩ := at_ m _ (List.getElem?_eq_getElem hmn)
    obtain ⟨h1, h2⟩ := List.getElem?_eq_some_iff.mp hmt
    have e1 : its.toArray[m] = .str ns[m] tm := by simpa using h2
    rw [e1]
    refine beq_eq_false_iff_ne.mpr fun e2 => hno m hmj ?_
    rw [List.getElem?_eq_getElem hmn, e2]
  · have rr := r.eraseIdx j
    rw [erase_mapS] at rr
    refine ⟨.non, _, I.lset (its' := its.eraseIdx j) (t' := s.toks) hH e ?_ rr ?_, rfl, q⟩
    · show its.toArray.eraseIdxIfInBounds j = (its.eraseIdx j).toArray
      rw [List.eraseIdxIfInBounds_toArray]
    · have z2 : (ns.eraseIdx j).length ≤ ns.length := by rw [List.length_eraseIdx]; split <;> omega
      rw [List.length_map]
      omega
def rRem : V → List V → Hp → VK → Prop := fun x xs H Q => rRemI x xs H Q ∨ rRemS x xs H Q
theorem mt_rem : MtM X "list.remove" rRem := fun pins s σ H x xs v us Q I rx rxs h => by
  rcases h with h | h
  · exact mt_remove pins s σ H x xs v us Q I rx rxs h
  · exact mt_removeS pins s σ H x xs v us Q I rx rxs h
theorem ra_ints {F : Hp} : ∀ {ds : List D} {ns : List Int} {xs : List V}, toInts ds = some ns → RpAll F xs ds → xs = ns.map V.int
  | [], ns, xs, h, ra => by cases h; cases ra; rfl
  | d :: ds, ns, xs, h, ra => by
    cases ra with
    | cons r t =>
      cases d with
      | int i =>
        simp only [toInts] at h
        cases q : toInts ds with
        | none => rw [q] at h; cases h
        | some ms =>
          rw [q] at h
          cases h
          cases r
          rw [ra_ints q t]
          rfl
      | _ => simp [toInts] at h
theorem ra_strs {F : Hp} : ∀ {ds : List D} {ns : List Str} {xs : List V}, toStrs ds = some ns → RpAll F xs ds → xs = ns.map V.str
  | [], ns, xs, h, ra => by cases h; cases ra; rfl
  | d :: ds, ns, xs, h, ra => by
    cases ra with
    | cons r t =>
      cases d with
      | str i =>
        simp only [toStrs] at h
        cases q : toStrs ds with
        | none => rw [q] at h; cases h
        | some ms =>
          rw [q] at h
          cases h
          cases r
          rw [ra_strs q t]
          rfl
      | _ => simp [toStrs] at h
theorem ra_erase {F : Hp} : ∀ {ds : List D} {xs : List V} (j : Nat), RpAll F xs ds → RpAll F (xs.eraseIdx j) (ds.eraseIdx j)
  | _, _, _, .nil => by simp; exact .nil
  | _, _, 0, .cons r t => t
  | _, _, j + 1, .cons r t => .cons r (ra_erase j t)
theorem snd_rem (h : YOk T cl Φ k W S X) {i : Nat} {e : E} {a m : Str} {p ap cp pos : Pos} {y : Expr} (q : (decide (m = ("remove" : Str)) && okV S i a && noStar y && (ap.endLine == cp.line) && okE T e S y) = true) :
    PS X (.Expr (.Call (.Attribute (.Name a p) m ap) [y] [] cp) pos) (tO X.K cl W (evS Φ (.rem i e))) := by
  obtain ⟨q, q5⟩ := and2 q
  obtain ⟨q, q4⟩ := and2 q
  obtain ⟨q, q3⟩ := and2 q
  obtain ⟨q1, q2⟩ := and2 q
  have em := of_decide_eq_true q1
  subst em
  refine impS (ps_expr (pe_bm PySem.F.plainAttrs_list PySem.F.slot_list_remove PySem.F.type_list_remove mt_rem (h.x.var q2) (pa_cons ((snd e).e h.x y q5) pa_nil (star_ok q3)) rfl (by rw [star_ok q3]; rfl) q4 (star_ok q3) rfl) rfl) fun D σ H hq => ?_
  obtain ⟨F0, H0, da0, F, da, r, g, RS, p⟩ := hq
  simp only [evS] at p
  cases ei : r[i]? with
  | none => rw [ei] at p; exact False.elim p
  | some c =>
    rw [ei] at p
    cases c with
    | own ds =>
      obtain ⟨ad, e1, xs, e2, e3, e4, e5, e6⟩ := RS.rep.slot i _ ei
      refine ⟨.ref ad, e1, .inl ⟨rfl, xs, .inl (.inl e2)⟩, F, da, r, g, RS.rep, PostS.st RS p fun d g1 v F1 H1 n rl RS1 p1 => ?_⟩
      have k1 := n.keep _ _ e2 e4
      have ll : ∀ j, (ds.eraseIdx j).length ≤ lim := fun j => by
        have : (ds.eraseIdx j).length ≤ ds.length := by rw [List.length_eraseIdx]; split <;> omega
        omega
      cases d with
      | int kk =>
        cases rl
        cases eq : remD ds (.int kk) with
        | none => simp only [eq] at p1; exact False.elim p1
        | some es =>
          simp only [eq] at p1
          simp only [remD] at eq
          cases en : toInts ds with
          | none => rw [en] at eq; cases eq
          | some ns =>
            rw [en] at eq
            simp only [Option.bind_some] at eq
            cases ej : ns.findIdx? (· == kk) with
            | none => rw [ej] at eq; cases eq
            | some j =>
              rw [ej] at eq
              cases eq
              have ex := ra_ints en e5
              subst ex
              obtain ⟨⟨z, hz, hz2⟩, hno⟩ := findIdx_spec ej
              have hz3 : z = kk := by simpa using hz2
              subst hz3
              refine .inl ⟨ad, ns, z, j, rfl, rfl, k1, hz, fun m hm hz4 => by simpa using hno m _ hm hz4, ?_⟩
              rw [← erase_mapI]
              exact p1 σ F1 _ da (RS1.put ei e1 (ra_erase j (e5.mono n.fr)) (ll j))
      | str kk =>
        cases rl
        cases eq : remD ds (.str kk) with
        | none => simp only [eq] at p1; exact False.elim p1
        | some es =>
          simp only [eq] at p1
          simp only [remD] at eq
          cases en : toStrs ds with
          | none => rw [en] at eq; cases eq
          | some ns =>
            rw [en] at eq
            simp only [Option.bind_some] at eq
            cases ej : ns.findIdx? (· == kk) with
            | none => rw [ej] at eq; cases eq
            | some j =>
              rw [ej] at eq
              cases eq
              have ex := ra_strs en e5
              subst ex
              obtain ⟨⟨z, hz, hz2⟩, hno⟩ := findIdx_spec ej
              have hz3 : z = kk := by simpa using hz2
              subst hz3
              refine .inr ⟨ad, ns, z, j, rfl, rfl, k1, hz, fun m hm hz4 => by simpa using hno m _ hm hz4, ?_⟩
              rw [← erase_mapS]
              exact p1 σ F1 _ da (RS1.put ei e1 (ra_erase j (e5.mono n.fr)) (ll j))
      | _ => exact False.elim p1
    | _ => exact False.elim p
end
end Tl
end
section
set_option Elab.async false
set_option linter.all false
set_option autoImplicit false
set_option maxRecDepth 100000
namespace Tl
open PySem PySem.Spec PyProof.Rows L2
section
variable {T : Tab} {cl : Cls} {Φ : Nat → Fn} {k : Nat} {W : WX} {S : Stat} {X : Cx}
theorem sub_asg {o ix : Expr} {sp : Pos} {env : PySem.Env} (q : noSlice ix = true) : ∀ u, assign (.Subscript o ix sp) env u = (do
      let ov ← holding [u] (eval o env)
      let iv ← holding [u, ov] (eval ix env)
      standAt sp
      holding [u, ov, iv] (setItem ov iv u)
      release [u, ov, iv] []) := by
  intro u
  cases ix <;> first | rfl | simp [noSlice] at q
theorem stores_sub {env : PySem.Env} {o1 o2 i1 i2 : Expr} {s1 s2 pt pt2 : Pos} {kt k2 : Nat} {a b : Expr} : swappedStores [.Tuple [.Subscript o1 i1 s1, .Subscript o2 i2 s2] kt pt] (.Tuple [a, b] k2 pt2) env = pure none := by
  unfold swappedStores
  dsimp only
  split
  · rfl
  · split
    · rfl
    · rfl
theorem snd_seti2 (h : YOk T cl Φ k W S X) {i : Nat} {k1 k2 a b : E} {x1 x2 : Str} {p1 p2 s1 s2 pt pt2 pos : Pos} {kt kt2 : Nat} {i1 i2 v1 v2 : Expr}
    (q : (okV S i x1 && okV S i x2 && noSlice i1 && noSlice i2 && okE T k1 S i1 && okE T k2 S i2 && noStar v1 && noStar v2 && okE T a S v1 && okE T b S v2) = true) :
    PS X (.Assign [.Tuple [.Subscript (.Name x1 p1) i1 s1, .Subscript (.Name x2 p2) i2 s2] kt pt] (.Tuple [v1, v2] kt2 pt2) pos) (tO X.K cl W (evS Φ (.seti2 i k1 k2 a b))) := by
  obtain ⟨q, y10⟩ := and2 q
  obtain ⟨q, y9⟩ := and2 q
  obtain ⟨q, y8⟩ := and2 q
  obtain ⟨q, y7⟩ := and2 q
  obtain ⟨q, y6⟩ := and2 q
  obtain ⟨q, y5⟩ := and2 q
  obtain ⟨q, y4⟩ := and2 q
  obtain ⟨q, y3⟩ := and2 q
  obtain ⟨y1, y2⟩ := and2 q
  have sn := fun e => snd (T := T) (cl := cl) (Φ := Φ) e
  refine impS (ps_asg (pe_tup (pa_cons ((sn a).e h.x v1 y9) (pa_cons ((sn b).e h.x v2 y10) pa_nil (star_ok y8)) (star_ok y7))) (pg_tup h.x.calm (pgs_cons (pg_sub (h.x.var y1) ((sn k1).e h.x i1 y5) set_list (sub_asg y3)) (pgs_cons (pg_sub (h.x.var y2) ((sn k2).e h.x i2 y6) set_list (sub_asg y4)) pgs_nil))) sole_T stores_sub rfl) fun D σ H hq => ?_
  obtain ⟨F0, H0, da0, F, da, r, g, RS, p⟩ := hq
  simp only [evS] at p
  cases ei : r[i]? with
  | none => rw [ei] at p; exact False.elim p
  | some c =>
    rw [ei] at p
    cases c with
    | own ds =>
      obtain ⟨ad, e1, xs, e2, e3, e4, e5, e6⟩ := RS.rep.slot i _ ei
      refine ⟨F, da, r, g, RS.rep, PostS.st RS p fun d g1 v F1 H1 n rl RS1 p1 => ?_⟩
      refine ⟨F1, da, r, g1, RS1.rep, PostS.st RS1 p1 fun d2 g2 w F2 H2 n2 rl2 RS2 p2 => ?_⟩
      refine ⟨by simp [sizeLine_eq], fun pp hp => ?_⟩
      have al := Al.one (o := .tup [v, w]) RS2.rep.sub hp
      have RS3 := RS2.nx (Nx.of_al RS2.rep.gok al)
      have n3 := Nx.of_al RS2.rep.gok al
      refine ⟨pp, [v, w], rfl, .inl (.inl upd_same), rfl, v, [w], rfl, ?_⟩
      refine ⟨.ref ad, e1, _, da, r, g2, RS3.rep, PostS.st RS3 p2 fun kd g4 kv F4 H4 n4 rl4 RS4 p4 => ?_⟩
      cases kd with
      | int kk =>
        cases rl4
        cases eb : ixN ds.length kk with
        | none => simp only [eb] at p4; exact False.elim p4
        | some j =>
          simp only [eb] at p4
          have kp := n4.keep _ _ (n3.keep _ _ (n2.keep _ _ (n.keep _ _ e2 e4) e4) e4) e4
          refine ⟨ad, xs, kk, j, rfl, rfl, kp, by rw [e5.length]; exact eb, ?_⟩
          have RS5 := RS4.put ei e1 (((((e5.mono n.fr).mono n2.fr).mono n3.fr).mono n4.fr).set (((rl.mono n2.fr).mono n3.fr).mono n4.fr) j) (by rw [List.length_set]; exact e6)
          have hl : i < r.length := (List.getElem?_eq_some_iff.mp ei).1
          have ei2 : (r.set i (.own (ds.set j d)))[i]? = some (.own (ds.set j d)) := List.getElem?_set_self hl
          refine ⟨w, [], rfl, .ref ad, e1, _, da, _, g4, RS5.rep, PostS.st RS5 p4 fun kd g6 kv F6 H6 n6 rl6 RS6 p6 => ?_⟩
          cases kd with
          | int kk2 =>
            cases rl6
            cases eb2 : ixN ds.length kk2 with
            | none => simp only [eb2] at p6; exact False.elim p6
            | some j2 =>
              simp only [eb2] at p6
              obtain ⟨ad', z1, ys, z2, z3, z4, z5, z6⟩ := RS6.rep.slot i _ ei2
              have ez := e1.symm.trans z1
              cases ez
              refine ⟨ad, ys, kk2, j2, rfl, rfl, z2, by rw [z5.length, List.length_set]; exact eb2, rfl, ?_⟩
              have RS7 := RS6.put ei2 e1 (z5.set ((((rl2.mono n3.fr).mono n4.fr)).mono n6.fr) j2) (by rw [List.length_set]; exact z6)
              rw [List.set_set] at RS7
              exact p6 σ F6 _ da RS7
          | _ => exact False.elim p6
      | _ => exact False.elim p4
    | _ => exact False.elim p
theorem gt_list : PGet X (rIxL X.K) := by
  intro pins s σ H o ix ov iv Q I r1 r2 h
  obtain ⟨p, xs, i, z, rfl, rfl, hq, he, q⟩ := h
  cases r1
  obtain ⟨t, rfl⟩ := r2
  obtain ⟨its, r, pl, hz⟩ := I.list hq
  obtain ⟨j, h1, h2, h3, h4, h5⟩ := atI_get he
  obtain ⟨w, ew, rw'⟩ := r.get h2
  have hl := r.length
  have hn := line63
  have fin : EP X pins σ Q w s := ⟨z, H, I, rw', q⟩
  by_cases h0 : 0 ≤ i
  · have hj : i.toNat = j := by
      rw [seqIndex_of h0 h5] at h1
      exact Option.some.inj h1
    exact wpAny_getItem_list pl.isList h0 (by omega) (by rw [hj]; simpa using ew) fin
  · have hj : (i + (its.toArray.size : Int)).toNat = j := by
      rw [seqIndex_neg (by omega) h4] at h1
      rw [List.size_toArray, ← hl]
      exact Option.some.inj h1
    exact wpAny_getItem_list_neg pl.isList (by omega) (by rw [List.size_toArray] <;> omega) (by omega) (by rw [hj]; simpa using ew) fin
theorem aug_plain {ix : Expr} (q : noSlice ix = true) : ∀ ov iv new, augStore ix ov iv new = (do holding [new, ov, iv] (setItem ov iv new); release [new, ov, iv] []; pure .next) := by
  intro ov iv new
  cases ix <;> first | rfl | simp [noSlice] at q
theorem snd_augi (h : YOk T cl Φ k W S X) {i : Nat} {kx e : E} {a : Str} {p sp pos : Pos} {ix v : Expr} (q : (okV S i a && noSlice ix && okE T kx S ix && okE T e S v) = true) :
    PS X (.AugAssign (.Subscript (.Name a p) ix sp) .Add v pos) (tO X.K cl W (evS Φ (.augi i kx .add e))) := by
  obtain ⟨q, q4⟩ := and2 q
  obtain ⟨q, q3⟩ := and2 q
  obtain ⟨q1, q2⟩ := and2 q
  refine impS (ps_augS (h.x.var q1) ((snd kx).e h.x ix q3) gt_list ((snd e).e h.x v q4) (pip_of iop_add) set_list (aug_plain q2)) fun D σ H hq => ?_
  obtain ⟨F0, H0, da0, F, da, r, g, RS, p⟩ := hq
  simp only [evS] at p
  cases ei : r[i]? with
  | none => rw [ei] at p; exact False.elim p
  | some c =>
    rw [ei] at p
    cases c with
    | own ds =>
      obtain ⟨ad, e1, xs, e2, e3, e4, e5, e6⟩ := RS.rep.slot i _ ei
      refine ⟨.ref ad, e1, F, da, r, g, RS.rep, PostS.st RS p fun kd g1 kv F1 H1 n rl RS1 p1 => ?_⟩
      cases kd with
      | int kk =>
        cases rl
        cases eb : ixN ds.length kk with
        | none => simp only [eb, Option.bind_none] at p1; exact False.elim p1
        | some j =>
          simp only [eb, Option.bind_some] at p1
          cases ex : ds[j]? with
          | none => rw [ex] at p1; exact False.elim p1
          | some dx =>
            rw [ex] at p1
            cases dx with
            | int x =>
              simp only at p1
              obtain ⟨vx, h1, h2⟩ := e5.get ex
              cases h2
              have k1 := n.keep _ _ e2 e4
              refine ⟨ad, xs, kk, .int x, rfl, rfl, .inl (.inl k1), ?_, F1, da, r, g1, RS1.rep, PostS.st RS1 p1 fun yd g2 yv F2 H2 n2 rl2 RS2 p2 => ?_⟩
              · have eb2 : L2.ixN xs.length kk = some j := by rw [e5.length]; exact eb
                unfold L2.atI
                rw [eb2]
                exact h1
              cases yd with
              | int y =>
                cases rl2
                simp only [bop] at p2
                have k2 := n2.keep _ _ k1 e4
                refine ⟨x, y, rfl, rfl, ad, xs, kk, j, rfl, rfl, k2, by rw [e5.length]; exact eb, ?_⟩
                exact p2 σ F2 _ da (RS2.put ei e1 (((e5.mono n.fr).mono n2.fr).set (.int _) j) (by rw [List.length_set]; exact e6))
              | _ => exact False.elim p2
            | _ => exact False.elim p1
      | _ => exact False.elim p1
    | _ => exact False.elim p
end
end Tl
end
section
set_option Elab.async false
set_option linter.all false
set_option autoImplicit false
set_option maxRecDepth 100000
namespace Tl
open PySem PySem.Spec PyProof.Rows L2
/-! ### an exception is caught and kept -/
section
variable {K : PySem.W.Frag} {cl : Cls} {F0 H0 : Hp} {da0 : DA} {F H : Hp} {da : DA} {σ : St} {r : Env} {g : G}
theorem RepS.setX {j c : Nat} {a : Addr} (h : RepS K cl F0 H0 da0 F H da σ r g) (q : F a = some (ExH (.ref (cl c)) none a)) : RepS K cl F0 H0 da0 F H da (σ.set j (some (.ref a))) (r.set j (.exn c)) g := by
  refine ⟨⟨h.rep.sub, h.rep.gok, fun i x e => ?_, by rw [List.length_set, List.length_set]; exact h.rep.len, fun i k b ds es e1 e2 e3 e4 => ?_, h.rep.nod⟩, h.fr0, h.keep0, h.new0, h.tho0, fun i ds b e1 e2 => ?_, h.dah⟩
  · rcases set_lt e with ⟨rfl, rfl, hl⟩ | ⟨hj, e⟩
    · rw [List.getElem?_set_self (by rw [← h.rep.len]; exact hl)]
      exact ⟨a, rfl, q⟩
    · rw [List.getElem?_set_ne hj]
      exact h.rep.slot i x e
  · rcases set_lt e1 with ⟨_, z, _⟩ | ⟨hi, e1'⟩
    · cases z
    · rcases set_lt e2 with ⟨_, z, _⟩ | ⟨hk, e2'⟩
      · cases z
      · rw [List.getElem?_set_ne hi] at e3
        rw [List.getElem?_set_ne hk] at e4
        exact h.rep.apart i k b ds es e1' e2' e3 e4
  · rcases set_lt e1 with ⟨_, z, _⟩ | ⟨hi, e1'⟩
    · cases z
    · rw [List.getElem?_set_ne hi] at e2
      exact h.own0 i ds b e1' e2
/-- the state behind the clause -/
theorem RepS.caught {i j c : Nat} {a : Addr} (h : RepS K cl F0 H0 da0 F H da σ r g) (hij : i ≠ j) (ha : H a = none) :
    ∃ F', RepS K cl F0 H0 da0 F' (upd H a (ExH (.ref (cl c)) none a)) da (((σ.set i (some (.ref a))).set j (some (.ref a))).set i none) ((r.set i .und).set j (.exn c)) g := by
  have al := Al.one (o := ExH (.ref (cl c)) none a) h.rep.sub ha
  have h1 := h.nx (Nx.of_al h.rep.gok al)
  have h2 := (h1.wipe i (some (.ref a))).setX (j := j) (c := c) (a := a) upd_same
  have h3 := h2.wipe i none
  have e : ((r.set i .und).set j (.exn c)).set i .und = (r.set i .und).set j (.exn c) := by
    rw [List.set_comm _ _ (Ne.symm hij), List.set_set]
  rw [e] at h3
  exact ⟨_, h3⟩
end
section
variable {T : Tab} {cl : Cls} {Φ : Nat → Fn} {k : Nat} {W : WX} {S : Stat} {X : Cx}
theorem snd_try (h : YOk T cl Φ k W S X) {b : Sm} {i j : Nat} {x : Stmt} (hb : ∀ {W' : WX} {X' : Cx}, YOk T cl Φ k W' S X' → ∀ xs, okSs T b S xs = true → PSs X' xs (tO X'.K cl W' (evS Φ b))) (q : okS1 T (.try_ b i j) S x = true) : PS X x (tO X.K cl W (evS Φ (.try_ b i j))) := by
  simp only [okS1_asg, okS1_mk, okS1_par, okS1_mk3, okS1_unp, okS1_aug, okS1_drop, okS1_app, okS1_rem, okS1_seti, okS1_seti2, okS1_augi, okS1_ite, okS1_for, okS1_whl, okS1_ret, okS1_brk, okS1_cont, okS1_raise, okS1_try] at q
  split at q
  · rename_i body u pu n y py n' pn' ps pos' pos
    obtain ⟨q, q12⟩ := and2 q
    obtain ⟨q, q11⟩ := and2 q
    obtain ⟨q, q10⟩ := and2 q
    obtain ⟨q, q9⟩ := and2 q
    obtain ⟨q, q8⟩ := and2 q
    obtain ⟨q, q7⟩ := and2 q
    obtain ⟨q, q6⟩ := and2 q
    obtain ⟨q, q5⟩ := and2 q
    obtain ⟨q, q4⟩ := and2 q
    obtain ⟨q, q3⟩ := and2 q
    obtain ⟨q1, q2⟩ := and2 q
    have h6 := of_decide_eq_true q1
    have e := of_decide_eq_true q2
    subst e
    have e := of_decide_eq_true q4
    subst e
    have hij := of_decide_eq_true q9
    obtain ⟨L, mL, mV, mC, fx⟩ := h.x.exf h6
    obtain ⟨gl, dbg⟩ := h.x.gl q3
    have hk : ∀ {z : Str}, isLo (S.sc.names.lookup z) = true → X.env.kindOf z = some .local := fun {z} hz => by
      show X.env.scope.names.lookup z = _
      rw [h.x.hsc]
      exact isLo_iff.mp hz
    refine impS (ps_try_keep (x := ("ListError" : Str)) (c := .ref L) (i := i) (j := j) (tb := fun W' => tO X.K cl W' (evS Φ b)) (Wout := W) h.st h.fr h.x.ndX (by rw [h.x.hN]; exact of_decide_eq_true q5) (hk q6) (by rw [h.x.hN]; exact of_decide_eq_true q7) (hk q8) (by simpa using q10) (by simpa using q11) ⟨gl, dbg, .inl mL⟩ h.tk h.ex0
      fun W' pn xe tk hp => hb (h.tr tk hp) _ q12) fun D σ H hq => ?_
    obtain ⟨F0, H0, da0, F, da, r, g, RS, p⟩ := hq
    refine ⟨F0, H0, da0, F, da, r, g, RS, ?_⟩
    simp only [evS] at p
    cases e : evS Φ b r g with
    | ex c r1 g1 =>
      rw [e] at p
      have p : PostS X.K cl W F0 H0 da0 D (if c < 6 then .nx ((r1.set i .und).set j (.exn c)) g1 else .bad) := p
      intro σ' F' H' da' q
      by_cases hc : c < 6
      · rw [if_pos hc] at p
        refine ⟨true, (fx c hc).2.2.2.1, fun _ a ha => ?_, fun z => nomatch z⟩
        obtain ⟨F2, R2⟩ := q.caught (i := i) (j := j) (c := c) hij ha
        exact p _ _ _ _ R2
      · rw [if_neg hc] at p
        exact p.elim
    | nx r1 g1 => rw [e] at p; exact p
    | rt d g1 => rw [e] at p; exact p
    | bk r1 g1 => rw [e] at p; exact p
    | ct r1 g1 => rw [e] at p; exact p
    | bad => rw [e] at p; exact p
  · cases q
end
end Tl
end
section
set_option Elab.async false
set_option linter.all false
set_option autoImplicit false
set_option maxRecDepth 100000
namespace Tl
open PySem PySem.Spec PyProof.Rows L2
section
variable {T : Tab} {cl : Cls} {Φ : Nat → Fn} {k : Nat} {W : WX} {S : Stat} {X : Cx} {K : PySem.W.Frag}
/-! ### branches and loops -/
theorem rd_ifs {c : E} {a b : Sm} {D : Ends} {σ : St} {H : Hp} (h : tO K cl W (evS Φ (.ite c a b)) D σ H) : tIfS (tT K cl W Φ c) (tO K cl W (evS Φ a)) (tO K cl W (evS Φ b)) D σ H := by
  obtain ⟨F0, H0, da0, F, da, r, g, RS, p⟩ := h
  refine ⟨F, da, r, g, RS.rep, PostS.st RS p fun kk g1 v F1 H1 n rl RS1 p1 => ?_⟩
  cases rl
  cases kk with
  | true =>
    rw [if_pos rfl]
    exact ⟨F0, H0, da0, F1, da, r, g1, RS1, p1⟩
  | false =>
    rw [if_neg Bool.false_ne_true]
    exact ⟨F0, H0, da0, F1, da, r, g1, RS1, p1⟩
theorem rd_for {t : Tg} {it : E} {b : Sm} {D : Ends} {σ : St} {H : Hp} (h : tO K cl W (evS Φ (.for_ t it b)) D σ H) : tFor (tI K cl W Φ it) (gT K t) (tO K cl W (evS Φ b)) D σ H := by
  obtain ⟨F0, H0, da0, F, da, r, g, RS, p⟩ := h
  refine ⟨F, da, r, g, RS.rep, PostS.st RS p fun d g1 J F1 H1 n rl RS1 p1 => ?_⟩
  obtain ⟨xs, Gp, Y, rfl, hl, wk, hG, hY⟩ := rl
  dsimp only at p1
  generalize ef : (fun x r g => match setT t x r with
      | some r => evS Φ b r g
      | none => O.bad : PyData → Env → G → O) = f at p1
  refine for_it wk (fun i σ' H' => ∃ F' da' r' g', RepS K cl F1 H0 da0 F' H' da' σ' r' g' ∧ PostS K cl W F0 H0 da0 D (forL f (xs.drop i) r' g')) ?_ ?_ ?_ ?_
  · exact ⟨F1, da, r, g1, RS1.rebase, by rw [List.drop_zero]; exact p1⟩
  · rintro i σ' H' hi ⟨F', da', r', g', RS', _⟩
    exact hG F' H' RS'.fr0 RS'.rep.sub
  · rintro i x σ' H' H'' hi ⟨F', da', r', g', RS', p'⟩ y
    obtain ⟨x', F2, hx, al, rp⟩ := hY i F' H' x H'' hi RS'.fr0 RS'.rep.sub y
    have edr : xs.drop i = x' :: xs.drop (i + 1) := by
      obtain ⟨h1, h2⟩ := List.getElem?_eq_some_iff.mp hx
      rw [← List.getElem_cons_drop h1, h2]
    rw [edr] at p'
    have RS2 := RS'.nx (Nx.of_al RS'.rep.gok al)
    unfold forL at p'
    cases es : setT t x' r' with
    | none =>
      have : f x' r' g' = .bad := by rw [← ef]; simp only [es]
      rw [this] at p'
      exact False.elim p'
    | some r1 =>
      have e1 : f x' r' g' = evS Φ b r1 g' := by rw [← ef]; simp only [es]
      rw [e1] at p'
      refine rd_TS RS2 rp es fun σ1 RS3 => ⟨F1, H0, da0, F2, da', r1, g', RS3, ?_⟩
      cases eo : evS Φ b r1 g' with
      | nx r2 g2 => rw [eo] at p'; exact fun σ2 F3 H3 da3 q => ⟨F3, da3, r2, g2, q, p'⟩
      | ct r2 g2 => rw [eo] at p'; exact fun σ2 F3 H3 da3 q => ⟨F3, da3, r2, g2, q, p'⟩
      | bk r2 g2 => rw [eo] at p'; exact fun σ2 F3 H3 da3 q => p' σ2 F3 H3 da3 (RepS.base RS1.fr0 RS1.new0 q)
      | rt d2 g2 => rw [eo] at p'; exact fun v σ2 r3 F3 H3 da3 q rp3 => p' v σ2 r3 F3 H3 da3 (RepS.base RS1.fr0 RS1.new0 q) rp3
      | ex c2 r2 g2 => rw [eo] at p'; exact fun σ2 F3 H3 da3 q => p' σ2 F3 H3 da3 (RepS.base RS1.fr0 RS1.new0 q)
      | bad => rw [eo] at p'; exact p'
  · rintro σ' H' ⟨F', da', r', g', RS', p'⟩
    rw [List.drop_length] at p'
    exact p' σ' F' H' da' (RepS.base RS1.fr0 RS1.new0 RS')
theorem rd_whl {n : Nat} {c : E} {b : Sm} {D : Ends} {σ : St} {H : Hp} (h : tO K cl W (evS Φ (.whl n c b)) D σ H) : tWhile (tT K cl W Φ c) (tO K cl W (evS Φ b)) D σ H := by
  obtain ⟨F0, H0, da0, F, da, r, g, RS, p⟩ := h
  refine ⟨fun m σ' H' => ∃ F' da' r' g', RepS K cl F0 H0 da0 F' H' da' σ' r' g' ∧ PostS K cl W F0 H0 da0 D (whlL (fun r g => evT Φ c r g) (fun r g => evS Φ b r g) m r' g'), ⟨n, F, da, r, g, RS, p⟩, ?_⟩
  rintro m σ' H' ⟨F', da', r', g', RS', p'⟩
  cases m with
  | zero => exact False.elim p'
  | succ m =>
    unfold whlL at p'
    refine ⟨F', da', r', g', RS'.rep, ?_⟩
    cases et : evT Φ c r' g' with
    | ok kk g1 =>
      rw [et] at p'
      intro v F1 H1 nx rl
      cases rl
      have RS1 := RS'.nx nx
      cases kk with
      | true =>
        rw [if_pos rfl]
        refine ⟨fun σ2 H2 => ∃ F' da' r' g', RepS K cl F0 H0 da0 F' H2 da' σ2 r' g' ∧ PostS K cl W F0 H0 da0 D (whlL (fun r g => evT Φ c r g) (fun r g => evS Φ b r g) m r' g'), fun σ2 H2 w => ⟨m, Nat.lt_succ_self m, w⟩, F0, H0, da0, F1, da', r', g1, RS1, ?_⟩
        dsimp only at p'
        cases eo : evS Φ b r' g1 with
        | nx r2 g2 => rw [eo] at p'; exact fun σ2 F3 H3 da3 q => ⟨F3, da3, r2, g2, q, p'⟩
        | ct r2 g2 => rw [eo] at p'; exact fun σ2 F3 H3 da3 q => ⟨F3, da3, r2, g2, q, p'⟩
        | bk r2 g2 => rw [eo] at p'; exact p'
        | rt d2 g2 => rw [eo] at p'; exact p'
        | ex c2 r2 g2 => rw [eo] at p'; exact p'
        | bad => rw [eo] at p'; exact p'
      | false =>
        rw [if_neg Bool.false_ne_true]
        exact p' σ' F1 H1 da' RS1
    | exc c1 g1 =>
      rw [et] at p'
      exact fun F1 H1 nx => p' σ' F1 H1 da' (RS'.nx nx)
    | bad => rw [et] at p'; exact p'
structure SndS (T : Tab) (cl : Cls) (Φ : Nat → Fn) (s : Sm) : Prop where
  one : ∀ {k : Nat} {W : WX} {S : Stat} {X : Cx}, YOk T cl Φ k W S X → ∀ x, okS1 T s S x = true → PS X x (tO X.K cl W (evS Φ s))
  all : ∀ {k : Nat} {W : WX} {S : Stat} {X : Cx}, YOk T cl Φ k W S X → ∀ xs, okSs T s S xs = true → PSs X xs (tO X.K cl W (evS Φ s))
theorem rd_nil {D : Ends} {σ : St} {H : Hp} (h : tO K cl W (evS Φ .nil) D σ H) : tNext D σ H := by
  obtain ⟨F0, H0, da0, F, da, r, g, RS, p⟩ := h
  exact p σ F H da RS
theorem okSs_cons {s t : Sm} {xs : List Stmt} (h : okSs T (.cons s t) S xs = true) : (∃ i, s = .frz i ∧ okSs T t S xs = true) ∨ ∃ x ys, xs = x :: ys ∧ okS1 T s S x = true ∧ okSs T t S ys = true := by
  cases s with
  | frz i => exact .inl ⟨i, rfl, h⟩
  | _ =>
    cases xs with
    | nil => exact Bool.noConfusion (show false = true from h)
    | cons x ys =>
      exact .inr ⟨x, ys, rfl, and2 h⟩
theorem noSs {s : Sm} {xs : List Stmt} (h : okSs T s S xs = true) : s = .nil ∨ ∃ a b, s = .cons a b := by
  cases s with
  | nil => exact .inl rfl
  | cons a b => exact .inr ⟨a, b, rfl⟩
  | _ => exact Bool.noConfusion (show false = true from h)
theorem sndS (s : Sm) : SndS T cl Φ s := by
  induction s with
  | nil =>
    refine ⟨@fun k W S X o x q => ?_, @fun k W S X o xs q => ?_⟩
    · exact Bool.noConfusion (show false = true from q)
    · cases xs with
      | nil => exact impSs pss_nil fun D σ H h => rd_nil h
      | cons _ _ => exact Bool.noConfusion (show false = true from q)
  | cons s t ihs iht =>
    refine ⟨@fun k W S X o x q => ?_, @fun k W S X o xs q => ?_⟩
    · exact Bool.noConfusion (show false = true from q)
    · rcases okSs_cons q with ⟨i, rfl, q⟩ | ⟨x, ys, rfl, q1, q2⟩
      · exact impSs (iht.all o _ q) fun D σ H h => rd_frz h
      · exact impSs (pss_cons (ihs.one o x q1) (iht.all o ys q2)) fun D σ H h => rd_cons h
  | asg i e =>
    refine ⟨@fun k W S X o x q => ?_, @fun k W S X o xs q => ?_⟩
    · simp only [okS1_asg, okS1_mk, okS1_par, okS1_mk3, okS1_unp, okS1_aug, okS1_drop, okS1_app, okS1_rem, okS1_seti, okS1_seti2, okS1_augi, okS1_ite, okS1_for, okS1_whl, okS1_ret, okS1_brk, okS1_cont, okS1_raise, okS1_try] at q
      split at q
      · exact snd_asg o q
      · cases q
    · exact Bool.noConfusion (show false = true from q)
  | mk i e =>
    refine ⟨@fun k W S X o x q => ?_, @fun k W S X o xs q => ?_⟩
    · simp only [okS1_asg, okS1_mk, okS1_par, okS1_mk3, okS1_unp, okS1_aug, okS1_drop, okS1_app, okS1_rem, okS1_seti, okS1_seti2, okS1_augi, okS1_ite, okS1_for, okS1_whl, okS1_ret, okS1_brk, okS1_cont, okS1_raise, okS1_try] at q
      split at q
      · exact snd_mk o q
      · cases q
    · exact Bool.noConfusion (show false = true from q)
  | par t fl as =>
    refine ⟨@fun k W S X o x q => ?_, @fun k W S X o xs q => ?_⟩
    · simp only [okS1_asg, okS1_mk, okS1_par, okS1_mk3, okS1_unp, okS1_aug, okS1_drop, okS1_app, okS1_rem, okS1_seti, okS1_seti2, okS1_augi, okS1_ite, okS1_for, okS1_whl, okS1_ret, okS1_brk, okS1_cont, okS1_raise, okS1_try] at q
      split at q
      · exact snd_par o q
      · cases q
    · exact Bool.noConfusion (show false = true from q)
  | mk3 i j l =>
    refine ⟨@fun k W S X o x q => ?_, @fun k W S X o xs q => ?_⟩
    · simp only [okS1_asg, okS1_mk, okS1_par, okS1_mk3, okS1_unp, okS1_aug, okS1_drop, okS1_app, okS1_rem, okS1_seti, okS1_seti2, okS1_augi, okS1_ite, okS1_for, okS1_whl, okS1_ret, okS1_brk, okS1_cont, okS1_raise, okS1_try] at q
      split at q
      · exact snd_mk3 o q
      · cases q
    · exact Bool.noConfusion (show false = true from q)
  | unp t e =>
    refine ⟨@fun k W S X o x q => ?_, @fun k W S X o xs q => ?_⟩
    · simp only [okS1_asg, okS1_mk, okS1_par, okS1_mk3, okS1_unp, okS1_aug, okS1_drop, okS1_app, okS1_rem, okS1_seti, okS1_seti2, okS1_augi, okS1_ite, okS1_for, okS1_whl, okS1_ret, okS1_brk, okS1_cont, okS1_raise, okS1_try] at q
      split at q
      · exact snd_unp o q
      · cases q
    · exact Bool.noConfusion (show false = true from q)
  | aug i op e =>
    refine ⟨@fun k W S X o x q => ?_, @fun k W S X o xs q => ?_⟩
    · simp only [okS1_asg, okS1_mk, okS1_par, okS1_mk3, okS1_unp, okS1_aug, okS1_drop, okS1_app, okS1_rem, okS1_seti, okS1_seti2, okS1_augi, okS1_ite, okS1_for, okS1_whl, okS1_ret, okS1_brk, okS1_cont, okS1_raise, okS1_try] at q
      split at q
      · exact snd_aug o q
      · cases q
    · exact Bool.noConfusion (show false = true from q)
  | drop e =>
    refine ⟨@fun k W S X o x q => ?_, @fun k W S X o xs q => ?_⟩
    · simp only [okS1_asg, okS1_mk, okS1_par, okS1_mk3, okS1_unp, okS1_aug, okS1_drop, okS1_app, okS1_rem, okS1_seti, okS1_seti2, okS1_augi, okS1_ite, okS1_for, okS1_whl, okS1_ret, okS1_brk, okS1_cont, okS1_raise, okS1_try] at q
      split at q
      · exact snd_drop o q
      · cases q
    · exact Bool.noConfusion (show false = true from q)
  | app i e =>
    refine ⟨@fun k W S X o x q => ?_, @fun k W S X o xs q => ?_⟩
    · simp only [okS1_asg, okS1_mk, okS1_par, okS1_mk3, okS1_unp, okS1_aug, okS1_drop, okS1_app, okS1_rem, okS1_seti, okS1_seti2, okS1_augi, okS1_ite, okS1_for, okS1_whl, okS1_ret, okS1_brk, okS1_cont, okS1_raise, okS1_try] at q
      split at q
      · exact snd_app o q
      · cases q
    · exact Bool.noConfusion (show false = true from q)
  | rem i e =>
    refine ⟨@fun k W S X o x q => ?_, @fun k W S X o xs q => ?_⟩
    · simp only [okS1_asg, okS1_mk, okS1_par, okS1_mk3, okS1_unp, okS1_aug, okS1_drop, okS1_app, okS1_rem, okS1_seti, okS1_seti2, okS1_augi, okS1_ite, okS1_for, okS1_whl, okS1_ret, okS1_brk, okS1_cont, okS1_raise, okS1_try] at q
      split at q
      · exact snd_rem o q
      · cases q
    · exact Bool.noConfusion (show false = true from q)
  | seti i kx e =>
    refine ⟨@fun k W S X o x q => ?_, @fun k W S X o xs q => ?_⟩
    · simp only [okS1_asg, okS1_mk, okS1_par, okS1_mk3, okS1_unp, okS1_aug, okS1_drop, okS1_app, okS1_rem, okS1_seti, okS1_seti2, okS1_augi, okS1_ite, okS1_for, okS1_whl, okS1_ret, okS1_brk, okS1_cont, okS1_raise, okS1_try] at q
      split at q
      · exact snd_seti o q
      · cases q
    · exact Bool.noConfusion (show false = true from q)
  | seti2 i k1 k2 a b =>
    refine ⟨@fun k W S X o x q => ?_, @fun k W S X o xs q => ?_⟩
    · simp only [okS1_asg, okS1_mk, okS1_par, okS1_mk3, okS1_unp, okS1_aug, okS1_drop, okS1_app, okS1_rem, okS1_seti, okS1_seti2, okS1_augi, okS1_ite, okS1_for, okS1_whl, okS1_ret, okS1_brk, okS1_cont, okS1_raise, okS1_try] at q
      split at q
      · exact snd_seti2 o q
      · cases q
    · exact Bool.noConfusion (show false = true from q)
  | augi i kx op e =>
    refine ⟨@fun k W S X o x q => ?_, @fun k W S X o xs q => ?_⟩
    · cases op with
      | add =>
        simp only [okS1_asg, okS1_mk, okS1_par, okS1_mk3, okS1_unp, okS1_aug, okS1_drop, okS1_app, okS1_rem, okS1_seti, okS1_seti2, okS1_augi, okS1_ite, okS1_for, okS1_whl, okS1_ret, okS1_brk, okS1_cont, okS1_raise, okS1_try] at q
        split at q
        · exact snd_augi o q
        · cases q
      | _ => exact Bool.noConfusion (show false = true from q)
    · exact Bool.noConfusion (show false = true from q)
  | ite c a b iha ihb =>
    refine ⟨@fun k W S X o x q => ?_, @fun k W S X o xs q => ?_⟩
    · simp only [okS1_asg, okS1_mk, okS1_par, okS1_mk3, okS1_unp, okS1_aug, okS1_drop, okS1_app, okS1_rem, okS1_seti, okS1_seti2, okS1_augi, okS1_ite, okS1_for, okS1_whl, okS1_ret, okS1_brk, okS1_cont, okS1_raise, okS1_try] at q
      split at q
      · obtain ⟨q, q3⟩ := and2 q
        obtain ⟨q1, q2⟩ := and2 q
        exact impS (ps_if ((snd c).t o.x _ q1) (iha.all o _ q2) (ihb.all o _ q3)) fun D σ H h => rd_ifs h
      · cases q
    · exact Bool.noConfusion (show false = true from q)
  | for_ t it b ih =>
    refine ⟨@fun k W S X o x q => ?_, @fun k W S X o xs q => ?_⟩
    · simp only [okS1_asg, okS1_mk, okS1_par, okS1_mk3, okS1_unp, okS1_aug, okS1_drop, okS1_app, okS1_rem, okS1_seti, okS1_seti2, okS1_augi, okS1_ite, okS1_for, okS1_whl, okS1_ret, okS1_brk, okS1_cont, okS1_raise, okS1_try] at q
      split at q
      · obtain ⟨q, q4⟩ := and2 q
        obtain ⟨q, q3⟩ := and2 q
        obtain ⟨q1, q2⟩ := and2 q
        exact impS (ps_for o.hp o.x.calm ((snd it).i o.x _ _ q1) (pg_T o.x q3) (ih.all o _ q4) (iter_ok q2)) fun D σ H h => rd_for h
      · cases q
    · exact Bool.noConfusion (show false = true from q)
  | whl n c b ih =>
    refine ⟨@fun k W S X o x q => ?_, @fun k W S X o xs q => ?_⟩
    · simp only [okS1_asg, okS1_mk, okS1_par, okS1_mk3, okS1_unp, okS1_aug, okS1_drop, okS1_app, okS1_rem, okS1_seti, okS1_seti2, okS1_augi, okS1_ite, okS1_for, okS1_whl, okS1_ret, okS1_brk, okS1_cont, okS1_raise, okS1_try] at q
      split at q
      · obtain ⟨q1, q2⟩ := and2 q
        exact impS (ps_while o.hp ((snd c).t o.x _ q1) (ih.all o _ q2)) fun D σ H h => rd_whl h
      · cases q
    · exact Bool.noConfusion (show false = true from q)
  | ret e =>
    refine ⟨@fun k W S X o x q => ?_, @fun k W S X o xs q => ?_⟩
    · simp only [okS1_asg, okS1_mk, okS1_par, okS1_mk3, okS1_unp, okS1_aug, okS1_drop, okS1_app, okS1_rem, okS1_seti, okS1_seti2, okS1_augi, okS1_ite, okS1_for, okS1_whl, okS1_ret, okS1_brk, okS1_cont, okS1_raise, okS1_try] at q
      split at q
      · exact snd_ret o q
      · cases q
    · exact Bool.noConfusion (show false = true from q)
  | brk =>
    refine ⟨@fun k W S X o x q => ?_, @fun k W S X o xs q => ?_⟩
    · simp only [okS1_asg, okS1_mk, okS1_par, okS1_mk3, okS1_unp, okS1_aug, okS1_drop, okS1_app, okS1_rem, okS1_seti, okS1_seti2, okS1_augi, okS1_ite, okS1_for, okS1_whl, okS1_ret, okS1_brk, okS1_cont, okS1_raise, okS1_try] at q
      split at q
      · refine impS ps_break fun D σ H h => ?_
        obtain ⟨F0, H0, da0, F, da, r, g, RS, p⟩ := h
        exact p σ F H da RS
      · cases q
    · exact Bool.noConfusion (show false = true from q)
  | cont =>
    refine ⟨@fun k W S X o x q => ?_, @fun k W S X o xs q => ?_⟩
    · simp only [okS1_asg, okS1_mk, okS1_par, okS1_mk3, okS1_unp, okS1_aug, okS1_drop, okS1_app, okS1_rem, okS1_seti, okS1_seti2, okS1_augi, okS1_ite, okS1_for, okS1_whl, okS1_ret, okS1_brk, okS1_cont, okS1_raise, okS1_try] at q
      split at q
      · refine impS ps_continue fun D σ H h => ?_
        obtain ⟨F0, H0, da0, F, da, r, g, RS, p⟩ := h
        exact p σ F H da RS
      · cases q
    · exact Bool.noConfusion (show false = true from q)
  | raise c =>
    refine ⟨@fun k W S X o x q => ?_, @fun k W S X o xs q => ?_⟩
    · simp only [okS1_asg, okS1_mk, okS1_par, okS1_mk3, okS1_unp, okS1_aug, okS1_drop, okS1_app, okS1_rem, okS1_seti, okS1_seti2, okS1_augi, okS1_ite, okS1_for, okS1_whl, okS1_ret, okS1_brk, okS1_cont, okS1_raise, okS1_try] at q
      split at q
      · exact snd_raise o q
      · cases q
    · exact Bool.noConfusion (show false = true from q)
  | try_ b i j ih =>
    refine ⟨@fun k W S X o x q => ?_, @fun k W S X o xs q => ?_⟩
    · exact snd_try o (fun o' xs q' => ih.all o' xs q') q
    · exact Bool.noConfusion (show false = true from q)
  | _ =>
    refine ⟨@fun k W S X o x q => ?_, @fun k W S X o xs q => ?_⟩
    · exact Bool.noConfusion (show false = true from q)
    · exact Bool.noConfusion (show false = true from q)
end
end Tl
end
section
set_option Elab.async false
set_option linter.all false
set_option autoImplicit false
set_option maxRecDepth 100000
namespace Tl
open PySem PySem.Spec PyProof.Rows L2
/-! ### a def from its text -/
structure Df where
  x : Str
  st : Stmt
  ps : List Str
  N : List Str
  b : Sm
structure DfOk (T : Tab) (i : Nat) (d : Df) : Prop where
  nmi : T.nm[i]? = some d.x
  bnd : ∀ (kV doc pm : Value) (an : Option Addr) (cdv ct : Value) (us : List Value), us.length = d.ps.length → bindArgs (PySem.W.fnOf d.x d.x (defArgs d.st) (defBody d.st) (defScope d.st) .none kV doc pm an cdv ct) ⟨us, []⟩ = pure (d.ps.zip us)
  sc : FnScope d.N d.ps (defScope d.st)
  ok : okSs T d.b ⟨d.N, defScope d.st, fun _ => true⟩ (defBody d.st) = true
/-- what the module's names stand for -/
structure MgOk (K : PySem.W.Frag) (mg : Str → Option Value) (cl : Cls) (T : Tab) : Prop where
  blt : ∀ x ∈ blts, mg x = none
  glo : ∀ p ∈ T.gs, ∃ v u, mg p.1 = some u ∧ RelV v u ∧ ∀ F, Rp F v p.2
  exc : ∀ c x, T.cn[c]? = some x → mg x = some (.ref (cl c)) ∧ PySem.W.excIn K (cl c) [.type "ValueError", .type "Exception", .type "BaseException", .type "object"] "ValueError.__new__" = true ∧ PySem.W.keepIn K (.ref (cl c)) = true ∧
    PySem.W.subIn K (.ref (cl c)) (.type "BaseException") = some true ∧ PySem.W.typeIn K (.ref (cl c)) = some (.type "type")
  exf : ExF K mg cl T
def FnsOk (P : Program) (w : World) (K : PySem.W.Frag) (mg : Str → Option Value) (base : Heap) (cl : Cls) (nm : List Str) (fs : List Nat) (k : Nat) (Φ : Nat → Fn) : Prop :=
  ∀ i ∈ fs, ∃ x f fd ps, nm[i]? = some x ∧ mg x = some (.ref f) ∧ PySem.W.keepIn K (.ref f) = true ∧ Binds K fd ps [] ∧ FnOk P w K mg base (L2.CX P w) k f fd ps (spF cl (Φ i))
section
variable {P : Program} {w : World} {K : PySem.W.Frag} {mg : Str → Option Value} {base : Heap} {cl : Cls} {T : Tab} {k : Nat} {Φ : Nat → Fn}
theorem args_len {F : Hp} {da : DA} : ∀ {vs : List V} {cs : List Cell}, ArgsOk cl F da vs cs → vs.length = cs.length
  | _, _, .nil => rfl
  | _, _, .cons _ t => congrArg (· + 1) (args_len t)
theorem args_get {F : Hp} {da : DA} : ∀ {vs : List V} {cs : List Cell} {i : Nat} {c : Cell}, ArgsOk cl F da vs cs → cs[i]? = some c → ∃ v, vs[i]? = some v ∧ ArgOk cl F da v c
  | _, _, _, _, .nil, e => by simp at e
  | _, _, 0, _, .cons h _, e => by simp at e; subst e; exact ⟨_, rfl, h⟩
  | _, _, i + 1, _, .cons _ t, e => by simp at e; obtain ⟨v, h1, h2⟩ := args_get t e; exact ⟨v, by simpa using h1, h2⟩
/-- a body's context -/
theorem yok (M : MgOk K mg cl T) (fns : FnsOk P w K mg base cl T.nm T.fs k Φ) {N ps : List Str} {scope : Scope} (S : FnScope N ps scope) {qual : Str} {f : Addr} {cdv : Value} {A : Around} {outer : List PySem.Env} {s : Shared} {H : Hp} {E : XK}
    (hr : Room k (A.deeper (envOfC qual scope s.heap.objs.size f cdv))) : YOk T cl Φ k (fun c d _ H => E c d H) ⟨N, scope, fun _ => true⟩ (cxOf (L2.CX P w) P w K mg base N qual scope f cdv A outer s H E) := by
  have tk : Takes (cxOf (L2.CX P w) P w K mg base N qual scope f cdv A outer s H E) (fun c d _ H => E c d H) := takes_of rfl rfl rfl rfl
  refine ⟨⟨rfl, rfl, rfl, S.nd, rfl, hr, M.blt, M.glo, fun σ => passAt tk σ, fns, M.exf⟩, S.kind, passes_of rfl, tk, fun c x e => ?_, rfl, rfl, rfl⟩
  obtain ⟨h1, h2, h3, h4, h5⟩ := M.exc c x e
  exact ⟨h1, h2, h3, raises_own h4 h5⟩
theorem start_rep {F H : Hp} {da : DA} {g : G} {vs : List V} {cs : List Cell} {N : List Str} (s : Same F H) (gk : GOk H g da) (nod : ∀ b, isDr da b → F b = none) (ao : ArgsOk cl F da vs cs) (hn : cs.length ≤ N.length) : RepS K cl F H da F H da (start N vs) (cs ++ List.replicate (N.length - cs.length) .und) g := by
  have hl := args_len ao
  have noOwn : ∀ (i : Nat) (ds : List D), (cs ++ List.replicate (N.length - cs.length) Cell.und)[i]? ≠ some (.own ds) := fun i ds e => by
    by_cases hi : i < cs.length
    · rw [List.getElem?_append_left hi] at e
      obtain ⟨v, _, h2⟩ := args_get ao e
      exact h2
    · rw [List.getElem?_append_right (by omega), List.getElem?_replicate] at e
      split at e <;> cases e
  refine ⟨⟨s, gk, fun i c e => ?_, ?_, fun i j a ds es e1 => absurd e1 (noOwn i ds), nod⟩, Same.refl F, fun _ _ e _ => e, fun _ _ _ n => n, fun _ o e => ⟨o, e⟩, fun i ds a e => absurd e (noOwn i ds), rfl⟩
  · by_cases hi : i < cs.length
    · rw [List.getElem?_append_left hi] at e
      obtain ⟨v, h1, h2⟩ := args_get ao e
      have e2 : (start N vs)[i]? = some (some v) := by
        unfold L2.start
        rw [List.getElem?_append_left (by rw [List.length_map]; omega), List.getElem?_map, h1]
        rfl
      rw [e2]
      cases c with
      | val d => exact ⟨v, rfl, h2⟩
      | drw => obtain ⟨p, q1, q2⟩ := h2; exact ⟨p, q1, by rw [q2]⟩
      | exn c => obtain ⟨a, q1, q2⟩ := h2; exact ⟨a, by rw [q1], q2⟩
      | _ => exact False.elim h2
    · rw [List.getElem?_append_right (by omega), List.getElem?_replicate] at e
      split at e <;> cases e
      trivial
  · unfold L2.start
    simp only [List.length_append, List.length_map, List.length_replicate]
    omega
theorem fin_of {Q : VK} {E : XK} {F H : Hp} {da : DA} {g : G} {cs : List Cell} {n m : Nat} {b : Sm} (h : Post cl (fun c d _ H => E c d H) [] relE da F H Q (fnD Φ n m b cs g)) :
    cs.length = n ∧ PostS K cl (fun c d _ H => E c d H) F H da { nx := fun _ H' => Q .non H', rt := Q } (evS Φ b (cs ++ List.replicate (m - n) .und) g) := by
  unfold fnD at h
  split at h
  · rename_i hc
    refine ⟨hc, ?_⟩
    have nx : ∀ {σ' r' F' H' da' g'}, RepS K cl F H da F' H' da' σ' r' g' → Nx da F H F' H' g' := fun q => ⟨q.fr0, q.rep.sub, q.keep0, q.new0, by have := q.rep.gok; rw [q.dah] at this; exact this, q.tho0⟩
    cases e : evS Φ b (cs ++ List.replicate (m - n) .und) g with
    | nx r1 g1 => rw [e] at h; exact fun σ' F' H' da' q => h .non F' H' (nx q) .non
    | rt d g1 => rw [e] at h; exact fun v σ' r' F' H' da' q rp => h v F' H' (nx q) rp
    | bk r1 g1 => rw [e] at h; exact False.elim h
    | ct r1 g1 => rw [e] at h; exact False.elim h
    | ex c r1 g1 => rw [e] at h; exact fun σ' F' H' da' q => h F' H' (nx q)
    | bad => rw [e] at h; exact False.elim h
  · exact False.elim h
theorem scope_le {N ps : List Str} {sc : Scope} (S : FnScope N ps sc) : ps.length ≤ N.length := by
  have := congrArg List.length S.pre
  rw [List.length_take] at this
  omega
theorem def_ok (M : MgOk K mg cl T) (fns : FnsOk P w K mg base cl T.nm T.fs k Φ) {i : Nat} {d : Df} (D : DfOk T i d) {f : Addr} {fd : FuncData} {kws : List (Str × V)} (F : FunD K d.x d.x (defArgs d.st) (defBody d.st) (defScope d.st) [] kws f fd) :
    FnOk P w K mg base (L2.CX P w) (k + 1) f fd d.ps (spF cl (fnD Φ d.ps.length d.N.length d.b)) := by
  refine F.ok D.sc (fun vs H Q E h => ?_) fun cdv A outer s H vs Q E hr h => ?_
  · obtain ⟨F', da, g, cs, _, _, _, ao, p⟩ := h
    rw [args_len ao]
    exact (fin_of (K := K) p).1
  · obtain ⟨F', da, g, cs, s1, gk, nod, ao, p⟩ := h
    refine ⟨_, (sndS d.b).all (yok M fns D.sc hr) _ D.ok, ?_⟩
    obtain ⟨hc, ps⟩ := fin_of (K := K) p
    refine ⟨F', H, da, F', da, _, g, start_rep s1 gk nod ao (by rw [hc]; exact scope_le D.sc), ?_⟩
    rw [hc]
    exact ps
end
end Tl
end
section
set_option Elab.async false
set_option linter.all false
set_option autoImplicit false
set_option maxRecDepth 100000
namespace Tl
open PySem PySem.Spec PyProof.Rows L2
/-! ### drawing -/
def drawAt (ns : List Int) (c : Int) : Nat := (c % (ns.length : Int)).toNat
def drawMix (x c l : Int) : Int :=
  (((x + 104729 * c) % 4294967291) ^ 5 % 4294967279 / 64 * 69621 + ((x + 104729 * c) % 4294967291) ^ 5 % 4294967279) % 4294967231 / 8 % l
/-- one drawing: the value, the numbers then -/
def drawV (ns : List Int) (c l : Int) : Int := if 1000000000000000000 ≤ ns.getD (drawAt ns c) 0 then ns.getD (drawAt ns c) 0 % l else drawMix (ns.getD (drawAt ns c) 0) c l
def drawN (ns : List Int) (c l : Int) : List Int := if 1000000000000000000 ≤ ns.getD (drawAt ns c) 0 then ns.set (drawAt ns c) (ns.getD (drawAt ns c) 0 / l) else ns
def mDraw : Fn := fun cs g => match cs, g with
  | [.drw, .val (.int l)], some (ns, c) => if 0 < l ∧ l < 1073741824 then .ok (.int (drawV ns (c + 1) l)) (some (drawN ns (c + 1) l, c + 1)) else .bad
  | _, _ => .bad
theorem drawV_lt (ns : List Int) (c l : Int) (h : 0 < l) : 0 ≤ drawV ns c l ∧ drawV ns c l < l := by
  unfold drawV drawMix
  split
  · exact ⟨Int.emod_nonneg _ (by omega), Int.emod_lt_of_pos _ h⟩
  · exact ⟨Int.emod_nonneg _ (by omega), Int.emod_lt_of_pos _ h⟩
theorem drawN_len (ns : List Int) (c l : Int) : (drawN ns c l).length = ns.length := by
  unfold drawN
  split
  · rw [List.length_set]
  · rfl
theorem drawAt_lt {ns : List Int} {c : Int} (h : ns ≠ []) : drawAt ns c < ns.length := by
  have : 0 < ns.length := List.length_pos_iff.mpr h
  unfold drawAt
  have h1 := Int.emod_nonneg c (b := (ns.length : Int)) (by omega)
  have h2 := Int.emod_lt_of_pos c (b := (ns.length : Int)) (by omega)
  omega
/-- what the drawing's promise gives -/
theorem draw_open {cl : Cls} {vs : List V} {H : Hp} {Q : VK} {E : XK} (h : spF cl mDraw vs H Q E) : ∃ (a n : Addr) (ns : List Int) (c l : Int), vs = [.ref a, .int l] ∧ a ≠ n ∧ H a = some (.lst [.ref n, .int c]) ∧ H n = some (.lst (ns.map V.int)) ∧ ns ≠ [] ∧ ns.length ≤ 1000 ∧ 0 < l ∧ l < 1073741824 ∧
    ∀ H', H' a = some (.lst [.ref n, .int (c + 1)]) → H' n = some (.lst ((drawN ns (c + 1) l).map V.int)) → (∀ b, b ≠ a → b ≠ n → H' b = H b) → Q (.int (drawV ns (c + 1) l)) H' := by
  obtain ⟨F, da, g, cs, s, gk, nod, ao, p⟩ := h
  unfold mDraw at p
  split at p
  · rename_i l ns c
    split at p
    · rename_i hl
      cases ao with
      | cons h1 ao =>
        cases ao with
        | cons h2 ao =>
          cases ao
          obtain ⟨q, rfl, rfl⟩ := h1
          obtain ⟨a, n⟩ := q
          cases h2
          obtain ⟨g1, g2, g3, g4, g5⟩ := gk
          refine ⟨a, n, ns, c, l, rfl, g1, g2, g3, g4, g5, hl.1, hl.2, fun H' k1 k2 k3 => p _ F H' ⟨Same.refl F, fun b o e => ?_, fun b o e nd => ?_, fun _ _ _ z => z, ⟨g1, k1, k2, ?_, ?_⟩, fun b o e => ?_⟩ (.int _)⟩
          · have ha : b ≠ a := fun z => by rw [z, nod a ⟨_, rfl, .inl rfl⟩] at e; cases e
            have hn : b ≠ n := fun z => by rw [z, nod n ⟨_, rfl, .inr rfl⟩] at e; cases e
            rw [k3 b ha hn]
            exact s b o e
          · rw [k3 b (fun z => nd ⟨_, rfl, .inl z⟩) (fun z => nd ⟨_, rfl, .inr z⟩)]
            exact e
          · intro z
            have := congrArg List.length z
            rw [drawN_len] at this
            exact g4 (List.length_eq_zero_iff.mp this)
          · rw [drawN_len]
            exact g5
          · by_cases ha : b = a
            · rw [ha]; exact ⟨_, k1⟩
            · by_cases hn : b = n
              · rw [hn]; exact ⟨_, k2⟩
              · rw [k3 b ha hn]; exact ⟨o, e⟩
    · exact False.elim p
  · exact False.elim p
abbrev rAddI : R2 := rI0 fun i j => .int (i + j)
abbrev rMulI : R2 := rI CMul fun i j => .int (i * j)
abbrev rModI : R2 := rI (fun _ j => 0 < j) fun i j => .int (i % j)
abbrev rDivI : R2 := rI CDiv fun i j => .int (i / j)
abbrev rPowI : R2 := rI CPow fun i j => .int (i ^ j.toNat)
def tDraw (K : PySem.W.Frag) : TS :=
  tSeq (tAsg (tOp (rIxL K) (tVar 0) (L2.tC (.int 0))) (gName 2))
  (tSeq (tAsg (tOp rAddI (tOp (rIxL K) (tVar 0) (L2.tC (.int 1))) (L2.tC (.int 1))) (gSub (tVar 0) (L2.tC (.int 1)) rSetL))
  (tSeq (tAsg (tOp rModI (tOp (rIxL K) (tVar 0) (L2.tC (.int 1))) (tCB (rLen K) (tCons (tVar 2) tNil))) (gName 3))
  (tSeq (tAsg (tOp (rIxL K) (tVar 2) (tVar 3)) (gName 4))
  (tSeq (tIfS (tB (tGe (tVar 4) (L2.tC (.int 1000000000000000000)))) (tSeq (tAsg (tOp rDivI (tVar 4) (tVar 1)) (gSub (tVar 2) (tVar 3) rSetL)) (tRet (tOp rModI (tVar 4) (tVar 1)))) tNext)
  (tSeq (tAsg (tOp rModI (tOp rAddI (tVar 4) (tOp rMulI (L2.tC (.int 104729)) (tOp (rIxL K) (tVar 0) (L2.tC (.int 1))))) (L2.tC (.int 4294967291))) (gName 5))
  (tSeq (tAsg (tOp rModI (tOp rPowI (tVar 5) (L2.tC (.int 5))) (L2.tC (.int 4294967279))) (gName 5))
  (tRet (tOp rModI (tOp rDivI (tOp rModI (tOp rAddI (tOp rMulI (tOp rDivI (tVar 5) (L2.tC (.int 64))) (L2.tC (.int 69621))) (tVar 5)) (L2.tC (.int 4294967231))) (L2.tC (.int 8))) (tVar 1)))))))))
def nDraw : List Str := ["draws", "limit", "numbers", "at", "cell", "mixed"]
theorem ns_at {ns : List Int} {j : Nat} (h : j < ns.length) : L2.atI (ns.map V.int) (j : Nat) = some (.int (ns.getD j 0)) := by
  unfold L2.atI L2.ixN
  rw [if_pos (by omega), if_pos (by rw [List.length_map]; omega)]
  simp [List.getElem?_eq_getElem h]
theorem emod_nat (x : Int) {m : Int} (h : 0 < m) : (x % m).natAbs < m.natAbs := by
  have h1 := Int.emod_nonneg x (b := m) (by omega)
  have h2 := Int.emod_lt_of_pos x h
  omega
theorem draw_run {K : PySem.W.Frag} {cl : Cls} {vs : List V} {H : Hp} {Q : VK} {E : XK} (h : spF cl mDraw vs H Q E) : tDraw K { nx := fun _ H' => Q .non H', rt := Q } (L2.start nDraw vs) H := by
  obtain ⟨a, n, ns, c, l, rfl, hne, ha, hn, hnn, hnl, hl1, hl2, hQ⟩ := draw_open h
  have hn1 : (upd H a (.lst [.ref n, .int (c + 1)])) n = some (.lst (ns.map V.int)) := by rw [upd_ne hne.symm]; exact hn
  have hpos : 0 < ns.length := List.length_pos_iff.mpr hnn
  have hat : drawAt ns (c + 1) < ns.length := drawAt_lt hnn
  have hmod : (c + 1) % ((ns.map V.int).length : Int) = (drawAt ns (c + 1) : Nat) := by
    rw [List.length_map]
    unfold drawAt
    have := Int.emod_nonneg (c + 1) (b := (ns.length : Int)) (by omega)
    omega
  have hcell := ns_at hat
  refine ⟨.ref a, rfl, a, [.ref n, .int c], 0, .ref n, rfl, rfl, .inl (.inl ha), rfl, ?_⟩
  refine ⟨.ref a, rfl, a, [.ref n, .int c], 1, .int c, rfl, rfl, .inl (.inl ha), rfl, c, 1, rfl, rfl, ?_⟩
  refine ⟨.ref a, rfl, a, [.ref n, .int c], 1, 1, rfl, rfl, ha, rfl, ?_⟩
  refine ⟨.ref a, rfl, a, _, 1, .int (c + 1), rfl, rfl, .inl (.inl upd_same), rfl, ?_⟩
  refine ⟨.ref n, rfl, .ref n, (ns.map V.int).length, rfl, .inl ⟨_, .inl (.inl hn1), rfl⟩, c + 1, ((ns.map V.int).length : Nat), rfl, rfl, by rw [List.length_map]; omega, ?_⟩
  show gName 3 (.int ((c + 1) % ((ns.map V.int).length : Nat))) _ _ _
  rw [hmod]
  refine ⟨.ref n, rfl, .int (drawAt ns (c + 1) : Nat), rfl, n, _, _, _, rfl, rfl, .inl (.inl hn1), hcell, ?_⟩
  generalize hx : ns.getD (drawAt ns (c + 1)) 0 = x at *
  refine ⟨.int x, rfl, x, 1000000000000000000, rfl, rfl, ?_⟩
  refine ⟨_, rfl, ?_⟩
  by_cases hb : 1000000000000000000 ≤ x
  · dsimp only
    rw [if_pos (by simpa using hb)]
    refine ⟨.int x, rfl, .int l, rfl, x, l, rfl, rfl, ⟨hl1, hl2⟩, ?_⟩
    refine ⟨.ref n, rfl, .int (drawAt ns (c + 1) : Nat), rfl, n, ns.map V.int, _, drawAt ns (c + 1), rfl, rfl, hn1, ?_, ?_⟩
    · unfold L2.ixN
      rw [if_pos (by omega), if_pos (by rw [List.length_map]; omega)]
      simp
    · refine ⟨.int x, rfl, .int l, rfl, x, l, rfl, rfl, hl1, ?_⟩
      have e1 : drawV ns (c + 1) l = x % l := by unfold drawV; rw [hx, if_pos hb]
      have e2 : drawN ns (c + 1) l = ns.set (drawAt ns (c + 1)) (x / l) := by unfold drawN; rw [hx, if_pos hb]
      rw [e1, e2] at hQ
      refine hQ _ ?_ ?_ ?_
      · rw [upd_ne hne]
        exact upd_same
      · rw [upd_same, List.map_set]
      · intro b h1 h2
        rw [upd_ne h2, upd_ne h1]
  · dsimp only
    rw [if_neg (by simpa using hb)]
    refine ⟨.int x, rfl, .ref a, rfl, a, _, 1, .int (c + 1), rfl, rfl, .inl (.inl upd_same), rfl, 104729, c + 1, rfl, rfl, .inl ⟨by decide, by decide⟩, x, 104729 * (c + 1), rfl, rfl, x + 104729 * (c + 1), 4294967291, rfl, rfl, (show (0 : Int) < 4294967291 by decide), ?_⟩
    refine ⟨_, rfl, _, 5, rfl, rfl, ⟨by decide, by decide, ?_⟩, _, 4294967279, rfl, rfl, (show (0 : Int) < 4294967279 by decide), ?_⟩
    · have := emod_nat (x + 104729 * (c + 1)) (m := 4294967291) (by decide)
      have z : (4294967291 : Int).natAbs = 4294967291 := rfl
      rw [z] at this
      exact Nat.lt_trans this (by decide)
    refine ⟨_, rfl, _, 64, rfl, rfl, ⟨by decide, by decide⟩, _, 69621, rfl, rfl, .inr ⟨by decide, by decide⟩, _, rfl, _, _, rfl, rfl, _, 4294967231, rfl, rfl, (show (0 : Int) < 4294967231 by decide), _, 8, rfl, rfl, ⟨by decide, by decide⟩, .int l, rfl, _, l, rfl, rfl, hl1, ?_⟩
    have e1 : drawV ns (c + 1) l = drawMix x (c + 1) l := by unfold drawV; rw [hx, if_neg hb]
    have e2 : drawN ns (c + 1) l = ns := by unfold drawN; rw [hx, if_neg hb]
    rw [e1, e2] at hQ
    exact hQ _ upd_same hn1 fun b h1 h2 => upd_ne h1
/-! ### the start, the law -/
def seedOf (ns : List Int) : List Int := if ns = [] then [0] else ns
def spStart (K : PySem.W.Frag) : Sp := fun vs H Q _ => ∃ (a : Addr) (ns : List Int), vs = [.ref a] ∧ SqL K H a (ns.map V.int) ∧ ns.length ≤ 1000 ∧
  ∀ H' A n, A ≠ n → H' A = some (.lst [.ref n, .int 0]) → H' n = some (.lst ((seedOf ns).map V.int)) → Q (.ref A) H'
abbrev rListOf (K : PySem.W.Frag) : List V → Hp → VK → Prop := fun xs H Q => ∃ p ys, xs = [.ref p] ∧ (SqL K H p ys ∨ SqT K H p ys) ∧ ∀ l, H l = none → Q (.ref l) (upd H l (.lst ys))
def tStart (K : PySem.W.Frag) : TS := tRet (tLst (tCons (tIf (tTest (tOp (rNeD K) (tVar 0) (tLst tNil))) (tCB (rListOf K) (tCons (tVar 0) tNil)) (tLst (tCons (L2.tC (.int 0)) tNil))) (tCons (L2.tC (.int 0)) tNil)))
theorem dp_ints {K : PySem.W.Frag} {H : Hp} : ∀ ns : List Int, DpAll K H (ns.map V.int) (ns.map PyData.int)
  | [] => .nil
  | n :: ns => .cons (.int n) (dp_ints ns)
theorem lay_ints : ∀ ns : List Int, PyData.canLayAll0 (ns.map PyData.int) = true
  | [] => rfl
  | n :: ns => by simp [PyData.canLayAll0, PyData.canLay0, lay_ints ns]
theorem depth_ints (ns : List Int) : (PyData.list (ns.map PyData.int)).depth ≤ 60 := by
  have h : ∀ l : List Int, PyData.depthAll (l.map PyData.int) ≤ 1 := fun l => by
    induction l with
    | nil => simp [PyData.depthAll]
    | cons x r ih => simp [PyData.depthAll, PyData.depth]; omega
  have := h ns
  simp [PyData.depth]
  omega
theorem start_run {K : PySem.W.Frag} {vs : List V} {H : Hp} {Q : VK} {E : XK} (h : spStart K vs H Q E) : tStart K { nx := fun _ H' => Q .non H', rt := Q } (L2.start ["script"] vs) H := by
  obtain ⟨a, ns, rfl, hs, hl, hQ⟩ := h
  refine ⟨.ref a, rfl, Nat.zero_le _, fun p hp => ?_⟩
  have s1 : Same H (upd H p (.lst [])) := same_upd hp
  refine ⟨.list (ns.map PyData.int), .list [], .lst (s1.seq hs) (dp_ints ns), .lst (.inl (.inl upd_same)) .nil, shp_shaped (by simp [PyData.canLay0, lay_ints]) (decide_eq_true (depth_ints ns)), by decide, _, rfl, ?_⟩
  cases ns with
  | nil =>
    have e : (!PyData.eqv (.list (List.map PyData.int [])) (.list [])) = false := rfl
    rw [e, if_neg Bool.false_ne_true]
    refine ⟨by decide, fun n hn => ⟨(show 2 ≤ sizeLine by decide), fun A hA => ?_⟩⟩
    have hne : A ≠ n := fun z => by rw [z, upd_same] at hA; cases hA
    exact hQ _ A n hne upd_same (by rw [upd_ne hne.symm, upd_same]; rfl)
  | cons x r =>
    have e : (!PyData.eqv (.list (List.map PyData.int (x :: r))) (.list [])) = true := rfl
    rw [e, if_pos rfl]
    refine ⟨.ref a, rfl, a, (x :: r).map V.int, rfl, .inl (s1.seq hs), fun n hn => ⟨(show 2 ≤ sizeLine by decide), fun A hA => ?_⟩⟩
    have hne : A ≠ n := fun z => by rw [z, upd_same] at hA; cases hA
    exact hQ _ A n hne upd_same (by rw [upd_ne hne.symm, upd_same]; rfl)
def spLaw (K : PySem.W.Frag) : Sp := fun vs H Q _ => ∃ (a : Addr) (ns : List Int), vs = [.ref a] ∧ SqL K H a (ns.map V.int) ∧ ns.length ≤ 63 ∧ ∀ H', Q (.bl true) H'
def okLaw (T : Tab) (S : Stat) (b : Sm) : List Stmt → Bool
  | .Assign [.Name a _] (.Call (.Name f _) [.Name s _] [] _) _ :: rest => okL S 1 a && okV S 0 s && decide (f = ("_law_start" : Str)) && okG S f && okSs T b S rest
  | _ => false
theorem seed_ne (ns : List Int) : seedOf ns ≠ [] := by
  unfold seedOf
  split
  · exact List.cons_ne_nil _ _
  · assumption
theorem seed_le {ns : List Int} (h : ns.length ≤ 63) : (seedOf ns).length ≤ 1000 := by
  unfold seedOf
  split
  · simp
  · omega
section
variable {P : Program} {w : World} {K : PySem.W.Frag} {mg : Str → Option Value} {base : Heap} {cl : Cls} {T : Tab} {k : Nat} {Φ : Nat → Fn}
theorem law_ok (M : MgOk K mg cl T) (fns : FnsOk P w K mg base cl T.nm T.fs k Φ) {x qual : Str} {params : Arguments} {body : List Stmt} {scope : Scope} {N : List Str} {b : Sm} (S : FnScope N ["script"] scope) (ok : okLaw T ⟨N, scope, fun _ => true⟩ b body = true)
    {f fS : Addr} {fd fdS : FuncData} {kws : List (Str × V)} (F : FunD K x qual params body scope [] kws f fd) (gS : mg "_law_start" = some (.ref fS)) (kS : PySem.W.keepIn K (.ref fS) = true) (bS : Binds K fdS ["script"] []) (hS : FnOk P w K mg base (L2.CX P w) k fS fdS ["script"] (spStart K)) (h2 : 2 ≤ N.length)
    (hm : ∀ ns : List Int, ns ≠ [] → ns.length ≤ 1000 → ∃ g, evS Φ b (.und :: .drw :: List.replicate (N.length - 2) .und) (some (ns, 0)) = .rt (.bool true) g) : FnOk P w K mg base (L2.CX P w) (k + 1) f fd ["script"] (spLaw K) := by
  refine F.ok S (fun vs H Q E h => ?_) fun cdv A outer s H vs Q E hr h => ?_
  · obtain ⟨a, ns, rfl, _⟩ := h
    rfl
  · obtain ⟨a, ns, rfl, hs, hl, hQ⟩ := h
    have Y := yok (E := E) (H := H) (outer := outer) M fns S hr
    unfold okLaw at ok
    split at ok
    · obtain ⟨q, q5⟩ := and2 ok
      obtain ⟨q, q4⟩ := and2 q
      obtain ⟨q, q3⟩ := and2 q
      obtain ⟨q1, q2⟩ := and2 q
      have e := of_decide_eq_true q3
      subst e
      obtain ⟨g1, g2⟩ := Y.x.gl q4
      obtain ⟨l1, l2, l3⟩ := Y.x.loc q1
      refine ⟨_, pss_cons (ps_set Y.x.ndX l1 l2 (pe_callS hS hr g1 gS kS bS Y.x.pass (pa_cons (Y.x.var q2) pa_nil) g2) rfl l3) ((sndS b).all Y _ q5), ?_⟩
      refine ⟨.ref a, rfl, a, ns, rfl, hs, by omega, fun H' A' n' hne hA hN => ?_⟩
      obtain ⟨g, hg⟩ := hm (seedOf ns) (seed_ne ns) (seed_le hl)
      refine ⟨fun _ => none, H', some (A', n'), fun _ => none, some (A', n'), (.und :: .drw :: List.replicate (N.length - 2) .und), some (seedOf ns, 0), ⟨⟨fun b o e => (by cases e), ⟨hne, hA, hN, seed_ne ns, seed_le hl⟩, fun i c e => ?_, ?_, fun i j p ds es e1 => ?_, fun _ _ => rfl⟩, Same.refl _, fun _ _ e _ => e, fun _ _ _ _ => rfl, fun b o e => ⟨o, e⟩, fun i ds p e1 => ?_, rfl⟩, ?_⟩
      · match i, e with
        | 0, e => cases e; trivial
        | 1, e =>
          cases e
          refine ⟨_, rfl, ?_⟩
          rw [List.getElem?_set_self]
          show 1 < (L2.start N [V.ref a]).length
          unfold L2.start
          simp only [List.length_append, List.length_map, List.length_replicate, List.length_cons, List.length_nil]
          omega
        | i + 2, e =>
          simp only [List.getElem?_cons_succ, List.getElem?_replicate] at e
          split at e <;> cases e
          trivial
      · rw [List.length_set]
        unfold L2.start
        simp only [List.length_append, List.length_map, List.length_replicate, List.length_cons, List.length_nil]
        omega
      · match i, e1 with
        | i + 2, e1 =>
          simp only [List.getElem?_cons_succ, List.getElem?_replicate] at e1
          split at e1 <;> cases e1
      · match i, e1 with
        | i + 2, e1 =>
          simp only [List.getElem?_cons_succ, List.getElem?_replicate] at e1
          split at e1 <;> cases e1
      · rw [hg]
        intro v σ' r' F' H2 da' q rp
        cases rp
        exact hQ H2
    · cases ok
/-- the head's end, with what a def may let out -/
theorem walk_out {l : PySem.W.OpenLaw} {n k : Nat} {q : Program} {loose : List Str} {XP : (Str → Option Value) → Heap → Prop} {YP : World → Heap → Prop} {d : DefRec} {x : Str} (hn : l.most = some n) (hn2 : n ≤ sizeLine) (hd : d.params.defaults = []) (hr : Room k callerA)
    (h : ∀ (w : World) (mg : Str → Option Value) (fa : Addr) (h : Heap), YP w h → h.Ns mainGlobals mg → mg d.name = some (.ref fa) → ∃ (K : PySem.W.Frag) (fd : FuncData) (sp : Sp), K.In h ∧ (∀ (s : Shared) (u : Value), BindsTo s fd ⟨[u], []⟩ [(x, u)]) ∧
      (∀ (H : Hp) (a : Addr) (ns : List Int), ns.length ≤ n → SqL K H a (ns.map V.int) → sp [.ref a] H (fun v _ => v = .bl true) fun _ _ _ => False) ∧ ∀ base : Heap, K.In base → base.Ns mainGlobals mg → FnOk l.prog w K mg base (L2.CX l.prog w) k fa fd [x] sp) :
    PySem.W.WalkO q loose XP YP l.row.toRowW d [] (fun f vs => PySem.call f vs) := by
  refine Att.attach_call hn hd fun w s0 s1 mg mb fa o pm cd doc a vs ns G Y ho hd' hcd hmg hobj hi hlen hg => ?_
  obtain ⟨K, fd, sp, KX, hb, hsp, hF⟩ := h w mg fa _ Y G.T.g hmg
  refine law_call KX G.T.g G.T.b G.T.builtins G.T.nolimit hg hobj hi (Nat.le_trans hlen hn2) hr hF hb (fun H _ hS => hsp H a ns hlen hS) fun H e s' z => ?_
  obtain ⟨_, _, _, _, _, _, _, _, _, _, _, _, z⟩ := z
  exact z
end
end Tl
end
section
set_option Elab.async false
set_option linter.all false
set_option autoImplicit false
set_option maxRecDepth 100000
namespace Tl
open PySem PySem.Spec PyProof.Rows L2
/-! ### all defs, to a depth of calls -/
def phi (ds : List (Nat × Df)) : Nat → Nat → Fn
  | 0, _ => fun _ _ => .bad
  | _ + 1, 0 => mDraw
  | k + 1, i + 1 => match ds.lookup (i + 1) with
    | some d => fnD (phi ds k) d.ps.length d.N.length d.b
    | none => fun _ _ => .bad
def tab (nm : List Str) (ds : List (Nat × Df)) (gs : List (Str × D)) (cn : List Str) : Tab := ⟨nm, 0 :: ds.map (·.1), gs, cn⟩
section
variable {P : Program} {w : World} {K : PySem.W.Frag} {mg : Str → Option Value} {base : Heap} {cl : Cls}
theorem fn_bad {f : Addr} {fd : FuncData} {ps : List Str} : FnOk P w K mg base (L2.CX P w) 0 f fd ps (spF cl fun _ _ => .bad) :=
  ⟨fun _ _ _ _ ⟨_, _, _, _, _, _, _, _, h⟩ => False.elim h, fun _ _ _ _ _ _ _ _ _ _ _ _ _ ⟨_, _, _, _, _, _, _, _, h⟩ => False.elim h⟩
theorem lookup_of {i : Nat} : ∀ {ds : List (Nat × Df)}, i ∈ ds.map (·.1) → ∃ d, ds.lookup i = some d ∧ (i, d) ∈ ds
  | [], h => by cases h
  | (j, d) :: ds, h => by
    by_cases hj : i = j
    · subst hj
      exact ⟨d, by simp [List.lookup], .head _⟩
    · have h2 : i ∈ ds.map (·.1) := by
        rcases List.mem_cons.mp h with e | e
        · exact absurd e hj
        · exact e
      obtain ⟨d', h3, h4⟩ := lookup_of h2
      exact ⟨d', by simp [List.lookup, beq_eq_false_iff_ne.mpr hj, h3], .tail _ h4⟩
theorem all_ok {nm : List Str} {ds : List (Nat × Df)} {gs : List (Str × D)} {cn : List Str} (M : MgOk K mg cl (tab nm ds gs cn)) (h0 : nm[0]? = some ("_law_draw" : Str)) (hd : ∀ p ∈ ds, DfOk (tab nm ds gs cn) p.1 p.2)
    (hF : ∀ p ∈ ds, ∃ f fd kws, mg p.2.x = some (.ref f) ∧ FunD K p.2.x p.2.x (defArgs p.2.st) (defBody p.2.st) (defScope p.2.st) [] kws f fd)
    (hD : ∃ f fd, mg "_law_draw" = some (.ref f) ∧ PySem.W.keepIn K (.ref f) = true ∧ Binds K fd ["draws", "limit"] [] ∧ FnOk P w K mg base (L2.CX P w) 1 f fd ["draws", "limit"] (spF cl mDraw)) :
    ∀ k, FnsOk P w K mg base cl (tab nm ds gs cn).nm (tab nm ds gs cn).fs k (phi ds k) := by
  intro k
  induction k with
  | zero =>
    intro i hi
    rcases List.mem_cons.mp hi with rfl | hi
    · obtain ⟨f, fd, h1, h2, h3, _⟩ := hD
      exact ⟨_, f, fd, _, h0, h1, h2, h3, fn_bad⟩
    · obtain ⟨d, e1, e2⟩ := lookup_of hi
      obtain ⟨f, fd, kws, h1, h2⟩ := hF _ e2
      have D := hd _ e2
      exact ⟨_, f, fd, _, D.nmi, h1, h2.kp, h2.bindsN D.bnd, fn_bad⟩
  | succ k ih =>
    intro i hi
    cases i with
    | zero =>
      obtain ⟨f, fd, h1, h2, h3, h4⟩ := hD
      exact ⟨_, f, fd, _, h0, h1, h2, h3, h4.mono (by omega)⟩
    | succ i =>
      have hi : i + 1 ∈ ds.map (·.1) := by
        rcases List.mem_cons.mp hi with e | e
        · cases e
        · exact e
      obtain ⟨d, e1, e2⟩ := lookup_of hi
      obtain ⟨f, fd, kws, h1, h2⟩ := hF _ e2
      have D := hd _ e2
      refine ⟨_, f, fd, _, D.nmi, h1, h2.kp, h2.bindsN D.bnd, ?_⟩
      have e3 : phi ds (k + 1) (i + 1) = fnD (phi ds k) d.ps.length d.N.length d.b := by
        simp only [phi, e1]
      rw [e3]
      exact def_ok M ih D h2
end
/-! ### facts by names -/
def dfD (x : Str) (st : Stmt) : He.DefD := ⟨(x, none), x, x, defArgs st, defBody st, defScope st, [], []⟩
def gsFa : Str × D → List He.Fa
  | (x, .int i) => [.int x i]
  | (x, .str z) => [.str x z]
  | _ => []
def faOf (ds : List (Nat × Df)) (gs : List (Str × D)) (cn : List Str) : List He.Fa :=
  blts.map He.Fa.free ++ ((["_law_draw", "_law_start", "law"] : List Str).map He.Fa.glo ++ (ds.map (fun p => He.Fa.glo p.2.x) ++ (cn.map He.Fa.glo ++ (cn.map He.Fa.exc ++ gs.flatMap gsFa))))
def fnOf (ds : List (Nat × Df)) (sD sS sL : Stmt) : List He.DefD := dfD "_law_draw" sD :: dfD "_law_start" sS :: dfD "law" sL :: ds.map fun p => dfD p.2.x p.2.st
def okGs : Str × D → Bool
  | (_, .int _) => true
  | (_, .str z) => decide (z.length ≤ lim) && PyData.strOk z
  | _ => false
/-- what isinstance and except ask of the errors' classes -/
def excB (K : PySem.W.Frag) (D : Addr) : Bool := He.eqO (PySem.W.findIn K (.ref D) "__getattribute__") (some (some (.builtin "BaseException.__getattribute__"))) && (He.eqO (PySem.W.findIn K (.ref D) "__getattr__") (some none) && (decide (PySem.W.subIn K (.ref D) (.type "BaseException") = some true) && (PySem.W.hasDictIn K D &&
  (He.eqO (PySem.W.findIn K (.ref D) "__class__") (some (some (.builtin "object.__class__"))) && (He.eqO (PySem.W.specialIn K (.builtin "object.__class__") "__get__") (some (some (.builtin "getset_descriptor.__get__"))) && (decide (PySem.W.takesIn K (.builtin "object.__class__") = some true) && decide (PySem.W.mroIn K D (.type "object") = some true)))))))
def exB (cn : List Str) (K : PySem.W.Frag) : Bool := if cn.length = 6 then He.eqO (PySem.W.nsIn K mainGlobals "ListError") (some (some (.ref (He.ga K "ListError")))) && (He.eqO (PySem.W.nsIn K mainGlobals "ValueError") (some none) && (decide cn.Nodup && cn.all fun x => He.eqO (PySem.W.nsIn K mainGlobals x) (some (some (.ref (He.ga K x)))) && (excB K (He.ga K x) &&
  (decide (PySem.W.kitOne K (.ref (He.ga K x)) (.type "ValueError") = some true) && (decide (PySem.W.kitOne K (.ref (He.ga K x)) (.ref (He.ga K "ListError")) = some true) && (decide (PySem.W.exmOne K (.ref (He.ga K x)) (.ref (He.ga K "ListError")) = some true) && cn.all fun y => decide (PySem.W.kitOne K (.ref (He.ga K x)) (.ref (He.ga K y)) = some (decide (x = y)))))))))
  else true
def obsE (n : Nat) (fa : List He.Fa) (fn : List He.DefD) (cn : List Str) (g : Addr → Option Obj) : He.AlD × Bool := (He.obsD fa fn (He.frG g (He.asD g n)), exB cn (He.frG g (He.asD g n)))
def hookE (n : Nat) (fa : List He.Fa) (fn : List He.DefD) (cn : List Str) : PySem.W.Hook where
  α := He.AlD × Bool
  obs := fun s => obsE n fa fn cn s.heap.get?
  val := fun _ => (He.valD fn, true)
  says := fun _ h => ∃ K : PySem.W.Frag, K.In h ∧ He.SaysD fa fn K ∧ exB cn K = true
  of := fun _ _ e => ⟨_, He.frG_in, congrArg Prod.fst e, congrArg Prod.snd e⟩
  keeps := fun _ _ _ ⟨K, hK, c, x⟩ k => ⟨K, PySem.W.Frag.In.keeps hK k, c, x⟩
theorem obsE_eq {n : Nat} {fa : List He.Fa} {fn : List He.DefD} {cn : List Str} {g : Addr → Option Obj} {s : Shared} (h : ∀ a, g a = s.heap.get? a) : obsE n fa fn cn g = (hookE n fa fn cn).obs s := by
  have e : g = s.heap.get? := funext h
  rw [e] <;> rfl
section
variable {K : PySem.W.Frag} {h : Heap} {mg : Str → Option Value} {nm : List Str} {ds : List (Nat × Df)} {gs : List (Str × D)} {cn : List Str} {sD sS sL : Stmt}
theorem fact_of (c : He.SaysD (faOf ds gs cn) (fnOf ds sD sS sL) K) {f : He.Fa} (m : f ∈ faOf ds gs cn) : f.ok K = true := by
  obtain ⟨i, hi⟩ := List.mem_iff_getElem?.mp m
  exact c.fact i hi
def clOf (K : PySem.W.Frag) (cn : List Str) : Cls := fun c => He.ga K (cn.getD c "")
theorem exf_ok (X : K.In h) (G : h.Ns mainGlobals mg) (hx : exB cn K = true) (nm : List Str) : ExF K mg (clOf K cn) (tab nm ds gs cn) := by
  intro h6
  have h6 : cn.length = 6 := h6
  unfold exB at hx
  rw [if_pos h6] at hx
  obtain ⟨x1, hx⟩ := and2 hx
  obtain ⟨x2, hx⟩ := and2 hx
  obtain ⟨x3, hx⟩ := and2 hx
  have nd := of_decide_eq_true x3
  have all := List.all_eq_true.mp hx
  have ec : ∀ {i : Nat} {x : Str}, cn[i]? = some x → clOf K cn i = He.ga K x := fun {i x} e => by
    unfold clOf
    rw [List.getD_eq_getElem?_getD, e]
    rfl
  refine ⟨He.ga K "ListError", PySem.W.mg_of X G (He.eqO_ok x1), PySem.W.mg_none_of X G (He.eqO_ok x2), fun c x e => ?_, fun c hc => ?_⟩
  · have e : cn[c]? = some x := e
    obtain ⟨y1, _⟩ := and2 (all x (List.mem_of_getElem? e))
    rw [ec e]
    exact PySem.W.mg_of X G (He.eqO_ok y1)
  · have e : cn[c]? = some cn[c] := List.getElem?_eq_getElem (by omega)
    obtain ⟨_, y⟩ := and2 (all _ (List.mem_of_getElem? e))
    obtain ⟨y2, y⟩ := and2 y
    obtain ⟨y3, y⟩ := and2 y
    obtain ⟨y4, y⟩ := and2 y
    obtain ⟨y5, y6⟩ := and2 y
    rw [ec e]
    refine ⟨?_, of_decide_eq_true y3, of_decide_eq_true y4, of_decide_eq_true y5, fun d hd => ?_⟩
    · obtain ⟨z1, z⟩ := and2 y2
      obtain ⟨z2, z⟩ := and2 z
      obtain ⟨z3, z⟩ := and2 z
      obtain ⟨z4, z⟩ := and2 z
      obtain ⟨z5, z⟩ := and2 z
      obtain ⟨z6, z⟩ := and2 z
      obtain ⟨z7, z8⟩ := and2 z
      exact ⟨He.eqO_ok z1, He.eqO_ok z2, of_decide_eq_true z3, z4, He.eqO_ok z5, He.eqO_ok z6, of_decide_eq_true z7, of_decide_eq_true z8⟩
    · have e2 : cn[d]? = some cn[d] := List.getElem?_eq_getElem (by omega)
      rw [ec e2, of_decide_eq_true (List.all_eq_true.mp y6 _ (List.mem_of_getElem? e2))]
      congr 1
      by_cases hcd : c = d
      · subst hcd
        simp
      · have : cn[c] ≠ cn[d] := fun z => hcd ((List.getElem_inj nd).mp z)
        rw [decide_eq_false this, beq_eq_false_iff_ne.mpr hcd]
theorem mg_ok (X : K.In h) (G : h.Ns mainGlobals mg) (c : He.SaysD (faOf ds gs cn) (fnOf ds sD sS sL) K) (hx : exB cn K = true) (nm : List Str) (hg : gs.all okGs = true) : MgOk K mg (clOf K cn) (tab nm ds gs cn) := by
  refine ⟨fun x hx => ?_, fun p hp => ?_, fun i x e => ?_, exf_ok X G hx nm⟩
  · refine He.free_ok X G (fact_of c ?_)
    exact List.mem_append_left _ (List.mem_map_of_mem hx)
  · have hp : p ∈ gs := hp
    have ok := List.all_eq_true.mp hg p hp
    obtain ⟨x, d⟩ := p
    cases d with
    | int i =>
      have m : He.Fa.int x i ∈ faOf ds gs cn := by
        unfold faOf
        simp only [List.mem_append]
        exact .inr (.inr (.inr (.inr (.inr (List.mem_flatMap.mpr ⟨_, hp, .head _⟩)))))
      obtain ⟨t, e⟩ := He.int_ok X G (fact_of c m)
      exact ⟨.int i, _, e, ⟨t, rfl⟩, fun _ => .int i⟩
    | str z =>
      have m : He.Fa.str x z ∈ faOf ds gs cn := by
        unfold faOf
        simp only [List.mem_append]
        exact .inr (.inr (.inr (.inr (.inr (List.mem_flatMap.mpr ⟨_, hp, .head _⟩)))))
      obtain ⟨t, e⟩ := He.str_ok X G (fact_of c m)
      obtain ⟨o1, o2⟩ := and2 ok
      exact ⟨.str z, _, e, ⟨t, rfl⟩, fun _ => .str z (of_decide_eq_true o1) o2⟩
    | _ => cases ok
  · have e : cn[i]? = some x := e
    have hx : x ∈ cn := List.mem_of_getElem? e
    have ec : clOf K cn i = He.ga K x := by
      unfold clOf
      rw [List.getD_eq_getElem?_getD, e]
      rfl
    have m1 : He.Fa.glo x ∈ faOf ds gs cn := by
      unfold faOf
      simp only [List.mem_append]
      exact .inr (.inr (.inr (.inl (List.mem_map_of_mem hx))))
    have m2 : He.Fa.exc x ∈ faOf ds gs cn := by
      unfold faOf
      simp only [List.mem_append]
      exact .inr (.inr (.inr (.inr (.inl (List.mem_map_of_mem hx)))))
    rw [ec]
    obtain ⟨q1, q2, q3, q4⟩ := He.exc_ok (fact_of c m2)
    exact ⟨He.glo_ok X G (fact_of c m1), q1, q2, q3, q4⟩
theorem fun_ok (X : K.In h) (G : h.Ns mainGlobals mg) (c : He.SaysD (faOf ds gs cn) (fnOf ds sD sS sL) K) {x : Str} {st : Stmt} (m : dfD x st ∈ fnOf ds sD sS sL) (m2 : He.Fa.glo x ∈ faOf ds gs cn) :
    ∃ f fd, mg x = some (.ref f) ∧ FunD K x x (defArgs st) (defBody st) (defScope st) [] [] f fd := by
  obtain ⟨i, hi⟩ := List.mem_iff_getElem?.mp m
  obtain ⟨fd, F⟩ := c.def_ i hi
  exact ⟨_, fd, He.glo_ok X G (fact_of c m2), F⟩
/-- the law's def, from the facts of the head -/
theorem law_end {P : Program} {w : World} {fa : Addr} (X : K.In h) (G : h.Ns mainGlobals mg) (hfa : mg "law" = some (.ref fa)) (c : He.SaysD (faOf ds gs cn) (fnOf ds sD sS sL) K) (hx : exB cn K = true) (hg : gs.all okGs = true) (h0 : nm[0]? = some ("_law_draw" : Str)) (hd : ∀ p ∈ ds, DfOk (tab nm ds gs cn) p.1 p.2) {N : List Str} {b : Sm} {k : Nat}
    (S : FnScope N ["script"] (defScope sL)) (ok : okLaw (tab nm ds gs cn) ⟨N, defScope sL, fun _ => true⟩ b (defBody sL) = true) (h2 : 2 ≤ N.length)
    (bD : ∀ (kV doc pm : Value) (an : Option Addr) (cdv ct : Value) (us : List Value), us.length = 2 → bindArgs (PySem.W.fnOf "_law_draw" "_law_draw" (defArgs sD) (defBody sD) (defScope sD) .none kV doc pm an cdv ct) ⟨us, []⟩ = pure ((["draws", "limit"] : List Str).zip us))
    (bS : ∀ (kV doc pm : Value) (an : Option Addr) (cdv ct : Value) (us : List Value), us.length = 1 → bindArgs (PySem.W.fnOf "_law_start" "_law_start" (defArgs sS) (defBody sS) (defScope sS) .none kV doc pm an cdv ct) ⟨us, []⟩ = pure ((["script"] : List Str).zip us))
    (bL : ∀ (kV doc pm : Value) (an : Option Addr) (cdv ct : Value) (us : List Value), us.length = 1 → bindArgs (PySem.W.fnOf "law" "law" (defArgs sL) (defBody sL) (defScope sL) .none kV doc pm an cdv ct) ⟨us, []⟩ = pure ((["script"] : List Str).zip us))
    (oD : ∀ {base : Heap} {cl : Cls} {f : Addr} {fd : FuncData}, FunD K "_law_draw" "_law_draw" (defArgs sD) (defBody sD) (defScope sD) [] [] f fd → mg "len" = none → FnOk P w K mg base (L2.CX P w) 1 f fd ["draws", "limit"] (spF cl mDraw))
    (oS : ∀ {base : Heap} {f : Addr} {fd : FuncData}, FunD K "_law_start" "_law_start" (defArgs sS) (defBody sS) (defScope sS) [] [] f fd → mg "list" = none → FnOk P w K mg base (L2.CX P w) 1 f fd ["script"] (spStart K))
    (hm : ∀ ns : List Int, ns ≠ [] → ns.length ≤ 1000 → ∃ g, evS (phi ds (k + 1)) b (.und :: .drw :: List.replicate (N.length - 2) .und) (some (ns, 0)) = .rt (.bool true) g) :
    ∃ fd : FuncData, (∀ (s : Shared) (v : Value), BindsTo s fd ⟨[v], []⟩ [("script", v)]) ∧ ∀ base : Heap, K.In base → base.Ns mainGlobals mg → FnOk P w K mg base (L2.CX P w) (k + 2) fa fd ["script"] (spLaw K) := by
  have M := mg_ok X G c hx nm hg
  have gl : ∀ x ∈ (["_law_draw", "_law_start", "law"] : List Str), He.Fa.glo x ∈ faOf ds gs cn := fun x hx => by
    unfold faOf
    simp only [List.mem_append]
    exact .inr (.inl (List.mem_map_of_mem hx))
  obtain ⟨fD, fdD, gD, FD⟩ := fun_ok (x := "_law_draw") (st := sD) X G c (.head _) (gl _ (.head _))
  obtain ⟨fS, fdS, gS, FS⟩ := fun_ok (x := "_law_start") (st := sS) X G c (.tail _ (.head _)) (gl _ (.tail _ (.head _)))
  obtain ⟨fL, fd, gL, FL⟩ := fun_ok (x := "law") (st := sL) X G c (.tail _ (.tail _ (.head _))) (gl _ (.tail _ (.tail _ (.head _))))
  have e := hfa.symm.trans gL
  cases e
  have b1 := FunD.bindsA (ps := ["script"]) FL bL
  refine ⟨fd, fun s v => b1 s [v] rfl, fun base _ _ => ?_⟩
  have fns := all_ok (P := P) (w := w) (base := base) M h0 hd (fun p hd' => by
    obtain ⟨f, fd, g1, F1⟩ := fun_ok (x := p.2.x) (st := p.2.st) X G c (.tail _ (.tail _ (.tail _ (List.mem_map_of_mem (f := fun p : Nat × Df => dfD p.2.x p.2.st) hd')))) (by
      unfold faOf
      simp only [List.mem_append]
      exact .inr (.inr (.inl (List.mem_map_of_mem (f := fun p : Nat × Df => He.Fa.glo p.2.x) hd'))))
    exact ⟨f, fd, [], g1, F1⟩) ⟨fD, fdD, gD, FD.kp, FD.bindsN bD, oD FD (M.blt _ (by decide +kernel))⟩ (k + 1)
  exact law_ok M fns S ok FL gS FS.kp (FS.bindsN bS) ((oS FS (M.blt _ (by decide +kernel))).mono (by omega)) h2 hm
end
end Tl
end
section
set_option Elab.async false
set_option linter.all false
set_option autoImplicit false
set_option maxRecDepth 100000
namespace Tl
open PySem
def nm0 : List Str := ["_law_draw", "is_int", "is_full", "check_full", "check_both", "row_of", "overlap_row", "overlap", "common_things", "new_common", "common", "lowest", "plus", "mean_overlap", "meeting_depth", "waiting", "is_row", "_law_pick", "_law_list", "_law_row", "_law_low", "check_size", "waits_of", "check_row", "ways_of", "count_others", "other_with", "rows_of", "all_rows", "count_rows"]
def nm1 : List Str := ["row_at", "rank_of", "first_fault", "_law_true", "_law_all", "rows_with_total", "_law_error", "_law_total", "better", "is_fair", "is_fair_list", "first_unfair", "last_places", "by_turns", "ways", "count_fair", "rest_ways", "fair_at", "_law_fair", "depth_for", "check_things", "depth_for_all", "depth_for_any", "meeting_order", "full_depths", "empty_depth", "cheapest", "_law_cheapest", "is_short", "check_short"]
def nm2 : List Str := ["check_shorts", "listed", "is_known", "is_ahead", "kinds_of", "pairs_of", "distance_range", "shared", "alone", "agree", "rest_of", "nearest_fill", "farthest_fill", "place_range", "count_fills", "_law_short", "_law_orders", "_law_otherwise", "_law_fills", "prefix", "count_otherwise", "check_long", "can_extend", "check_lists", "letters_of", "turns", "place_in", "by_best_place", "by_sum", "place_sums"]
def nm3 : List Str := ["by_votes", "_law_place", "beats", "unbeaten", "sure_order", "exchanged", "moved", "renamed", "places", "seen_from", "backward", "without_thing", "_law_single", "_law_call", "format_full", "parse_full", "format_short", "parse_short", "_law_written", "_law_parsed", "_law_rejected", "_law_shorts", "_wall", "_law_two", "_law_three", "_law_single", "_law_asked", "_law_numbers", "_law_pair", "_law_lists"]
def nm4 : List Str := ["_law_call", "_law_asked", "_law_rows", "_law_letters", "_law_first", "_law_second", "_law_kinds"]
def nmAll : List Str := nm0 ++ nm1 ++ nm2 ++ nm3 ++ nm4
def b_is_int : Sm := (.cons (.ret (.and (.isi (.var 0) .int) (.and (.un .notv (.isi (.var 0) .bool)) (.le2 (.var 1) (.var 0) (.var 2)))))
  .nil)
class F_is_int (Φ : Nat → Nat → Fn) : Prop where
  eq : ∀ k, Φ (k + 1) 1 = fnD (Φ k) 3 3 b_is_int
def b_is_full : Sm := (.cons (.ite (.or (.un .notv (.isi (.var 0) .list)) (.un .notv (.le2 (.con (.int (1))) (.un .len (.var 0)) (.glo 0 (.int 7)))))
  (.cons (.ret (.con (.bool false)))
  .nil)
  .nil)
  (.cons (.ite (.un .notv (.un .all (.lc (.nm 1) (.itl (.var 0)) (.con (.bool true)) (.call 1 (.cons (.var 1) (.cons (.con (.int (0))) (.cons (.bi .sub (.un .len (.var 0)) (.con (.int (1)))) .nil)))))))
  (.cons (.ret (.con (.bool false)))
  .nil)
  .nil)
  (.cons (.ret (.bi .eq (.un .lenset (.var 0)) (.un .len (.var 0))))
  .nil)))
class F_is_full (Φ : Nat → Nat → Fn) : Prop where
  eq : ∀ k, Φ (k + 1) 2 = fnD (Φ k) 1 2 b_is_full
def b_check_full : Sm := (.cons (.ite (.un .notv (.call 2 (.cons (.var 0) .nil)))
  (.cons (.raise 0)
  .nil)
  .nil)
  .nil)
class F_check_full (Φ : Nat → Nat → Fn) : Prop where
  eq : ∀ k, Φ (k + 1) 3 = fnD (Φ k) 1 1 b_check_full
def b_check_both : Sm := (.cons (.drop (.call 3 (.cons (.var 0) .nil)))
  (.cons (.drop (.call 3 (.cons (.var 1) .nil)))
  (.cons (.ite (.bi .ne (.un .len (.var 0)) (.un .len (.var 1)))
  (.cons (.raise 0)
  .nil)
  .nil)
  .nil)))
class F_check_both (Φ : Nat → Nat → Fn) : Prop where
  eq : ∀ k, Φ (k + 1) 4 = fnD (Φ k) 2 2 b_check_both
def b_row_of : Sm := (.cons (.mk 2 (.lst .nil))
  (.cons (.for_ (.nm 3) (.rng2 (.con (.int (1))) (.bi .add (.un .len (.var 0)) (.con (.int (1)))))
  (.cons (.app 2 (.un .len (.lc (.nm 4) (.itl (.bi .upto (.var 0) (.var 3))) (.bi .isin (.var 4) (.bi .upto (.var 1) (.var 3))) (.var 4))))
  .nil))
  (.cons (.frz 2)
  (.cons (.ret (.var 2))
  .nil))))
class F_row_of (Φ : Nat → Nat → Fn) : Prop where
  eq : ∀ k, Φ (k + 1) 5 = fnD (Φ k) 2 5 b_row_of
def b_overlap_row : Sm := (.cons (.drop (.call 4 (.cons (.var 0) (.cons (.var 1) .nil))))
  (.cons (.ret (.call 5 (.cons (.var 0) (.cons (.var 1) .nil))))
  .nil))
class F_overlap_row (Φ : Nat → Nat → Fn) : Prop where
  eq : ∀ k, Φ (k + 1) 6 = fnD (Φ k) 2 2 b_overlap_row
def b_overlap : Sm := (.cons (.drop (.call 4 (.cons (.var 0) (.cons (.var 1) .nil))))
  (.cons (.ite (.un .notv (.call 1 (.cons (.var 2) (.cons (.con (.int (0))) (.cons (.un .len (.var 0)) .nil)))))
  (.cons (.raise 1)
  .nil)
  .nil)
  (.cons (.ret (.un .len (.lc (.nm 3) (.itl (.bi .upto (.var 0) (.var 2))) (.bi .isin (.var 3) (.bi .upto (.var 1) (.var 2))) (.var 3))))
  .nil)))
class F_overlap (Φ : Nat → Nat → Fn) : Prop where
  eq : ∀ k, Φ (k + 1) 7 = fnD (Φ k) 3 4 b_overlap
def b_common_things : Sm := (.cons (.drop (.call 4 (.cons (.var 0) (.cons (.var 1) .nil))))
  (.cons (.ite (.un .notv (.call 1 (.cons (.var 2) (.cons (.con (.int (0))) (.cons (.un .len (.var 0)) .nil)))))
  (.cons (.raise 1)
  .nil)
  .nil)
  (.cons (.ret (.un .sorted (.lc (.nm 3) (.itl (.bi .upto (.var 0) (.var 2))) (.bi .isin (.var 3) (.bi .upto (.var 1) (.var 2))) (.var 3))))
  .nil)))
class F_common_things (Φ : Nat → Nat → Fn) : Prop where
  eq : ∀ k, Φ (k + 1) 8 = fnD (Φ k) 3 4 b_common_things
def b_new_common : Sm := (.cons (.drop (.call 4 (.cons (.var 0) (.cons (.var 1) .nil))))
  (.cons (.mk 2 (.lst .nil))
  (.cons (.for_ (.nm 3) (.rng2 (.con (.int (1))) (.bi .add (.un .len (.var 0)) (.con (.int (1)))))
  (.cons (.asg 4 (.lc (.nm 5) (.itl (.bi .upto (.var 0) (.bi .sub (.var 3) (.con (.int (1)))))) (.bi .isin (.var 5) (.bi .upto (.var 1) (.bi .sub (.var 3) (.con (.int (1)))))) (.var 5)))
  (.cons (.app 2 (.un .sorted (.lc (.nm 5) (.itl (.bi .upto (.var 0) (.var 3))) (.and (.bi .isin (.var 5) (.bi .upto (.var 1) (.var 3))) (.bi .notin (.var 5) (.var 4))) (.var 5))))
  .nil)))
  (.cons (.frz 2)
  (.cons (.ret (.var 2))
  .nil)))))
class F_new_common (Φ : Nat → Nat → Fn) : Prop where
  eq : ∀ k, Φ (k + 1) 9 = fnD (Φ k) 2 6 b_new_common
def b_common : Sm := (.cons (.whl 1000000 (.bi .ne (.var 1) (.con (.int (0))))
  (.cons (.par (.two 0 1) [false, false] (.cons (.var 1) (.cons (.bi .mod (.var 0) (.var 1)) .nil)))
  .nil))
  (.cons (.ret (.var 0))
  .nil))
class F_common (Φ : Nat → Nat → Fn) : Prop where
  eq : ∀ k, Φ (k + 1) 10 = fnD (Φ k) 2 2 b_common
def b_lowest : Sm := (.cons (.asg 2 (.call 10 (.cons (.var 0) (.cons (.var 1) .nil))))
  (.cons (.ret (.tup (.cons (.bi .fdiv (.var 0) (.var 2)) (.cons (.bi .fdiv (.var 1) (.var 2)) .nil))))
  .nil))
class F_lowest (Φ : Nat → Nat → Fn) : Prop where
  eq : ∀ k, Φ (k + 1) 11 = fnD (Φ k) 2 3 b_lowest
def b_plus : Sm := (.cons (.ret (.call 11 (.cons (.bi .add (.bi .mul (.bi .idx (.var 0) (.con (.int (0)))) (.bi .idx (.var 1) (.con (.int (1))))) (.bi .mul (.bi .idx (.var 1) (.con (.int (0)))) (.bi .idx (.var 0) (.con (.int (1)))))) (.cons (.bi .mul (.bi .idx (.var 0) (.con (.int (1)))) (.bi .idx (.var 1) (.con (.int (1))))) .nil))))
  .nil)
class F_plus (Φ : Nat → Nat → Fn) : Prop where
  eq : ∀ k, Φ (k + 1) 12 = fnD (Φ k) 2 2 b_plus
def b_mean_overlap : Sm := (.cons (.drop (.call 4 (.cons (.var 0) (.cons (.var 1) .nil))))
  (.cons (.asg 2 (.tup (.cons (.con (.int (0))) (.cons (.con (.int (1))) .nil))))
  (.cons (.for_ (.two 3 4) (.enum (.call 5 (.cons (.var 0) (.cons (.var 1) .nil))))
  (.cons (.asg 2 (.call 12 (.cons (.var 2) (.cons (.call 11 (.cons (.var 4) (.cons (.bi .add (.var 3) (.con (.int (1)))) .nil))) .nil))))
  .nil))
  (.cons (.ret (.call 11 (.cons (.bi .idx (.var 2) (.con (.int (0)))) (.cons (.bi .mul (.bi .idx (.var 2) (.con (.int (1)))) (.un .len (.var 0))) .nil))))
  .nil))))
class F_mean_overlap (Φ : Nat → Nat → Fn) : Prop where
  eq : ∀ k, Φ (k + 1) 13 = fnD (Φ k) 2 5 b_mean_overlap
def b_meeting_depth : Sm := (.cons (.drop (.call 4 (.cons (.var 0) (.cons (.var 1) .nil))))
  (.cons (.ite (.un .notv (.call 1 (.cons (.var 2) (.cons (.con (.int (0))) (.cons (.bi .sub (.un .len (.var 0)) (.con (.int (1)))) .nil)))))
  (.cons (.raise 1)
  .nil)
  .nil)
  (.cons (.ret (.bi .add (.con (.int (1))) (.bi .max2 (.bi .index (.var 0) (.var 2)) (.bi .index (.var 1) (.var 2)))))
  .nil)))
class F_meeting_depth (Φ : Nat → Nat → Fn) : Prop where
  eq : ∀ k, Φ (k + 1) 14 = fnD (Φ k) 3 3 b_meeting_depth
def b_waiting : Sm := (.cons (.drop (.call 4 (.cons (.var 0) (.cons (.var 1) .nil))))
  (.cons (.ite (.un .notv (.call 1 (.cons (.var 2) (.cons (.con (.int (0))) (.cons (.un .len (.var 0)) .nil)))))
  (.cons (.raise 1)
  .nil)
  .nil)
  (.cons (.asg 3 (.un .sorted (.lc (.nm 4) (.itl (.bi .upto (.var 0) (.var 2))) (.bi .notin (.var 4) (.bi .upto (.var 1) (.var 2))) (.var 4))))
  (.cons (.ret (.tup (.cons (.var 3) (.cons (.un .sorted (.lc (.nm 4) (.itl (.bi .upto (.var 1) (.var 2))) (.bi .notin (.var 4) (.bi .upto (.var 0) (.var 2))) (.var 4))) .nil))))
  .nil))))
class F_waiting (Φ : Nat → Nat → Fn) : Prop where
  eq : ∀ k, Φ (k + 1) 15 = fnD (Φ k) 3 5 b_waiting
def b_is_row : Sm := (.cons (.ite (.or (.un .notv (.isi (.var 0) .list)) (.or (.un .notv (.le2 (.con (.int (1))) (.un .len (.var 0)) (.con (.int (7))))) (.un .notv (.un .all (.lc (.nm 3) (.itl (.var 0)) (.con (.bool true)) (.call 1 (.cons (.var 3) (.cons (.con (.int (0))) (.cons (.con (.int (7))) .nil)))))))))
  (.cons (.ret (.con (.bool false)))
  .nil)
  .nil)
  (.cons (.asg 1 (.con (.int (0))))
  (.cons (.for_ (.two 2 3) (.enum (.var 0))
  (.cons (.ite (.or (.un .notv (.le2 (.var 1) (.var 3) (.bi .add (.var 1) (.con (.int (2)))))) (.bi .gt (.var 3) (.bi .add (.var 2) (.con (.int (1))))))
  (.cons (.ret (.con (.bool false)))
  .nil)
  .nil)
  (.cons (.asg 1 (.var 3))
  .nil)))
  (.cons (.ret (.bi .eq (.var 1) (.un .len (.var 0))))
  .nil))))
class F_is_row (Φ : Nat → Nat → Fn) : Prop where
  eq : ∀ k, Φ (k + 1) 16 = fnD (Φ k) 1 4 b_is_row
def b_law_pick : Sm := (.cons (.ret (.bi .idx (.var 1) (.call 0 (.cons (.var 0) (.cons (.un .len (.var 1)) .nil)))))
  .nil)
class F_law_pick (Φ : Nat → Nat → Fn) : Prop where
  eq : ∀ k, Φ (k + 1) 17 = fnD (Φ k) 2 2 b_law_pick
def b_law_list : Sm := (.cons (.mk 2 (.un .lrange (.var 1)))
  (.cons (.mk 3 (.lst .nil))
  (.cons (.whl 1000000 (.bi .ne (.var 2) (.lst .nil))
  (.cons (.asg 4 (.ite (.bi .eq (.call 0 (.cons (.var 0) (.cons (.con (.int (3))) .nil))) (.con (.int (0)))) (.bi .idx (.var 2) (.con (.int (0)))) (.bor (.call 17 (.cons (.var 0) (.cons (.var 2) .nil))))))
  (.cons (.rem 2 (.var 4))
  (.cons (.app 3 (.var 4))
  .nil))))
  (.cons (.frz 3)
  (.cons (.ret (.var 3))
  .nil)))))
class F_law_list (Φ : Nat → Nat → Fn) : Prop where
  eq : ∀ k, Φ (k + 1) 18 = fnD (Φ k) 2 5 b_law_list
def b_law_row : Sm := (.cons (.ret (.lc (.nm 2) (.rng1 (.un .len (.var 0))) (.con (.bool true)) (.un .len (.lc (.nm 3) (.itl (.bi .upto (.var 0) (.bi .add (.var 2) (.con (.int (1)))))) (.bi .isin (.var 3) (.bi .upto (.var 1) (.bi .add (.var 2) (.con (.int (1)))))) (.var 3)))))
  .nil)
class F_law_row (Φ : Nat → Nat → Fn) : Prop where
  eq : ∀ k, Φ (k + 1) 19 = fnD (Φ k) 2 4 b_law_row
def b_law_low : Sm := (.cons (.par (.two 2 3) [false, false] (.cons (.un .abs (.var 0)) (.cons (.var 1) .nil)))
  (.cons (.whl 1000000 (.bi .ne (.var 3) (.con (.int (0))))
  (.cons (.par (.two 2 3) [false, false] (.cons (.var 3) (.cons (.bi .mod (.var 2) (.var 3)) .nil)))
  .nil))
  (.cons (.ret (.tup (.cons (.bi .fdiv (.var 0) (.var 2)) (.cons (.bi .fdiv (.var 1) (.var 2)) .nil))))
  .nil)))
class F_law_low (Φ : Nat → Nat → Fn) : Prop where
  eq : ∀ k, Φ (k + 1) 20 = fnD (Φ k) 2 4 b_law_low
def b_check_size : Sm := (.cons (.ite (.un .notv (.call 1 (.cons (.var 0) (.cons (.con (.int (1))) (.cons (.glo 0 (.int 7)) .nil)))))
  (.cons (.raise 1)
  .nil)
  .nil)
  .nil)
class F_check_size (Φ : Nat → Nat → Fn) : Prop where
  eq : ∀ k, Φ (k + 1) 21 = fnD (Φ k) 1 1 b_check_size
def b_waits_of : Sm := (.cons (.ret (.lc (.two 1 2) (.enum (.bi .add (.lst (.cons (.con (.int (0))) .nil)) (.bi .upto (.var 0) (.un .neg (.con (.int (1))))))) (.con (.bool true)) (.bi .sub (.var 1) (.var 2))))
  .nil)
class F_waits_of (Φ : Nat → Nat → Fn) : Prop where
  eq : ∀ k, Φ (k + 1) 22 = fnD (Φ k) 1 3 b_waits_of
def b_check_row : Sm := (.cons (.ite (.un .notv (.call 16 (.cons (.var 0) .nil)))
  (.cons (.raise 2)
  .nil)
  .nil)
  .nil)
class F_check_row (Φ : Nat → Nat → Fn) : Prop where
  eq : ∀ k, Φ (k + 1) 23 = fnD (Φ k) 1 1 b_check_row
def b_ways_of : Sm := (.cons (.asg 1 (.con (.int (1))))
  (.cons (.asg 2 (.con (.int (0))))
  (.cons (.for_ (.two 3 4) (.zip (.var 0) (.call 22 (.cons (.var 0) .nil)))
  (.cons (.aug 1 .mul (.bi .idx (.tup (.cons (.con (.int (1))) (.cons (.bi .add (.bi .mul (.con (.int (2))) (.var 4)) (.con (.int (1)))) (.cons (.bi .mul (.var 4) (.var 4)) .nil)))) (.bi .sub (.var 3) (.var 2))))
  (.cons (.asg 2 (.var 3))
  .nil)))
  (.cons (.ret (.var 1))
  .nil))))
class F_ways_of (Φ : Nat → Nat → Fn) : Prop where
  eq : ∀ k, Φ (k + 1) 24 = fnD (Φ k) 1 5 b_ways_of
def b_count_others : Sm := (.cons (.drop (.call 23 (.cons (.var 0) .nil)))
  (.cons (.ret (.call 24 (.cons (.var 0) .nil)))
  .nil))
class F_count_others (Φ : Nat → Nat → Fn) : Prop where
  eq : ∀ k, Φ (k + 1) 25 = fnD (Φ k) 1 1 b_count_others
def b_other_with : Sm := (.cons (.drop (.call 3 (.cons (.var 0) .nil)))
  (.cons (.drop (.call 23 (.cons (.var 1) .nil)))
  (.cons (.ite (.bi .ne (.un .len (.var 1)) (.un .len (.var 0)))
  (.cons (.raise 2)
  .nil)
  .nil)
  (.cons (.mk 2 (.bi .mul (.lst (.cons (.con .none) .nil)) (.un .len (.var 0))))
  (.cons (.mk 3 (.lst .nil))
  (.cons (.asg 4 (.con (.int (0))))
  (.cons (.for_ (.two 5 6) (.enum (.var 1))
  (.cons (.ite (.bi .eq (.bi .sub (.var 6) (.var 4)) (.con (.int (0))))
  (.cons (.app 3 (.var 5))
  .nil)
  (.cons (.ite (.bi .eq (.bi .sub (.var 6) (.var 4)) (.con (.int (1))))
  (.cons (.seti 2 (.var 5) (.bi .idx (.var 0) (.var 5)))
  .nil)
  (.cons (.asg 7 (.bi .idx (.var 3) (.con (.int (0)))))
  (.cons (.mk 3 (.bi .from_ (.var 3) (.con (.int (1)))))
  (.cons (.seti2 2 (.var 7) (.var 5) (.bi .idx (.var 0) (.var 5)) (.bi .idx (.var 0) (.var 7)))
  .nil))))
  .nil))
  (.cons (.asg 4 (.var 6))
  .nil)))
  (.cons (.frz 2)
  (.cons (.ret (.var 2))
  .nil)))))))))
class F_other_with (Φ : Nat → Nat → Fn) : Prop where
  eq : ∀ k, Φ (k + 1) 26 = fnD (Φ k) 2 8 b_other_with
def b_rows_of : Sm := (.cons (.asg 1 (.lst (.cons (.lst .nil) .nil)))
  (.cons (.for_ (.nm 2) (.rng1 (.var 0))
  (.cons (.mk 3 (.lst .nil))
  (.cons (.for_ (.nm 4) (.itl (.var 1))
  (.cons (.asg 5 (.ite (.bi .ne (.var 4) (.lst .nil)) (.bi .idx (.var 4) (.un .neg (.con (.int (1))))) (.con (.int (0)))))
  (.cons (.for_ (.nm 6) (.rng2 (.var 5) (.bi .add (.var 5) (.con (.int (3)))))
  (.cons (.ite (.le2 (.bi .sub (.bi .mul (.con (.int (2))) (.bi .add (.var 2) (.con (.int (1))))) (.var 0)) (.var 6) (.bi .add (.var 2) (.con (.int (1)))))
  (.cons (.app 3 (.bi .add (.var 4) (.lst (.cons (.var 6) .nil))))
  .nil)
  .nil)
  .nil))
  .nil)))
  (.cons (.frz 3)
  (.cons (.asg 1 (.var 3))
  .nil)))))
  (.cons (.ret (.var 1))
  .nil)))
class F_rows_of (Φ : Nat → Nat → Fn) : Prop where
  eq : ∀ k, Φ (k + 1) 27 = fnD (Φ k) 1 7 b_rows_of
def b_all_rows : Sm := (.cons (.drop (.call 21 (.cons (.var 0) .nil)))
  (.cons (.ret (.call 27 (.cons (.var 0) .nil)))
  .nil))
class F_all_rows (Φ : Nat → Nat → Fn) : Prop where
  eq : ∀ k, Φ (k + 1) 28 = fnD (Φ k) 1 1 b_all_rows
def b_count_rows : Sm := (.cons (.ite (.un .notv (.call 1 (.cons (.var 0) (.cons (.con (.int (1))) (.cons (.con (.int (20))) .nil)))))
  (.cons (.raise 1)
  .nil)
  .nil)
  (.cons (.asg 1 (.lst (.cons (.con (.int (1))) .nil)))
  (.cons (.for_ (.nm 2) (.rng1 (.var 0))
  (.cons (.mk 3 (.bi .mul (.lst (.cons (.con (.int (0))) .nil)) (.bi .add (.un .len (.var 1)) (.con (.int (1))))))
  (.cons (.for_ (.two 4 5) (.enum (.var 1))
  (.cons (.for_ (.nm 6) (.itt (.tup (.cons (.con (.int (0))) (.cons (.con (.int (1))) (.cons (.con (.int (2))) .nil)))))
  (.cons (.ite (.bi .ge (.bi .sub (.bi .add (.var 4) (.con (.int (1)))) (.var 6)) (.con (.int (0))))
  (.cons (.augi 3 (.bi .sub (.bi .add (.var 4) (.con (.int (1)))) (.var 6)) .add (.var 5))
  .nil)
  .nil)
  .nil))
  .nil))
  (.cons (.frz 3)
  (.cons (.asg 1 (.var 3))
  .nil)))))
  (.cons (.ret (.bi .idx (.var 1) (.con (.int (0)))))
  .nil))))
class F_count_rows (Φ : Nat → Nat → Fn) : Prop where
  eq : ∀ k, Φ (k + 1) 29 = fnD (Φ k) 1 7 b_count_rows
def b_rank_of : Sm := (.cons (.drop (.call 23 (.cons (.var 0) .nil)))
  (.cons (.ret (.bi .index (.call 27 (.cons (.un .len (.var 0)) .nil)) (.var 0)))
  .nil))
class F_rank_of (Φ : Nat → Nat → Fn) : Prop where
  eq : ∀ k, Φ (k + 1) 31 = fnD (Φ k) 1 1 b_rank_of
def b_first_fault : Sm := (.cons (.ite (.or (.un .notv (.isi (.var 0) .list)) (.or (.un .notv (.le2 (.con (.int (1))) (.un .len (.var 0)) (.con (.int (7))))) (.un .notv (.un .all (.lc (.nm 3) (.itl (.var 0)) (.con (.bool true)) (.call 1 (.cons (.var 3) (.cons (.con (.int (0))) (.cons (.con (.int (7))) .nil)))))))))
  (.cons (.raise 2)
  .nil)
  .nil)
  (.cons (.asg 1 (.con (.int (0))))
  (.cons (.for_ (.two 2 3) (.enum (.var 0))
  (.cons (.ite (.or (.un .notv (.le2 (.var 1) (.var 3) (.bi .add (.var 1) (.con (.int (2)))))) (.un .notv (.le2 (.bi .sub (.bi .mul (.con (.int (2))) (.bi .add (.var 2) (.con (.int (1))))) (.un .len (.var 0))) (.var 3) (.bi .add (.var 2) (.con (.int (1)))))))
  (.cons (.ret (.bi .add (.var 2) (.con (.int (1)))))
  .nil)
  .nil)
  (.cons (.asg 1 (.var 3))
  .nil)))
  (.cons (.ret (.con .none))
  .nil))))
class F_first_fault (Φ : Nat → Nat → Fn) : Prop where
  eq : ∀ k, Φ (k + 1) 32 = fnD (Φ k) 1 4 b_first_fault
def b_law_true : Sm := (.cons (.ret (.and (.isi (.var 0) .bool) (.bi .eq (.var 0) (.var 1))))
  .nil)
class F_law_true (Φ : Nat → Nat → Fn) : Prop where
  eq : ∀ k, Φ (k + 1) 33 = fnD (Φ k) 2 2 b_law_true
def b_law_all : Sm := (.cons (.asg 1 (.lst (.cons (.lst .nil) .nil)))
  (.cons (.for_ (.nm 2) (.rng1 (.var 0))
  (.cons (.asg 3 (.lst .nil))
  (.cons (.for_ (.nm 4) (.itl (.var 1))
  (.cons (.asg 3 (.bi .add (.var 3) (.lc (.nm 5) (.rng1 (.var 0)) (.bi .notin (.var 5) (.var 4)) (.bi .add (.var 4) (.lst (.cons (.var 5) .nil))))))
  .nil))
  (.cons (.asg 1 (.var 3))
  .nil))))
  (.cons (.ret (.var 1))
  .nil)))
class F_law_all (Φ : Nat → Nat → Fn) : Prop where
  eq : ∀ k, Φ (k + 1) 34 = fnD (Φ k) 1 6 b_law_all
def b_rows_with_total : Sm := (.cons (.drop (.call 21 (.cons (.var 0) .nil)))
  (.cons (.ite (.un .notv (.call 1 (.cons (.var 1) (.cons (.con (.int (0))) (.cons (.con (.int (100))) .nil)))))
  (.cons (.raise 1)
  .nil)
  .nil)
  (.cons (.asg 2 (.lc (.nm 3) (.itl (.call 27 (.cons (.var 0) .nil))) (.bi .eq (.un .sum (.var 3)) (.var 1)) (.var 3)))
  (.cons (.ite (.bi .eq (.var 2) (.lst .nil))
  (.cons (.raise 5)
  .nil)
  .nil)
  (.cons (.ret (.var 2))
  .nil)))))
class F_rows_with_total (Φ : Nat → Nat → Fn) : Prop where
  eq : ∀ k, Φ (k + 1) 35 = fnD (Φ k) 2 4 b_rows_with_total
def b_law_error : Sm := (.cons (.asg 1 (.lst (.cons (.isx 0 0) (.cons (.isx 0 1) (.cons (.isx 0 2) .nil)))))
  (.cons (.asg 1 (.bi .add (.var 1) (.lst (.cons (.isx 0 3) (.cons (.isx 0 4) (.cons (.isx 0 5) .nil))))))
  (.cons (.ite (.or (.bi .ne (.bi .count (.var 1) (.con (.bool true))) (.con (.int (1)))) (.or (.un .notv (.isx 0 6)) (.un .notv (.isx 0 7))))
  (.cons (.ret (.con (.str "odd")))
  .nil)
  .nil)
  (.cons (.ret (.bi .idx (.lst (.cons (.con (.str "list")) (.cons (.con (.str "number")) (.cons (.con (.str "row")) (.cons (.con (.str "short")) (.cons (.con (.str "text")) (.cons (.con (.str "none")) .nil))))))) (.bi .index (.var 1) (.con (.bool true)))))
  .nil))))
class F_law_error (Φ : Nat → Nat → Fn) : Prop where
  eq : ∀ k, Φ (k + 1) 36 = fnD (Φ k) 1 2 b_law_error
def b_law_total : Sm := (.cons (.asg 2 (.con .none))
  (.cons (.asg 3 (.con .none))
  (.cons (.try_ (.cons (.asg 2 (.call 35 (.cons (.var 0) (.cons (.var 1) .nil))))
  .nil) 4 3)
  (.cons (.ret (.ite (.isx 3 8) (.var 2) (.call 36 (.cons (.var 3) .nil))))
  .nil))))
class F_law_total (Φ : Nat → Nat → Fn) : Prop where
  eq : ∀ k, Φ (k + 1) 37 = fnD (Φ k) 2 5 b_law_total
def b_better : Sm := (.cons (.ret (.bi .add (.con (.int (1))) (.bi .min2 (.bi .index (.var 0) (.var 2)) (.bi .index (.var 1) (.var 2)))))
  .nil)
class F_better (Φ : Nat → Nat → Fn) : Prop where
  eq : ∀ k, Φ (k + 1) 38 = fnD (Φ k) 3 3 b_better
def b_is_fair : Sm := (.cons (.for_ (.nm 3) (.rng2 (.con (.int (1))) (.bi .add (.un .len (.var 0)) (.con (.int (1)))))
  (.cons (.ite (.un .notv (.un .all (.lc (.nm 4) (.itl (.bi .add (.bi .upto (.var 0) (.var 3)) (.bi .upto (.var 1) (.var 3)))) (.con (.bool true)) (.bi .isin (.var 4) (.bi .upto (.var 2) (.bi .mul (.con (.int (2))) (.var 3)))))))
  (.cons (.ret (.con (.bool false)))
  .nil)
  .nil)
  .nil))
  (.cons (.ret (.con (.bool true)))
  .nil))
class F_is_fair (Φ : Nat → Nat → Fn) : Prop where
  eq : ∀ k, Φ (k + 1) 39 = fnD (Φ k) 3 5 b_is_fair
def b_is_fair_list : Sm := (.cons (.drop (.call 4 (.cons (.var 0) (.cons (.var 1) .nil))))
  (.cons (.drop (.call 4 (.cons (.var 0) (.cons (.var 2) .nil))))
  (.cons (.ret (.call 39 (.cons (.var 0) (.cons (.var 1) (.cons (.var 2) .nil)))))
  .nil)))
class F_is_fair_list (Φ : Nat → Nat → Fn) : Prop where
  eq : ∀ k, Φ (k + 1) 40 = fnD (Φ k) 3 3 b_is_fair_list
def b_first_unfair : Sm := (.cons (.drop (.call 4 (.cons (.var 0) (.cons (.var 1) .nil))))
  (.cons (.drop (.call 4 (.cons (.var 0) (.cons (.var 2) .nil))))
  (.cons (.for_ (.nm 3) (.rng2 (.con (.int (1))) (.bi .add (.un .len (.var 0)) (.con (.int (1)))))
  (.cons (.ite (.un .notv (.un .all (.lc (.nm 4) (.itl (.bi .add (.bi .upto (.var 0) (.var 3)) (.bi .upto (.var 1) (.var 3)))) (.con (.bool true)) (.bi .isin (.var 4) (.bi .upto (.var 2) (.bi .mul (.con (.int (2))) (.var 3)))))))
  (.cons (.ret (.var 3))
  .nil)
  .nil)
  .nil))
  (.cons (.ret (.con .none))
  .nil))))
class F_first_unfair (Φ : Nat → Nat → Fn) : Prop where
  eq : ∀ k, Φ (k + 1) 41 = fnD (Φ k) 3 5 b_first_unfair
def b_last_places : Sm := (.cons (.drop (.call 4 (.cons (.var 0) (.cons (.var 1) .nil))))
  (.cons (.ret (.lc (.nm 2) (.rng1 (.un .len (.var 0))) (.con (.bool true)) (.bi .min2 (.un .len (.var 0)) (.bi .mul (.con (.int (2))) (.call 38 (.cons (.var 0) (.cons (.var 1) (.cons (.var 2) .nil))))))))
  .nil))
class F_last_places (Φ : Nat → Nat → Fn) : Prop where
  eq : ∀ k, Φ (k + 1) 42 = fnD (Φ k) 2 3 b_last_places
def b_by_turns : Sm := (.cons (.drop (.call 4 (.cons (.var 0) (.cons (.var 1) .nil))))
  (.cons (.mk 2 (.lst .nil))
  (.cons (.for_ (.two 3 4) (.zip (.var 0) (.var 1))
  (.cons (.for_ (.nm 5) (.itt (.tup (.cons (.var 3) (.cons (.var 4) .nil))))
  (.cons (.ite (.bi .notin (.var 5) (.var 2))
  (.cons (.app 2 (.var 5))
  .nil)
  .nil)
  .nil))
  .nil))
  (.cons (.frz 2)
  (.cons (.ret (.var 2))
  .nil)))))
class F_by_turns (Φ : Nat → Nat → Fn) : Prop where
  eq : ∀ k, Φ (k + 1) 43 = fnD (Φ k) 2 6 b_by_turns
def b_ways : Sm := (.cons (.asg 2 (.un .sorted (.lc (.nm 6) (.rng1 (.un .len (.var 0))) (.con (.bool true)) (.bi .min2 (.un .len (.var 0)) (.bi .mul (.con (.int (2))) (.call 38 (.cons (.var 0) (.cons (.var 1) (.cons (.var 6) .nil)))))))))
  (.cons (.asg 3 (.con (.int (1))))
  (.cons (.for_ (.two 4 5) (.enum (.var 2))
  (.cons (.aug 3 .mul (.bi .sub (.var 5) (.var 4)))
  .nil))
  (.cons (.ret (.var 3))
  .nil))))
class F_ways (Φ : Nat → Nat → Fn) : Prop where
  eq : ∀ k, Φ (k + 1) 44 = fnD (Φ k) 2 7 b_ways
def b_count_fair : Sm := (.cons (.drop (.call 4 (.cons (.var 0) (.cons (.var 1) .nil))))
  (.cons (.ret (.call 44 (.cons (.var 0) (.cons (.var 1) .nil))))
  .nil))
class F_count_fair (Φ : Nat → Nat → Fn) : Prop where
  eq : ∀ k, Φ (k + 1) 45 = fnD (Φ k) 2 2 b_count_fair
def b_rest_ways : Sm := (.cons (.asg 3 (.un .sorted (.lc (.two 7 6) (.enum (.var 0)) (.bi .notin (.var 7) (.var 1)) (.var 6))))
  (.cons (.asg 4 (.con (.int (1))))
  (.cons (.for_ (.two 5 6) (.enum (.var 3))
  (.cons (.aug 4 .mul (.bi .max2 (.con (.int (0))) (.bi .sub (.bi .sub (.var 6) (.var 2)) (.var 5))))
  .nil))
  (.cons (.ret (.var 4))
  .nil))))
class F_rest_ways (Φ : Nat → Nat → Fn) : Prop where
  eq : ∀ k, Φ (k + 1) 46 = fnD (Φ k) 3 8 b_rest_ways
def b_fair_at : Sm := (.cons (.drop (.call 4 (.cons (.var 0) (.cons (.var 1) .nil))))
  (.cons (.ite (.un .notv (.call 1 (.cons (.var 2) (.cons (.con (.int (0))) (.cons (.bi .sub (.call 44 (.cons (.var 0) (.cons (.var 1) .nil))) (.con (.int (1)))) .nil)))))
  (.cons (.raise 1)
  .nil)
  .nil)
  (.cons (.asg 3 (.lc (.nm 5) (.rng1 (.un .len (.var 0))) (.con (.bool true)) (.bi .min2 (.un .len (.var 0)) (.bi .mul (.con (.int (2))) (.call 38 (.cons (.var 0) (.cons (.var 1) (.cons (.var 5) .nil))))))))
  (.cons (.asg 4 (.lst .nil))
  (.cons (.whl 1000000 (.bi .lt (.un .len (.var 4)) (.un .len (.var 0)))
  (.cons (.for_ (.nm 5) (.rng1 (.un .len (.var 0)))
  (.cons (.ite (.bi .isin (.var 5) (.var 4))
  (.cons .cont
  .nil)
  .nil)
  (.cons (.asg 6 (.call 46 (.cons (.var 3) (.cons (.bi .add (.var 4) (.lst (.cons (.var 5) .nil))) (.cons (.bi .add (.un .len (.var 4)) (.con (.int (1)))) .nil)))))
  (.cons (.ite (.bi .lt (.var 2) (.var 6))
  (.cons (.asg 4 (.bi .add (.var 4) (.lst (.cons (.var 5) .nil))))
  (.cons .brk
  .nil))
  .nil)
  (.cons (.aug 2 .sub (.var 6))
  .nil)))))
  .nil))
  (.cons (.ret (.var 4))
  .nil))))))
class F_fair_at (Φ : Nat → Nat → Fn) : Prop where
  eq : ∀ k, Φ (k + 1) 47 = fnD (Φ k) 3 7 b_fair_at
def b_law_fair : Sm := (.cons (.asg 4 (.con .none))
  (.cons (.asg 5 (.con .none))
  (.cons (.try_ (.cons (.asg 4 (.call 47 (.cons (.var 1) (.cons (.var 2) (.cons (.var 3) .nil)))))
  .nil) 6 5)
  (.cons (.ret (.ite (.isx 5 8) (.var 4) (.call 36 (.cons (.var 5) .nil))))
  .nil))))
class F_law_fair (Φ : Nat → Nat → Fn) : Prop where
  eq : ∀ k, Φ (k + 1) 48 = fnD (Φ k) 4 7 b_law_fair
def b_depth_for : Sm := (.cons (.drop (.call 4 (.cons (.var 0) (.cons (.var 1) .nil))))
  (.cons (.ite (.un .notv (.call 1 (.cons (.var 2) (.cons (.con (.int (0))) (.cons (.un .len (.var 0)) .nil)))))
  (.cons (.raise 1)
  .nil)
  .nil)
  (.cons (.ite (.bi .eq (.var 2) (.con (.int (0))))
  (.cons (.ret (.con (.int (0))))
  .nil)
  .nil)
  (.cons (.ret (.bi .idx (.lc (.two 3 4) (.enum (.call 5 (.cons (.var 0) (.cons (.var 1) .nil)))) (.bi .ge (.var 4) (.var 2)) (.bi .add (.var 3) (.con (.int (1))))) (.con (.int (0)))))
  .nil))))
class F_depth_for (Φ : Nat → Nat → Fn) : Prop where
  eq : ∀ k, Φ (k + 1) 49 = fnD (Φ k) 3 5 b_depth_for
def b_check_things : Sm := (.cons (.ite (.or (.un .notv (.isi (.var 1) .list)) (.un .notv (.un .all (.lc (.nm 2) (.itl (.var 1)) (.con (.bool true)) (.call 1 (.cons (.var 2) (.cons (.con (.int (0))) (.cons (.bi .sub (.un .len (.var 0)) (.con (.int (1)))) .nil))))))))
  (.cons (.raise 1)
  .nil)
  .nil)
  .nil)
class F_check_things (Φ : Nat → Nat → Fn) : Prop where
  eq : ∀ k, Φ (k + 1) 50 = fnD (Φ k) 2 3 b_check_things
def b_depth_for_all : Sm := (.cons (.drop (.call 4 (.cons (.var 0) (.cons (.var 1) .nil))))
  (.cons (.drop (.call 50 (.cons (.var 0) (.cons (.var 2) .nil))))
  (.cons (.ret (.un .max1 (.bi .add (.lst (.cons (.con (.int (0))) .nil)) (.lc (.nm 3) (.itl (.var 2)) (.con (.bool true)) (.bi .add (.con (.int (1))) (.bi .max2 (.bi .index (.var 0) (.var 3)) (.bi .index (.var 1) (.var 3))))))))
  .nil)))
class F_depth_for_all (Φ : Nat → Nat → Fn) : Prop where
  eq : ∀ k, Φ (k + 1) 51 = fnD (Φ k) 3 4 b_depth_for_all
def b_depth_for_any : Sm := (.cons (.drop (.call 4 (.cons (.var 0) (.cons (.var 1) .nil))))
  (.cons (.drop (.call 50 (.cons (.var 0) (.cons (.var 2) .nil))))
  (.cons (.ite (.bi .eq (.var 2) (.lst .nil))
  (.cons (.raise 5)
  .nil)
  .nil)
  (.cons (.ret (.un .min1 (.lc (.nm 3) (.itl (.var 2)) (.con (.bool true)) (.bi .add (.con (.int (1))) (.bi .max2 (.bi .index (.var 0) (.var 3)) (.bi .index (.var 1) (.var 3)))))))
  .nil))))
class F_depth_for_any (Φ : Nat → Nat → Fn) : Prop where
  eq : ∀ k, Φ (k + 1) 52 = fnD (Φ k) 3 4 b_depth_for_any
def b_meeting_order : Sm := (.cons (.drop (.call 4 (.cons (.var 0) (.cons (.var 1) .nil))))
  (.cons (.asg 2 (.un .sorted (.lc (.nm 3) (.rng1 (.un .len (.var 0))) (.con (.bool true)) (.tup (.cons (.bi .max2 (.bi .index (.var 0) (.var 3)) (.bi .index (.var 1) (.var 3))) (.cons (.var 3) .nil))))))
  (.cons (.ret (.lc (.two 4 3) (.itl (.var 2)) (.con (.bool true)) (.var 3)))
  .nil)))
class F_meeting_order (Φ : Nat → Nat → Fn) : Prop where
  eq : ∀ k, Φ (k + 1) 53 = fnD (Φ k) 2 5 b_meeting_order
def b_full_depths : Sm := (.cons (.drop (.call 4 (.cons (.var 0) (.cons (.var 1) .nil))))
  (.cons (.ret (.lc (.two 2 3) (.enum (.call 5 (.cons (.var 0) (.cons (.var 1) .nil)))) (.bi .eq (.var 3) (.bi .add (.var 2) (.con (.int (1))))) (.bi .add (.var 2) (.con (.int (1))))))
  .nil))
class F_full_depths (Φ : Nat → Nat → Fn) : Prop where
  eq : ∀ k, Φ (k + 1) 54 = fnD (Φ k) 2 4 b_full_depths
def b_empty_depth : Sm := (.cons (.drop (.call 4 (.cons (.var 0) (.cons (.var 1) .nil))))
  (.cons (.ret (.un .len (.lc (.nm 2) (.itl (.call 5 (.cons (.var 0) (.cons (.var 1) .nil)))) (.bi .eq (.var 2) (.con (.int (0)))) (.var 2))))
  .nil))
class F_empty_depth (Φ : Nat → Nat → Fn) : Prop where
  eq : ∀ k, Φ (k + 1) 55 = fnD (Φ k) 2 3 b_empty_depth
def b_cheapest : Sm := (.cons (.drop (.call 4 (.cons (.var 0) (.cons (.var 1) .nil))))
  (.cons (.ite (.un .notv (.call 1 (.cons (.var 2) (.cons (.con (.int (0))) (.cons (.un .len (.var 0)) .nil)))))
  (.cons (.raise 1)
  .nil)
  .nil)
  (.cons (.ite (.or (.un .notv (.call 1 (.cons (.var 3) (.cons (.con (.int (0))) (.cons (.con (.int (100))) .nil))))) (.un .notv (.call 1 (.cons (.var 4) (.cons (.con (.int (0))) (.cons (.con (.int (100))) .nil))))))
  (.cons (.raise 1)
  .nil)
  .nil)
  (.cons (.asg 5 (.con .none))
  (.cons (.for_ (.nm 6) (.rng1 (.bi .add (.un .len (.var 0)) (.con (.int (1)))))
  (.cons (.for_ (.nm 7) (.rng1 (.bi .add (.un .len (.var 0)) (.con (.int (1)))))
  (.cons (.asg 8 (.un .len (.lc (.nm 10) (.itl (.bi .upto (.var 0) (.var 6))) (.bi .isin (.var 10) (.bi .upto (.var 1) (.var 7))) (.var 10))))
  (.cons (.asg 9 (.bi .add (.bi .mul (.var 6) (.var 3)) (.bi .mul (.var 7) (.var 4))))
  (.cons (.ite (.and (.bi .ge (.var 8) (.var 2)) (.or (.isc (.var 5) .none) (.bi .lt (.var 9) (.var 5))))
  (.cons (.asg 5 (.var 9))
  .nil)
  .nil)
  .nil))))
  .nil))
  (.cons (.ret (.var 5))
  .nil))))))
class F_cheapest (Φ : Nat → Nat → Fn) : Prop where
  eq : ∀ k, Φ (k + 1) 56 = fnD (Φ k) 5 11 b_cheapest
def b_law_cheapest : Sm := (.cons (.asg 4 (.call 53 (.cons (.var 1) (.cons (.var 2) .nil))))
  (.cons (.asg 5 (.lc (.nm 13) (.itl (.var 4)) (.con (.bool true)) (.tup (.cons (.bi .max2 (.bi .index (.var 1) (.var 13)) (.bi .index (.var 2) (.var 13))) (.cons (.var 13) .nil)))))
  (.cons (.ite (.or (.bi .ne (.un .sorted (.var 4)) (.un .lrange (.var 3))) (.bi .ne (.var 5) (.un .sorted (.var 5))))
  (.cons (.ret (.con (.bool false)))
  .nil)
  .nil)
  (.cons (.par (.three 6 7 8) [false, false, false] (.cons (.call 0 (.cons (.var 0) (.cons (.bi .add (.var 3) (.con (.int (1)))) .nil))) (.cons (.call 0 (.cons (.var 0) (.cons (.con (.int (6))) .nil))) (.cons (.call 0 (.cons (.var 0) (.cons (.con (.int (6))) .nil))) .nil))))
  (.cons (.mk 9 (.lst .nil))
  (.cons (.for_ (.nm 10) (.rng1 (.bi .add (.var 3) (.con (.int (1)))))
  (.cons (.for_ (.nm 11) (.rng1 (.bi .add (.var 3) (.con (.int (1)))))
  (.cons (.ite (.bi .ge (.un .len (.lc (.nm 13) (.itl (.bi .upto (.var 1) (.var 10))) (.bi .isin (.var 13) (.bi .upto (.var 2) (.var 11))) (.var 13))) (.var 6))
  (.cons (.app 9 (.bi .add (.bi .mul (.var 10) (.var 7)) (.bi .mul (.var 11) (.var 8))))
  .nil)
  .nil)
  .nil))
  .nil))
  (.cons (.asg 12 (.call 56 (.cons (.var 1) (.cons (.var 2) (.cons (.var 6) (.cons (.var 7) (.cons (.var 8) .nil)))))))
  (.cons (.ret (.and (.bi .eq (.var 12) (.un .min1 (.var 9))) (.and (.bi .le (.var 12) (.bi .mul (.call 49 (.cons (.var 1) (.cons (.var 2) (.cons (.var 6) .nil)))) (.bi .add (.var 7) (.var 8)))) (.bi .eq (.call 56 (.cons (.var 2) (.cons (.var 1) (.cons (.var 6) (.cons (.var 8) (.cons (.var 7) .nil)))))) (.var 12)))))
  .nil))))))))
class F_law_cheapest (Φ : Nat → Nat → Fn) : Prop where
  eq : ∀ k, Φ (k + 1) 57 = fnD (Φ k) 4 14 b_law_cheapest
def b_is_short : Sm := (.cons (.ite (.or (.un .notv (.isi (.var 0) .list)) (.un .notv (.le2 (.con (.int (1))) (.un .len (.var 0)) (.con (.int (6))))))
  (.cons (.ret (.con (.bool false)))
  .nil)
  .nil)
  (.cons (.ite (.un .notv (.un .all (.lc (.nm 1) (.itl (.var 0)) (.con (.bool true)) (.and (.isi (.var 1) .str) (.and (.bi .eq (.un .len (.var 1)) (.con (.int (1)))) (.bi .instr (.var 1) (.glo 0 (.str "abcdefghij"))))))))
  (.cons (.ret (.con (.bool false)))
  .nil)
  .nil)
  (.cons (.ret (.bi .eq (.un .lenset (.var 0)) (.un .len (.var 0))))
  .nil)))
class F_is_short (Φ : Nat → Nat → Fn) : Prop where
  eq : ∀ k, Φ (k + 1) 58 = fnD (Φ k) 1 2 b_is_short
def b_check_short : Sm := (.cons (.ite (.un .notv (.call 58 (.cons (.var 0) .nil)))
  (.cons (.raise 3)
  .nil)
  .nil)
  .nil)
class F_check_short (Φ : Nat → Nat → Fn) : Prop where
  eq : ∀ k, Φ (k + 1) 59 = fnD (Φ k) 1 1 b_check_short
def b_check_shorts : Sm := (.cons (.drop (.call 59 (.cons (.var 0) .nil)))
  (.cons (.drop (.call 59 (.cons (.var 1) .nil)))
  .nil))
class F_check_shorts (Φ : Nat → Nat → Fn) : Prop where
  eq : ∀ k, Φ (k + 1) 60 = fnD (Φ k) 2 2 b_check_shorts
def b_listed : Sm := (.cons (.drop (.call 60 (.cons (.var 0) (.cons (.var 1) .nil))))
  (.cons (.ret (.lc (.nm 2) (.its (.glo 0 (.str "abcdefghij"))) (.or (.bi .isin (.var 2) (.var 0)) (.bi .isin (.var 2) (.var 1))) (.var 2)))
  .nil))
class F_listed (Φ : Nat → Nat → Fn) : Prop where
  eq : ∀ k, Φ (k + 1) 61 = fnD (Φ k) 2 3 b_listed
def b_is_known : Sm := (.cons (.ret (.or (.bi .isin (.var 1) (.var 0)) (.bi .isin (.var 2) (.var 0))))
  .nil)
class F_is_known (Φ : Nat → Nat → Fn) : Prop where
  eq : ∀ k, Φ (k + 1) 62 = fnD (Φ k) 3 3 b_is_known
def b_is_ahead : Sm := (.cons (.ite (.and (.bi .isin (.var 1) (.var 0)) (.bi .isin (.var 2) (.var 0)))
  (.cons (.ret (.bi .lt (.bi .index (.var 0) (.var 1)) (.bi .index (.var 0) (.var 2))))
  .nil)
  .nil)
  (.cons (.ret (.bi .isin (.var 1) (.var 0)))
  .nil))
class F_is_ahead (Φ : Nat → Nat → Fn) : Prop where
  eq : ∀ k, Φ (k + 1) 63 = fnD (Φ k) 3 3 b_is_ahead
def b_kinds_of : Sm := (.cons (.asg 2 (.lc (.nm 9) (.its (.glo 0 (.str "abcdefghij"))) (.or (.bi .isin (.var 9) (.var 0)) (.bi .isin (.var 9) (.var 1))) (.var 9)))
  (.cons (.mk3 3 4 5)
  (.cons (.for_ (.two 6 7) (.enum (.var 2))
  (.cons (.for_ (.nm 8) (.itl (.bi .from_ (.var 2) (.bi .add (.var 6) (.con (.int (1))))))
  (.cons (.ite (.or (.un .notv (.call 62 (.cons (.var 0) (.cons (.var 7) (.cons (.var 8) .nil))))) (.un .notv (.call 62 (.cons (.var 1) (.cons (.var 7) (.cons (.var 8) .nil))))))
  (.cons (.app 5 (.tup (.cons (.var 7) (.cons (.var 8) .nil))))
  .nil)
  (.cons (.ite (.bi .eq (.call 63 (.cons (.var 0) (.cons (.var 7) (.cons (.var 8) .nil)))) (.call 63 (.cons (.var 1) (.cons (.var 7) (.cons (.var 8) .nil)))))
  (.cons (.app 3 (.tup (.cons (.var 7) (.cons (.var 8) .nil))))
  .nil)
  (.cons (.app 4 (.tup (.cons (.var 7) (.cons (.var 8) .nil))))
  .nil))
  .nil))
  .nil))
  .nil))
  (.cons (.frz 5)
  (.cons (.frz 3)
  (.cons (.frz 4)
  (.cons (.ret (.tup (.cons (.var 3) (.cons (.var 4) (.cons (.var 5) .nil)))))
  .nil)))))))
class F_kinds_of (Φ : Nat → Nat → Fn) : Prop where
  eq : ∀ k, Φ (k + 1) 64 = fnD (Φ k) 2 10 b_kinds_of
def b_pairs_of : Sm := (.cons (.drop (.call 60 (.cons (.var 0) (.cons (.var 1) .nil))))
  (.cons (.ret (.call 64 (.cons (.var 0) (.cons (.var 1) .nil))))
  .nil))
class F_pairs_of (Φ : Nat → Nat → Fn) : Prop where
  eq : ∀ k, Φ (k + 1) 65 = fnD (Φ k) 2 2 b_pairs_of
def b_distance_range : Sm := (.cons (.drop (.call 60 (.cons (.var 0) (.cons (.var 1) .nil))))
  (.cons (.unp (.three 2 3 4) (.call 64 (.cons (.var 0) (.cons (.var 1) .nil))))
  (.cons (.ret (.tup (.cons (.un .len (.var 3)) (.cons (.bi .add (.un .len (.var 3)) (.un .len (.var 4))) .nil))))
  .nil)))
class F_distance_range (Φ : Nat → Nat → Fn) : Prop where
  eq : ∀ k, Φ (k + 1) 66 = fnD (Φ k) 2 5 b_distance_range
def b_alone : Sm := (.cons (.drop (.call 60 (.cons (.var 0) (.cons (.var 1) .nil))))
  (.cons (.ret (.lc (.nm 2) (.itl (.var 0)) (.bi .notin (.var 2) (.var 1)) (.var 2)))
  .nil))
class F_alone (Φ : Nat → Nat → Fn) : Prop where
  eq : ∀ k, Φ (k + 1) 68 = fnD (Φ k) 2 3 b_alone
def b_agree : Sm := (.cons (.drop (.call 60 (.cons (.var 0) (.cons (.var 1) .nil))))
  (.cons (.ret (.bi .eq (.bi .idx (.call 64 (.cons (.var 0) (.cons (.var 1) .nil))) (.con (.int (1)))) (.lst .nil)))
  .nil))
class F_agree (Φ : Nat → Nat → Fn) : Prop where
  eq : ∀ k, Φ (k + 1) 69 = fnD (Φ k) 2 2 b_agree
def b_rest_of : Sm := (.cons (.ret (.lc (.nm 2) (.itl (.var 1)) (.bi .notin (.var 2) (.var 0)) (.var 2)))
  .nil)
class F_rest_of (Φ : Nat → Nat → Fn) : Prop where
  eq : ∀ k, Φ (k + 1) 70 = fnD (Φ k) 2 3 b_rest_of
def b_nearest_fill : Sm := (.cons (.drop (.call 60 (.cons (.var 0) (.cons (.var 1) .nil))))
  (.cons (.ret (.tup (.cons (.bi .add (.var 0) (.call 70 (.cons (.var 0) (.cons (.var 1) .nil)))) (.cons (.bi .add (.var 1) (.call 70 (.cons (.var 1) (.cons (.var 0) .nil)))) .nil))))
  .nil))
class F_nearest_fill (Φ : Nat → Nat → Fn) : Prop where
  eq : ∀ k, Φ (k + 1) 71 = fnD (Φ k) 2 2 b_nearest_fill
def b_place_range : Sm := (.cons (.drop (.call 60 (.cons (.var 0) (.cons (.var 1) .nil))))
  (.cons (.ite (.or (.un .notv (.isi (.var 2) .str)) (.bi .notin (.var 2) (.bi .add (.var 0) (.var 1))))
  (.cons (.raise 5)
  .nil)
  .nil)
  (.cons (.ite (.bi .isin (.var 2) (.var 0))
  (.cons (.ret (.tup (.cons (.bi .add (.con (.int (1))) (.bi .index (.var 0) (.var 2))) (.cons (.bi .add (.con (.int (1))) (.bi .index (.var 0) (.var 2))) .nil))))
  .nil)
  .nil)
  (.cons (.ret (.tup (.cons (.bi .add (.un .len (.var 0)) (.con (.int (1)))) (.cons (.bi .add (.un .len (.var 0)) (.un .len (.call 70 (.cons (.var 0) (.cons (.var 1) .nil))))) .nil))))
  .nil))))
class F_place_range (Φ : Nat → Nat → Fn) : Prop where
  eq : ∀ k, Φ (k + 1) 73 = fnD (Φ k) 3 3 b_place_range
def b_law_short : Sm := (.cons (.mk 2 (.un .lstr (.bi .upto (.con (.str "abcdefghij")) (.var 1))))
  (.cons (.mk 3 (.lst .nil))
  (.cons (.for_ (.nm 4) (.rng1 (.bi .add (.con (.int (1))) (.call 0 (.cons (.var 0) (.cons (.bi .min2 (.con (.int (6))) (.var 1)) .nil)))))
  (.cons (.app 3 (.bor (.call 17 (.cons (.var 0) (.cons (.var 2) .nil)))))
  (.cons (.rem 2 (.bi .idx (.var 3) (.un .neg (.con (.int (1))))))
  .nil)))
  (.cons (.frz 3)
  (.cons (.ret (.var 3))
  .nil)))))
class F_law_short (Φ : Nat → Nat → Fn) : Prop where
  eq : ∀ k, Φ (k + 1) 75 = fnD (Φ k) 2 5 b_law_short
def b_law_otherwise : Sm := (.cons (.asg 2 (.con (.int (0))))
  (.cons (.for_ (.nm 3) (.rng1 (.un .len (.var 0)))
  (.cons (.asg 2 (.bi .add (.var 2) (.un .len (.lc (.nm 4) (.itl (.bi .from_ (.var 0) (.bi .add (.var 3) (.con (.int (1)))))) (.bi .lt (.bi .index (.var 1) (.var 4)) (.bi .index (.var 1) (.bi .idx (.var 0) (.var 3)))) (.var 4)))))
  .nil))
  (.cons (.ret (.var 2))
  .nil)))
class F_law_otherwise (Φ : Nat → Nat → Fn) : Prop where
  eq : ∀ k, Φ (k + 1) 77 = fnD (Φ k) 2 5 b_law_otherwise
def b_prefix : Sm := (.cons (.drop (.call 59 (.cons (.var 0) .nil)))
  (.cons (.ite (.or (.un .notv (.isi (.var 1) .int)) (.or (.isi (.var 1) .bool) (.un .notv (.le2 (.con (.int (1))) (.var 1) (.un .len (.var 0))))))
  (.cons (.raise 3)
  .nil)
  .nil)
  (.cons (.ret (.bi .upto (.var 0) (.var 1)))
  .nil)))
class F_prefix (Φ : Nat → Nat → Fn) : Prop where
  eq : ∀ k, Φ (k + 1) 79 = fnD (Φ k) 2 2 b_prefix
def b_count_otherwise : Sm := (.cons (.drop (.call 81 (.cons (.var 0) .nil)))
  (.cons (.drop (.call 81 (.cons (.var 1) .nil)))
  (.cons (.ite (.bi .ne (.un .sorted (.var 0)) (.un .sorted (.var 1)))
  (.cons (.raise 3)
  .nil)
  .nil)
  (.cons (.asg 2 (.con (.int (0))))
  (.cons (.for_ (.two 3 4) (.enum (.var 0))
  (.cons (.for_ (.nm 5) (.itl (.bi .from_ (.var 0) (.bi .add (.var 3) (.con (.int (1))))))
  (.cons (.aug 2 .add (.ite (.bi .gt (.bi .index (.var 1) (.var 4)) (.bi .index (.var 1) (.var 5))) (.con (.int (1))) (.con (.int (0)))))
  .nil))
  .nil))
  (.cons (.ret (.var 2))
  .nil))))))
class F_count_otherwise (Φ : Nat → Nat → Fn) : Prop where
  eq : ∀ k, Φ (k + 1) 80 = fnD (Φ k) 2 6 b_count_otherwise
def b_check_long : Sm := (.cons (.ite (.or (.un .notv (.isi (.var 0) .list)) (.un .notv (.le2 (.con (.int (1))) (.un .len (.var 0)) (.con (.int (10))))))
  (.cons (.raise 3)
  .nil)
  .nil)
  (.cons (.ite (.un .notv (.un .all (.lc (.nm 1) (.itl (.var 0)) (.con (.bool true)) (.and (.isi (.var 1) .str) (.and (.bi .eq (.un .len (.var 1)) (.con (.int (1)))) (.bi .instr (.var 1) (.glo 0 (.str "abcdefghij"))))))))
  (.cons (.raise 3)
  .nil)
  .nil)
  (.cons (.ite (.bi .ne (.un .lenset (.var 0)) (.un .len (.var 0)))
  (.cons (.raise 3)
  .nil)
  .nil)
  .nil)))
class F_check_long (Φ : Nat → Nat → Fn) : Prop where
  eq : ∀ k, Φ (k + 1) 81 = fnD (Φ k) 1 2 b_check_long
def b_can_extend : Sm := (.cons (.drop (.call 59 (.cons (.var 0) .nil)))
  (.cons (.drop (.call 81 (.cons (.var 1) .nil)))
  (.cons (.ret (.bi .eq (.bi .upto (.var 1) (.un .len (.var 0))) (.var 0)))
  .nil)))
class F_can_extend (Φ : Nat → Nat → Fn) : Prop where
  eq : ∀ k, Φ (k + 1) 82 = fnD (Φ k) 2 2 b_can_extend
def b_check_lists : Sm := (.cons (.ite (.or (.un .notv (.isi (.var 0) .list)) (.un .notv (.le2 (.con (.int (1))) (.un .len (.var 0)) (.con (.int (6))))))
  (.cons (.raise 3)
  .nil)
  .nil)
  (.cons (.for_ (.nm 1) (.itl (.var 0))
  (.cons (.drop (.call 59 (.cons (.var 1) .nil)))
  .nil))
  .nil))
class F_check_lists (Φ : Nat → Nat → Fn) : Prop where
  eq : ∀ k, Φ (k + 1) 83 = fnD (Φ k) 1 2 b_check_lists
def b_letters_of : Sm := (.cons (.ret (.lc (.nm 1) (.its (.glo 0 (.str "abcdefghij"))) (.un .any (.lc (.nm 2) (.itl (.var 0)) (.con (.bool true)) (.bi .isin (.var 1) (.var 2)))) (.var 1)))
  .nil)
class F_letters_of (Φ : Nat → Nat → Fn) : Prop where
  eq : ∀ k, Φ (k + 1) 84 = fnD (Φ k) 1 3 b_letters_of
def b_turns : Sm := (.cons (.drop (.call 83 (.cons (.var 0) .nil)))
  (.cons (.mk 1 (.lst .nil))
  (.cons (.for_ (.nm 2) (.rng1 (.con (.int (6))))
  (.cons (.for_ (.nm 3) (.itl (.var 0))
  (.cons (.ite (.and (.bi .lt (.var 2) (.un .len (.var 3))) (.bi .notin (.bi .idx (.var 3) (.var 2)) (.var 1)))
  (.cons (.app 1 (.bi .idx (.var 3) (.var 2)))
  .nil)
  .nil)
  .nil))
  .nil))
  (.cons (.frz 1)
  (.cons (.ret (.var 1))
  .nil)))))
class F_turns (Φ : Nat → Nat → Fn) : Prop where
  eq : ∀ k, Φ (k + 1) 85 = fnD (Φ k) 1 4 b_turns
def b_place_in : Sm := (.cons (.ret (.ite (.bi .isin (.var 1) (.var 0)) (.bi .add (.con (.int (1))) (.bi .index (.var 0) (.var 1))) (.bi .add (.un .len (.var 0)) (.con (.int (1))))))
  .nil)
class F_place_in (Φ : Nat → Nat → Fn) : Prop where
  eq : ∀ k, Φ (k + 1) 86 = fnD (Φ k) 2 2 b_place_in
def b_by_best_place : Sm := (.cons (.drop (.call 83 (.cons (.var 0) .nil)))
  (.cons (.asg 1 (.lc (.nm 2) (.itl (.call 84 (.cons (.var 0) .nil))) (.con (.bool true)) (.tup (.cons (.un .min1 (.lc (.nm 3) (.itl (.var 0)) (.bi .isin (.var 2) (.var 3)) (.call 86 (.cons (.var 3) (.cons (.var 2) .nil))))) (.cons (.var 2) .nil)))))
  (.cons (.ret (.lc (.two 4 2) (.itl (.un .sorted (.var 1))) (.con (.bool true)) (.var 2)))
  .nil)))
class F_by_best_place (Φ : Nat → Nat → Fn) : Prop where
  eq : ∀ k, Φ (k + 1) 87 = fnD (Φ k) 1 5 b_by_best_place
def b_by_sum : Sm := (.cons (.drop (.call 83 (.cons (.var 0) .nil)))
  (.cons (.asg 1 (.lc (.nm 2) (.itl (.call 84 (.cons (.var 0) .nil))) (.con (.bool true)) (.tup (.cons (.un .sum (.lc (.nm 3) (.itl (.var 0)) (.con (.bool true)) (.call 86 (.cons (.var 3) (.cons (.var 2) .nil))))) (.cons (.var 2) .nil)))))
  (.cons (.ret (.lc (.two 4 2) (.itl (.un .sorted (.var 1))) (.con (.bool true)) (.var 2)))
  .nil)))
class F_by_sum (Φ : Nat → Nat → Fn) : Prop where
  eq : ∀ k, Φ (k + 1) 88 = fnD (Φ k) 1 5 b_by_sum
def b_place_sums : Sm := (.cons (.drop (.call 83 (.cons (.var 0) .nil)))
  (.cons (.ret (.lc (.nm 1) (.itl (.call 84 (.cons (.var 0) .nil))) (.con (.bool true)) (.tup (.cons (.var 1) (.cons (.un .sum (.lc (.nm 2) (.itl (.var 0)) (.con (.bool true)) (.call 86 (.cons (.var 2) (.cons (.var 1) .nil))))) .nil)))))
  .nil))
class F_place_sums (Φ : Nat → Nat → Fn) : Prop where
  eq : ∀ k, Φ (k + 1) 89 = fnD (Φ k) 1 3 b_place_sums
def b_by_votes : Sm := (.cons (.drop (.call 83 (.cons (.var 0) .nil)))
  (.cons (.mk 1 (.lst .nil))
  (.cons (.for_ (.nm 2) (.itl (.call 84 (.cons (.var 0) .nil)))
  (.cons (.asg 3 (.un .len (.lc (.nm 4) (.itl (.var 0)) (.bi .isin (.var 2) (.var 4)) (.var 4))))
  (.cons (.app 1 (.tup (.cons (.un .neg (.var 3)) (.cons (.un .sum (.lc (.nm 4) (.itl (.var 0)) (.con (.bool true)) (.call 86 (.cons (.var 4) (.cons (.var 2) .nil))))) (.cons (.var 2) .nil)))))
  .nil)))
  (.cons (.ret (.lc (.three 3 5 2) (.itl (.un .sorted (.var 1))) (.con (.bool true)) (.var 2)))
  .nil))))
class F_by_votes (Φ : Nat → Nat → Fn) : Prop where
  eq : ∀ k, Φ (k + 1) 90 = fnD (Φ k) 1 6 b_by_votes
def b_law_place : Sm := (.cons (.ret (.ite (.bi .isin (.var 1) (.var 0)) (.bi .add (.bi .index (.var 0) (.var 1)) (.con (.int (1)))) (.bi .add (.un .len (.var 0)) (.con (.int (1))))))
  .nil)
class F_law_place (Φ : Nat → Nat → Fn) : Prop where
  eq : ∀ k, Φ (k + 1) 91 = fnD (Φ k) 2 2 b_law_place
def b_beats : Sm := (.cons (.drop (.call 83 (.cons (.var 0) .nil)))
  (.cons (.ite (.or (.bi .eq (.var 1) (.var 2)) (.or (.bi .notin (.var 1) (.call 84 (.cons (.var 0) .nil))) (.bi .notin (.var 2) (.call 84 (.cons (.var 0) .nil)))))
  (.cons (.raise 3)
  .nil)
  .nil)
  (.cons (.asg 3 (.un .len (.lc (.nm 4) (.itl (.var 0)) (.bi .lt (.call 86 (.cons (.var 4) (.cons (.var 1) .nil))) (.call 86 (.cons (.var 4) (.cons (.var 2) .nil)))) (.con (.int (1))))))
  (.cons (.ret (.tup (.cons (.var 3) (.cons (.un .len (.lc (.nm 4) (.itl (.var 0)) (.bi .lt (.call 86 (.cons (.var 4) (.cons (.var 2) .nil))) (.call 86 (.cons (.var 4) (.cons (.var 1) .nil)))) (.con (.int (1))))) .nil))))
  .nil))))
class F_beats (Φ : Nat → Nat → Fn) : Prop where
  eq : ∀ k, Φ (k + 1) 92 = fnD (Φ k) 3 5 b_beats
def b_unbeaten : Sm := (.cons (.drop (.call 83 (.cons (.var 0) .nil)))
  (.cons (.mk 1 (.lst .nil))
  (.cons (.for_ (.nm 2) (.itl (.call 84 (.cons (.var 0) .nil)))
  (.cons (.asg 3 (.con (.bool false)))
  (.cons (.for_ (.nm 4) (.itl (.call 84 (.cons (.var 0) .nil)))
  (.cons (.asg 5 (.un .len (.lc (.nm 7) (.itl (.var 0)) (.bi .lt (.call 86 (.cons (.var 7) (.cons (.var 4) .nil))) (.call 86 (.cons (.var 7) (.cons (.var 2) .nil)))) (.con (.int (1))))))
  (.cons (.asg 6 (.un .len (.lc (.nm 7) (.itl (.var 0)) (.bi .lt (.call 86 (.cons (.var 7) (.cons (.var 2) .nil))) (.call 86 (.cons (.var 7) (.cons (.var 4) .nil)))) (.con (.int (1))))))
  (.cons (.asg 3 (.or (.var 3) (.bi .gt (.var 5) (.var 6))))
  .nil))))
  (.cons (.ite (.un .notv (.var 3))
  (.cons (.app 1 (.var 2))
  .nil)
  .nil)
  .nil))))
  (.cons (.frz 1)
  (.cons (.ret (.var 1))
  .nil)))))
class F_unbeaten (Φ : Nat → Nat → Fn) : Prop where
  eq : ∀ k, Φ (k + 1) 93 = fnD (Φ k) 1 8 b_unbeaten
def b_sure_order : Sm := (.cons (.ite (.or (.un .notv (.isi (.var 0) .list)) (.un .notv (.le2 (.con (.int (1))) (.un .len (.var 0)) (.con (.int (6))))))
  (.cons (.raise 3)
  .nil)
  .nil)
  (.cons (.for_ (.nm 3) (.itl (.var 0))
  (.cons (.drop (.call 59 (.cons (.var 3) .nil)))
  .nil))
  (.cons (.ite (.un .notv (.call 58 (.cons (.lst (.cons (.var 1) (.cons (.var 2) .nil))) .nil)))
  (.cons (.raise 3)
  .nil)
  .nil)
  (.cons (.asg 4 (.lc (.nm 3) (.itl (.var 0)) (.call 62 (.cons (.var 3) (.cons (.var 1) (.cons (.var 2) .nil)))) (.call 63 (.cons (.var 3) (.cons (.var 1) (.cons (.var 2) .nil))))))
  (.cons (.ite (.or (.bi .eq (.var 4) (.lst .nil)) (.and (.bi .isin (.con (.bool true)) (.var 4)) (.bi .isin (.con (.bool false)) (.var 4))))
  (.cons (.ret (.con (.str "unknown")))
  .nil)
  .nil)
  (.cons (.ret (.ite (.bi .idx (.var 4) (.con (.int (0)))) (.con (.str "ahead")) (.con (.str "behind"))))
  .nil))))))
class F_sure_order (Φ : Nat → Nat → Fn) : Prop where
  eq : ∀ k, Φ (k + 1) 94 = fnD (Φ k) 3 5 b_sure_order
def b_exchanged : Sm := (.cons (.drop (.call 3 (.cons (.var 0) .nil)))
  (.cons (.ite (.un .notv (.call 1 (.cons (.var 1) (.cons (.con (.int (0))) (.cons (.bi .sub (.un .len (.var 0)) (.con (.int (2)))) .nil)))))
  (.cons (.raise 1)
  .nil)
  .nil)
  (.cons (.ret (.bi .add (.bi .add (.bi .upto (.var 0) (.var 1)) (.lst (.cons (.bi .idx (.var 0) (.bi .add (.var 1) (.con (.int (1))))) (.cons (.bi .idx (.var 0) (.var 1)) .nil)))) (.bi .from_ (.var 0) (.bi .add (.var 1) (.con (.int (2)))))))
  .nil)))
class F_exchanged (Φ : Nat → Nat → Fn) : Prop where
  eq : ∀ k, Φ (k + 1) 95 = fnD (Φ k) 2 2 b_exchanged
def b_moved : Sm := (.cons (.drop (.call 3 (.cons (.var 0) .nil)))
  (.cons (.ite (.or (.un .notv (.call 1 (.cons (.var 1) (.cons (.con (.int (0))) (.cons (.bi .sub (.un .len (.var 0)) (.con (.int (1)))) .nil))))) (.un .notv (.call 1 (.cons (.var 2) (.cons (.con (.int (0))) (.cons (.bi .sub (.un .len (.var 0)) (.con (.int (1)))) .nil))))))
  (.cons (.raise 1)
  .nil)
  .nil)
  (.cons (.asg 3 (.lc (.nm 4) (.itl (.var 0)) (.bi .ne (.var 4) (.var 1)) (.var 4)))
  (.cons (.ret (.bi .add (.bi .add (.bi .upto (.var 3) (.var 2)) (.lst (.cons (.var 1) .nil))) (.bi .from_ (.var 3) (.var 2))))
  .nil))))
class F_moved (Φ : Nat → Nat → Fn) : Prop where
  eq : ∀ k, Φ (k + 1) 96 = fnD (Φ k) 3 5 b_moved
def b_renamed : Sm := (.cons (.drop (.call 4 (.cons (.var 0) (.cons (.var 1) .nil))))
  (.cons (.ret (.lc (.nm 2) (.itl (.var 0)) (.con (.bool true)) (.bi .idx (.var 1) (.var 2))))
  .nil))
class F_renamed (Φ : Nat → Nat → Fn) : Prop where
  eq : ∀ k, Φ (k + 1) 97 = fnD (Φ k) 2 3 b_renamed
def b_places : Sm := (.cons (.drop (.call 3 (.cons (.var 0) .nil)))
  (.cons (.ret (.lc (.nm 1) (.rng1 (.un .len (.var 0))) (.con (.bool true)) (.bi .index (.var 0) (.var 1))))
  .nil))
class F_places (Φ : Nat → Nat → Fn) : Prop where
  eq : ∀ k, Φ (k + 1) 98 = fnD (Φ k) 1 2 b_places
def b_seen_from : Sm := (.cons (.drop (.call 4 (.cons (.var 0) (.cons (.var 1) .nil))))
  (.cons (.ret (.lc (.nm 2) (.itl (.var 1)) (.con (.bool true)) (.bi .index (.var 0) (.var 2))))
  .nil))
class F_seen_from (Φ : Nat → Nat → Fn) : Prop where
  eq : ∀ k, Φ (k + 1) 99 = fnD (Φ k) 2 3 b_seen_from
def b_backward : Sm := (.cons (.drop (.call 3 (.cons (.var 0) .nil)))
  (.cons (.ret (.un .rev (.var 0)))
  .nil))
class F_backward (Φ : Nat → Nat → Fn) : Prop where
  eq : ∀ k, Φ (k + 1) 100 = fnD (Φ k) 1 1 b_backward
def b_without_thing : Sm := (.cons (.drop (.call 3 (.cons (.var 0) .nil)))
  (.cons (.ite (.or (.un .notv (.call 1 (.cons (.var 1) (.cons (.con (.int (0))) (.cons (.bi .sub (.un .len (.var 0)) (.con (.int (1)))) .nil))))) (.bi .eq (.un .len (.var 0)) (.con (.int (1)))))
  (.cons (.raise 1)
  .nil)
  .nil)
  (.cons (.ret (.lc (.nm 2) (.itl (.var 0)) (.bi .ne (.var 2) (.var 1)) (.ite (.bi .gt (.var 2) (.var 1)) (.bi .sub (.var 2) (.con (.int (1)))) (.var 2))))
  .nil)))
class F_without_thing (Φ : Nat → Nat → Fn) : Prop where
  eq : ∀ k, Φ (k + 1) 101 = fnD (Φ k) 2 3 b_without_thing
def b_law_single_1 : Sm := (.cons (.ite (.bi .gt (.var 4) (.con (.int (1))))
  (.cons (.asg 5 (.call 0 (.cons (.var 0) (.cons (.bi .sub (.var 4) (.con (.int (1)))) .nil))))
  (.cons (.asg 6 (.call 95 (.cons (.var 2) (.cons (.var 5) .nil))))
  (.cons (.ite (.bi .ne (.var 6) (.bi .add (.bi .add (.bi .upto (.var 2) (.var 5)) (.lst (.cons (.bi .idx (.var 2) (.bi .add (.var 5) (.con (.int (1))))) (.cons (.bi .idx (.var 2) (.var 5)) .nil)))) (.bi .from_ (.var 2) (.bi .add (.var 5) (.con (.int (2)))))))
  (.cons (.ret (.con (.bool false)))
  .nil)
  .nil)
  (.cons (.ite (.bi .ne (.call 95 (.cons (.var 6) (.cons (.var 5) .nil))) (.var 2))
  (.cons (.ret (.con (.bool false)))
  .nil)
  .nil)
  (.cons (.asg 7 (.lc (.two 12 13) (.zip (.call 6 (.cons (.var 1) (.cons (.var 6) .nil))) (.var 3)) (.con (.bool true)) (.bi .sub (.var 12) (.var 13))))
  (.cons (.ite (.or (.bi .ne (.lc (.nm 15) (.rng1 (.var 4)) (.and (.bi .ne (.bi .idx (.var 7) (.var 15)) (.con (.int (0)))) (.bi .ne (.var 15) (.var 5))) (.var 15)) (.lst .nil)) (.bi .gt (.un .abs (.bi .idx (.var 7) (.var 5))) (.con (.int (1)))))
  (.cons (.ret (.con (.bool false)))
  .nil)
  .nil)
  (.cons (.asg 8 (.call 0 (.cons (.var 0) (.cons (.var 4) .nil))))
  (.cons (.ite (.bi .ne (.call 101 (.cons (.var 1) (.cons (.var 8) .nil))) (.lc (.nm 14) (.itl (.var 1)) (.bi .ne (.var 14) (.var 8)) (.bi .sub (.var 14) (.ite (.bi .gt (.var 14) (.var 8)) (.con (.int (1))) (.con (.int (0)))))))
  (.cons (.ret (.con (.bool false)))
  .nil)
  .nil)
  .nil))))))))
  .nil)
  (.cons (.par (.two 8 9) [false, false] (.cons (.call 0 (.cons (.var 0) (.cons (.var 4) .nil))) (.cons (.call 0 (.cons (.var 0) (.cons (.var 4) .nil))) .nil)))
  (.cons (.asg 10 (.call 96 (.cons (.var 1) (.cons (.var 8) (.cons (.var 9) .nil)))))
  (.cons (.asg 11 (.lc (.nm 14) (.itl (.var 1)) (.bi .ne (.var 14) (.var 8)) (.var 14)))
  (.cons (.ret (.and (.bi .eq (.bi .idx (.var 10) (.var 9)) (.var 8)) (.bi .eq (.lc (.nm 14) (.itl (.var 10)) (.bi .ne (.var 14) (.var 8)) (.var 14)) (.var 11))))
  .nil)))))
class F_law_single_1 (Φ : Nat → Nat → Fn) : Prop where
  eq : ∀ k, Φ (k + 1) 102 = fnD (Φ k) 5 16 b_law_single_1
def b_law_kinds : Sm := (.cons (.par (.two 1 2) [false, false] (.cons (.bi .idx (.var 0) (.con (.int (0)))) (.cons (.bi .idx (.var 0) (.un .neg (.con (.int (1))))) .nil)))
  (.cons (.unp (.three 3 4 5) (.call 65 (.cons (.var 1) (.cons (.var 2) .nil))))
  (.cons (.ite (.bi .ne (.lc (.nm 9) (.itl (.var 3)) (.bi .eq (.call 94 (.cons (.lst (.cons (.var 1) (.cons (.var 2) .nil))) (.cons (.bi .idx (.var 9) (.con (.int (0)))) (.cons (.bi .idx (.var 9) (.con (.int (1)))) .nil)))) (.con (.str "unknown"))) (.var 9)) (.lst .nil))
  (.cons (.ret (.con (.bool false)))
  .nil)
  .nil)
  (.cons (.ite (.bi .ne (.lc (.nm 9) (.itl (.var 4)) (.bi .ne (.call 94 (.cons (.lst (.cons (.var 1) (.cons (.var 2) .nil))) (.cons (.bi .idx (.var 9) (.con (.int (0)))) (.cons (.bi .idx (.var 9) (.con (.int (1)))) .nil)))) (.con (.str "unknown"))) (.var 9)) (.lst .nil))
  (.cons (.ret (.con (.bool false)))
  .nil)
  .nil)
  (.cons (.ite (.bi .ne (.lc (.nm 9) (.itl (.var 5)) (.bi .eq (.call 94 (.cons (.lst (.cons (.var 1) (.cons (.var 2) .nil))) (.cons (.bi .idx (.var 9) (.con (.int (0)))) (.cons (.bi .idx (.var 9) (.con (.int (1)))) .nil)))) (.con (.str "unknown"))) (.var 9)) (.lst .nil))
  (.cons (.ret (.con (.bool false)))
  .nil)
  .nil)
  (.cons (.asg 6 (.un .len (.call 61 (.cons (.var 1) (.cons (.var 2) .nil)))))
  (.cons (.ite (.bi .ne (.bi .add (.bi .add (.un .len (.var 3)) (.un .len (.var 4))) (.un .len (.var 5))) (.bi .fdiv (.bi .mul (.var 6) (.bi .sub (.var 6) (.con (.int (1))))) (.con (.int (2)))))
  (.cons (.ret (.con (.bool false)))
  .nil)
  .nil)
  (.cons (.asg 7 (.lc (.nm 10) (.itl (.call 61 (.cons (.var 1) (.cons (.var 2) .nil)))) (.bi .notin (.var 10) (.var 1)) (.var 10)))
  (.cons (.asg 8 (.lc (.nm 10) (.itl (.call 61 (.cons (.var 1) (.cons (.var 2) .nil)))) (.con (.bool true)) (.call 73 (.cons (.var 1) (.cons (.var 2) (.cons (.var 10) .nil))))))
  (.cons (.ret (.and (.bi .eq (.un .len (.lc (.nm 11) (.itl (.var 8)) (.bi .ne (.bi .idx (.var 11) (.con (.int (0)))) (.bi .idx (.var 11) (.con (.int (1))))) (.var 11))) (.ite (.bi .gt (.un .len (.var 7)) (.con (.int (1)))) (.un .len (.var 7)) (.con (.int (0))))) (.bi .eq (.un .len (.call 68 (.cons (.var 2) (.cons (.var 1) .nil)))) (.un .len (.var 7)))))
  .nil))))))))))
class F_law_kinds (Φ : Nat → Nat → Fn) : Prop where
  eq : ∀ k, Φ (k + 1) 126 = fnD (Φ k) 1 12 b_law_kinds
theorem all_cons {T : Tab} {i : Nat} {d : Df} {ds : List (Nat × Df)} (h : DfOk T i d) (t : ∀ p ∈ ds, DfOk T p.1 p.2) : ∀ p ∈ (i, d) :: ds, DfOk T p.1 p.2 := fun p hp => by
  rcases List.mem_cons.mp hp with e | e
  · subst e
    exact h
  · exact t p e
end Tl
end
section
set_option Elab.async false
set_option linter.all false
set_option autoImplicit false
namespace Tl
open PySem
/-! ### the evaluator, step by step -/
section
variable {F : Nat → Fn} {r : Env} {g : G}
@[simp] theorem v_bind_ok {α β : Type} (a : α) (g : G) (f : α → G → R β) : (R.ok a g).bind f = f a g := rfl
@[simp] theorem v_bind_exc {α β : Type} (c : Nat) (g : G) (f : α → G → R β) : (R.exc c g : R α).bind f = .exc c g := rfl
@[simp] theorem v_st_ok {α : Type} (r : Env) (a : α) (g : G) (f : α → G → O) : (R.ok a g).st r f = f a g := rfl
@[simp] theorem v_st_exc {α : Type} (r : Env) (c : Nat) (g : G) (f : α → G → O) : (R.exc c g : R α).st r f = .ex c r g := rfl
@[simp] theorem v_of {α : Type} (g : G) (a : α) : R.of g (some a) = .ok a g := rfl
@[simp] theorem v_then_nx (r : Env) (g : G) (f : Env → G → O) : (O.nx r g).andThen f = f r g := rfl
@[simp] theorem v_then_rt (d : D) (g : G) (f : Env → G → O) : (O.rt d g).andThen f = .rt d g := rfl
@[simp] theorem v_then_ex (c : Nat) (r : Env) (g : G) (f : Env → G → O) : (O.ex c r g).andThen f = .ex c r g := rfl
@[simp] theorem v_then_ct (r : Env) (g : G) (f : Env → G → O) : (O.ct r g).andThen f = .ct r g := rfl
@[simp] theorem v_then_bk (r : Env) (g : G) (f : Env → G → O) : (O.bk r g).andThen f = .bk r g := rfl
@[simp] theorem v_con (d : D) : evE F (.con d) r g = .ok d g := by simp [evE]
@[simp] theorem v_glo (n : Nat) (d : D) : evE F (.glo n d) r g = .ok d g := by simp [evE]
theorem v_un (o : Un) (a : E) : evE F (.un o a) r g = (evC F a r g).bind fun d g => R.of g (uop o d) := by
  simp only [evE]
  rfl
theorem v_bi (o : Bi) (a b : E) : evE F (.bi o a b) r g = (evC F a r g).bind fun x g => match preB o x with
    | true => (evC F b r g).bind fun y g => R.of g (bop o x y)
    | false => .bad := by
  simp only [evE]
  rfl
end
@[simp] theorem v_var_val {F : Nat → Fn} {r : Env} {g : G} {i : Nat} {d : D} (h : r[i]? = some (.val d)) : evE F (.var i) r g = .ok d g := by simp [evE, h]
/-- operations on data of known kinds -/
@[simp] theorem u_neg (i : Int) : uop .neg (.int i) = some (.int (-i)) := rfl
@[simp] theorem u_notv (b : Bool) : uop .notv (.bool b) = some (.bool !b) := rfl
@[simp] theorem u_len (ds : List D) : uop .len (.list ds) = some (.int ds.length) := rfl
@[simp] theorem u_lent (ds : List D) : uop .len (.tuple ds) = some (.int ds.length) := rfl
@[simp] theorem u_lens (z : Str) : uop .len (.str z) = some (.int z.length) := rfl
@[simp] theorem u_abs (i : Int) : uop .abs (.int i) = some (.int (if i < 0 then -i else i)) := rfl
@[simp] theorem u_list (ds : List D) : uop .list (.list ds) = some (.list ds) := rfl
@[simp] theorem u_listt (ds : List D) : uop .list (.tuple ds) = some (.list ds) := rfl
@[simp] theorem u_lstr (z : Str) : uop .lstr (.str z) = some (.list (chars z)) := rfl
@[simp] theorem u_tuple (ds : List D) : uop .tuple (.list ds) = some (.tuple ds) := rfl
@[simp] theorem u_rev (ds : List D) : uop .rev (.list ds) = some (.list ds.reverse) := rfl
@[simp] theorem b_addi (i j : Int) : bop .add (.int i) (.int j) = some (.int (i + j)) := rfl
@[simp] theorem b_subi (i j : Int) : bop .sub (.int i) (.int j) = some (.int (i - j)) := rfl
@[simp] theorem b_muli (i j : Int) : bop .mul (.int i) (.int j) = if mulOk i j then some (.int (i * j)) else none := rfl
@[simp] theorem b_fdivi (i j : Int) : bop .fdiv (.int i) (.int j) = if 0 < j ∧ j < 1073741824 then some (.int (i / j)) else none := rfl
@[simp] theorem b_modi (i j : Int) : bop .mod (.int i) (.int j) = if 0 < j then some (.int (i % j)) else none := rfl
@[simp] theorem b_addl (a b : List D) : bop .add (.list a) (.list b) = if a.length + b.length ≤ lim then some (.list (a ++ b)) else none := rfl
@[simp] theorem b_eq (a b : D) : bop .eq a b = (eqD a b).map .bool := rfl
@[simp] theorem b_ne (a b : D) : bop .ne a b = (eqD a b).map fun k => .bool !k := rfl
@[simp] theorem b_lt (i j : Int) : bop .lt (.int i) (.int j) = some (.bool (decide (i < j))) := rfl
@[simp] theorem b_le (i j : Int) : bop .le (.int i) (.int j) = some (.bool (decide (i ≤ j))) := rfl
@[simp] theorem b_gt (i j : Int) : bop .gt (.int i) (.int j) = some (.bool (decide (j < i))) := rfl
@[simp] theorem b_ge (i j : Int) : bop .ge (.int i) (.int j) = some (.bool (decide (j ≤ i))) := rfl
@[simp] theorem b_isin (a : D) (ds : List D) : bop .isin a (.list ds) = (inD a ds).map .bool := rfl
@[simp] theorem b_notin (a : D) (ds : List D) : bop .notin a (.list ds) = (inD a ds).map fun k => .bool !k := rfl
@[simp] theorem b_min2 (i j : Int) : bop .min2 (.int i) (.int j) = some (.int (if j < i then j else i)) := rfl
@[simp] theorem b_max2 (i j : Int) : bop .max2 (.int i) (.int j) = some (.int (if j > i then j else i)) := rfl
@[simp] theorem b_idx (ds : List D) (i : Int) : bop .idx (.list ds) (.int i) = atI ds i := rfl
@[simp] theorem b_idxt (ds : List D) (i : Int) : bop .idx (.tuple ds) (.int i) = atI ds i := rfl
@[simp] theorem b_index (ds : List D) (a : D) : bop .index (.list ds) a = (indexD ds a).map fun j => .int (j : Nat) := rfl
@[simp] theorem p_add (d : D) : preB .add d = true := rfl
@[simp] theorem p_sub (d : D) : preB .sub d = true := rfl
@[simp] theorem p_mul (d : D) : preB .mul d = true := rfl
@[simp] theorem p_fdiv (d : D) : preB .fdiv d = true := rfl
@[simp] theorem p_mod (d : D) : preB .mod d = true := rfl
@[simp] theorem p_eq (d : D) : preB .eq d = true := rfl
@[simp] theorem p_ne (d : D) : preB .ne d = true := rfl
@[simp] theorem p_lt (d : D) : preB .lt d = true := rfl
@[simp] theorem p_le (d : D) : preB .le d = true := rfl
@[simp] theorem p_gt (d : D) : preB .gt d = true := rfl
@[simp] theorem p_ge (d : D) : preB .ge d = true := rfl
@[simp] theorem p_isin (d : D) : preB .isin d = true := rfl
@[simp] theorem p_notin (d : D) : preB .notin d = true := rfl
@[simp] theorem p_instr (d : D) : preB .instr d = true := rfl
@[simp] theorem p_min2 (d : D) : preB .min2 d = true := rfl
@[simp] theorem p_max2 (d : D) : preB .max2 d = true := rfl
@[simp] theorem p_idx (d : D) : preB .idx d = true := rfl
@[simp] theorem p_upto (d : D) : preB .upto d = true := rfl
@[simp] theorem p_from (d : D) : preB .from_ d = true := rfl
@[simp] theorem p_index (ds : List D) : preB .index (.list ds) = true := rfl
@[simp] theorem t_int (i : Int) : isTy .int (.int i) = true := rfl
@[simp] theorem t_inb (i : Int) : isTy .bool (.int i) = false := rfl
@[simp] theorem t_list (ds : List D) : isTy .list (.list ds) = true := rfl
@[simp] theorem t_str (z : Str) : isTy .str (.str z) = true := rfl
@[simp] theorem t_bool (z : Bool) : isTy .bool (.bool z) = true := rfl
@[simp] theorem bl_bool (b : Bool) : bl? (.bool b) = some b := rfl
@[simp] theorem isD_bool (a b : Bool) : isD (.bool b) (.bool a) = some (decide (b = a)) := rfl
@[simp] theorem isD_nn : isD .none .none = some true := rfl
@[simp] theorem setT_nm (i : Nat) (d : D) (r : Env) : setT (.nm i) d r = some (r.set i (.val d)) := rfl
@[simp] theorem setT_2 (i j : Nat) (a b : D) (r : Env) : setT (.two i j) (.tuple [a, b]) r = some ((r.set i (.val a)).set j (.val b)) := rfl
@[simp] theorem setT_3 (i j k : Nat) (a b c : D) (r : Env) : setT (.three i j k) (.tuple [a, b, c]) r = some (((r.set i (.val a)).set j (.val b)).set k (.val c)) := rfl
/-- an expression's value, where it changes nothing -/
def Ev (F : Nat → Fn) (e : E) (r : Env) (g : G) (d : D) : Prop := evE F e r g = .ok d g
def EvC (F : Nat → Fn) (e : E) (r : Env) (g : G) (d : D) : Prop := evC F e r g = .ok d g
def EvA (F : Nat → Fn) (e : E) (r : Env) (g : G) (cs : List Cell) : Prop := evA F e r g = .ok cs g
section
variable {F : Nat → Fn} {r : Env} {g : G} {a b c e : E} {d d' dz : D}
theorem ev_var {i : Nat} (h : r[i]? = some (.val d)) : Ev F (.var i) r g d := by unfold Ev; simp [evE, h]
theorem ev_con : Ev F (.con d) r g d := by unfold Ev; simp [evE]
theorem ev_glo {n : Nat} : Ev F (.glo n d) r g d := by unfold Ev; simp [evE]
theorem evc_own {i : Nat} {ds : List D} (h : r[i]? = some (.own ds)) : EvC F (.var i) r g (.list ds) := by unfold EvC; simp [evC, own?, h]
theorem evc_var {i : Nat} (h : r[i]? = some (.val d)) : EvC F (.var i) r g d := by unfold EvC; simp [evC, own?, h, evE]
theorem evc_of (hn : own? e r = none) (h : Ev F e r g d) : EvC F e r g d := by unfold EvC; unfold Ev at h; simp [evC, hn, h]
theorem ev_un {o : Un} (h : EvC F a r g d) (u : uop o d = some dz) : Ev F (.un o a) r g dz := by
  unfold Ev
  unfold EvC at h
  rw [v_un, h]
  simp [u]
theorem ev_bi {o : Bi} (h : EvC F a r g d) (h' : EvC F b r g d') (p : preB o d = true) (u : bop o d d' = some dz) : Ev F (.bi o a b) r g dz := by
  unfold Ev
  unfold EvC at h h'
  rw [v_bi, h]
  simp only [v_bind_ok, p, h', u, v_of]
theorem ev_le2 {i j k : Int} (h1 : Ev F a r g (.int i)) (h2 : Ev F b r g (.int j)) (h3 : Ev F c r g (.int k)) : Ev F (.le2 a b c) r g (.bool (decide (i ≤ j) && decide (j ≤ k))) := by
  unfold Ev at *
  simp only [evE, h1, h2, v_bind_ok]
  by_cases h : i ≤ j
  · simp [h, h3]
  · simp [h]
theorem ev_and {x y : Bool} (h1 : Ev F a r g (.bool x)) (h2 : x = true → Ev F b r g (.bool y)) (h3 : x = false → y = false) : Ev F (.and a b) r g (.bool y) := by
  unfold Ev at *
  simp only [evE, h1, v_bind_ok]
  cases x with
  | true => exact h2 rfl
  | false => rw [h3 rfl]
theorem ev_or {x y : Bool} (h1 : Ev F a r g (.bool x)) (h2 : x = false → Ev F b r g (.bool y)) (h3 : x = true → y = true) : Ev F (.or a b) r g (.bool y) := by
  unfold Ev at *
  simp only [evE, h1, v_bind_ok]
  cases x with
  | false => exact h2 rfl
  | true => rw [h3 rfl]
theorem ev_ite {x : Bool} (h1 : Ev F c r g (.bool x)) (h2 : x = true → Ev F a r g d) (h3 : x = false → Ev F b r g d) : Ev F (.ite c a b) r g d := by
  unfold Ev at *
  simp only [evE, h1, v_bind_ok]
  cases x with
  | true => exact h2 rfl
  | false => exact h3 rfl
theorem eva_nil : EvA F .nil r g [] := by unfold EvA; simp [evA]
theorem eva_cons {cs : List Cell} (hn : cell? a r = none) (h : Ev F a r g d) (h2 : EvA F e r g cs) : EvA F (.cons a e) r g (.val d :: cs) := by
  unfold EvA Ev at *
  simp [evA, hn, h, h2]
theorem ev_lst {cs : List Cell} {ds : List D} (h : EvA F a r g cs) (v : vals? cs = some ds) (l : ds.length ≤ lim) : Ev F (.lst a) r g (.list ds) := by
  unfold EvA at h
  unfold Ev
  simp [evE, h, v, l]
theorem ev_tup {cs : List Cell} {ds : List D} (h : EvA F a r g cs) (v : vals? cs = some ds) (l : ds.length ≤ lim) : Ev F (.tup a) r g (.tuple ds) := by
  unfold EvA at h
  unfold Ev
  simp [evE, h, v, l]
theorem ev_call {f : Nat} {cs : List Cell} (h : EvA F a r g cs) (h2 : F f cs g = .ok d g) : Ev F (.call f a) r g d := by
  unfold EvA at h
  unfold Ev
  simp [evE, h, h2]
theorem ev_isi {t : Ty} (h : Ev F a r g d) : Ev F (.isi a t) r g (.bool (isTy t d)) := by
  unfold Ev at *
  simp [evE, h]
theorem ev_isc {k : Bool} (h : Ev F a r g d) (u : isD d d' = some k) : Ev F (.isc a d') r g (.bool k) := by
  unfold Ev at *
  simp [evE, h, u]
theorem ev_isnc {k : Bool} (h : Ev F a r g d) (u : isD d d' = some k) : Ev F (.isnc a d') r g (.bool !k) := by
  unfold Ev at *
  simp [evE, h, u]
theorem ev_itl {ds : List D} (h : Ev F a r g (.list ds)) : Ev F (.itl a) r g (.list ds) := by
  unfold Ev at *
  simp [evE, h]
theorem ev_itt {ds : List D} (h : Ev F a r g (.tuple ds)) : Ev F (.itt a) r g (.list ds) := by
  unfold Ev at *
  simp [evE, h]
theorem ev_its {z : Str} (h : Ev F a r g (.str z)) : Ev F (.its a) r g (.list (chars z)) := by
  unfold Ev at *
  simp [evE, h]
theorem ev_rng1 {n : Int} (h : Ev F a r g (.int n)) (l : n ≤ lim) (l2 : -(2 ^ 62) ≤ n) : Ev F (.rng1 a) r g (.list (rangeD 0 n.toNat)) := by
  unfold Ev at *
  simp only [evE, h, v_bind_ok]
  rw [if_pos ⟨l, l2⟩]
theorem ev_rng2 {m n : Int} (h : Ev F a r g (.int m)) (h' : Ev F b r g (.int n)) (l : n - m ≤ lim) (l2 : smallI m = true) (l3 : smallI n = true) : Ev F (.rng2 a b) r g (.list (rangeD m (n - m).toNat)) := by
  unfold Ev at *
  simp only [evE, h, h', v_bind_ok]
  rw [if_pos ⟨l, l2, l3⟩]
theorem ev_enum {ds : List D} (h : Ev F a r g (.list ds)) : Ev F (.enum a) r g (.list (ds.zipIdx.map fun p => .tuple [.int (p.2 : Nat), p.1])) := by
  unfold Ev at *
  simp [evE, h]
theorem ev_zip {ds es : List D} (h : Ev F a r g (.list ds)) (h' : Ev F b r g (.list es)) : Ev F (.zip a b) r g (.list (List.zipWith (fun x y => .tuple [x, y]) ds es)) := by
  unfold Ev at *
  simp [evE, h, h']
theorem ev_bor (h : Ev F e (r.map frz1) g d) (f : flatD d = true) : Ev F (.bor e) r g d := by
  unfold Ev at *
  simp [evE, h, f]
end
/-! ### lists of numbers -/
abbrev I (l : List Int) : D := .list (l.map .int)
theorem toInts_map : ∀ l : List Int, toInts (l.map .int) = some l
  | [] => rfl
  | x :: l => by simp [toInts, toInts_map l]
theorem depth_I (l : List Int) : PyData.depthAll (l.map PyData.int) = 0 := by
  induction l with
  | nil => simp [PyData.depthAll]
  | cons x r ih => simp [PyData.depthAll, PyData.depth, ih]
@[simp] theorem shp_int (i : Int) : shp (.int i) = true := by simp [shp, PyData.depth]
@[simp] theorem shp_bool (i : Bool) : shp (.bool i) = true := by simp [shp, PyData.depth]
@[simp] theorem shp_str (i : Str) : shp (.str i) = true := by simp [shp, PyData.depth]
@[simp] theorem shp_none : shp .none = true := by simp [shp, PyData.depth]
@[simp] theorem shp_I (l : List Int) : shp (.list (l.map PyData.int)) = true := by simp [shp, PyData.depth, depth_I]
theorem eqvAll_I : ∀ a b : List Int, PyData.eqvAll (a.map PyData.int) (b.map PyData.int) = decide (a = b)
  | [], [] => by simp [PyData.eqvAll]
  | [], _ :: _ => by simp [PyData.eqvAll]
  | _ :: _, [] => by simp [PyData.eqvAll]
  | x :: a, y :: b => by
    simp only [List.map_cons, PyData.eqvAll, PyData.eqv, eqvAll_I a b, List.cons.injEq, Bool.decide_and]
    by_cases h : x = y <;> simp [h]
@[simp] theorem eq_I (a b : List Int) : eqD (.list (a.map PyData.int)) (.list (b.map PyData.int)) = some (decide (a = b)) := by simp [eqD, PyData.eqv, eqvAll_I]
@[simp] theorem eq_int (a b : Int) : eqD (.int a) (.int b) = some (decide (a = b)) := by
  simp [eqD, PyData.eqv]
  by_cases h : a = b <;> simp [h]
theorem any_int (x : Int) : ∀ l : List Int, ((l.map PyData.int).any fun z => PyData.eqv z (.int x)) = decide (x ∈ l)
  | [] => by simp
  | y :: l => by
    simp only [List.map_cons, List.any_cons, PyData.eqv, any_int x l, List.mem_cons, Bool.decide_or]
    by_cases h : y = x
    · simp [h]
    · simp [h, Ne.symm h]
@[simp] theorem in_I (x : Int) (l : List Int) : inD (.int x) (l.map PyData.int) = some (decide (x ∈ l)) := by
  unfold inD
  rw [any_int]
  simp
theorem cut_upto {α : Type} (l : List α) (n : Nat) : cut l none (some (n : Int)) = l.take n := by
  have h : ¬ ((n : Int) < 0) := by omega
  simp [cut, sIx, h]
theorem cut_from {α : Type} (l : List α) (n : Nat) : cut l (some (n : Int)) none = l.drop n := by
  have h : ¬ ((n : Int) < 0) := by omega
  simp only [cut, sIx, h, if_false, Int.toNat_natCast]
  by_cases hn : n ≤ l.length
  · rw [Nat.min_eq_left hn, List.take_of_length_le (by simp)]
  · rw [Nat.min_eq_right (by omega)]
    simp
    omega
@[simp] theorem upto_I (l : List Int) (n : Nat) : bop .upto (.list (l.map PyData.int)) (.int n) = some (I (l.take n)) := by
  simp only [bop, cut_upto, List.map_take, I]
@[simp] theorem from_I (l : List Int) (n : Nat) : bop .from_ (.list (l.map PyData.int)) (.int n) = some (I (l.drop n)) := by
  simp only [bop, cut_from, List.map_drop, I]
/-! ### sorted -/
def isort (l : List Int) : List Int := l.mergeSort fun a b => decide (a ≤ b)
theorem le_int (a b : Int) : PySem.W.dataLe false id (.int a) (.int b) = decide (a ≤ b) := by
  show (!PyProof.Rows.lexLt PyProof.Rows.itemOrd ([Sum.inl b] : List (Int ⊕ List Nat)) ([Sum.inl a] : List (Int ⊕ List Nat))) = decide (a ≤ b)
  rw [PyProof.Rows.lex_cons]
  show (!(decide (b < a) || (!decide (a < b) && PyProof.Rows.lexLt PyProof.Rows.itemOrd [] []))) = decide (a ≤ b)
  have : PyProof.Rows.lexLt PyProof.Rows.itemOrd [] [] = false := rfl
  rw [this]
  by_cases h : a ≤ b
  · simp [h]
  · simp [h]
    omega
theorem sort_I (l : List Int) : sortD (l.map .int) = (isort l).map .int := by
  unfold sortD isort
  exact (List.map_mergeSort fun a _ b _ => (le_int a b).symm).symm
theorem sortOk_I (l : List Int) : sortOk (l.map .int) = true := by
  simp [sortOk, PySem.W.alike]
@[simp] theorem sorted_I (l : List Int) : uop .sorted (.list (l.map PyData.int)) = some (I (isort l)) := by
  simp only [uop, sortOk_I, sort_I, if_pos]
theorem isort_perm (l : List Int) : (isort l).Perm l := List.mergeSort_perm l _
theorem isort_le (l : List Int) : (isort l).Pairwise (· ≤ ·) := by
  have := List.pairwise_mergeSort (le := fun a b : Int => decide (a ≤ b)) (fun a b c h1 h2 => by simp at *; omega) (fun a b => by simp; omega) l
  exact this.imp fun h => by simpa using h
/-- sorted things: those of a range -/
theorem isort_eq {l m : List Int} (hl : l.Nodup) (hm : m.Pairwise (· < ·)) (h : ∀ x, x ∈ l ↔ x ∈ m) : isort l = m := by
  have nm : m.Nodup := hm.imp fun h => by omega
  have p : (isort l).Perm m := (isort_perm l).trans ((List.perm_ext_iff_of_nodup hl nm).mpr h)
  exact List.Perm.eq_of_pairwise (le := (· ≤ ·)) (fun a b _ _ h1 h2 => Int.le_antisymm h1 h2) (isort_le l) (hm.imp fun h => by omega) p
/-- low, low + 1, .. -/
def rg (a : Int) (n : Nat) : List Int := (List.range n).map fun i => a + (i : Nat)
theorem rangeD_rg (a : Int) (n : Nat) : rangeD a n = (rg a n).map .int := by simp [rangeD, rg]
/-! ### comprehensions, loops -/
theorem lcL_map {α : Type} {enc : α → D} {c : D → G → R Bool} {e : D → G → R D} {p : α → Bool} {f : α → D} {g : G} : ∀ {xs : List α}, (∀ x ∈ xs, c (enc x) g = .ok (p x) g) → (∀ x ∈ xs, p x = true → e (enc x) g = .ok (f x) g) → lcL c e (xs.map enc) g = .ok ((xs.filter p).map f) g
  | [], _, _ => by simp [lcL]
  | x :: xs, hc, he => by
    have ih := lcL_map (xs := xs) (fun y hy => hc y (.tail _ hy)) (fun y hy => he y (.tail _ hy))
    have h1 := hc x (.head _)
    simp only [List.map_cons, lcL, h1]
    cases hp : p x with
    | true => simp [he x (.head _) hp, ih, hp]
    | false => simp [ih, hp]
/-- a comprehension over things of one kind -/
theorem ev_lc {F : Nat → Fn} {r : Env} {g : G} {t : Tg} {it c e : E} {α : Type} {enc : α → D} {xs : List α} {rr : α → Env} {p : α → Bool} {f : α → D} (h : Ev F it r g (.list (xs.map enc))) (ht : ∀ x ∈ xs, setT t (enc x) r = some (rr x)) (hc : ∀ x ∈ xs, Ev F c (rr x) g (.bool (p x)))
    (he : ∀ x ∈ xs, p x = true → Ev F e (rr x) g (f x)) : Ev F (.lc t it c e) r g (.list ((xs.filter p).map f)) := by
  unfold Ev at *
  simp only [evE, h, v_bind_ok]
  rw [lcL_map (p := p) (f := f) (fun x hx => by simp only [ht x hx, hc x hx, v_bind_ok, bl_bool, v_of]) (fun x hx hp => by simp only [ht x hx, he x hx hp])]
theorem forL_rel {f : D → Env → G → O} {xs : List D} {r : Env} {g : G} (Inv : Nat → Env → G → Prop) (h0 : Inv 0 r g) (hs : ∀ (i : Nat) (x : D) (r : Env) (g : G), xs[i]? = some x → Inv i r g → ∃ r' g', (f x r g = .nx r' g' ∨ f x r g = .ct r' g') ∧ Inv (i + 1) r' g') :
    ∃ r' g', forL f xs r g = .nx r' g' ∧ Inv xs.length r' g' := by
  have go : ∀ (ys : List D) (i : Nat) (r : Env) (g : G), xs.drop i = ys → Inv i r g → ∃ r' g', forL f ys r g = .nx r' g' ∧ Inv (i + ys.length) r' g' := by
    intro ys
    induction ys with
    | nil => exact fun i r g _ h => ⟨r, g, by simp [forL], h⟩
    | cons y ys ih =>
      intro i r g e h
      have hx : xs[i]? = some y := by
        have := congrArg (·[0]?) e
        simpa using this
      obtain ⟨r1, g1, h1, h2⟩ := hs i y r g hx h
      have e2 : xs.drop (i + 1) = ys := by
        rw [← List.drop_drop, e]
        rfl
      obtain ⟨r2, g2, h3, h4⟩ := ih (i + 1) r1 g1 e2 h2
      refine ⟨r2, g2, ?_, by rw [List.length_cons, Nat.add_comm ys.length, ← Nat.add_assoc]; exact h4⟩
      unfold forL
      rcases h1 with h1 | h1 <;> rw [h1] <;> exact h3
  obtain ⟨r', g', h1, h2⟩ := go xs 0 r g rfl h0
  exact ⟨r', g', h1, by simpa using h2⟩
/-! ### statements -/
section
variable {F : Nat → Fn} {r r1 : Env} {g g1 : G} {s t : Sm} {e c : E} {d : D} {o : O}
theorem s_nx (h : evS F s r g = .nx r1 g1) : evS F (.cons s t) r g = evS F t r1 g1 := by simp [evS, h]
theorem s_rt (h : evS F s r g = .rt d g1) : evS F (.cons s t) r g = .rt d g1 := by simp [evS, h]
theorem s_frz {i : Nat} {ds : List D} (h : r[i]? = some (.own ds)) : evS F (.frz i) r g = .nx (r.set i (.val (.list ds))) g := by simp [evS, h, frzC]
theorem s_asg {i : Nat} (h : Ev F e r g d) : evS F (.asg i e) r g = .nx (r.set i (.val d)) g := by
  unfold Ev at h
  simp [evS, h]
theorem s_mk {i : Nat} {ds : List D} (h : Ev F e r g (.list ds)) : evS F (.mk i e) r g = .nx (r.set i (.own ds)) g := by
  unfold Ev at h
  simp [evS, h]
theorem s_drop (h : Ev F e r g d) : evS F (.drop e) r g = .nx r g := by
  unfold Ev at h
  simp [evS, h]
theorem s_ret (h : Ev F e r g d) : evS F (.ret e) r g = .rt d g := by
  unfold Ev at h
  simp [evS, h]
theorem s_app {i : Nat} {ds : List D} (hi : r[i]? = some (.own ds)) (h : Ev F e r g d) (l : ds.length < lim) : evS F (.app i e) r g = .nx (r.set i (.own (ds ++ [d]))) g := by
  unfold Ev at h
  simp [evS, hi, h, l]
theorem s_if {x : Bool} (h : Ev F c r g (.bool x)) (h1 : x = true → evS F s r g = o) (h2 : x = false → evS F t r g = o) : evS F (.ite c s t) r g = o := by
  unfold Ev at h
  simp only [evS, evT, h, v_bind_ok, bl_bool, v_of, v_st_ok]
  cases x with
  | true => exact h1 rfl
  | false => exact h2 rfl
/-- a test that does not hold -/
theorem s_if0 (h : Ev F c r g (.bool false)) : evS F (.ite c s .nil) r g = .nx r g := s_if h (fun z => by cases z) fun _ => by simp [evS]
theorem s_for {tg : Tg} {it : E} {ds : List D} (h : Ev F it r g (.list ds)) : evS F (.for_ tg it s) r g = forL (fun x r g => match setT tg x r with
      | some r => evS F s r g
      | none => .bad) ds r g := by
  unfold Ev at h
  simp only [evS, h, v_st_ok]
  all_goals rfl
/-- a loop, by what stands behind each turn -/
theorem s_loop {tg : Tg} {it : E} {ds : List D} (h : Ev F it r g (.list ds)) (Inv : Nat → Env → G → Prop) (h0 : Inv 0 r g)
    (hs : ∀ (i : Nat) (x : D) (r : Env) (g : G), ds[i]? = some x → Inv i r g → ∃ r0 r' g', setT tg x r = some r0 ∧ (evS F s r0 g = .nx r' g' ∨ evS F s r0 g = .ct r' g') ∧ Inv (i + 1) r' g') :
    ∃ r' g', evS F (.for_ tg it s) r g = .nx r' g' ∧ Inv ds.length r' g' := by
  rw [s_for h]
  refine forL_rel Inv h0 fun i x r g hx hi => ?_
  obtain ⟨r0, r', g', h1, h2, h3⟩ := hs i x r g hx hi
  refine ⟨r', g', ?_, h3⟩
  rw [h1]
  exact h2
theorem s_loopP {tg : Tg} {it : E} {ds : List D} {P : O → Prop} (h : Ev F it r g (.list ds)) (Inv : Nat → Env → G → Prop) (h0 : Inv 0 r g)
    (hs : ∀ (i : Nat) (x : D) (r : Env) (g : G), ds[i]? = some x → Inv i r g → ∃ r0 r' g', setT tg x r = some r0 ∧ (evS F s r0 g = .nx r' g' ∨ evS F s r0 g = .ct r' g') ∧ Inv (i + 1) r' g')
    (hk : ∀ r' g', Inv ds.length r' g' → P (evS F t r' g')) : P (evS F (.cons (.for_ tg it s) t) r g) := by
  obtain ⟨r', g', e, hi⟩ := s_loop h Inv h0 hs
  rw [s_nx e]
  exact hk r' g' hi
theorem s_loopE {tg : Tg} {it : E} {ds : List D} (h : Ev F it r g (.list ds)) (Inv : Nat → Env → G → Prop) (h0 : Inv 0 r g)
    (hs : ∀ (i : Nat) (x : D) (r : Env) (g : G), ds[i]? = some x → Inv i r g → ∃ r0 r' g', setT tg x r = some r0 ∧ (evS F s r0 g = .nx r' g' ∨ evS F s r0 g = .ct r' g') ∧ Inv (i + 1) r' g')
    (hk : ∀ r' g', Inv ds.length r' g' → evS F t r' g' = o) : evS F (.cons (.for_ tg it s) t) r g = o := s_loopP (P := fun z => z = o) h Inv h0 hs hk
theorem range_at {a : Int} {n i : Nat} {x : D} (h : (rangeD a n)[i]? = some x) : i < n ∧ x = .int (a + (i : Nat)) := by
  have hi : i < n := by
    have := (List.getElem?_eq_some_iff.mp h).1
    simpa [rangeD] using this
  simp [rangeD, hi] at h
  exact ⟨hi, h.symm⟩
theorem range_len (a : Int) (n : Nat) : (rangeD a n).length = n := by simp [rangeD]
theorem fn_rt {n m : Nat} {b : Sm} {cs : List Cell} (hc : cs.length = n) (h : evS F b (cs ++ List.replicate (m - n) .und) g = .rt d g1) : fnD F n m b cs g = .ok d g1 := by
  simp [fnD, hc, h]
theorem fn_nx {n m : Nat} {b : Sm} {cs : List Cell} (hc : cs.length = n) (h : evS F b (cs ++ List.replicate (m - n) .und) g = .nx r1 g1) : fnD F n m b cs g = .ok .none g1 := by
  simp [fnD, hc, h]
end
end Tl
end
section
set_option Elab.async false
set_option linter.all false
set_option autoImplicit false
set_option synthInstance.maxHeartbeats 400000
set_option synthInstance.maxSize 2000
namespace Tl
open PySem
/-- the signs of a text -/
def chs (z : Str) : List Str := z.cps.toList.map fun c => ⟨#[c]⟩
theorem chars_chs (z : Str) : chars z = (chs z).map .str := by
  unfold chars chs
  rw [List.map_map]
  rfl
/-! ### evaluation by looking up: each class finds a value and what must hold for it -/
class Look (r : Env) (i : Nat) (c : outParam Cell) : Prop where
  h : r[i]? = some c
instance lk0 {c : Cell} {r : Env} : Look (c :: r) 0 c := ⟨rfl⟩
instance lkS {c d : Cell} {r : Env} {i : Nat} [H : Look r i c] : Look (d :: r) (i + 1) c := ⟨by rw [List.getElem?_cons_succ]; exact H.h⟩
class Put (r : Env) (i : Nat) (c : Cell) (s : outParam Env) : Prop where
  h : r.set i c = s
instance pt0 {c d : Cell} {r : Env} : Put (d :: r) 0 c (c :: r) := ⟨rfl⟩
instance ptS {c d : Cell} {r s : Env} {i : Nat} [H : Put r i c s] : Put (d :: r) (i + 1) c (d :: s) := ⟨by rw [List.set_cons_succ, H.h]⟩
class PutT (t : Tg) (d : D) (r : Env) (s : outParam Env) : Prop where
  h : setT t d r = some s
instance put1 {i : Nat} {d : D} {r s : Env} [H : Put r i (.val d) s] : PutT (.nm i) d r s := ⟨by rw [setT_nm, H.h]⟩
instance put2 {i j : Nat} {a b : D} {r s u : Env} [H : Put r i (.val a) s] [K : Put s j (.val b) u] : PutT (.two i j) (.tuple [a, b]) r u := ⟨by rw [setT_2, H.h, K.h]⟩
instance put3 {i j k : Nat} {a b c : D} {r s u v : Env} [H : Put r i (.val a) s] [K : Put s j (.val b) u] [L : Put u k (.val c) v] : PutT (.three i j k) (.tuple [a, b, c]) r v := ⟨by rw [setT_3, H.h, K.h, L.h]⟩
class Frz (r : Env) (s : outParam Env) : Prop where
  h : r.map frz1 = s
instance fz0 : Frz [] [] := ⟨rfl⟩
instance fzO {ds : List D} {r s : Env} [H : Frz r s] : Frz (.own ds :: r) (.val (.list ds) :: s) := ⟨by rw [List.map_cons, H.h]; rfl⟩
instance fzV {d : D} {r s : Env} [H : Frz r s] : Frz (.val d :: r) (.val d :: s) := ⟨by rw [List.map_cons, H.h]; rfl⟩
instance fzU {r s : Env} [H : Frz r s] : Frz (.und :: r) (.und :: s) := ⟨by rw [List.map_cons, H.h]; rfl⟩
instance fzD {r s : Env} [H : Frz r s] : Frz (.drw :: r) (.drw :: s) := ⟨by rw [List.map_cons, H.h]; rfl⟩
instance fzX {c : Nat} {r s : Env} [H : Frz r s] : Frz (.exn c :: r) (.exn c :: s) := ⟨by rw [List.map_cons, H.h]; rfl⟩
/-- no variable -/
class NoV (e : E) : Prop where
  h : ∀ r, own? e r = none ∧ cell? e r = none
instance nv1 {d : D} : NoV (.con d) := ⟨fun _ => ⟨rfl, rfl⟩⟩
instance nv2 {n : Nat} {d : D} : NoV (.glo n d) := ⟨fun _ => ⟨rfl, rfl⟩⟩
instance nv3 {o : Un} {a : E} : NoV (.un o a) := ⟨fun _ => ⟨rfl, rfl⟩⟩
instance nv4 {o : Bi} {a b : E} : NoV (.bi o a b) := ⟨fun _ => ⟨rfl, rfl⟩⟩
instance nv5 {a b c : E} : NoV (.le2 a b c) := ⟨fun _ => ⟨rfl, rfl⟩⟩
instance nv6 {a b : E} : NoV (.and a b) := ⟨fun _ => ⟨rfl, rfl⟩⟩
instance nv7 {a b : E} : NoV (.or a b) := ⟨fun _ => ⟨rfl, rfl⟩⟩
instance nv8 {a b c : E} : NoV (.ite a b c) := ⟨fun _ => ⟨rfl, rfl⟩⟩
instance nv9 {a : E} : NoV (.lst a) := ⟨fun _ => ⟨rfl, rfl⟩⟩
instance nv10 {a : E} : NoV (.tup a) := ⟨fun _ => ⟨rfl, rfl⟩⟩
instance nv11 {n : Nat} {a : E} : NoV (.call n a) := ⟨fun _ => ⟨rfl, rfl⟩⟩
instance nv12 {a : E} {t : Ty} : NoV (.isi a t) := ⟨fun _ => ⟨rfl, rfl⟩⟩
instance nv13 {t : Tg} {a b c : E} : NoV (.lc t a b c) := ⟨fun _ => ⟨rfl, rfl⟩⟩
instance nv14 {a : E} {d : D} : NoV (.isc a d) := ⟨fun _ => ⟨rfl, rfl⟩⟩
instance nv15 {a : E} {d : D} : NoV (.isnc a d) := ⟨fun _ => ⟨rfl, rfl⟩⟩
instance nv16 {a : E} : NoV (.bor a) := ⟨fun _ => ⟨rfl, rfl⟩⟩
instance nv17 {a b c d : E} : NoV (.le3 a b c d) := ⟨fun _ => ⟨rfl, rfl⟩⟩
class EvP (F : Nat → Fn) (e : E) (r : Env) (d : outParam D) (P : outParam Prop) : Prop where
  h : P → ∀ g : G, evE F e r g = .ok d g
/-- an owned list may be read -/
class EvR (F : Nat → Fn) (e : E) (r : Env) (d : outParam D) (P : outParam Prop) : Prop where
  h : P → ∀ g : G, evC F e r g = .ok d g
class EvL (F : Nat → Fn) (e : E) (r : Env) (cs : outParam (List Cell)) (P : outParam Prop) : Prop where
  h : P → ∀ g : G, evA F e r g = .ok cs g
class CellD (c : Cell) (d : outParam D) : Prop where
  h : (c = .val d) ∨ ∃ ds, c = .own ds ∧ d = .list ds
instance cd1 {d : D} : CellD (.val d) d := ⟨.inl rfl⟩
instance cd2 {ds : List D} : CellD (.own ds) (.list ds) := ⟨.inr ⟨ds, rfl, rfl⟩⟩
section
variable {F : Nat → Fn} {r s : Env} {a b c e : E} {d d' dz : D} {P Q S : Prop} {i : Nat}
instance rdV {k : Cell} [H : Look r i k] [K : CellD k d] : EvR F (.var i) r d True := ⟨fun _ g => by
  have h := H.h
  rcases K.h with z | ⟨ds, z, y⟩
  · subst z; simp [evC, own?, h, evE]
  · subst z; subst y; simp [evC, own?, h]⟩
instance rdE [N : NoV e] [H : EvP F e r d P] : EvR F e r d P := ⟨fun p g => by simp [evC, (N.h r).1, H.h p g]⟩
instance evVar [H : Look r i (.val d)] : EvP F (.var i) r d True := ⟨fun _ g => by simp [evE, H.h]⟩
instance evCon : EvP F (.con d) r d True := ⟨fun _ g => by simp [evE]⟩
instance evGlo {n : Nat} : EvP F (.glo n d) r d True := ⟨fun _ g => by simp [evE]⟩
class UoP (o : Un) (d : D) (dz : outParam D) (Q : outParam Prop) : Prop where
  h : Q → uop o d = some dz
class BoP (o : Bi) (d d' : D) (dz : outParam D) (Q : outParam Prop) : Prop where
  h : Q → bop o d d' = some dz
  p : preB o d = true
instance evUn {o : Un} [H : EvR F a r d P] [K : UoP o d dz Q] : EvP F (.un o a) r dz (P ∧ Q) := ⟨fun p g => by
  rw [v_un, H.h p.1 g]; simp [K.h p.2]⟩
instance evBi {o : Bi} [H : EvR F a r d P] [H' : EvR F b r d' Q] [K : BoP o d d' dz S] : EvP F (.bi o a b) r dz (P ∧ Q ∧ S) := ⟨fun p g => by
  rw [v_bi, H.h p.1 g]; simp only [v_bind_ok, K.p, H'.h p.2.1 g, K.h p.2.2, v_of]⟩
instance evLe2 {x y z : Int} [H : EvP F a r (.int x) P] [K : EvP F b r (.int y) Q] [L : EvP F c r (.int z) S] : EvP F (.le2 a b c) r (.bool (decide (x ≤ y) && decide (y ≤ z))) (P ∧ Q ∧ S) := ⟨fun p g => ev_le2 (H.h p.1 g) (K.h p.2.1 g) (L.h p.2.2 g)⟩
instance evLe3 {e : E} {x y z w : Int} {U : Prop} [H : EvP F a r (.int x) P] [K : EvP F b r (.int y) Q] [L : EvP F c r (.int z) S] [M : EvP F e r (.int w) U] : EvP F (.le3 a b c e) r (.bool (decide (x ≤ y) && (decide (y ≤ z) && decide (z ≤ w)))) (P ∧ Q ∧ S ∧ U) := ⟨fun p g => by
  have h1 := H.h p.1 g
  have h2 := K.h p.2.1 g
  have h3 := L.h p.2.2.1 g
  have h4 := M.h p.2.2.2 g
  simp only [evE, h1, h2, v_bind_ok]
  by_cases c1 : x ≤ y
  · rw [if_pos c1, h3]
    simp only [v_bind_ok]
    by_cases c2 : y ≤ z
    · rw [if_pos c2, h4]
      simp [c1, c2]
    · rw [if_neg c2]
      simp [c1, c2]
  · rw [if_neg c1]
    simp [c1]⟩
instance evAnd {x y : Bool} [H : EvP F a r (.bool x) P] [K : EvP F b r (.bool y) Q] : EvP F (.and a b) r (.bool (x && y)) (P ∧ (x = true → Q)) := ⟨fun p g => ev_and (H.h p.1 g) (fun z => by rw [z, Bool.true_and]; exact K.h (p.2 z) g) (fun z => by rw [z]; rfl)⟩
instance evOr {x y : Bool} [H : EvP F a r (.bool x) P] [K : EvP F b r (.bool y) Q] : EvP F (.or a b) r (.bool (x || y)) (P ∧ (x = false → Q)) := ⟨fun p g => ev_or (H.h p.1 g) (fun z => by rw [z, Bool.false_or]; exact K.h (p.2 z) g) (fun z => by rw [z]; rfl)⟩
/-- both ways of a condition are of one kind -/
class Mix (x : Bool) (d d' : D) (dz : outParam D) : Prop where
  h : dz = if x then d else d'
instance mxI {x : Bool} {m n : Int} : Mix x (.int m) (.int n) (.int (if x then m else n)) := ⟨by cases x <;> rfl⟩
instance mxB {x : Bool} {m n : Bool} : Mix x (.bool m) (.bool n) (.bool (if x then m else n)) := ⟨by cases x <;> rfl⟩
instance mxS {x : Bool} {m n : Str} : Mix x (.str m) (.str n) (.str (if x then m else n)) := ⟨by cases x <;> rfl⟩
instance (priority := low) mxA {x : Bool} : Mix x d d' (if x then d else d') := ⟨rfl⟩
instance evIte {x : Bool} [H : EvP F c r (.bool x) P] [K : EvP F a r d Q] [L : EvP F b r d' S] [M : Mix x d d' dz] : EvP F (.ite c a b) r dz (P ∧ (x = true → Q) ∧ (x = false → S)) := ⟨fun p g => by
  have e := M.h
  exact ev_ite (H.h p.1 g) (fun z => by rw [e, z]; exact K.h (p.2.1 z) g) (fun z => by rw [e, z]; exact L.h (p.2.2 z) g)⟩
instance elNil : EvL F .nil r [] True := ⟨fun _ g => by simp [evA]⟩
instance elV {d : D} {cs : List Cell} [H : Look r i (.val d)] [K : EvL F e r cs Q] : EvL F (.cons (.var i) e) r (.val d :: cs) Q := ⟨fun p g => by
  have h := H.h
  simp [evA, cell?, h, evE, K.h p g]⟩
instance elD {cs : List Cell} [H : Look r i .drw] [K : EvL F e r cs Q] : EvL F (.cons (.var i) e) r (.drw :: cs) Q := ⟨fun p g => by
  have h := H.h
  simp [evA, cell?, h, evE, K.h p g]⟩
instance elE {cs : List Cell} [N : NoV a] [H : EvP F a r d P] [K : EvL F e r cs Q] : EvL F (.cons a e) r (.val d :: cs) (P ∧ Q) := ⟨fun p g => by simp [evA, (N.h r).2, H.h p.1 g, K.h p.2 g]⟩
class Vals (cs : List Cell) (ds : outParam (List D)) : Prop where
  h : vals? cs = some ds
instance vl0 : Vals [] [] := ⟨rfl⟩
instance vlS {cs : List Cell} {ds : List D} [H : Vals cs ds] : Vals (.val d :: cs) (d :: ds) := ⟨by simp [vals?, H.h]⟩
class Ints (cs : List Cell) (ns : outParam (List Int)) : Prop where
  h : vals? cs = some (ns.map .int)
instance in1 {n : Int} : Ints [.val (.int n)] [n] := ⟨rfl⟩
instance inS {n : Int} {c : Cell} {cs : List Cell} {ns : List Int} [H : Ints (c :: cs) ns] : Ints (.val (.int n) :: c :: cs) (n :: ns) := ⟨by
  have h := H.h
  unfold vals?
  rw [h]
  rfl⟩
class Strs (cs : List Cell) (ns : outParam (List Str)) : Prop where
  h : vals? cs = some (ns.map .str)
instance st1 {n : Str} : Strs [.val (.str n)] [n] := ⟨rfl⟩
instance stS {n : Str} {c : Cell} {cs : List Cell} {ns : List Str} [H : Strs (c :: cs) ns] : Strs (.val (.str n) :: c :: cs) (n :: ns) := ⟨by
  have h := H.h
  unfold vals?
  rw [h]
  rfl⟩
class StrLs (cs : List Cell) (ns : outParam (List (List Str))) : Prop where
  h : vals? cs = some (ns.map fun y => .list (y.map .str))
instance sl1 {n : List Str} : StrLs [.val (.list (n.map .str))] [n] := ⟨rfl⟩
instance slS {n : List Str} {c : Cell} {cs : List Cell} {ns : List (List Str)} [H : StrLs (c :: cs) ns] : StrLs (.val (.list (n.map .str)) :: c :: cs) (n :: ns) := ⟨by
  have h := H.h
  unfold vals?
  rw [h]
  rfl⟩
class IntLs (cs : List Cell) (ns : outParam (List (List Int))) : Prop where
  h : vals? cs = some (ns.map fun y => .list (y.map .int))
instance il1 {n : List Int} : IntLs [.val (.list (n.map .int))] [n] := ⟨rfl⟩
instance ilS {n : List Int} {c : Cell} {cs : List Cell} {ns : List (List Int)} [H : IntLs (c :: cs) ns] : IntLs (.val (.list (n.map .int)) :: c :: cs) (n :: ns) := ⟨by
  have h := H.h
  unfold vals?
  rw [h]
  rfl⟩
instance evLstSS {cs : List Cell} {ns : List (List Str)} [H : EvL F a r cs P] [K : StrLs cs ns] : EvP F (.lst a) r (.list (ns.map fun y => .list (y.map .str))) (P ∧ ns.length ≤ lim) := ⟨fun p g => ev_lst (H.h p.1 g) K.h (by rw [List.length_map]; exact p.2)⟩
instance evLstII {cs : List Cell} {ns : List (List Int)} [H : EvL F a r cs P] [K : IntLs cs ns] : EvP F (.lst a) r (.list (ns.map fun y => .list (y.map .int))) (P ∧ ns.length ≤ lim) := ⟨fun p g => ev_lst (H.h p.1 g) K.h (by rw [List.length_map]; exact p.2)⟩
instance (priority := low) evLst {cs : List Cell} {ds : List D} [H : EvL F a r cs P] [K : Vals cs ds] : EvP F (.lst a) r (.list ds) (P ∧ ds.length ≤ lim) := ⟨fun p g => ev_lst (H.h p.1 g) K.h p.2⟩
instance evLstI {cs : List Cell} {ns : List Int} [H : EvL F a r cs P] [K : Ints cs ns] : EvP F (.lst a) r (.list (ns.map .int)) (P ∧ ns.length ≤ lim) := ⟨fun p g => ev_lst (H.h p.1 g) K.h (by rw [List.length_map]; exact p.2)⟩
instance evLstS {cs : List Cell} {ns : List Str} [H : EvL F a r cs P] [K : Strs cs ns] : EvP F (.lst a) r (.list (ns.map .str)) (P ∧ ns.length ≤ lim) := ⟨fun p g => ev_lst (H.h p.1 g) K.h (by rw [List.length_map]; exact p.2)⟩
instance evTup {cs : List Cell} {ds : List D} [H : EvL F a r cs P] [K : Vals cs ds] : EvP F (.tup a) r (.tuple ds) (P ∧ ds.length ≤ lim) := ⟨fun p g => ev_tup (H.h p.1 g) K.h p.2⟩
class CallP (F : Nat → Fn) (f : Nat) (cs : List Cell) (d : outParam D) (P : outParam Prop) : Prop where
  h : P → ∀ g : G, F f cs g = .ok d g
instance evCall {f : Nat} {cs : List Cell} [H : EvL F a r cs P] [K : CallP F f cs d Q] : EvP F (.call f a) r d (P ∧ Q) := ⟨fun p g => ev_call (H.h p.1 g) (K.h p.2 g)⟩
class TyP (t : Ty) (d : D) (x : outParam Bool) : Prop where
  h : isTy t d = x
instance ty1 {i : Int} : TyP .int (.int i) true := ⟨rfl⟩
instance ty2 {i : Int} : TyP .bool (.int i) false := ⟨rfl⟩
instance ty3 {ds : List D} : TyP .list (.list ds) true := ⟨rfl⟩
instance ty4 {z : Str} : TyP .str (.str z) true := ⟨rfl⟩
instance ty5 {z : Bool} : TyP .bool (.bool z) true := ⟨rfl⟩
instance evIsi {t : Ty} {x : Bool} [H : EvP F a r d P] [K : TyP t d x] : EvP F (.isi a t) r (.bool x) P := ⟨fun p g => by
  have := ev_isi (t := t) (H.h p g)
  rw [K.h] at this
  exact this⟩
class IsP (d c : D) (x : outParam Bool) : Prop where
  h : isD d c = some x
instance is1 {a b : Bool} : IsP (.bool b) (.bool a) (decide (b = a)) := ⟨rfl⟩
instance is2 : IsP .none .none true := ⟨rfl⟩
instance is3 {n : Int} : IsP (.int n) .none false := ⟨rfl⟩
instance is4 {n : Str} : IsP (.str n) .none false := ⟨rfl⟩
instance is5 {n : List D} : IsP (.list n) .none false := ⟨rfl⟩
instance evIsc {x : Bool} [H : EvP F a r d P] [K : IsP d d' x] : EvP F (.isc a d') r (.bool x) P := ⟨fun p g => ev_isc (H.h p g) K.h⟩
instance evIsnc {x : Bool} [H : EvP F a r d P] [K : IsP d d' x] : EvP F (.isnc a d') r (.bool !x) P := ⟨fun p g => ev_isnc (H.h p g) K.h⟩
instance evItl {ds : List D} [H : EvP F a r (.list ds) P] : EvP F (.itl a) r (.list ds) P := ⟨fun p g => ev_itl (H.h p g)⟩
instance evItt {ds : List D} [H : EvP F a r (.tuple ds) P] : EvP F (.itt a) r (.list ds) P := ⟨fun p g => ev_itt (H.h p g)⟩
instance evIts {z : Str} [H : EvP F a r (.str z) P] : EvP F (.its a) r (.list ((chs z).map .str)) P := ⟨fun p g => by
  have := ev_its (H.h p g)
  rw [chars_chs] at this
  exact this⟩
/-- a number that is at least 0 -/
class NatI (i : Int) (n : outParam Nat) (P : outParam Prop) : Prop where
  h : P → i = (n : Int)
instance (priority := low) ni0 {i : Int} : NatI i i.toNat (0 ≤ i) := ⟨fun p => by omega⟩
instance niC {n : Nat} : NatI (n : Int) n True := ⟨fun _ => rfl⟩
instance niL0 : NatI 0 0 True := ⟨fun _ => rfl⟩
instance niL1 : NatI 1 1 True := ⟨fun _ => rfl⟩
instance niL2 : NatI 2 2 True := ⟨fun _ => rfl⟩
instance niL3 : NatI 3 3 True := ⟨fun _ => rfl⟩
instance niL4 : NatI 4 4 True := ⟨fun _ => rfl⟩
instance niL5 : NatI 5 5 True := ⟨fun _ => rfl⟩
instance niL6 : NatI 6 6 True := ⟨fun _ => rfl⟩
instance niL7 : NatI 7 7 True := ⟨fun _ => rfl⟩
instance niL8 : NatI 8 8 True := ⟨fun _ => rfl⟩
instance niL9 : NatI 9 9 True := ⟨fun _ => rfl⟩
instance niL10 : NatI 10 10 True := ⟨fun _ => rfl⟩
instance niL11 : NatI 11 11 True := ⟨fun _ => rfl⟩
instance niL12 : NatI 12 12 True := ⟨fun _ => rfl⟩
instance niL100 : NatI 100 100 True := ⟨fun _ => rfl⟩
instance niL420 : NatI 420 420 True := ⟨fun _ => rfl⟩
instance niA {i j : Int} {n m : Nat} [H : NatI i n P] [K : NatI j m Q] : NatI (i + j) (n + m) (P ∧ Q) := ⟨fun p => by rw [H.h p.1, K.h p.2]; omega⟩
instance niM {i j : Int} {n m : Nat} [H : NatI i n P] [K : NatI j m Q] : NatI (i * j) (n * m) (P ∧ Q) := ⟨fun p => by rw [H.h p.1, K.h p.2, Int.natCast_mul]⟩
instance evRng1 {i : Int} {n : Nat} [H : EvP F a r (.int i) P] [K : NatI i n Q] : EvP F (.rng1 a) r (.list ((List.range n).map fun (k : Nat) => .int (k : Int))) (P ∧ Q ∧ n ≤ lim) := ⟨fun p g => by
  have h := H.h p.1 g
  rw [K.h p.2.1] at h
  have := ev_rng1 (F := F) h (by have := p.2.2; omega) (by omega)
  unfold Ev at this
  simpa [rangeD] using this⟩
instance evRng2 {i j : Int} [H : EvP F a r (.int i) P] [H' : EvP F b r (.int j) Q] : EvP F (.rng2 a b) r (.list ((List.range (j - i).toNat).map fun (k : Nat) => .int (i + (k : Int)))) (P ∧ Q ∧ -1000000 ≤ i ∧ i ≤ 1000000 ∧ -1000000 ≤ j ∧ j ≤ 1000000 ∧ j - i ≤ 1000000) := ⟨fun p g => by
  obtain ⟨p1, p2, p3, p4, p5, p6, p7⟩ := p
  exact ev_rng2 (F := F) (H.h p1 g) (H'.h p2 g) (by unfold lim; omega) (by simp [smallI]; omega) (by simp [smallI]; omega)⟩
theorem zipIdx_enc {α : Type} (enc : α → D) : ∀ (xs : List α) (k : Nat), ((xs.map enc).zipIdx k).map (fun p => PyData.tuple [.int (p.2 : Nat), p.1]) = (xs.zipIdx k).map fun p => .tuple [.int (p.2 : Nat), enc p.1]
  | [], k => rfl
  | x :: xs, k => by simp [zipIdx_enc enc xs (k + 1)]
instance evEnum {α : Type} {enc : α → D} {xs : List α} [H : EvP F a r (.list (xs.map enc)) P] : EvP F (.enum a) r (.list (xs.zipIdx.map fun p => .tuple [.int (p.2 : Nat), enc p.1])) P := ⟨fun p g => by
  have := ev_enum (F := F) (H.h p g)
  rw [zipIdx_enc] at this
  exact this⟩
theorem zip_enc {α β : Type} (enc : α → D) (enc' : β → D) : ∀ (xs : List α) (ys : List β), List.zipWith (fun x y => PyData.tuple [x, y]) (xs.map enc) (ys.map enc') = (xs.zip ys).map fun p => .tuple [enc p.1, enc' p.2]
  | [], _ => by simp
  | _ :: _, [] => by simp
  | x :: xs, y :: ys => by simp [zip_enc enc enc' xs ys]
instance evZip {α β : Type} {enc : α → D} {enc' : β → D} {xs : List α} {ys : List β} [H : EvP F a r (.list (xs.map enc)) P] [K : EvP F b r (.list (ys.map enc')) Q] : EvP F (.zip a b) r (.list ((xs.zip ys).map fun p => .tuple [enc p.1, enc' p.2])) (P ∧ Q) := ⟨fun p g => by
  have := ev_zip (F := F) (H.h p.1 g) (K.h p.2 g)
  rw [zip_enc] at this
  exact this⟩
class FlatD (d : D) : Prop where
  h : flatD d = true
instance fd1 {i : Int} : FlatD (.int i) := ⟨rfl⟩
instance fd2 {i : Bool} : FlatD (.bool i) := ⟨rfl⟩
instance fd3 {i : Str} : FlatD (.str i) := ⟨rfl⟩
instance fd4 : FlatD .none := ⟨rfl⟩
instance evBor [K : Frz r s] [H : EvP F e s d P] [L : FlatD d] : EvP F (.bor e) r d P := ⟨fun p g => ev_bor (by rw [K.h]; exact H.h p g) L.h⟩
/-- the same things, told by one encoding -/
class Canon {α : Type} (f : α → D) (β : outParam Type) (enc : outParam (β → D)) (h : outParam (α → β)) : Prop where
  h : ∀ x, f x = enc (h x)
instance (priority := 10) cnAny {α : Type} {f : α → D} : Canon f α f (fun x => x) := ⟨fun _ => rfl⟩
instance cnI {α : Type} {h : α → Int} : Canon (fun x => .int (h x)) Int .int h := ⟨fun _ => rfl⟩
instance cnS {α : Type} {h : α → Str} : Canon (fun x => .str (h x)) Str .str h := ⟨fun _ => rfl⟩
instance cnB {α : Type} {h : α → Bool} : Canon (fun x => .bool (h x)) Bool .bool h := ⟨fun _ => rfl⟩
instance cnLI {α : Type} {h : α → List Int} : Canon (fun x => .list ((h x).map .int)) (List Int) (fun y => .list (y.map .int)) h := ⟨fun _ => rfl⟩
instance cnLS {α : Type} {h : α → List Str} : Canon (fun x => .list ((h x).map .str)) (List Str) (fun y => .list (y.map .str)) h := ⟨fun _ => rfl⟩
instance cnII {α : Type} {h h' : α → Int} : Canon (fun x => .tuple [.int (h x), .int (h' x)]) (Int × Int) (fun y => .tuple [.int y.1, .int y.2]) (fun x => (h x, h' x)) := ⟨fun _ => rfl⟩
instance cnIS {α : Type} {h : α → Int} {h' : α → Str} : Canon (fun x => .tuple [.int (h x), .str (h' x)]) (Int × Str) (fun y => .tuple [.int y.1, .str y.2]) (fun x => (h x, h' x)) := ⟨fun _ => rfl⟩
instance cnSI {α : Type} {h : α → Str} {h' : α → Int} : Canon (fun x => .tuple [.str (h x), .int (h' x)]) (Str × Int) (fun y => .tuple [.str y.1, .int y.2]) (fun x => (h x, h' x)) := ⟨fun _ => rfl⟩
instance cnSS {α : Type} {h h' : α → Str} : Canon (fun x => .tuple [.str (h x), .str (h' x)]) (Str × Str) (fun y => .tuple [.str y.1, .str y.2]) (fun x => (h x, h' x)) := ⟨fun _ => rfl⟩
/-- a comprehension -/
instance evLc {t : Tg} {it : E} {α β : Type} {enc : α → D} {enc' : β → D} {xs : List α} {rr : α → Env} {q : α → Bool} {f : α → D} {h : α → β} {Pc Pe : α → Prop} [H : EvP F it r (.list (xs.map enc)) P] [T : ∀ x, PutT t (enc x) r (rr x)] [C : ∀ x, EvP F c (rr x) (.bool (q x)) (Pc x)] [B : ∀ x, EvP F e (rr x) (f x) (Pe x)] [K : Canon f β enc' h] :
    EvP F (.lc t it c e) r (.list (((xs.filter q).map h).map enc')) (P ∧ ∀ x ∈ xs, Pc x ∧ (q x = true → Pe x)) := ⟨fun p g => by
  have := ev_lc (xs := xs) (enc := enc) (rr := rr) (p := q) (f := f) (H.h p.1 g) (fun x _ => (T x).h) (fun x hx => (C x).h (p.2 x hx).1 g) (fun x hx hq => (B x).h ((p.2 x hx).2 hq) g)
  rw [funext K.h] at this
  rw [List.map_map]
  exact this⟩
/-- without a test -/
instance evLcT {t : Tg} {it : E} {α β : Type} {enc : α → D} {enc' : β → D} {xs : List α} {rr : α → Env} {f : α → D} {h : α → β} {Pe : α → Prop} [H : EvP F it r (.list (xs.map enc)) P] [T : ∀ x, PutT t (enc x) r (rr x)] [B : ∀ x, EvP F e (rr x) (f x) (Pe x)] [K : Canon f β enc' h] :
    EvP F (.lc t it (.con (.bool true)) e) r (.list ((xs.map h).map enc')) (P ∧ ∀ x ∈ xs, Pe x) := ⟨fun p g => by
  have := ev_lc (F := F) (c := .con (.bool true)) (xs := xs) (enc := enc) (rr := rr) (p := fun _ => true) (f := f) (H.h p.1 g) (fun x _ => (T x).h) (fun x hx => ev_con) (fun x hx hq => (B x).h (p.2 x hx) g)
  rw [List.filter_eq_self.mpr (fun _ _ => rfl), funext K.h] at this
  rw [List.map_map]
  exact this⟩
end
theorem EvP.ev {F : Nat → Fn} {e : E} {r : Env} {d d' : D} {P : Prop} {g : G} (H : EvP F e r d P) (p : P) (z : d = d') : Ev F e r g d' := by
  subst z; exact H.h p g
end Tl
end
section
set_option Elab.async false
set_option linter.all false
set_option autoImplicit false
set_option synthInstance.maxHeartbeats 400000
set_option synthInstance.maxSize 2000
namespace Tl
open PySem
/-! ### operations -/
instance uNeg {i : Int} : UoP .neg (.int i) (.int (-i)) True := ⟨fun _ => rfl⟩
instance uNot {b : Bool} : UoP .notv (.bool b) (.bool !b) True := ⟨fun _ => rfl⟩
instance uLen0 : UoP .len (.list []) (.int 0) True := ⟨fun _ => rfl⟩
instance uLenC {d : D} {ds : List D} : UoP .len (.list (d :: ds)) (.int (d :: ds).length) True := ⟨fun _ => rfl⟩
instance uLenM {α : Type} {f : α → D} {xs : List α} : UoP .len (.list (xs.map f)) (.int xs.length) True := ⟨fun _ => by simp [uop]⟩
instance uLenT {ds : List D} : UoP .len (.tuple ds) (.int ds.length) True := ⟨fun _ => rfl⟩
instance uLenS {z : Str} : UoP .len (.str z) (.int z.length) True := ⟨fun _ => rfl⟩
instance uLenSet {ns : List Int} : UoP .lenset (.list (ns.map .int)) (.int (dd ns).length) (ns.length ≤ 1000) := ⟨fun p => by
  simp only [uop, toInts_map]
  rw [if_pos p]⟩
theorem toStrs_map : ∀ l : List Str, toStrs (l.map .str) = some l
  | [] => rfl
  | x :: l => by simp [toStrs, toStrs_map l]
theorem toInts_strs (x : Str) (l : List Str) : toInts ((x :: l).map .str) = none := by simp [toInts]
instance uLenSetS {ns : List Str} : UoP .lenset (.list (ns.map .str)) (.int (dd ns).length) (ns.length ≤ 1000) := ⟨fun p => by
  cases ns with
  | nil => rfl
  | cons x l =>
    simp only [uop, toInts_strs, toStrs_map]
    rw [if_pos p]⟩
theorem toInts_f {α : Type} (f : α → Int) (l : List α) : toInts (l.map fun x => .int (f x)) = some (l.map f) := by
  have := toInts_map (l.map f)
  rw [List.map_map] at this
  exact this
theorem toBls_f {α : Type} (f : α → Bool) : ∀ (l : List α), toBls (l.map fun x => .bool (f x)) = some (l.map f)
  | [] => rfl
  | x :: l => by simp [toBls, toBls_f f l]
instance uSum {l : List Int} : UoP .sum (.list (l.map .int)) (.int l.sum) True := ⟨fun _ => by simp only [uop, toInts_map, Option.map_some]⟩
def minL (l : List Int) : Int := (minI l).getD 0
def maxL (l : List Int) : Int := (maxI l).getD 0
instance uMin {l : List Int} : UoP .min1 (.list (l.map .int)) (.int (minL l)) (l ≠ []) := ⟨fun p => by
  simp only [uop, toInts_map, Option.bind_some]
  cases l with
  | nil => exact absurd rfl p
  | cons x l => rfl⟩
instance uMax {l : List Int} : UoP .max1 (.list (l.map .int)) (.int (maxL l)) (l ≠ []) := ⟨fun p => by
  simp only [uop, toInts_map, Option.bind_some]
  cases l with
  | nil => exact absurd rfl p
  | cons x l => rfl⟩
instance uSort {l : List Int} : UoP .sorted (.list (l.map .int)) (.list ((isort l).map .int)) True := ⟨fun _ => sorted_I l⟩
theorem toBls_map : ∀ l : List Bool, toBls (l.map .bool) = some l
  | [] => rfl
  | x :: l => by simp [toBls, toBls_map l]
instance uAll {l : List Bool} : UoP .all (.list (l.map .bool)) (.bool (l.all fun b => b)) True := ⟨fun _ => by simp only [uop, toBls_map, Option.map_some]; rfl⟩
instance uAny {l : List Bool} : UoP .any (.list (l.map .bool)) (.bool (l.any fun b => b)) True := ⟨fun _ => by simp only [uop, toBls_map, Option.map_some]; rfl⟩
instance uAbs {i : Int} : UoP .abs (.int i) (.int (i.natAbs : Nat)) True := ⟨fun _ => by
  simp only [uop]
  congr 2
  split <;> omega⟩
instance uList {ds : List D} : UoP .list (.list ds) (.list ds) True := ⟨fun _ => rfl⟩
instance uListT {ds : List D} : UoP .list (.tuple ds) (.list ds) True := ⟨fun _ => rfl⟩
instance uTuple {ds : List D} : UoP .tuple (.list ds) (.tuple ds) True := ⟨fun _ => rfl⟩
instance uLstr {z : Str} : UoP .lstr (.str z) (.list ((chs z).map .str)) True := ⟨fun _ => by rw [u_lstr, chars_chs]⟩
instance uRev {α : Type} {f : α → D} {l : List α} : UoP .rev (.list (l.map f)) (.list (l.reverse.map f)) True := ⟨fun _ => by simp [uop]⟩
instance uLrange {i : Int} {n : Nat} {P : Prop} [H : NatI i n P] : UoP .lrange (.int i) (.list ((rg 0 n).map .int)) (P ∧ n ≤ 1000) := ⟨fun p => by
  rw [H.h p.1]
  simp only [uop]
  rw [if_pos ⟨by omega, by have := p.2; omega⟩, rangeD_rg]
  rfl⟩
/-! two things -/
instance bAdd {i j : Int} : BoP .add (.int i) (.int j) (.int (i + j)) True := ⟨fun _ => rfl, rfl⟩
instance bSub {i j : Int} : BoP .sub (.int i) (.int j) (.int (i - j)) True := ⟨fun _ => rfl, rfl⟩
instance bMul {i j : Int} : BoP .mul (.int i) (.int j) (.int (i * j)) ((-1000000 ≤ i ∧ i ≤ 1000000) ∨ (-1000000 ≤ j ∧ j ≤ 1000000)) := ⟨fun p => by
  rw [b_muli, if_pos]
  simp [mulOk]
  omega, rfl⟩
instance bFdiv {i j : Int} : BoP .fdiv (.int i) (.int j) (.int (i / j)) (0 < j ∧ j < 1073741824) := ⟨fun p => by rw [b_fdivi, if_pos p], rfl⟩
instance bMod {i j : Int} : BoP .mod (.int i) (.int j) (.int (i % j)) (0 < j) := ⟨fun p => by rw [b_modi, if_pos p], rfl⟩
instance bAddL {α : Type} {f : α → D} {l m : List α} : BoP .add (.list (l.map f)) (.list (m.map f)) (.list ((l ++ m).map f)) (l.length + m.length ≤ lim) := ⟨fun p => by
  rw [b_addl, if_pos (by simpa using p), List.map_append], rfl⟩
instance bMulL {α : Type} {f : α → D} {l : List α} {i : Int} {n : Nat} {P : Prop} [H : NatI i n P] : BoP .mul (.list (l.map f)) (.int i) (.list ((List.replicate n l).flatten.map f)) (P ∧ n ≤ 1000 ∧ l.length * n ≤ lim) := ⟨fun p => by
  rw [H.h p.1]
  simp only [bop]
  rw [if_pos ⟨by omega, by have := p.2.1; omega, by simpa using p.2.2⟩]
  simp, rfl⟩
instance bLt {i j : Int} : BoP .lt (.int i) (.int j) (.bool (decide (i < j))) True := ⟨fun _ => rfl, rfl⟩
instance bLe {i j : Int} : BoP .le (.int i) (.int j) (.bool (decide (i ≤ j))) True := ⟨fun _ => rfl, rfl⟩
instance bGt {i j : Int} : BoP .gt (.int i) (.int j) (.bool (decide (j < i))) True := ⟨fun _ => rfl, rfl⟩
instance bGe {i j : Int} : BoP .ge (.int i) (.int j) (.bool (decide (j ≤ i))) True := ⟨fun _ => rfl, rfl⟩
instance bMin {i j : Int} : BoP .min2 (.int i) (.int j) (.int (min i j)) True := ⟨fun _ => by rw [b_min2]; congr 2; split <;> omega, rfl⟩
instance bMax {i j : Int} : BoP .max2 (.int i) (.int j) (.int (max i j)) True := ⟨fun _ => by rw [b_max2]; congr 2; split <;> omega, rfl⟩
/-- equal or not -/
class EqP (d d' : D) (x : outParam Bool) : Prop where
  h : eqD d d' = some x
/-- an encoding that tells things apart; how deep it is -/
class Enc {α : Type} (enc : α → D) (n : outParam Nat) : Prop where
  dep : ∀ a, (enc a).depth ≤ n
  eqv : ∀ a b, PyData.eqv (enc a) (enc b) = true ↔ a = b
instance enI : Enc PyData.int 0 := ⟨fun _ => by simp [PyData.depth], fun a b => by simp [PyData.eqv]⟩
instance enN : Enc (fun n : Nat => PyData.int (n : Int)) 0 := ⟨fun _ => by simp [PyData.depth], fun a b => by simp [PyData.eqv]; omega⟩
instance enS : Enc PyData.str 0 := ⟨fun _ => by simp [PyData.depth], fun a b => by simp [PyData.eqv]⟩
instance enB : Enc PyData.bool 0 := ⟨fun _ => by simp [PyData.depth], fun a b => by simp [PyData.eqv]⟩
theorem depAll_map {α : Type} {enc : α → D} {n : Nat} (h : ∀ a, (enc a).depth ≤ n) : ∀ l : List α, PyData.depthAll (l.map enc) ≤ n
  | [] => by simp [PyData.depthAll]
  | x :: l => by
    have h1 := h x
    have h2 := depAll_map h l
    simp only [List.map_cons, PyData.depthAll]
    omega
theorem eqvAll_map {α : Type} {enc : α → D} (h : ∀ a b, PyData.eqv (enc a) (enc b) = true ↔ a = b) : ∀ l m : List α, PyData.eqvAll (l.map enc) (m.map enc) = true ↔ l = m
  | [], [] => by simp [PyData.eqvAll]
  | [], _ :: _ => by simp [PyData.eqvAll]
  | _ :: _, [] => by simp [PyData.eqvAll]
  | x :: l, y :: m => by simp [PyData.eqvAll, h x y, eqvAll_map h l m]
instance enL {α : Type} {enc : α → D} {n : Nat} [H : Enc enc n] : Enc (fun l : List α => PyData.list (l.map enc)) (n + 1) := ⟨fun l => by
  have := depAll_map H.dep l
  simp only [PyData.depth]
  omega, fun l m => by simp only [PyData.eqv]; exact eqvAll_map H.eqv l m⟩
instance enT2 {α β : Type} {enc : α → D} {enc' : β → D} {n m : Nat} [H : Enc enc n] [K : Enc enc' m] : Enc (fun p : α × β => PyData.tuple [enc p.1, enc' p.2]) (n + m + 1) := ⟨fun p => by
  have h1 := H.dep p.1
  have h2 := K.dep p.2
  simp only [PyData.depth, PyData.depthAll]
  omega, fun p q => by
  simp only [PyData.eqv, PyData.eqvAll, Bool.and_eq_true, Bool.and_true]
  rw [H.eqv, K.eqv, Prod.ext_iff]⟩
theorem eqD_enc {α : Type} [DecidableEq α] {enc : α → D} {n : Nat} (H : Enc enc n) (hn : n ≤ 60) (a b : α) : eqD (enc a) (enc b) = some (decide (a = b)) := by
  have h1 := H.dep a
  have h2 := H.dep b
  unfold eqD shp
  rw [decide_eq_true (by omega), decide_eq_true (by omega)]
  simp only [Bool.and_self, if_true]
  congr 1
  rw [Bool.eq_iff_iff, H.eqv, decide_eq_true_iff]
/-- few depths -/
class Few (n : Nat) : Prop where
  h : n ≤ 50
instance few0 : Few 0 := ⟨by omega⟩
instance few1 : Few 1 := ⟨by omega⟩
instance few2 : Few (0 + 1) := ⟨by omega⟩
instance few3 : Few (0 + 1 + 1) := ⟨by omega⟩
instance few4 : Few (0 + 0 + 1) := ⟨by omega⟩
instance few5 : Few (0 + 0 + 1 + 1) := ⟨by omega⟩
instance few6 : Few (0 + 1 + 1 + 1) := ⟨by omega⟩
instance eqInt {i j : Int} : EqP (.int i) (.int j) (decide (i = j)) := ⟨eq_int i j⟩
instance eqStr {i j : Str} : EqP (.str i) (.str j) (decide (i = j)) := ⟨eqD_enc enS (by omega) i j⟩
instance eqBool {i j : Bool} : EqP (.bool i) (.bool j) (decide (i = j)) := ⟨eqD_enc enB (by omega) i j⟩
instance eqList {α : Type} [DecidableEq α] {enc : α → D} {n : Nat} {l m : List α} [H : Enc enc n] [K : Few n] : EqP (.list (l.map enc)) (.list (m.map enc)) (decide (l = m)) := ⟨eqD_enc (enL (enc := enc)) (by have := K.h; omega) l m⟩
/-- against the list of nothing -/
theorem eqNil {α : Type} {enc : α → D} {n : Nat} (H : Enc enc n) (K : n ≤ 50) (l : List α) : eqD (.list (l.map enc)) (.list []) = some l.isEmpty := by
  have h1 := depAll_map H.dep l
  have e1 : shp (.list (l.map enc)) = true := by simp only [shp, PyData.depth]; exact decide_eq_true (by omega)
  have e2 : shp (.list []) = true := by simp [shp, PyData.depth, PyData.depthAll]
  cases l with
  | nil => simp [eqD, e2, PyData.eqv, PyData.eqvAll]
  | cons x l =>
    unfold eqD
    rw [e1, e2]
    simp [PyData.eqv, PyData.eqvAll]
instance eqNilR {α : Type} {enc : α → D} {n : Nat} {l : List α} [H : Enc enc n] [K : Few n] : EqP (.list (l.map enc)) (.list []) l.isEmpty := ⟨eqNil H K.h l⟩
instance eqNilNil : EqP (.list []) (.list []) true := ⟨by simp [eqD, shp, PyData.depth, PyData.depthAll, PyData.eqv, PyData.eqvAll]⟩
/-- tuples, part by part -/
class DepP (d : D) : Prop where
  h : d.depth ≤ 20
instance dp1 {i : Int} : DepP (.int i) := ⟨by simp [PyData.depth]⟩
instance dp2 {i : Str} : DepP (.str i) := ⟨by simp [PyData.depth]⟩
instance dp3 {i : Bool} : DepP (.bool i) := ⟨by simp [PyData.depth]⟩
instance dp4 : DepP .none := ⟨by simp [PyData.depth]⟩
class Few2 (n : Nat) : Prop where
  h : n ≤ 10
instance f20 : Few2 0 := ⟨by omega⟩
instance f21 : Few2 (0 + 1) := ⟨by omega⟩
instance f22 : Few2 (0 + 0 + 1) := ⟨by omega⟩
instance f23 : Few2 (0 + 1 + 1) := ⟨by omega⟩
instance dp5 {α : Type} {enc : α → D} {n : Nat} {l : List α} [H : Enc enc n] [K : Few2 n] : DepP (.list (l.map enc)) := ⟨by
  have h1 := depAll_map H.dep l
  have := K.h
  simp only [PyData.depth]
  omega⟩
instance eqT2 {a b c d : D} {x y : Bool} [H : EqP a c x] [K : EqP b d y] [DepP a] [DepP b] [DepP c] [DepP d] : EqP (.tuple [a, b]) (.tuple [c, d]) (x && y) := ⟨by
  have h1 := DepP.h (d := a)
  have h2 := DepP.h (d := b)
  have h3 := DepP.h (d := c)
  have h4 := DepP.h (d := d)
  have e1 := H.h
  have e2 := K.h
  unfold eqD shp at *
  rw [if_pos (by simp; omega)] at e1 e2
  rw [if_pos (by simp [PyData.depth, PyData.depthAll]; omega)]
  simp only [PyData.eqv, PyData.eqvAll, Option.some.injEq, Bool.and_true] at *
  rw [e1, e2]⟩
instance eqT3 {a b c a' b' c' : D} {x y z : Bool} [H : EqP a a' x] [K : EqP b b' y] [L : EqP c c' z] [DepP a] [DepP b] [DepP c] [DepP a'] [DepP b'] [DepP c'] : EqP (.tuple [a, b, c]) (.tuple [a', b', c']) (x && (y && z)) := ⟨by
  have h1 := DepP.h (d := a)
  have h2 := DepP.h (d := b)
  have h3 := DepP.h (d := c)
  have h4 := DepP.h (d := a')
  have h5 := DepP.h (d := b')
  have h6 := DepP.h (d := c')
  have e1 := H.h
  have e2 := K.h
  have e3 := L.h
  unfold eqD shp at *
  rw [if_pos (by simp; omega)] at e1 e2 e3
  rw [if_pos (by simp [PyData.depth, PyData.depthAll]; omega)]
  simp only [PyData.eqv, PyData.eqvAll, Option.some.injEq, Bool.and_true] at *
  rw [e1, e2, e3]⟩
instance bEq {d d' : D} {x : Bool} [H : EqP d d' x] : BoP .eq d d' (.bool x) True := ⟨fun _ => by rw [b_eq, H.h]; rfl, rfl⟩
instance bNe {d d' : D} {x : Bool} [H : EqP d d' x] : BoP .ne d d' (.bool !x) True := ⟨fun _ => by rw [b_ne, H.h]; rfl, rfl⟩
/-! in, of a list -/
theorem in_enc {α : Type} [DecidableEq α] {enc : α → D} {n : Nat} (H : Enc enc n) (K : n ≤ 50) (x : α) (l : List α) : inD (enc x) (l.map enc) = some (decide (x ∈ l)) := by
  have h1 := depAll_map H.dep l
  have h2 := H.dep x
  unfold inD shp
  rw [if_pos (by simp [PyData.depth]; omega)]
  congr 1
  rw [Bool.eq_iff_iff, decide_eq_true_iff, List.any_eq_true]
  constructor
  · rintro ⟨z, hz, e⟩
    obtain ⟨y, hy, rfl⟩ := List.mem_map.mp hz
    rw [H.eqv] at e
    exact e ▸ hy
  · exact fun h => ⟨_, List.mem_map_of_mem h, (H.eqv x x).mpr rfl⟩
class InP (d : D) (ds : List D) (x : outParam Bool) : Prop where
  h : inD d ds = some x
instance inInt {i : Int} {l : List Int} : InP (.int i) (l.map .int) (decide (i ∈ l)) := ⟨in_I i l⟩
instance inStr {i : Str} {l : List Str} : InP (.str i) (l.map .str) (decide (i ∈ l)) := ⟨in_enc enS (by omega) i l⟩
instance inBool {i : Bool} {l : List Bool} : InP (.bool i) (l.map .bool) (decide (i ∈ l)) := ⟨in_enc enB (by omega) i l⟩
instance inL {α : Type} [DecidableEq α] {enc : α → D} {n : Nat} {x : List α} {l : List (List α)} [H : Enc enc n] [K : Few n] : InP (.list (x.map enc)) (l.map fun y => .list (y.map enc)) (decide (x ∈ l)) := ⟨by
  have k := K.h
  have h1 := depAll_map (enL (enc := enc)).dep l
  have h2 := (enL (enc := enc)).dep x
  unfold inD shp
  rw [if_pos (by simp [PyData.depth] at *; omega)]
  congr 1
  rw [Bool.eq_iff_iff, decide_eq_true_iff, List.any_eq_true]
  constructor
  · rintro ⟨z, hz, e⟩
    obtain ⟨y, hy, rfl⟩ := List.mem_map.mp hz
    rw [(enL (enc := enc)).eqv] at e
    exact e ▸ hy
  · exact fun h => ⟨_, List.mem_map_of_mem h, ((enL (enc := enc)).eqv x x).mpr rfl⟩⟩
instance bIn {d : D} {ds : List D} {x : Bool} [H : InP d ds x] : BoP .isin d (.list ds) (.bool x) True := ⟨fun _ => by rw [b_isin, H.h]; rfl, rfl⟩
instance bNin {d : D} {ds : List D} {x : Bool} [H : InP d ds x] : BoP .notin d (.list ds) (.bool !x) True := ⟨fun _ => by rw [b_notin, H.h]; rfl, rfl⟩
/-! places -/
theorem atI_map {α : Type} [Inhabited α] {enc : α → D} {l : List α} {n : Nat} (h : n < l.length) : atI (l.map enc) (n : Int) = some (enc (l.getD n default)) := by
  have h1 : ((n : Nat) : Int) < (l.length : Int) := by omega
  simp [atI, ixN, h]
instance bIdx {α : Type} [Inhabited α] {enc : α → D} {l : List α} {i : Int} {n : Nat} {P : Prop} [H : NatI i n P] : BoP .idx (.list (l.map enc)) (.int i) (enc (l.getD n default)) (P ∧ n < l.length) := ⟨fun p => by
  rw [H.h p.1, b_idx]
  exact atI_map p.2, rfl⟩
instance bIdxL {α : Type} [Inhabited α] {enc : α → D} {l : List α} : BoP .idx (.list (l.map enc)) (.int (-1)) (enc (l.getD (l.length - 1) default)) (l ≠ []) := ⟨fun p => by
  have hp : 0 < l.length := List.length_pos_iff.mpr p
  have := atI_map (enc := enc) (l := l) (n := l.length - 1) (by omega)
  rw [b_idx, ← this]
  have e1 : ixN (l.map enc).length (-1) = some (l.length - 1) := by
    simp [ixN]
    omega
  have e2 : ixN (l.map enc).length ((l.length - 1 : Nat) : Int) = some (l.length - 1) := by
    simp [ixN]
    omega
  simp only [atI, e1, e2], rfl⟩
instance bIdxL2 {α : Type} [Inhabited α] {enc : α → D} {l : List α} : BoP .idx (.list (l.map enc)) (.int (-(OfNat.ofNat 1))) (enc (l.getD (l.length - 1) default)) (l ≠ []) := bIdxL
instance bTup0 {a : D} {ds : List D} : BoP .idx (.tuple (a :: ds)) (.int 0) a True := ⟨fun _ => by
  rw [b_idxt]
  have h : (0 : Int) < ((ds.length + 1 : Nat) : Int) := by omega
  simp only [atI, ixN, List.length_cons, if_pos h]
  rfl, rfl⟩
instance bTup1 {a b : D} {ds : List D} : BoP .idx (.tuple (a :: b :: ds)) (.int 1) b True := ⟨fun _ => by
  rw [b_idxt]
  have h : (1 : Int) < ((ds.length + 1 + 1 : Nat) : Int) := by omega
  simp only [atI, ixN, List.length_cons, if_pos h]
  rfl, rfl⟩
instance bTup2 {a b c : D} {ds : List D} : BoP .idx (.tuple (a :: b :: c :: ds)) (.int 2) c True := ⟨fun _ => by
  rw [b_idxt]
  have h : (2 : Int) < ((ds.length + 1 + 1 + 1 : Nat) : Int) := by omega
  simp only [atI, ixN, List.length_cons, if_pos h]
  rfl, rfl⟩
instance bUpto {α : Type} {enc : α → D} {l : List α} {i : Int} {n : Nat} {P : Prop} [H : NatI i n P] : BoP .upto (.list (l.map enc)) (.int i) (.list ((l.take n).map enc)) P := ⟨fun p => by
  rw [H.h p]
  simp only [bop, cut_upto, List.map_take], rfl⟩
theorem cut_m1 {α : Type} (l : List α) : cut l none (some (-1)) = l.dropLast := by
  simp [cut, sIx, List.dropLast_eq_take]
  omega
instance bUptoL {α : Type} {enc : α → D} {l : List α} : BoP .upto (.list (l.map enc)) (.int (-1)) (.list (l.dropLast.map enc)) True := ⟨fun p => by
  simp only [bop, cut_m1, List.map_dropLast], rfl⟩
instance bFrom {α : Type} {enc : α → D} {l : List α} {i : Int} {n : Nat} {P : Prop} [H : NatI i n P] : BoP .from_ (.list (l.map enc)) (.int i) (.list ((l.drop n).map enc)) P := ⟨fun p => by
  rw [H.h p]
  simp only [bop, cut_from, List.map_drop], rfl⟩
theorem find_enc {α : Type} [BEq α] [LawfulBEq α] {enc : α → D} {n : Nat} (H : Enc enc n) (x : α) : ∀ (l : List α), x ∈ l → (l.map enc).findIdx? (fun z => PyData.eqv z (enc x)) = some (l.idxOf x)
  | [], h => by cases h
  | y :: l, h => by
    rcases Classical.em (y = x) with e | e
    · subst e
      simp [List.findIdx?_cons, (H.eqv y y).mpr rfl]
    · have h2 : x ∈ l := by
        rcases List.mem_cons.mp h with z | z
        · exact absurd z.symm e
        · exact z
      have e2 : PyData.eqv (enc y) (enc x) = false := by
        rw [Bool.eq_false_iff]
        exact fun z => e ((H.eqv y x).mp z)
      have ih := find_enc H x l h2
      have e3 : (y == x) = false := beq_eq_false_iff_ne.mpr e
      simp [List.findIdx?_cons, e2, ih, List.idxOf_cons, e3]
theorem index_enc {α : Type} [BEq α] [LawfulBEq α] {enc : α → D} {n : Nat} (H : Enc enc n) (K : n ≤ 50) (x : α) (l : List α) (h : x ∈ l) : indexD (l.map enc) (enc x) = some (l.idxOf x) := by
  have h1 := depAll_map H.dep l
  have h2 := H.dep x
  unfold indexD shp
  rw [if_pos (by simp [PyData.depth]; omega)]
  exact find_enc H x l h
instance bIndexI {i : Int} {l : List Int} : BoP .index (.list (l.map .int)) (.int i) (.int (l.idxOf i : Nat)) (i ∈ l) := ⟨fun p => by rw [b_index, index_enc enI (by omega) i l p]; rfl, rfl⟩
instance bIndexS {i : Str} {l : List Str} : BoP .index (.list (l.map .str)) (.str i) (.int (l.idxOf i : Nat)) (i ∈ l) := ⟨fun p => by rw [b_index, index_enc enS (by omega) i l p]; rfl, rfl⟩
/-! texts -/
theorem mem_chs (x z : Str) : (z.cps.toList.any fun c => decide (x.cps.toList = [c])) = decide (x ∈ chs z) := by
  rw [Bool.eq_iff_iff, List.any_eq_true, decide_eq_true_iff]
  unfold chs
  rw [List.mem_map]
  constructor
  · rintro ⟨c, h1, h2⟩
    have h2 := of_decide_eq_true h2
    refine ⟨c, h1, ?_⟩
    cases x with
    | mk a =>
      congr 1
      exact (Array.toList_inj.mp (by simpa using h2)).symm
  · rintro ⟨c, h1, rfl⟩
    exact ⟨c, h1, by simp⟩
instance bInstr {x z : Str} : BoP .instr (.str x) (.str z) (.bool (decide (x ∈ chs z))) (x.length = 1) := ⟨fun p => by
  simp only [bop]
  rw [if_pos p, mem_chs], rfl⟩
def cutS (z : Str) (n : Nat) : Str := ⟨(z.cps.toList.take n).toArray⟩
theorem chs_cut (z : Str) (n : Nat) : chs (cutS z n) = (chs z).take n := by simp [chs, cutS, List.map_take]
instance bUptoS {z : Str} {i : Int} {n : Nat} {P : Prop} [H : NatI i n P] : BoP .upto (.str z) (.int i) (.str (cutS z n)) P := ⟨fun p => by
  rw [H.h p]
  simp only [bop, cut_upto, cutS], rfl⟩
instance bIdxS {z : Str} {i : Int} {n : Nat} {P : Prop} [H : NatI i n P] : BoP .idx (.str z) (.int i) (.str ((chs z).getD n default)) (P ∧ n < (chs z).length) := ⟨fun p => by
  rw [H.h p.1]
  have hn : n < z.cps.toList.length := by simpa [chs] using p.2
  have h1 : ((n : Nat) : Int) < (z.cps.toList.length : Int) := by omega
  have h2 : n < z.cps.size := by simpa using hn
  simp only [bop, chs]
  rw [List.getD_eq_getElem?_getD]
  simp [atI, ixN, h2], rfl⟩
instance bIndexLI {i : List Int} {l : List (List Int)} : BoP .index (.list (l.map fun y => .list (y.map .int))) (.list (i.map .int)) (.int (l.idxOf i : Nat)) (i ∈ l) := ⟨fun p => by
  have := index_enc (enL (enc := PyData.int)) (by omega) i l p
  rw [b_index, this]
  rfl, rfl⟩
end Tl
end
section
set_option Elab.async false
set_option linter.all false
set_option autoImplicit false
set_option synthInstance.maxHeartbeats 400000
set_option synthInstance.maxSize 2000
namespace Tl
open PySem
/-! ### statements -/
class StP (F : Nat → Fn) (s : Sm) (r : Env) (r' : outParam Env) (P : outParam Prop) : Prop where
  h : P → ∀ g : G, evS F s r g = .nx r' g
class RetP (F : Nat → Fn) (s : Sm) (r : Env) (d : outParam D) (P : outParam Prop) : Prop where
  h : P → ∀ g : G, evS F s r g = .rt d g
section
variable {F : Nat → Fn} {r r' s u : Env} {e c : E} {a b t : Sm} {d d' dz : D} {P Q S : Prop} {i : Nat}
instance spNil : StP F .nil r r True := ⟨fun _ g => by simp [evS]⟩
instance spCons [H : StP F a r s P] [K : StP F b s u Q] : StP F (.cons a b) r u (P ∧ Q) := ⟨fun p g => by
  rw [s_nx (H.h p.1 g)]
  exact K.h p.2 g⟩
instance spAsg [H : EvP F e r d P] [K : Put r i (.val d) s] : StP F (.asg i e) r s P := ⟨fun p g => by rw [← K.h]; exact s_asg (H.h p g)⟩
instance spMk {ds : List D} [H : EvP F e r (.list ds) P] [K : Put r i (.own ds) s] : StP F (.mk i e) r s P := ⟨fun p g => by rw [← K.h]; exact s_mk (H.h p g)⟩
instance spFrz {ds : List D} [H : Look r i (.own ds)] [K : Put r i (.val (.list ds)) s] : StP F (.frz i) r s True := ⟨fun p g => by rw [← K.h]; exact s_frz H.h⟩
instance spFrzV [H : Look r i (.val d)] [K : Put r i (.val d) s] : StP F (.frz i) r s True := ⟨fun p g => by
  have h := H.h
  rw [← K.h]; simp [evS, h, frzC]⟩
instance spDrop [H : EvP F e r d P] : StP F (.drop e) r r P := ⟨fun p g => s_drop (H.h p g)⟩
instance (priority := low) spApp {ds : List D} [L : Look r i (.own ds)] [H : EvP F e r d P] [K : Put r i (.own (ds ++ [d])) s] : StP F (.app i e) r s (P ∧ ds.length < lim) := ⟨fun p g => by
  rw [← K.h]
  exact s_app L.h (H.h p.1 g) p.2⟩
instance spAppI {ns : List Int} {n : Int} [L : Look r i (.own (ns.map .int))] [H : EvP F e r (.int n) P] [K : Put r i (.own ((ns ++ [n]).map .int)) s] : StP F (.app i e) r s (P ∧ ns.length < lim) := ⟨fun p g => by
  rw [← K.h, List.map_append]
  exact s_app L.h (H.h p.1 g) (by simpa using p.2)⟩
instance spAppS {ns : List Str} {n : Str} [L : Look r i (.own (ns.map .str))] [H : EvP F e r (.str n) P] [K : Put r i (.own ((ns ++ [n]).map .str)) s] : StP F (.app i e) r s (P ∧ ns.length < lim) := ⟨fun p g => by
  rw [← K.h, List.map_append]
  exact s_app L.h (H.h p.1 g) (by simpa using p.2)⟩
instance spAppLI {ns : List (List Int)} {n : List Int} [L : Look r i (.own (ns.map fun y => .list (y.map .int)))] [H : EvP F e r (.list (n.map .int)) P] [K : Put r i (.own ((ns ++ [n]).map fun y => .list (y.map .int))) s] : StP F (.app i e) r s (P ∧ ns.length < lim) := ⟨fun p g => by
  rw [← K.h, List.map_append]
  exact s_app L.h (H.h p.1 g) (by simpa using p.2)⟩
instance spAppLS {ns : List (List Str)} {n : List Str} [L : Look r i (.own (ns.map fun y => .list (y.map .str)))] [H : EvP F e r (.list (n.map .str)) P] [K : Put r i (.own ((ns ++ [n]).map fun y => .list (y.map .str))) s] : StP F (.app i e) r s (P ∧ ns.length < lim) := ⟨fun p g => by
  rw [← K.h, List.map_append]
  exact s_app L.h (H.h p.1 g) (by simpa using p.2)⟩
instance spAppSS {ns : List (Str × Str)} {n m : Str} [L : Look r i (.own (ns.map fun y => .tuple [.str y.1, .str y.2]))] [H : EvP F e r (.tuple [.str n, .str m]) P] [K : Put r i (.own ((ns ++ [(n, m)]).map fun y => .tuple [.str y.1, .str y.2])) s] : StP F (.app i e) r s (P ∧ ns.length < lim) := ⟨fun p g => by
  rw [← K.h, List.map_append]
  exact s_app L.h (H.h p.1 g) (by simpa using p.2)⟩
instance spAppIIS {ns : List (Int × Int × Str)} {n m : Int} {z : Str} [L : Look r i (.own (ns.map fun y => .tuple [.int y.1, .int y.2.1, .str y.2.2]))] [H : EvP F e r (.tuple [.int n, .int m, .str z]) P] [K : Put r i (.own ((ns ++ [(n, m, z)]).map fun y => .tuple [.int y.1, .int y.2.1, .str y.2.2])) s] : StP F (.app i e) r s (P ∧ ns.length < lim) := ⟨fun p g => by
  rw [← K.h, List.map_append]
  exact s_app L.h (H.h p.1 g) (by simpa using p.2)⟩
instance spAppB {ns : List Bool} {n : Bool} [L : Look r i (.own (ns.map .bool))] [H : EvP F e r (.bool n) P] [K : Put r i (.own ((ns ++ [n]).map .bool)) s] : StP F (.app i e) r s (P ∧ ns.length < lim) := ⟨fun p g => by
  rw [← K.h, List.map_append]
  exact s_app L.h (H.h p.1 g) (by simpa using p.2)⟩
instance spSeti {kx : E} {ds : List D} {x : Int} {n : Nat} {R : Prop} [L : Look r i (.own ds)] [H : EvP F e r d P] [K : EvP F kx r (.int x) Q] [N : NatI x n R] [U : Put r i (.own (ds.set n d)) s] : StP F (.seti i kx e) r s (P ∧ Q ∧ R ∧ n < ds.length) := ⟨fun p g => by
  have l := L.h
  have hk := K.h p.2.1 g
  rw [N.h p.2.2.1] at hk
  have hn : ixN ds.length (n : Int) = some n := by
    have := p.2.2.2
    have h1 : ((n : Nat) : Int) < (ds.length : Int) := by omega
    simp [ixN]
    omega
  have u := U.h
  simp [evS, l, H.h p.1 g, hk, hn, u]⟩
instance spSeti2 {k1 k2 a2 b2 : E} {ds : List D} {x y : Int} {n m : Nat} {R T P1 P2 P3 P4 : Prop} {da db : D} {u : Env} [L : Look r i (.own ds)] [A : EvP F a2 r da P1] [B : EvP F b2 r db P2] [K : EvP F k1 r (.int x) P3] [N : NatI x n R] [U : Put r i (.own (ds.set n da)) s] [K2 : EvP F k2 s (.int y) P4] [M : NatI y m T] [V : Put r i (.own ((ds.set n da).set m db)) u] : StP F (.seti2 i k1 k2 a2 b2) r u (P1 ∧ P2 ∧ P3 ∧ R ∧ n < ds.length ∧ P4 ∧ T ∧ m < ds.length) := ⟨fun ⟨p1, p2, p3, p4, p5, p6, p7, p8⟩ g => by
  have l := L.h
  have hk := K.h p3 g
  rw [N.h p4] at hk
  have hn : ixN ds.length (n : Int) = some n := by
    have h1 : ((n : Nat) : Int) < (ds.length : Int) := by omega
    simp [ixN]
    omega
  have hm : ixN ds.length (m : Int) = some m := by
    have h1 : ((m : Nat) : Int) < (ds.length : Int) := by omega
    simp [ixN]
    omega
  have uu := U.h
  have vv := V.h
  have hk2 := K2.h p6 g
  rw [M.h p7] at hk2
  simp [evS, l, A.h p1 g, B.h p2 g, hk, hn, uu, hk2, hm, vv]⟩
instance spMk3 {i j k : Nat} {s u v : Env} [A : Put r i (.own []) s] [B : Put s j (.own []) u] [C : Put u k (.own []) v] : StP F (.mk3 i j k) r v True := ⟨fun _ g => by
  have h1 := A.h
  have h2 := B.h
  have h3 := C.h
  simp only [evS, h1, h2, h3]⟩
instance spUnp {tg : Tg} [H : EvP F e r d P] [K : PutT tg d r s] : StP F (.unp tg e) r s P := ⟨fun p g => by simp [evS, H.h p g, K.h]⟩
instance spPar2 {i j : Nat} {d d' : D} [H : EvL F e r [.val d, .val d'] P] [K : Put r i (.val d) s] [L : Put s j (.val d') u] : StP F (.par (.two i j) [false, false] e) r u P := ⟨fun p g => by
  have h1 := K.h
  have h2 := L.h
  simp [evS, H.h p g, setPar, setO, h1, h2]⟩
instance spPar3 {i j k : Nat} {d d' dz : D} {v : Env} [H : EvL F e r [.val d, .val d', .val dz] P] [K : Put r i (.val d) s] [L : Put s j (.val d') u] [M : Put u k (.val dz) v] : StP F (.par (.three i j k) [false, false, false] e) r v P := ⟨fun p g => by
  have h1 := K.h
  have h2 := L.h
  have h3 := M.h
  simp [evS, H.h p g, setPar, setO, h1, h2, h3]⟩
instance spAug {o : Bi} {x y : Int} [L : Look r i (.val (.int x))] [H : EvP F e r (.int y) P] [B : BoP o (.int x) (.int y) dz Q] [K : Put r i (.val dz) s] : StP F (.aug i o e) r s (P ∧ Q) := ⟨fun p g => by
  have l := L.h
  have k := K.h
  simp [evS, l, H.h p.1 g, B.h p.2, k]⟩
/-- ends in an error -/
class Errs (s : Sm) : Prop where
  h : True
instance er1 {c : Nat} : Errs (.cons (.raise c) .nil) := ⟨trivial⟩
instance spErr {x : Bool} [H : EvP F c r (.bool x) P] [K : Errs a] : StP F (.ite c a .nil) r r (P ∧ x = false) := ⟨fun p g => s_if0 (by
  have := H.h p.1 g
  rw [p.2] at this
  exact this)⟩
instance rpRet [H : EvP F e r d P] : RetP F (.cons (.ret e) t) r d P := ⟨fun p g => s_rt (s_ret (H.h p g))⟩
instance (priority := low) rpCons [H : StP F a r s P] [K : RetP F b s d Q] : RetP F (.cons a b) r d (P ∧ Q) := ⟨fun p g => by
  rw [s_nx (H.h p.1 g)]
  exact K.h p.2 g⟩
instance rpIf {x : Bool} [K : RetP F a r d Q] [H : EvP F c r (.bool x) P] [L : RetP F b r d' S] [M : Mix x d d' dz] : RetP F (.cons (.ite c a .nil) b) r dz (P ∧ (x = true → Q) ∧ (x = false → S)) := ⟨fun p g => by
  have e := M.h
  cases x with
  | true =>
    rw [e]
    exact s_rt (s_if (H.h p.1 g) (fun _ => K.h (p.2.1 rfl) g) (fun z => by cases z))
  | false =>
    rw [e, s_nx (s_if0 (H.h p.1 g))]
    exact L.h (p.2.2 rfl) g⟩
theorem RetP.to {s : Sm} {g : G} [H : RetP F s r d P] (p : P) (z : d = d') : evS F s r g = .rt d' g := by
  subst z; exact H.h p g
/-- one step -/
theorem nxP {g : G} {o : O} [H : StP F a r s P] (p : P) (k : evS F b s g = o) : evS F (.cons a b) r g = o := (s_nx (H.h p g)).trans k
/-- a test that does not hold -/
theorem ifP {g : G} {o : O} {x : Bool} [H : EvP F c r (.bool x) P] (p : P) (hx : x = false) (k : evS F b r g = o) : evS F (.cons (.ite c a .nil) b) r g = o := by
  have h : Ev F c r g (.bool x) := H.h p g
  rw [hx] at h
  exact (s_nx (s_if0 h)).trans k
theorem retP {g : G} [H : EvP F e r d P] (p : P) (z : d = d') : evS F (.cons (.ret e) t) r g = .rt d' g := by
  subst z; exact s_rt (s_ret (H.h p g))
/-- a loop whose list is found -/
theorem forP {g : G} {o : O} {tg : Tg} {it : E} {ds : List D} [H : EvP F it r (.list ds) P] (p : P) (Inv : Nat → Env → G → Prop) (h0 : Inv 0 r g)
    (hs : ∀ (i : Nat) (x : D) (r : Env) (g : G), ds[i]? = some x → Inv i r g → ∃ r0 r' g', setT tg x r = some r0 ∧ (evS F a r0 g = .nx r' g' ∨ evS F a r0 g = .ct r' g') ∧ Inv (i + 1) r' g')
    (hk : ∀ r' g', Inv ds.length r' g' → evS F b r' g' = o) : evS F (.cons (.for_ tg it a) b) r g = o := s_loopE (H.h p g) Inv h0 hs hk
end
class Pad (cs : List Cell) (j : Nat) (r : outParam Env) : Prop where
  h : cs ++ List.replicate j .und = r
instance pd0 : Pad [] 0 [] := ⟨rfl⟩
instance pdN {j : Nat} {r : Env} [H : Pad [] j r] : Pad [] (j + 1) (.und :: r) := ⟨by
  have h := H.h
  rw [List.nil_append] at *
  rw [List.replicate_succ, h]⟩
instance pdC {c : Cell} {cs : List Cell} {j : Nat} {r : Env} [H : Pad cs j r] : Pad (c :: cs) j (c :: r) := ⟨by rw [List.cons_append, H.h]⟩
theorem callP {F F' : Nat → Fn} {f n j : Nat} {b : Sm} {cs : List Cell} {r : Env} {d : D} {g : G} (e : F f = fnD F' n (j + n) b) (hc : cs.length = n) [H : Pad cs j r] (h : evS F' b r g = .rt d g) : F f cs g = .ok d g := by
  rw [e]
  exact fn_rt hc (by rw [Nat.add_sub_cancel, H.h]; exact h)
theorem callN {F F' : Nat → Fn} {f n j : Nat} {b : Sm} {cs : List Cell} {r s : Env} {g : G} {P : Prop} (e : F f = fnD F' n (j + n) b) (hc : cs.length = n) [H : Pad cs j r] (h : P → StP F' b r s P) (p : P) : F f cs g = .ok .none g := by
  rw [e]
  exact fn_nx hc (by rw [Nat.add_sub_cancel, H.h]; exact (h p).h p g)
theorem stp {F : Nat → Fn} {b : Sm} {r s : Env} {P : Prop} [H : StP F b r s P] : P → StP F b r s P := fun _ => H
end Tl
end
section
set_option Elab.async false
set_option linter.all false
set_option autoImplicit false
namespace Tl
open PySem
local macro_rules
  | `(tactic| trivial) => `(tactic| first
    | exact ev_con
    | exact ev_glo
    | exact ev_var rfl
    | exact evc_own rfl
    | exact evc_var rfl
    | exact eva_nil
    | (apply eva_cons rfl <;> trivial)
    | (apply ev_itl; trivial)
    | (apply ev_isi; trivial)
    | (apply ev_le2 <;> trivial)
    | (apply ev_bi; trivial; trivial; exact rfl; first | exact upto_I _ _ | (simp only [b_isin, b_notin, in_I, eq_I, eq_int, b_eq, b_ne, Option.map_some]; done) | exact rfl)
    | (apply ev_un; trivial; first | exact u_len _ | exact rfl)
    | (apply evc_of rfl; trivial))
section
variable {Φ : Nat → Nat → Fn} {k : Nat} {g : G}
theorem is_int_v [F_is_int Φ] (v a b : Int) : Φ (k + 1) 1 [.val (.int v), .val (.int a), .val (.int b)] g = .ok (.bool (decide (a ≤ v) && decide (v ≤ b))) g := by
  rw [F_is_int.eq (Φ := Φ)]
  refine fn_rt rfl (s_rt (s_ret (ev_and (x := true) (by trivial) (fun _ => ev_and (x := true) (by trivial) (fun _ => by trivial) fun z => by cases z) fun z => by cases z)))
/-- a list of things -/
def Full (l : List Int) : Prop := 1 ≤ l.length ∧ l.length ≤ 7 ∧ (∀ x ∈ l, 0 ≤ x ∧ x ≤ (l.length : Int) - 1) ∧ l.Nodup
theorem all_true {α : Type} : ∀ l : List α, toBls (l.map fun _ => PyData.bool true) = some (l.map fun _ => true)
  | [] => rfl
  | _ :: l => by simp [toBls, all_true l]
theorem dd_nodup {α : Type} [BEq α] [LawfulBEq α] (l : List α) (h : l.Nodup) : dd l = l := by
  have go : ∀ (l s : List α), l.Nodup → (∀ x ∈ l, x ∉ s) → l.foldl (fun s k => if s.any (· == k) then s else s ++ [k]) s = s ++ l := by
    intro l
    induction l with
    | nil => intro s _ _; simp
    | cons x l ih =>
      intro s h1 h2
      have hx : s.any (· == x) = false := by
        rw [List.any_eq_false]
        intro y hy z
        exact h2 x (.head _) (by rw [← eq_of_beq z]; exact hy)
      rw [List.foldl_cons, hx, if_neg Bool.false_ne_true, ih]
      · simp
      · exact (List.nodup_cons.mp h1).2
      · intro y hy z
        rcases List.mem_append.mp z with z | z
        · exact h2 y (.tail _ hy) z
        · have : y = x := by simpa using z
          subst this
          exact (List.nodup_cons.mp h1).1 hy
  have := go l [] h (fun _ _ z => by cases z)
  simpa [dd] using this
theorem is_full_v [F_is_int Φ] [F_is_full Φ] (l : List Int) (h : Full l) : Φ (k + 2) 2 [.val (I l)] g = .ok (.bool true) g := by
  rw [F_is_full.eq (Φ := Φ)]
  obtain ⟨h1, h2, h3, h4⟩ := h
  refine fn_rt rfl ?_
  rw [b_is_full, s_nx (s_if0 (ev_or (x := false) (by trivial) (fun _ => ev_un (d := .bool true) (evc_of rfl (by
    have e : (true : Bool) = (decide ((1 : Int) ≤ (l.map PyData.int).length) && decide (((l.map PyData.int).length : Int) ≤ 7)) := by simp; omega
    rw [e]
    trivial)) rfl) (fun z => by cases z)))]
  rw [s_nx (s_if0 (ev_un (evc_of rfl (ev_un (evc_of rfl (ev_lc (xs := l) (enc := PyData.int) (rr := fun x => [.val (I l), .val (.int x)]) (p := fun _ => true) (f := fun _ => .bool true) (by trivial) (fun x hx => rfl) (fun x hx => by trivial) (fun x hx _ => ev_call (by trivial) (by
    rw [is_int_v (Φ := Φ)]
    have := h3 x hx
    simp
    omega)))) (show uop .all _ = some (.bool true) by simp [uop, all_true]))) rfl))]
  refine s_rt (s_ret (ev_bi (evc_of rfl (ev_un (by trivial) (show uop .lenset _ = some (.int l.length) by
    simp only [uop, toInts_map, dd_nodup l h4]
    rw [if_pos (by omega)]))) (by trivial) rfl (by simp)))
theorem check_full_v [F_is_int Φ] [F_is_full Φ] [F_check_full Φ] (l : List Int) (h : Full l) : Φ (k + 3) 3 [.val (I l)] g = .ok .none g := by
  rw [F_check_full.eq (Φ := Φ)]
  refine fn_nx (r1 := [.val (I l)]) rfl ?_
  rw [b_check_full, s_nx (s_if0 (ev_un (evc_of rfl (ev_call (by trivial) (is_full_v l h))) rfl))]
  simp [evS]
theorem check_both_v [F_is_int Φ] [F_is_full Φ] [F_check_full Φ] [F_check_both Φ] (l m : List Int) (h : Full l) (h' : Full m) (e : l.length = m.length) : Φ (k + 4) 4 [.val (I l), .val (I m)] g = .ok .none g := by
  rw [F_check_both.eq (Φ := Φ)]
  refine fn_nx (r1 := [.val (I l), .val (I m)]) rfl ?_
  rw [b_check_both, s_nx (s_drop (ev_call (by trivial) (check_full_v l h))), s_nx (s_drop (ev_call (by trivial) (check_full_v m h'))), s_nx (s_if0 (ev_bi (by trivial) (by trivial) rfl (by simp [e])))]
  simp [evS]
/-- how many of the first k of one are among the first k of the other -/
def ov (one other : List Int) (k : Nat) : Nat := ((one.take k).filter fun x => decide (x ∈ other.take k)).length
def rowOf (one other : List Int) : List Int := (List.range one.length).map fun k => (ov one other (k + 1) : Int)
theorem small_of {i : Int} (h : -1000 ≤ i) (h' : i ≤ 1000) : smallI i = true := by
  simp [smallI]
  omega
theorem row_of_v [F_row_of Φ] (l m : List Int) (h : l.length ≤ 7) : Φ (k + 1) 5 [.val (I l), .val (I m)] g = .ok (I (rowOf l m)) g := by
  rw [F_row_of.eq (Φ := Φ)]
  refine fn_rt rfl ?_
  rw [b_row_of, s_nx (s_mk (ev_lst eva_nil rfl (by decide)))]
  have hr : Ev (Φ k) (.rng2 (.con (.int 1)) (.bi .add (.un .len (.var 0)) (.con (.int 1)))) [.val (I l), .val (I m), .own [], .und, .und] g (.list (rangeD 1 l.length)) := by
    have := ev_rng2 (F := Φ k) (r := [.val (I l), .val (I m), .own [], .und, .und]) (g := g) (a := .con (.int 1)) (b := .bi .add (.un .len (.var 0)) (.con (.int 1))) (m := 1) (n := (l.length : Int) + 1) (by trivial) (ev_bi (evc_of rfl (ev_un (evc_var rfl) (u_len _))) (evc_of rfl ev_con) rfl (by simp)) (by unfold lim; omega) (by decide) (small_of (by omega) (by omega))
    have e : ((l.length : Int) + 1 - 1).toNat = l.length := by omega
    rw [e] at this
    exact this
  refine s_loopE hr (fun i r g' => (∃ c1 c2, r = [.val (I l), .val (I m), .own (((List.range i).map fun k => (ov l m (k + 1) : Int)).map .int), c1, c2]) ∧ g' = g) ⟨⟨.und, .und, rfl⟩, rfl⟩ ?_ ?_
  · rintro i x r g' hx ⟨⟨c1, c2, rfl⟩, rfl⟩
    obtain ⟨hi, rfl⟩ := range_at hx
    have e : (1 + (i : Int)) = ((i + 1 : Nat) : Int) := by omega
    rw [e]
    refine ⟨_, _, _, rfl, .inl (s_nx (s_app rfl (ev_un (evc_of rfl (ev_lc (xs := l.take (i + 1)) (enc := PyData.int) (rr := fun x => [.val (I l), .val (I m), .own (((List.range i).map fun k => (ov l m (k + 1) : Int)).map .int), .val (.int ((i + 1 : Nat) : Int)), .val (.int x)]) (p := fun x => decide (x ∈ m.take (i + 1))) (f := PyData.int) (by trivial) (fun x hx => rfl) (fun x hx => by trivial) (fun x hx _ => by trivial))) (u_len _)) (by simp [lim]; omega))), ⟨.val (.int ((i + 1 : Nat) : Int)), c2, ?_⟩, rfl⟩
    simp [evS, List.range_succ, ov]
  · rintro r' g' ⟨⟨c1, c2, rfl⟩, rfl⟩
    rw [range_len, s_nx (s_frz rfl)]
    exact s_rt (s_ret (ev_var rfl))
end
end Tl
end
section
set_option Elab.async false
set_option linter.all false
set_option autoImplicit false
namespace Tl
open PySem
local macro_rules
  | `(tactic| trivial) => `(tactic| first
    | exact ev_con
    | exact ev_glo
    | exact ev_var rfl
    | exact evc_own rfl
    | exact evc_var rfl
    | exact eva_nil
    | (apply eva_cons rfl <;> trivial)
    | (apply ev_itl; trivial)
    | (apply ev_isi; trivial)
    | (apply ev_le2 <;> trivial)
    | (apply ev_bi; trivial; trivial; exact rfl; first | exact upto_I _ _ | (simp only [b_isin, b_notin, in_I, eq_I, eq_int, b_eq, b_ne, Option.map_some]; done) | exact rfl)
    | (apply ev_un; trivial; first | exact u_len _ | exact rfl)
    | (apply evc_of rfl; trivial))
section
variable {Φ : Nat → Nat → Fn} {k : Nat} {g : G}
/-- those of the first n of one that are among the first n of the other -/
def cm (l m : List Int) (n : Nat) : List Int := (l.take n).filter fun x => decide (x ∈ m.take n)
/-- those that are not -/
def nc (l m : List Int) (n : Nat) : List Int := (l.take n).filter fun x => !decide (x ∈ m.take n)
theorem overlap_v [F_is_int Φ] [F_is_full Φ] [F_check_full Φ] [F_check_both Φ] [F_overlap Φ] (l m : List Int) (n : Nat) (h : Full l) (h' : Full m) (e : l.length = m.length) (hn : n ≤ l.length) : Φ (k + 5) 7 [.val (I l), .val (I m), .val (.int n)] g = .ok (.int (ov l m n)) g := by
  rw [F_overlap.eq (Φ := Φ)]
  refine fn_rt rfl ?_
  rw [b_overlap, s_nx (s_drop (ev_call (by trivial) (check_both_v l m h h' e))), s_nx (s_if0 (ev_un (evc_of rfl (ev_call (by trivial) (is_int_v _ _ _))) (by simp; omega)))]
  refine s_rt (s_ret (ev_un (evc_of rfl (ev_lc (xs := l.take n) (enc := PyData.int) (rr := fun x => [.val (I l), .val (I m), .val (.int n), .val (.int x)]) (p := fun x => decide (x ∈ m.take n)) (f := PyData.int) (by trivial) (fun x hx => rfl) (fun x hx => by trivial) (fun x hx _ => by trivial))) ?_))
  simp [ov]
theorem common_things_v [F_is_int Φ] [F_is_full Φ] [F_check_full Φ] [F_check_both Φ] [F_common_things Φ] (l m : List Int) (n : Nat) (h : Full l) (h' : Full m) (e : l.length = m.length) (hn : n ≤ l.length) : Φ (k + 5) 8 [.val (I l), .val (I m), .val (.int n)] g = .ok (I (isort (cm l m n))) g := by
  rw [F_common_things.eq (Φ := Φ)]
  refine fn_rt rfl ?_
  rw [b_common_things, s_nx (s_drop (ev_call (by trivial) (check_both_v l m h h' e))), s_nx (s_if0 (ev_un (evc_of rfl (ev_call (by trivial) (is_int_v _ _ _))) (by simp; omega)))]
  refine s_rt (s_ret (ev_un (evc_of rfl (ev_lc (xs := l.take n) (enc := PyData.int) (rr := fun x => [.val (I l), .val (I m), .val (.int n), .val (.int x)]) (p := fun x => decide (x ∈ m.take n)) (f := PyData.int) (by trivial) (fun x hx => rfl) (fun x hx => by trivial) (fun x hx _ => by trivial))) (sorted_I _)))
theorem waiting_v [F_is_int Φ] [F_is_full Φ] [F_check_full Φ] [F_check_both Φ] [F_waiting Φ] (l m : List Int) (n : Nat) (h : Full l) (h' : Full m) (e : l.length = m.length) (hn : n ≤ l.length) : Φ (k + 5) 15 [.val (I l), .val (I m), .val (.int n)] g = .ok (.tuple [I (isort (nc l m n)), I (isort (nc m l n))]) g := by
  rw [F_waiting.eq (Φ := Φ)]
  refine fn_rt rfl ?_
  rw [b_waiting, s_nx (s_drop (ev_call (by trivial) (check_both_v l m h h' e))), s_nx (s_if0 (ev_un (evc_of rfl (ev_call (by trivial) (is_int_v _ _ _))) (by simp; omega)))]
  rw [s_nx (s_asg (ev_un (evc_of rfl (ev_lc (xs := l.take n) (enc := PyData.int) (rr := fun x => [.val (I l), .val (I m), .val (.int n), .und, .val (.int x)]) (p := fun x => !decide (x ∈ m.take n)) (f := PyData.int) (by trivial) (fun x hx => rfl) (fun x hx => by trivial) (fun x hx _ => by trivial))) (sorted_I _)))]
  refine s_rt (s_ret (ev_tup (eva_cons rfl (ev_var rfl) (eva_cons rfl (ev_un (evc_of rfl (ev_lc (xs := m.take n) (enc := PyData.int) (rr := fun x => [.val (I l), .val (I m), .val (.int n), .val (I (isort (nc l m n))), .val (.int x)]) (p := fun x => !decide (x ∈ l.take n)) (f := PyData.int) (by trivial) (fun x hx => rfl) (fun x hx => by trivial) (fun x hx _ => by trivial))) (sorted_I _)) eva_nil)) rfl (by simp [lim])))
end
end Tl
end
section
set_option Elab.async false
set_option linter.all false
set_option autoImplicit false
namespace Tl
open PySem
/-! ### drawing -/
class F_draw (Φ : Nat → Nat → Fn) : Prop where
  eq : ∀ k, Φ (k + 1) 0 = mDraw
def Good (g : G) : Prop := ∃ ns c, g = some (ns, c)
section
variable {Φ : Nat → Nat → Fn} {k : Nat} {g : G}
theorem draw_v [F_draw Φ] (hg : Good g) (l : Int) (h : 0 < l) (h' : l < 1073741824) : ∃ v g', Φ (k + 1) 0 [.drw, .val (.int l)] g = .ok (.int v) g' ∧ Good g' ∧ 0 ≤ v ∧ v < l := by
  obtain ⟨ns, c, rfl⟩ := hg
  rw [F_draw.eq (Φ := Φ)]
  exact ⟨_, _, by simp only [mDraw]; rw [if_pos ⟨h, h'⟩], ⟨_, _, rfl⟩, drawV_lt ns (c + 1) l h⟩
theorem pick_v [F_draw Φ] [F_law_pick Φ] (hg : Good g) (ds : List D) (h : ds ≠ []) (h' : ds.length ≤ 1000) : ∃ d g', Φ (k + 2) 17 [.drw, .val (.list ds)] g = .ok d g' ∧ Good g' ∧ d ∈ ds := by
  have hl : 0 < ds.length := List.length_pos_iff.mpr h
  obtain ⟨v, g', e, hg', v1, v2⟩ := draw_v (Φ := Φ) (k := k) hg (ds.length : Int) (by omega) (by omega)
  have hv : v.toNat < ds.length := by omega
  refine ⟨ds[v.toNat], g', ?_, hg', List.getElem_mem _⟩
  rw [F_law_pick.eq (Φ := Φ)]
  have ea : evA (Φ (k + 1)) (.cons (.var 0) (.cons (.un .len (.var 1)) .nil)) [.drw, .val (.list ds)] g = .ok [.drw, .val (.int ds.length)] g := by
    simp [evA, cell?, v_un, evC, own?, evE]
  have ei : atI ds v = some ds[v.toNat] := by
    have h1 : v < (ds.length : Int) := by omega
    simp [atI, ixN, v1, h1, hv]
  simp [fnD, b_law_pick, evS, v_bi, evC, own?, evE, ea, e, ei]
theorem idx_find (A : List Int) (x : Int) (h : x ∈ A) : ∃ j, A.findIdx? (· == x) = some j ∧ A.eraseIdx j = A.erase x := by
  induction A with
  | nil => cases h
  | cons y A ih =>
    by_cases hy : y = x
    · subst hy
      exact ⟨0, by simp [List.findIdx?_cons], by simp⟩
    · have hx : x ∈ A := by
        rcases List.mem_cons.mp h with e | e
        · exact absurd e.symm hy
        · exact e
      obtain ⟨j, h1, h2⟩ := ih hx
      refine ⟨j + 1, by simp [List.findIdx?_cons, hy, h1], ?_⟩
      simp [List.erase_cons, hy, h2]
theorem erase_map {α β : Type} (f : α → β) : ∀ (l : List α) (j : Nat), (l.map f).eraseIdx j = (l.eraseIdx j).map f
  | [], j => by simp
  | a :: r, 0 => by simp
  | a :: r, j + 1 => by simp [erase_map f r j]
theorem rem_I (A : List Int) (x : Int) (h : x ∈ A) : remD (A.map .int) (.int x) = some ((A.erase x).map .int) := by
  obtain ⟨j, h1, h2⟩ := idx_find A x h
  simp only [remD, toInts_map, Option.bind_some, h1, Option.map_some]
  rw [← h2]
  rw [erase_map]
theorem turn_fin {F : Nat → Fn} {ex : E} (A B : List Int) (n : D) (c : Cell) (x : Int) (g2 : G) (hx : x ∈ A) (hl2 : B.length ≤ 1000) (he : evE F ex [.drw, .val n, .own (A.map .int), .own (B.map .int), c] g = .ok (.int x) g2) :
    evS F (.cons (.asg 4 ex) (.cons (.rem 2 (.var 4)) (.cons (.app 3 (.var 4)) .nil))) [.drw, .val n, .own (A.map .int), .own (B.map .int), c] g = .nx [.drw, .val n, .own ((A.erase x).map .int), .own ((B ++ [x]).map .int), .val (.int x)] g2 := by
  have hlim : B.length < lim := by unfold lim; omega
  simp [evS, he, evE, rem_I A x hx, hlim]
/-- one turn: a thing goes from the one list to the other -/
theorem list_turn [F_draw Φ] [F_law_pick Φ] (hg : Good g) (A B : List Int) (n : D) (c : Cell) (hA : A ≠ []) (hl : A.length ≤ 1000) (hl2 : B.length ≤ 1000) : ∃ x g', x ∈ A ∧ Good g' ∧
    evS (Φ (k + 2)) (.cons (.asg 4 (.ite (.bi .eq (.call 0 (.cons (.var 0) (.cons (.con (.int (3))) .nil))) (.con (.int (0)))) (.bi .idx (.var 2) (.con (.int (0)))) (.bor (.call 17 (.cons (.var 0) (.cons (.var 2) .nil))))))
      (.cons (.rem 2 (.var 4)) (.cons (.app 3 (.var 4)) .nil))) [.drw, .val n, .own (A.map .int), .own (B.map .int), c] g = .nx [.drw, .val n, .own ((A.erase x).map .int), .own ((B ++ [x]).map .int), .val (.int x)] g' := by
  obtain ⟨v, g1, e1, hg1, v1, v2⟩ := draw_v (Φ := Φ) (k := k + 1) hg 3 (by omega) (by omega)
  have ea : evA (Φ (k + 2)) (.cons (.var 0) (.cons (.con (.int 3)) .nil)) [.drw, .val n, .own (A.map .int), .own (B.map .int), c] g = .ok [.drw, .val (.int 3)] g := by
    simp [evA, cell?]
  have et : evE (Φ (k + 2)) (.bi .eq (.call 0 (.cons (.var 0) (.cons (.con (.int (3))) .nil))) (.con (.int (0)))) [.drw, .val n, .own (A.map .int), .own (B.map .int), c] g = .ok (.bool (decide (v = 0))) g1 := by
    simp [v_bi, evC, own?, evE, ea, e1]
  cases A with
  | nil => exact absurd rfl hA
  | cons a A =>
    by_cases hv : v = 0
    · refine ⟨a, g1, .head _, hg1, turn_fin (a :: A) B n c a g1 (.head _) hl2 ?_⟩
      rw [evE, et]
      simp [hv, v_bi, evC, own?, atI, ixN]
    · obtain ⟨d, g2, e2, hg2, hd⟩ := pick_v (Φ := Φ) (k := k) hg1 ((a :: A).map PyData.int) (by simp) (by simpa using hl)
      obtain ⟨x, hx, rfl⟩ := List.mem_map.mp hd
      refine ⟨x, g2, hx, hg2, turn_fin (a :: A) B n c x g2 hx hl2 ?_⟩
      rw [evE, et]
      have e3 : evA (Φ (k + 2)) (.cons (.var 0) (.cons (.var 2) .nil)) ([.drw, .val n, .own ((a :: A).map .int), .own (B.map .int), c].map frz1) g1 = .ok [.drw, .val (.list ((a :: A).map .int))] g1 := by
        simp [evA, cell?, evE, frz1]
      rw [decide_eq_false hv]
      simp only [v_bind_ok]
      rw [evE, evE, e3]
      simp only [v_bind_ok]
      rw [e2]
      simp [flatD]
theorem nil_I (A : List Int) : eqD (.list (A.map PyData.int)) (.list []) = some (decide (A = [])) := eq_I A []
theorem list_loop [F_draw Φ] [F_law_pick Φ] (n : D) : ∀ (f : Nat) (A B : List Int) (c : Cell) (g : G), Good g → A.length < f → A.length ≤ 1000 → A.length + B.length ≤ 1000 → ∃ (B' : List Int) (c' : Cell) (g' : G), Good g' ∧ List.Perm B' (B ++ A) ∧
    whlL (fun r g => evT (Φ (k + 2)) (.bi .ne (.var 2) (.lst .nil)) r g) (fun r g => evS (Φ (k + 2)) (.cons (.asg 4 (.ite (.bi .eq (.call 0 (.cons (.var 0) (.cons (.con (.int (3))) .nil))) (.con (.int (0)))) (.bi .idx (.var 2) (.con (.int (0)))) (.bor (.call 17 (.cons (.var 0) (.cons (.var 2) .nil))))))
      (.cons (.rem 2 (.var 4)) (.cons (.app 3 (.var 4)) .nil))) r g) f [.drw, .val n, .own (A.map .int), .own (B.map .int), c] g = .nx [.drw, .val n, .own [], .own (B'.map .int), c'] g' := by
  intro f
  induction f with
  | zero => intro A B c g _ h; omega
  | succ f ih =>
    intro A B c g hg hf hl hl2
    have et : evT (Φ (k + 2)) (.bi .ne (.var 2) (.lst .nil)) [.drw, .val n, .own (A.map .int), .own (B.map .int), c] g = .ok (!decide (A = [])) g := by
      have := nil_I A
      simp [evT, v_bi, evC, own?, evE, evA, vals?, lim, this]
    unfold whlL
    rw [et]
    by_cases hA : A = []
    · subst hA
      exact ⟨B, c, g, hg, by simp, by simp⟩
    · obtain ⟨x, g1, hx, hg1, e1⟩ := list_turn (Φ := Φ) (k := k) hg A B n c hA hl (by omega)
      have hlen : (A.erase x).length = A.length - 1 := List.length_erase_of_mem hx
      have hpos : 0 < A.length := List.length_pos_iff.mpr hA
      obtain ⟨B', c', g', h1, h2, h3⟩ := ih (A.erase x) (B ++ [x]) (.val (.int x)) g1 hg1 (by omega) (by omega) (by simp; omega)
      refine ⟨B', c', g', h1, h2.trans ?_, ?_⟩
      · rw [List.append_assoc]
        exact List.Perm.append_left B (List.perm_cons_erase hx).symm
      · simp only [hA, decide_false, Bool.not_false]
        rw [e1]
        exact h3
theorem law_list_v [F_draw Φ] [F_law_pick Φ] [F_law_list Φ] (hg : Good g) (n : Nat) (h : n ≤ 900) : ∃ (l : List Int) (g' : G), Φ (k + 3) 18 [.drw, .val (.int n)] g = .ok (I l) g' ∧ Good g' ∧ List.Perm l (rg 0 n) := by
  obtain ⟨B, c, g', h1, h2, h3⟩ := list_loop (Φ := Φ) (k := k) (.int n) 1000000 (rg 0 n) [] .und g hg (by simp [rg]; omega) (by simp [rg]; omega) (by simp [rg]; omega)
  refine ⟨B, g', ?_, h1, by simpa using h2⟩
  rw [F_law_list.eq (Φ := Φ)]
  refine fn_rt rfl ?_
  have er : uop .lrange (.int n) = some (.list ((rg 0 n).map .int)) := by
    rw [← rangeD_rg]
    simp only [uop]
    rw [if_pos ⟨by omega, by omega⟩]
    simp
  rw [b_law_list, s_nx (s_mk (ev_un (evc_var rfl) er)), s_nx (s_mk (ev_lst eva_nil rfl (by decide)))]
  have e : evS (Φ (k + 2)) (.whl 1000000 (.bi .ne (.var 2) (.lst .nil)) (.cons (.asg 4 (.ite (.bi .eq (.call 0 (.cons (.var 0) (.cons (.con (.int (3))) .nil))) (.con (.int (0)))) (.bi .idx (.var 2) (.con (.int (0)))) (.bor (.call 17 (.cons (.var 0) (.cons (.var 2) .nil))))))
      (.cons (.rem 2 (.var 4)) (.cons (.app 3 (.var 4)) .nil)))) [.drw, .val (.int n), .own ((rg 0 n).map .int), .own [], .und] g = .nx [.drw, .val (.int n), .own [], .own (B.map .int), c] g' := by
    rw [evS]
    exact h3
  refine (s_nx e).trans ?_
  rw [s_nx (s_frz rfl)]
  exact s_rt (s_ret (ev_var rfl))
end
end Tl
end
section
set_option Elab.async false
set_option linter.all false
set_option autoImplicit false
namespace Tl
open PySem
/-! ### lowest terms -/
def low (a b : Nat) : Nat × Nat := (a / Nat.gcd a b, b / Nat.gcd a b)
theorem low_eq {a b c d : Nat} (hb : 0 < b) (hd : 0 < d) (h : a * d = c * b) : low a b = low c d := by
  have g1 : 0 < Nat.gcd a b := Nat.gcd_pos_of_pos_right _ hb
  have g2 : 0 < Nat.gcd c d := Nat.gcd_pos_of_pos_right _ hd
  obtain ⟨a', ea⟩ := Nat.gcd_dvd_left a b
  obtain ⟨b', eb⟩ := Nat.gcd_dvd_right a b
  obtain ⟨c', ec⟩ := Nat.gcd_dvd_left c d
  obtain ⟨d', ed⟩ := Nat.gcd_dvd_right c d
  have cab : Nat.gcd a' b' = 1 := by
    have : Nat.gcd a b * Nat.gcd a' b' = Nat.gcd a b * 1 := by
      rw [← Nat.gcd_mul_left, ← ea, ← eb, Nat.mul_one]
    exact Nat.eq_of_mul_eq_mul_left g1 this
  have ccd : Nat.gcd c' d' = 1 := by
    have : Nat.gcd c d * Nat.gcd c' d' = Nat.gcd c d * 1 := by
      rw [← Nat.gcd_mul_left, ← ec, ← ed, Nat.mul_one]
    exact Nat.eq_of_mul_eq_mul_left g2 this
  have hx : a' * d' = c' * b' := by
    have h1 : (Nat.gcd a b * a') * (Nat.gcd c d * d') = (Nat.gcd c d * c') * (Nat.gcd a b * b') := by rw [← ea, ← ed, ← ec, ← eb]; exact h
    have h2 : (Nat.gcd a b * Nat.gcd c d) * (a' * d') = (Nat.gcd a b * Nat.gcd c d) * (c' * b') := by
      calc (Nat.gcd a b * Nat.gcd c d) * (a' * d') = (Nat.gcd a b * a') * (Nat.gcd c d * d') := by ac_rfl
        _ = (Nat.gcd c d * c') * (Nat.gcd a b * b') := h1
        _ = _ := by ac_rfl
    exact Nat.eq_of_mul_eq_mul_left (Nat.mul_pos g1 g2) h2
  have b1 : b' ∣ d' := by
    have : b' ∣ a' * d' := hx ▸ Nat.dvd_mul_left b' c'
    exact Nat.Coprime.dvd_of_dvd_mul_left (by rw [Nat.Coprime, Nat.gcd_comm]; exact cab) this
  have d1 : d' ∣ b' := by
    have : d' ∣ c' * b' := hx ▸ Nat.dvd_mul_left d' a'
    exact Nat.Coprime.dvd_of_dvd_mul_left (by rw [Nat.Coprime, Nat.gcd_comm]; exact ccd) this
  have hbd : b' = d' := Nat.dvd_antisymm b1 d1
  have hb' : 0 < b' := Nat.pos_of_ne_zero fun z => by rw [z, Nat.mul_zero] at eb; omega
  have hac : a' = c' := by
    rw [← hbd] at hx
    exact Nat.eq_of_mul_eq_mul_right hb' hx
  have q1 : a / Nat.gcd a b = a' := Nat.div_eq_of_eq_mul_right g1 ea
  have q2 : b / Nat.gcd a b = b' := Nat.div_eq_of_eq_mul_right g1 eb
  have q3 : c / Nat.gcd c d = c' := Nat.div_eq_of_eq_mul_right g2 ec
  have q4 : d / Nat.gcd c d = d' := Nat.div_eq_of_eq_mul_right g2 ed
  unfold low
  rw [q1, q2, q3, q4, hac, hbd]
theorem low_mul (a b : Nat) : (low a b).1 * b = a * (low a b).2 := by
  obtain ⟨a', ea⟩ := Nat.gcd_dvd_left a b
  obtain ⟨b', eb⟩ := Nat.gcd_dvd_right a b
  by_cases hg : Nat.gcd a b = 0
  · have h1 : a = 0 := by rw [ea, hg, Nat.zero_mul]
    have h2 : b = 0 := by rw [eb, hg, Nat.zero_mul]
    simp [low, h1, h2]
  · have g1 : 0 < Nat.gcd a b := Nat.pos_of_ne_zero hg
    have q1 : a / Nat.gcd a b = a' := Nat.div_eq_of_eq_mul_right g1 ea
    have q2 : b / Nat.gcd a b = b' := Nat.div_eq_of_eq_mul_right g1 eb
    unfold low
    rw [q1, q2]
    calc a' * b = a' * (Nat.gcd a b * b') := by rw [← eb]
      _ = (Nat.gcd a b * a') * b' := by ac_rfl
      _ = a * b' := by rw [← ea]
theorem low_pos {a b : Nat} (hb : 0 < b) : 0 < (low a b).2 := by
  have g1 : 0 < Nat.gcd a b := Nat.gcd_pos_of_pos_right _ hb
  exact Nat.div_pos (Nat.le_of_dvd hb (Nat.gcd_dvd_right a b)) g1
theorem low_le1 (a b : Nat) : (low a b).1 ≤ a := Nat.div_le_self _ _
theorem low_le2 (a b : Nat) : (low a b).2 ≤ b := Nat.div_le_self _ _
abbrev T2 (p : Nat × Nat) : D := .tuple [.int p.1, .int p.2]
section
variable {Φ : Nat → Nat → Fn} {k : Nat} {g : G}
theorem gcd_loop {F : Nat → Fn} {i j : Nat} {r : Env} (hij : i ≠ j) : ∀ (f a b : Nat) (r : Env), b < f → r[i]? = some (.val (.int a)) → r[j]? = some (.val (.int b)) →
    whlL (fun r g => evT F (.bi .ne (.var j) (.con (.int (0)))) r g) (fun r g => evS F (.cons (.par (.two i j) [false, false] (.cons (.var j) (.cons (.bi .mod (.var i) (.var j)) .nil))) .nil) r g) f r g = .nx ((r.set i (.val (.int (Nat.gcd a b : Nat)))).set j (.val (.int 0))) g := by
  intro f
  induction f with
  | zero => intro a b r h; omega
  | succ f ih =>
    intro a b r hb hi hj
    have et : evT F (.bi .ne (.var j) (.con (.int (0)))) r g = .ok (!decide ((b : Int) = 0)) g := by
      simp [evT, v_bi, evC, own?, evE, hj]
    unfold whlL
    rw [et]
    have li : i < r.length := (List.getElem?_eq_some_iff.mp hi).1
    have lj : j < r.length := (List.getElem?_eq_some_iff.mp hj).1
    by_cases hz : b = 0
    · subst hz
      have e : (r.set i (.val (.int (Nat.gcd a 0 : Nat)))).set j (.val (.int 0)) = r := by
        refine List.ext_getElem? fun m => ?_
        by_cases hm : j = m
        · subst hm
          rw [List.getElem?_set_self (by simpa using lj), hj]
          rfl
        · rw [List.getElem?_set_ne hm]
          by_cases hm2 : i = m
          · subst hm2
            rw [List.getElem?_set_self li, hi]
            simp
          · rw [List.getElem?_set_ne hm2]
      rw [e]
      rfl
    · have hd : decide ((b : Int) = 0) = false := by simpa using hz
      rw [hd]
      have c1 : cell? (.var j) r = none := by simp [cell?, hj]
      have ea : evA F (.cons (.var j) (.cons (.bi .mod (.var i) (.var j)) .nil)) r g = .ok [.val (.int b), .val (.int ((a % b : Nat) : Int))] g := by
        have hb0 : 0 < b := by omega
        simp [evA, c1, evE, hj, cell?, v_bi, evC, own?, hi, hb0]
      have es : evS F (.cons (.par (.two i j) [false, false] (.cons (.var j) (.cons (.bi .mod (.var i) (.var j)) .nil))) .nil) r g = .nx ((r.set i (.val (.int b))).set j (.val (.int ((a % b : Nat) : Int)))) g := by
        simp [evS, ea, setPar, setO]
      simp only [Bool.not_false]
      rw [es]
      simp only
      rw [ih b (a % b) _ (by have := Nat.mod_lt a (Nat.pos_of_ne_zero hz); omega) (by rw [List.getElem?_set_ne (Ne.symm hij), List.getElem?_set_self li]) (by rw [List.getElem?_set_self (by simpa using lj)])]
      have e1 : Nat.gcd b (a % b) = Nat.gcd a b := by rw [Nat.gcd_comm b (a % b), ← Nat.gcd_rec, Nat.gcd_comm]
      rw [e1, List.set_comm _ _ (Ne.symm hij), List.set_set, List.set_set]
theorem s_whl {F : Nat → Fn} {n : Nat} {c : E} {b : Sm} {r : Env} : evS F (.whl n c b) r g = whlL (fun r g => evT F c r g) (fun r g => evS F b r g) n r g := by rw [evS]
theorem common_v [F_common Φ] (a b : Nat) (h : b < 1000000) : Φ (k + 1) 10 [.val (.int a), .val (.int b)] g = .ok (.int (Nat.gcd a b : Nat)) g := by
  rw [F_common.eq (Φ := Φ)]
  refine fn_rt rfl ?_
  have e := gcd_loop (F := Φ k) (g := g) (i := 0) (j := 1) (r := []) (by decide) 1000000 a b [.val (.int a), .val (.int b)] h rfl rfl
  rw [b_common]
  refine (s_nx (s_whl.trans e)).trans ?_
  exact s_rt (s_ret (ev_var rfl))
theorem lowest_v [F_common Φ] [F_lowest Φ] (a b : Nat) (hb : 0 < b) (h : b < 1000000) : Φ (k + 2) 11 [.val (.int a), .val (.int b)] g = .ok (T2 (low a b)) g := by
  rw [F_lowest.eq (Φ := Φ)]
  refine fn_rt rfl ?_
  have g1 : 0 < Nat.gcd a b := Nat.gcd_pos_of_pos_right _ hb
  have g2 : Nat.gcd a b ≤ b := Nat.le_of_dvd hb (Nat.gcd_dvd_right a b)
  have c1 : (0 : Int) < (Nat.gcd a b : Nat) ∧ ((Nat.gcd a b : Nat) : Int) < 1073741824 := by omega
  rw [b_lowest, s_nx (s_asg (ev_call (eva_cons rfl (ev_var rfl) (eva_cons rfl (ev_var rfl) eva_nil)) (common_v a b h)))]
  refine s_rt (s_ret (ev_tup (eva_cons rfl (ev_bi (evc_var rfl) (evc_var rfl) rfl (show bop .fdiv (.int a) (.int (Nat.gcd a b : Nat)) = some (.int ((low a b).1 : Nat)) by rw [b_fdivi, if_pos c1]; simp [low])) (eva_cons rfl (ev_bi (evc_var rfl) (evc_var rfl) rfl (show bop .fdiv (.int b) (.int (Nat.gcd a b : Nat)) = some (.int ((low a b).2 : Nat)) by rw [b_fdivi, if_pos c1]; simp [low])) eva_nil)) rfl (by simp [lim])))
theorem law_low_v [F_law_low Φ] (a b : Nat) (hb : 0 < b) (h : b < 1000000) : Φ (k + 1) 20 [.val (.int a), .val (.int b)] g = .ok (T2 (low a b)) g := by
  rw [F_law_low.eq (Φ := Φ)]
  refine fn_rt rfl ?_
  have g1 : 0 < Nat.gcd a b := Nat.gcd_pos_of_pos_right _ hb
  have g2 : Nat.gcd a b ≤ b := Nat.le_of_dvd hb (Nat.gcd_dvd_right a b)
  have c1 : (0 : Int) < (Nat.gcd a b : Nat) ∧ ((Nat.gcd a b : Nat) : Int) < 1073741824 := by omega
  have e0 : evS (Φ k) (.par (.two 2 3) [false, false] (.cons (.un .abs (.var 0)) (.cons (.var 1) .nil))) [.val (.int a), .val (.int b), .und, .und] g = .nx [.val (.int a), .val (.int b), .val (.int a), .val (.int b)] g := by
    have : ¬ ((a : Int) < 0) := by omega
    simp [evS, evA, cell?, v_un, evC, own?, evE, setPar, setO, this]
  have e := gcd_loop (F := Φ k) (g := g) (i := 2) (j := 3) (r := []) (by decide) 1000000 a b [.val (.int a), .val (.int b), .val (.int a), .val (.int b)] h rfl rfl
  rw [b_law_low]
  refine (s_nx e0).trans ?_
  refine (s_nx (s_whl.trans e)).trans ?_
  refine s_rt (s_ret (ev_tup (eva_cons rfl (ev_bi (evc_var rfl) (evc_var rfl) rfl (show bop .fdiv (.int a) (.int (Nat.gcd a b : Nat)) = some (.int ((low a b).1 : Nat)) by rw [b_fdivi, if_pos c1]; simp [low])) (eva_cons rfl (ev_bi (evc_var rfl) (evc_var rfl) rfl (show bop .fdiv (.int b) (.int (Nat.gcd a b : Nat)) = some (.int ((low a b).2 : Nat)) by rw [b_fdivi, if_pos c1]; simp [low])) eva_nil)) rfl (by simp [lim])))
theorem at0 (x y : D) : atI [x, y] 0 = some x := rfl
theorem at1 (x y : D) : atI [x, y] 1 = some y := rfl
theorem mul_small {a b : Nat} (h : a < 1000000) : mulOk (a : Int) (b : Int) = true := by
  simp [mulOk]
  left
  omega
theorem plus_v [F_common Φ] [F_lowest Φ] [F_plus Φ] (p q : Nat × Nat) (hp : 0 < p.2) (hq : 0 < q.2) (h1 : p.1 < 1000000) (h2 : q.1 < 1000000) (h3 : p.2 < 1000000) (h : p.2 * q.2 < 1000000) : Φ (k + 3) 12 [.val (T2 p), .val (T2 q)] g = .ok (T2 (low (p.1 * q.2 + q.1 * p.2) (p.2 * q.2))) g := by
  rw [F_plus.eq (Φ := Φ)]
  refine fn_rt rfl ?_
  have m1 : bop .mul (.int p.1) (.int q.2) = some (.int ((p.1 * q.2 : Nat) : Int)) := by rw [b_muli, if_pos (mul_small h1)]; simp
  have m2 : bop .mul (.int q.1) (.int p.2) = some (.int ((q.1 * p.2 : Nat) : Int)) := by rw [b_muli, if_pos (mul_small h2)]; simp
  have m3 : bop .mul (.int p.2) (.int q.2) = some (.int ((p.2 * q.2 : Nat) : Int)) := by rw [b_muli, if_pos (mul_small h3)]; simp
  have ix : ∀ (i : Nat) (pr : Nat × Nat), ([Cell.val (T2 p), Cell.val (T2 q)] : Env)[i]? = some (.val (T2 pr)) → EvC (Φ (k + 2)) (.bi .idx (.var i) (.con (.int 0))) [.val (T2 p), .val (T2 q)] g (.int pr.1) ∧ EvC (Φ (k + 2)) (.bi .idx (.var i) (.con (.int 1))) [.val (T2 p), .val (T2 q)] g (.int pr.2) := fun i pr e => ⟨evc_of rfl (ev_bi (evc_var e) (evc_of rfl ev_con) rfl rfl), evc_of rfl (ev_bi (evc_var e) (evc_of rfl ev_con) rfl rfl)⟩
  obtain ⟨i1, i2⟩ := ix 0 p rfl
  obtain ⟨i3, i4⟩ := ix 1 q rfl
  rw [b_plus]
  exact s_rt (s_ret (ev_call (eva_cons rfl (ev_bi (evc_of rfl (ev_bi i1 i4 rfl m1)) (evc_of rfl (ev_bi i3 i2 rfl m2)) rfl (show bop .add (.int ((p.1 * q.2 : Nat) : Int)) (.int ((q.1 * p.2 : Nat) : Int)) = some (.int ((p.1 * q.2 + q.1 * p.2 : Nat) : Int)) by simp)) (eva_cons rfl (ev_bi i2 i4 rfl m3) eva_nil)) (lowest_v _ _ (Nat.mul_pos hp hq) h)))
end
end Tl
end
section
set_option Elab.async false
set_option linter.all false
set_option autoImplicit false
namespace Tl
open PySem
local macro_rules
  | `(tactic| trivial) => `(tactic| first
    | exact ev_con
    | exact ev_glo
    | exact ev_var rfl
    | exact evc_own rfl
    | exact evc_var rfl
    | exact eva_nil
    | (apply eva_cons rfl <;> trivial)
    | (apply ev_itl; trivial)
    | (apply ev_isi; trivial)
    | (apply ev_le2 <;> trivial)
    | (apply ev_bi; trivial; trivial; exact rfl; first | exact upto_I _ _ | (simp only [b_isin, b_notin, in_I, eq_I, eq_int, b_eq, b_ne, Option.map_some]; done) | exact rfl)
    | (apply ev_un; trivial; first | exact u_len _ | exact rfl)
    | (apply evc_of rfl; trivial))
section
variable {Φ : Nat → Nat → Fn} {k : Nat} {g : G}
def wsum (f : Nat → Nat) : Nat → Nat
  | 0 => 0
  | n + 1 => wsum f n + f n * (420 / (n + 1))
theorem wsum_le (f : Nat → Nat) : ∀ n, n ≤ 7 → (∀ i, i < n → f i ≤ 7) → wsum f n ≤ n * 2940
  | 0, _, _ => by simp [wsum]
  | n + 1, h, hf => by
    have ih := wsum_le f n (by omega) (fun i hi => hf i (by omega))
    have h1 := hf n (by omega)
    have h2 : 420 / (n + 1) ≤ 420 := Nat.div_le_self _ _
    have h3 : f n * (420 / (n + 1)) ≤ 7 * 420 := Nat.mul_le_mul h1 h2
    unfold wsum
    omega
theorem div420 {n : Nat} (h : n < 7) : 420 = (n + 1) * (420 / (n + 1)) := by
  match n, h with
  | 0, _ => decide
  | 1, _ => decide
  | 2, _ => decide
  | 3, _ => decide
  | 4, _ => decide
  | 5, _ => decide
  | 6, _ => decide
theorem mean_step (W f n : Nat) (h : n < 7) : low ((low W 420).1 * (low f (n + 1)).2 + (low f (n + 1)).1 * (low W 420).2) ((low W 420).2 * (low f (n + 1)).2) = low (W + f * (420 / (n + 1))) 420 := by
  have hp : 0 < (low W 420).2 := low_pos (by decide)
  have hq : 0 < (low f (n + 1)).2 := low_pos (by omega)
  refine low_eq (Nat.mul_pos hp hq) (by decide) ?_
  have e1 := low_mul W 420
  have e2 := low_mul f (n + 1)
  have e3 := div420 h
  generalize 420 / (n + 1) = t at *
  generalize (low W 420).1 = a at *
  generalize (low W 420).2 = b at *
  generalize (low f (n + 1)).1 = c at *
  generalize (low f (n + 1)).2 = d at *
  have x1 : a * d * 420 = W * b * d := by rw [Nat.mul_right_comm, e1]
  have x2 : c * b * 420 = f * t * (b * d) := by
    rw [e3]
    calc c * b * ((n + 1) * t) = (c * (n + 1)) * (b * t) := by ac_rfl
      _ = (f * d) * (b * t) := by rw [e2]
      _ = f * t * (b * d) := by ac_rfl
  rw [Nat.add_mul, x1, x2, Nat.add_mul, Nat.mul_assoc W b d]
theorem low_last (W n : Nat) (h : 0 < n) : low (low W 420).1 ((low W 420).2 * n) = low W (420 * n) := by
  refine low_eq (Nat.mul_pos (low_pos (by decide)) h) (by omega) ?_
  have e1 := low_mul W 420
  generalize (low W 420).1 = a at *
  generalize (low W 420).2 = b at *
  calc a * (420 * n) = (a * 420) * n := by ac_rfl
    _ = (W * b) * n := by rw [e1]
    _ = W * (b * n) := by ac_rfl
theorem ov_le (l m : List Int) (n : Nat) : ov l m n ≤ n := by
  unfold ov
  have h1 := List.length_filter_le (fun x => decide (x ∈ m.take n)) (l.take n)
  have h2 := List.length_take_le n l
  omega
theorem enum_at {ds : List D} {i : Nat} {x : D} (h : (ds.zipIdx.map fun p => PyData.tuple [.int (p.2 : Nat), p.1])[i]? = some x) : ∃ y, ds[i]? = some y ∧ x = .tuple [.int (i : Nat), y] := by
  rw [List.getElem?_map, List.getElem?_zipIdx] at h
  cases e : ds[i]? with
  | none => rw [e] at h; cases h
  | some y =>
    rw [e] at h
    simp at h
    exact ⟨y, rfl, h.symm⟩
theorem enum_len (ds : List D) : (ds.zipIdx.map fun p => PyData.tuple [.int (p.2 : Nat), p.1]).length = ds.length := by simp
theorem rowOf_at {l m : List Int} {i : Nat} {y : D} (h : ((rowOf l m).map PyData.int)[i]? = some y) : i < l.length ∧ y = .int (ov l m (i + 1) : Nat) := by
  have hi : i < l.length := by
    have := (List.getElem?_eq_some_iff.mp h).1
    simpa [rowOf] using this
  simp [rowOf, hi] at h
  exact ⟨hi, h.symm⟩
theorem rowOf_len (l m : List Int) : (rowOf l m).length = l.length := by simp [rowOf]
theorem mean_v [F_is_int Φ] [F_is_full Φ] [F_check_full Φ] [F_check_both Φ] [F_row_of Φ] [F_common Φ] [F_lowest Φ] [F_plus Φ] [F_mean_overlap Φ] (l m : List Int) (h : Full l) (h' : Full m) (e : l.length = m.length) :
    Φ (k + 5) 13 [.val (I l), .val (I m)] g = .ok (T2 (low (wsum (fun i => ov l m (i + 1)) l.length) (420 * l.length))) g := by
  rw [F_mean_overlap.eq (Φ := Φ)]
  refine fn_rt rfl ?_
  have hl := h.2.1
  have hl1 := h.1
  rw [b_mean_overlap, s_nx (s_drop (ev_call (by trivial) (check_both_v l m h h' e))), s_nx (s_asg (ev_tup (eva_cons rfl ev_con (eva_cons rfl ev_con eva_nil)) rfl (by simp [lim])))]
  have wb : ∀ n, n ≤ l.length → wsum (fun i => ov l m (i + 1)) n < 1000000 := fun n hn => by
    have := wsum_le (fun i => ov l m (i + 1)) n (by omega) (fun i hi => by have := ov_le l m (i + 1); omega)
    have : n * 2940 ≤ 7 * 2940 := Nat.mul_le_mul (by omega) (Nat.le_refl _)
    omega
  refine s_loopE (ev_enum (ev_call (by trivial) (row_of_v l m hl))) (fun i r g' => (∃ c1 c2, r = [.val (I l), .val (I m), .val (T2 (low (wsum (fun i => ov l m (i + 1)) i) 420)), c1, c2]) ∧ g' = g) ⟨⟨.und, .und, by simp [wsum, low]⟩, rfl⟩ ?_ ?_
  · rintro i x r g' hx ⟨⟨c1, c2, rfl⟩, rfl⟩
    obtain ⟨y, hy, rfl⟩ := enum_at hx
    obtain ⟨hi, rfl⟩ := rowOf_at hy
    have hf := ov_le l m (i + 1)
    have b1 := wb i (by omega)
    have b2 := low_le1 (wsum (fun i => ov l m (i + 1)) i) 420
    have b3 := low_le2 (wsum (fun i => ov l m (i + 1)) i) 420
    have b4 := low_le1 (ov l m (i + 1)) (i + 1)
    have b5 := low_le2 (ov l m (i + 1)) (i + 1)
    have b6 : (low (wsum (fun i => ov l m (i + 1)) i) 420).2 * (low (ov l m (i + 1)) (i + 1)).2 ≤ 420 * 7 := Nat.mul_le_mul b3 (by omega)
    have p1 := plus_v (Φ := Φ) (k := k + 1) (g := g') (low (wsum (fun i => ov l m (i + 1)) i) 420) (low (ov l m (i + 1)) (i + 1)) (low_pos (by decide)) (low_pos (by omega)) (by omega) (by omega) (by omega) (by omega)
    rw [mean_step _ _ _ (by omega)] at p1
    refine ⟨_, _, _, rfl, .inl (s_nx (s_asg (ev_call (eva_cons rfl (ev_var rfl) (eva_cons rfl (ev_call (eva_cons rfl (ev_var rfl) (eva_cons rfl (ev_bi (evc_var rfl) (evc_of rfl ev_con) rfl (show bop .add (.int (i : Nat)) (.int 1) = some (.int ((i + 1 : Nat) : Int)) by simp)) eva_nil)) (lowest_v (Φ := Φ) (k := k + 2) _ _ (by omega) (by omega))) eva_nil)) p1))), ⟨.val (.int (i : Nat)), .val (.int (ov l m (i + 1) : Nat)), rfl⟩, rfl⟩
  · rintro r' g' ⟨⟨c1, c2, rfl⟩, rfl⟩
    rw [enum_len, List.length_map, rowOf_len]
    have b3 := low_le2 (wsum (fun i => ov l m (i + 1)) l.length) 420
    have b7 : (low (wsum (fun i => ov l m (i + 1)) l.length) 420).2 * l.length ≤ 420 * 7 := Nat.mul_le_mul b3 hl
    have lo := lowest_v (Φ := Φ) (k := k + 2) (g := g') (low (wsum (fun i => ov l m (i + 1)) l.length) 420).1 ((low (wsum (fun i => ov l m (i + 1)) l.length) 420).2 * l.length) (Nat.mul_pos (low_pos (by decide)) (by omega)) (by omega)
    rw [low_last _ _ (by omega)] at lo
    refine s_rt (s_ret (ev_call (eva_cons rfl (ev_bi (evc_var rfl) (evc_of rfl ev_con) rfl rfl) (eva_cons rfl (ev_bi (evc_of rfl (ev_bi (evc_var rfl) (evc_of rfl ev_con) rfl rfl)) (evc_of rfl (ev_un (evc_var rfl) (u_len _))) rfl ?_) eva_nil)) lo))
    show bop .mul (.int ((low (wsum (fun i => ov l m (i + 1)) l.length) 420).2 : Nat)) (.int ((l.map PyData.int).length : Nat)) = _
    rw [b_muli, if_pos (mul_small (by omega)), List.length_map]
    simp
end
end Tl
end
section
set_option Elab.async false
set_option linter.all false
set_option autoImplicit false
namespace Tl
open PySem
local macro_rules
  | `(tactic| trivial) => `(tactic| first
    | exact ev_con
    | exact ev_glo
    | exact ev_var rfl
    | exact evc_own rfl
    | exact evc_var rfl
    | exact eva_nil
    | (apply eva_cons rfl <;> trivial)
    | (apply ev_itl; trivial)
    | (apply ev_isi; trivial)
    | (apply ev_le2 <;> trivial)
    | (apply ev_bi; trivial; trivial; exact rfl; first | exact upto_I _ _ | (simp only [b_isin, b_notin, in_I, eq_I, eq_int, b_eq, b_ne, Option.map_some]; done) | exact rfl)
    | (apply ev_un; trivial; first | exact u_len _ | exact rfl)
    | (apply evc_of rfl; trivial))
section
variable {Φ : Nat → Nat → Fn} {k : Nat} {g : G}
theorem law_row_v [F_law_row Φ] (l m : List Int) (h : l.length ≤ 7) : Φ (k + 1) 19 [.val (I l), .val (I m)] g = .ok (I (rowOf l m)) g := by
  rw [F_law_row.eq (Φ := Φ)]
  refine fn_rt rfl ?_
  rw [b_law_row]
  have hr : Ev (Φ k) (.rng1 (.un .len (.var 0))) [.val (I l), .val (I m), .und, .und] g (.list ((List.range l.length).map fun i => PyData.int (i : Nat))) := by
    have := ev_rng1 (F := Φ k) (r := [.val (I l), .val (I m), .und, .und]) (g := g) (a := .un .len (.var 0)) (n := (l.length : Int)) (ev_un (evc_var rfl) (by simp)) (by unfold lim; omega) (by omega)
    simpa [rangeD] using this
  have hc := ev_lc (F := Φ k) (r := [.val (I l), .val (I m), .und, .und]) (g := g) (t := .nm 2) (c := .con (.bool true)) (e := .un .len (.lc (.nm 3) (.itl (.bi .upto (.var 0) (.bi .add (.var 2) (.con (.int (1)))))) (.bi .isin (.var 3) (.bi .upto (.var 1) (.bi .add (.var 2) (.con (.int (1)))))) (.var 3)))
    (xs := List.range l.length) (enc := fun i => PyData.int (i : Nat)) (rr := fun i => [.val (I l), .val (I m), .val (.int (i : Nat)), .und]) (p := fun _ => true) (f := fun i => .int (ov l m (i + 1) : Nat)) hr (fun x hx => rfl) (fun x hx => ev_con) (fun i hi _ => by
      have hp : ∀ (j : Nat) (c : Cell) (q : List Int), ([Cell.val (I l), Cell.val (I m), Cell.val (.int (i : Nat)), c] : Env)[j]? = some (.val (I q)) → EvC (Φ k) (.bi .upto (.var j) (.bi .add (.var 2) (.con (.int (1))))) [.val (I l), .val (I m), .val (.int (i : Nat)), c] g (I (q.take (i + 1))) := fun j c q e =>
        evc_of rfl (ev_bi (evc_var e) (evc_of rfl (ev_bi (evc_var rfl) (evc_of rfl ev_con) rfl (show bop .add (.int (i : Nat)) (.int 1) = some (.int ((i + 1 : Nat) : Int)) by simp))) rfl (upto_I _ _))
      refine ev_un (evc_of rfl (ev_lc (xs := l.take (i + 1)) (enc := PyData.int) (rr := fun x => [.val (I l), .val (I m), .val (.int (i : Nat)), .val (.int x)]) (p := fun x => decide (x ∈ m.take (i + 1))) (f := PyData.int) (ev_itl (hp 0 .und l rfl)) (fun x hx => rfl) (fun x hx => ev_bi (evc_var rfl) (hp 1 _ m rfl) rfl (by rw [b_isin, in_I]; rfl)) (fun x hx _ => by trivial))) ?_
      simp [ov])
  refine s_rt (s_ret ?_)
  have e : (I (rowOf l m)) = .list (((List.range l.length).filter fun _ => true).map fun i => PyData.int (ov l m (i + 1) : Nat)) := by
    rw [List.filter_eq_self.mpr (fun _ _ => rfl)]
    simp [rowOf, Function.comp_def]
  rw [e]
  exact hc
theorem index_I (l : List Int) (x : Int) (h : x ∈ l) : bop .index (.list (l.map PyData.int)) (.int x) = some (.int (l.idxOf x : Nat)) := by
  have e : (l.map PyData.int).findIdx? (fun z => PyData.eqv z (.int x)) = some (l.idxOf x) := by
    induction l with
    | nil => cases h
    | cons y l ih =>
      rw [List.map_cons, List.findIdx?_cons, List.idxOf_cons]
      by_cases hy : y = x
      · subst hy
        simp [PyData.eqv]
      · have hx : x ∈ l := by
          rcases List.mem_cons.mp h with e | e
          · exact absurd e.symm hy
          · exact e
        rw [ih hx]
        have hb : (y == x) = false := by simpa using hy
        simp [PyData.eqv, hb]
  rw [b_index]
  simp [indexD, e]
theorem meeting_v [F_is_int Φ] [F_is_full Φ] [F_check_full Φ] [F_check_both Φ] [F_meeting_depth Φ] (l m : List Int) (x : Int) (h : Full l) (h' : Full m) (e : l.length = m.length) (hx : x ∈ l) (hx' : x ∈ m) : Φ (k + 5) 14 [.val (I l), .val (I m), .val (.int x)] g = .ok (.int (1 + max (l.idxOf x : Int) (m.idxOf x : Int))) g := by
  rw [F_meeting_depth.eq (Φ := Φ)]
  refine fn_rt rfl ?_
  have hb := h.2.2.1 x hx
  rw [b_meeting_depth, s_nx (s_drop (ev_call (by trivial) (check_both_v l m h h' e))), s_nx (s_if0 (ev_un (evc_of rfl (ev_call (by trivial) (is_int_v _ _ _))) (by simp; omega)))]
  refine s_rt (s_ret (ev_bi (evc_of rfl ev_con) (evc_of rfl (ev_bi (evc_of rfl (ev_bi (evc_var rfl) (evc_var rfl) rfl (index_I l x hx))) (evc_of rfl (ev_bi (evc_var rfl) (evc_var rfl) rfl (index_I m x hx'))) rfl (b_max2 _ _))) rfl ?_))
  rw [b_addi]
  congr 3
  split <;> omega
/-- what becomes common at depth n -/
def nw (l m : List Int) (n : Nat) : List Int := (l.take n).filter fun x => decide (x ∈ m.take n) && !decide (x ∈ cm l m (n - 1))
theorem new_common_v [F_is_int Φ] [F_is_full Φ] [F_check_full Φ] [F_check_both Φ] [F_new_common Φ] (l m : List Int) (h : Full l) (h' : Full m) (e : l.length = m.length) : Φ (k + 5) 9 [.val (I l), .val (I m)] g = .ok (.list ((List.range l.length).map fun i => I (isort (nw l m (i + 1))))) g := by
  rw [F_new_common.eq (Φ := Φ)]
  refine fn_rt rfl ?_
  have hl := h.2.1
  rw [b_new_common, s_nx (s_drop (ev_call (by trivial) (check_both_v l m h h' e))), s_nx (s_mk (ev_lst eva_nil rfl (by decide)))]
  have hr : Ev (Φ (k + 4)) (.rng2 (.con (.int 1)) (.bi .add (.un .len (.var 0)) (.con (.int 1)))) [.val (I l), .val (I m), .own [], .und, .und, .und] g (.list (rangeD 1 l.length)) := by
    have := ev_rng2 (F := Φ (k + 4)) (r := [.val (I l), .val (I m), .own [], .und, .und, .und]) (g := g) (a := .con (.int 1)) (b := .bi .add (.un .len (.var 0)) (.con (.int 1))) (m := 1) (n := (l.length : Int) + 1) (by trivial) (ev_bi (evc_of rfl (ev_un (evc_var rfl) (u_len _))) (evc_of rfl ev_con) rfl (by simp)) (by unfold lim; omega) (by decide) (small_of (by omega) (by omega))
    have e : ((l.length : Int) + 1 - 1).toNat = l.length := by omega
    rw [e] at this
    exact this
  refine s_loopE hr (fun i r g' => (∃ c1 c2 c3, r = [.val (I l), .val (I m), .own ((List.range i).map fun i => I (isort (nw l m (i + 1)))), c1, c2, c3]) ∧ g' = g) ⟨⟨.und, .und, .und, rfl⟩, rfl⟩ ?_ ?_
  · rintro i x r g' hx ⟨⟨c1, c2, c3, rfl⟩, rfl⟩
    obtain ⟨hi, rfl⟩ := range_at hx
    have e : (1 + (i : Int)) = ((i + 1 : Nat) : Int) := by omega
    rw [e]
    generalize hO : (List.range i).map (fun i => I (isort (nw l m (i + 1)))) = O0
    have hp : ∀ (j : Nat) (c c' : Cell) (q : List Int), ([Cell.val (I l), Cell.val (I m), Cell.own O0, Cell.val (.int ((i + 1 : Nat) : Int)), c, c'] : Env)[j]? = some (.val (I q)) → EvC (Φ (k + 4)) (.bi .upto (.var j) (.bi .sub (.var 3) (.con (.int (1))))) [.val (I l), .val (I m), .own O0, .val (.int ((i + 1 : Nat) : Int)), c, c'] g' (I (q.take i)) := fun j c c' q e =>
      evc_of rfl (ev_bi (evc_var e) (evc_of rfl (ev_bi (evc_var rfl) (evc_of rfl ev_con) rfl (show bop .sub (.int ((i + 1 : Nat) : Int)) (.int 1) = some (.int (i : Nat)) by simp))) rfl (upto_I _ _))
    refine ⟨_, _, _, rfl, .inl ((s_nx (s_asg (ev_lc (xs := l.take i) (enc := PyData.int) (rr := fun x => [.val (I l), .val (I m), .own O0, .val (.int ((i + 1 : Nat) : Int)), c2, .val (.int x)]) (p := fun x => decide (x ∈ m.take i)) (f := PyData.int) (ev_itl (hp 0 _ _ l rfl)) (fun x hx => rfl) (fun x hx => ev_bi (evc_var rfl) (hp 1 _ _ m rfl) rfl (by rw [b_isin, in_I]; rfl)) (fun x hx _ => by trivial)))).trans
      (s_nx (s_app rfl (ev_un (evc_of rfl (ev_lc (xs := l.take (i + 1)) (enc := PyData.int) (rr := fun x => [.val (I l), .val (I m), .own O0, .val (.int ((i + 1 : Nat) : Int)), .val (I (cm l m i)), .val (.int x)]) (p := fun x => decide (x ∈ m.take (i + 1)) && !decide (x ∈ cm l m i)) (f := PyData.int) (by trivial) (fun x hx => rfl) (fun x hx => ev_and (x := decide (x ∈ m.take (i + 1))) (by trivial) (fun z => by
        rw [z, Bool.true_and]
        trivial) (fun z => by rw [z]; rfl)) (fun x hx _ => by trivial))) (sorted_I _)) (by rw [← hO]; simp [lim]; omega)))), ⟨.val (.int ((i + 1 : Nat) : Int)), .val (I (cm l m i)), c3, ?_⟩, rfl⟩
    rw [← hO]
    simp [evS, List.range_succ, nw, cm]
  · rintro r' g' ⟨⟨c1, c2, c3, rfl⟩, rfl⟩
    rw [range_len, s_nx (s_frz rfl)]
    exact s_rt (s_ret (ev_var rfl))
end
end Tl
end
section
set_option Elab.async false
set_option linter.all false
set_option autoImplicit false
namespace Tl
open PySem
local macro_rules
  | `(tactic| trivial) => `(tactic| first
    | exact ev_con
    | exact ev_glo
    | exact ev_var rfl
    | exact evc_own rfl
    | exact evc_var rfl
    | exact eva_nil
    | (apply eva_cons rfl <;> trivial)
    | (apply ev_itl; trivial)
    | (apply ev_isi; trivial)
    | (apply ev_le2 <;> trivial)
    | (apply ev_bi; trivial; trivial; exact rfl; first | exact upto_I _ _ | (simp only [b_isin, b_notin, in_I, eq_I, eq_int, b_eq, b_ne, Option.map_some]; done) | exact rfl)
    | (apply ev_un; trivial; first | exact u_len _ | exact rfl)
    | (apply evc_of rfl; trivial))
section
variable {Φ : Nat → Nat → Fn} {k : Nat} {g : G}
theorem is_row_v [F_is_int Φ] [F_is_row Φ] (l m : List Int) (h1 : 1 ≤ l.length) (h7 : l.length ≤ 7) (hs : ∀ i, i < l.length → ov l m i ≤ ov l m (i + 1) ∧ ov l m (i + 1) ≤ ov l m i + 2) (hn : ov l m l.length = l.length) : Φ (k + 2) 16 [.val (I (rowOf l m))] g = .ok (.bool true) g := by
  rw [F_is_row.eq (Φ := Φ)]
  refine fn_rt rfl ?_
  have hl : (rowOf l m).length = l.length := rowOf_len l m
  have hr : ∀ x ∈ rowOf l m, 0 ≤ x ∧ x ≤ 7 := fun x hx => by
    obtain ⟨i, hi, rfl⟩ := List.mem_map.mp hx
    have := ov_le l m (i + 1)
    have := List.mem_range.mp hi
    omega
  rw [b_is_row, s_nx (s_if0 (ev_or (x := false) (by trivial) (fun _ => ev_or (x := false) (ev_un (d := .bool true) (evc_of rfl (by
    have e : (true : Bool) = (decide ((1 : Int) ≤ ((rowOf l m).map PyData.int).length) && decide ((((rowOf l m).map PyData.int).length : Int) ≤ 7)) := by simp [hl]; omega
    rw [e]
    trivial)) rfl) (fun _ => ev_un (evc_of rfl (ev_un (evc_of rfl (ev_lc (xs := rowOf l m) (enc := PyData.int) (rr := fun x => [.val (I (rowOf l m)), .und, .und, .val (.int x)]) (p := fun _ => true) (f := fun _ => .bool true) (by trivial) (fun x hx => rfl) (fun x hx => by trivial) (fun x hx _ => ev_call (by trivial) (by
      rw [is_int_v (Φ := Φ)]
      have := hr x hx
      simp
      omega)))) (show uop .all _ = some (.bool true) by simp [uop, all_true]))) rfl) (fun z => by cases z)) (fun z => by cases z)))]
  rw [s_nx (s_asg ev_con)]
  refine s_loopE (ev_enum (ev_var rfl)) (fun i r g' => (∃ c1 c2, r = [.val (I (rowOf l m)), .val (.int (ov l m i : Nat)), c1, c2]) ∧ g' = g) ⟨⟨.und, .und, by simp [ov]⟩, rfl⟩ ?_ ?_
  · rintro i x r g' hx ⟨⟨c1, c2, rfl⟩, rfl⟩
    obtain ⟨y, hy, rfl⟩ := enum_at hx
    obtain ⟨hi, rfl⟩ := rowOf_at hy
    have h2 := ov_le l m (i + 1)
    have h3 := hs i hi
    refine ⟨_, _, _, rfl, .inl ((s_nx (s_if0 (ev_or (x := false) (ev_un (evc_of rfl (ev_le2 (ev_var rfl) (ev_var rfl) (ev_bi (evc_var rfl) (evc_of rfl ev_con) rfl (b_addi _ _)))) ?_) (fun _ => ev_bi (evc_var rfl) (evc_of rfl (ev_bi (evc_var rfl) (evc_of rfl ev_con) rfl (b_addi _ _))) rfl ?_) (fun z => by cases z)))).trans (s_nx (s_asg (ev_var rfl)))), ⟨.val (.int (i : Nat)), .val (.int (ov l m (i + 1) : Nat)), rfl⟩, rfl⟩
    · rw [u_notv]
      simp
      omega
    · rw [b_gt]
      simp
      omega
  · rintro r' g' ⟨⟨c1, c2, rfl⟩, rfl⟩
    refine s_rt (s_ret (ev_bi (evc_var rfl) (evc_of rfl (ev_un (evc_var rfl) (u_len _))) rfl ?_))
    rw [enum_len, List.length_map, hl, hn, b_eq, eq_int]
    simp
/-! ### overlaps grow by at most two -/
theorem take_succ' (l : List Int) (i : Nat) (h : i < l.length) : l.take (i + 1) = l.take i ++ [l[i]] := by
  rw [List.take_succ, List.getElem?_eq_getElem h]
  rfl
theorem not_in_take (l : List Int) (hn : l.Nodup) (i : Nat) (h : i < l.length) : l[i] ∉ l.take i := by
  intro z
  obtain ⟨j, hj, e⟩ := List.mem_take_iff_getElem.mp z
  have : j = i := (List.getElem_inj hn).mp e
  omega
theorem len_filter_or (L : List Int) (p : Int → Bool) (x : Int) (hL : L.Nodup) (hp : p x = false) : (L.filter fun y => p y || decide (y = x)).length = (L.filter p).length + if x ∈ L then 1 else 0 := by
  induction L with
  | nil => simp
  | cons y L ih =>
    have hy := (List.nodup_cons.mp hL).1
    have ih := ih (List.nodup_cons.mp hL).2
    by_cases e : y = x
    · subst e
      simp [List.filter_cons, hp, ih, hy]
    · have e2 : ¬ x = y := fun z => e z.symm
      simp only [List.filter_cons, e, decide_false, Bool.or_false, List.mem_cons, e2, false_or]
      cases hpy : p y
      · simp [ih]
      · simp [ih]
        omega
theorem ov_succ (l m : List Int) (hl : l.Nodup) (hm : m.Nodup) (i : Nat) (h : i < l.length) (h' : i < m.length) : ov l m (i + 1) = ov l m i + (if m[i] ∈ l.take i then 1 else 0) + (if l[i] ∈ m.take (i + 1) then 1 else 0) := by
  unfold ov
  have e1 := take_succ' l i h
  have e2 := take_succ' m i h'
  rw [e1, List.filter_append, List.length_append]
  have nt : (l.take i).Nodup := hl.sublist (List.take_sublist _ _)
  have e3 : (l.take i).filter (fun x => decide (x ∈ m.take (i + 1))) = (l.take i).filter (fun y => decide (y ∈ m.take i) || decide (y = m[i])) := by
    refine List.filter_congr fun x _ => ?_
    have ex : (x ∈ m.take (i + 1)) ↔ (x ∈ m.take i ∨ x = m[i]) := by rw [e2, List.mem_append, List.mem_singleton]
    simp only [ex, Bool.decide_or]
  rw [e3, len_filter_or _ _ _ nt (by simpa using not_in_take m hm i h')]
  congr 1
  by_cases hx : l[i] ∈ m.take (i + 1) <;> simp [List.filter_cons, hx]
theorem ov_all (l m : List Int) (h : ∀ x ∈ l, x ∈ m) (e : l.length = m.length) : ov l m l.length = l.length := by
  unfold ov
  rw [List.take_of_length_le (Nat.le_refl _), List.take_of_length_le (by omega)]
  rw [List.filter_eq_self.mpr (fun x hx => by simpa using h x hx)]
theorem ov_step (l m : List Int) (hl : l.Nodup) (hm : m.Nodup) (e : l.length = m.length) (i : Nat) (h : i < l.length) : ov l m i ≤ ov l m (i + 1) ∧ ov l m (i + 1) ≤ ov l m i + 2 := by
  rw [ov_succ l m hl hm i h (by omega)]
  split <;> split <;> omega
end
end Tl
end
section
set_option Elab.async false
set_option linter.all false
set_option autoImplicit false
namespace Tl
open PySem
local macro_rules
  | `(tactic| trivial) => `(tactic| first
    | exact ev_con
    | exact ev_glo
    | exact ev_var rfl
    | exact evc_own rfl
    | exact evc_var rfl
    | exact eva_nil
    | (apply eva_cons rfl <;> trivial)
    | (apply ev_itl; trivial)
    | (apply ev_isi; trivial)
    | (apply ev_le2 <;> trivial)
    | (apply ev_bi; trivial; trivial; exact rfl; first | exact upto_I _ _ | (simp only [b_isin, b_notin, in_I, eq_I, eq_int, b_eq, b_ne, Option.map_some]; done) | exact rfl)
    | (apply ev_un; trivial; first | exact u_len _ | exact rfl)
    | (apply evc_of rfl; trivial))
section
variable {Φ : Nat → Nat → Fn} {k : Nat} {g : G}
theorem mem_rg {n : Nat} {x : Int} : x ∈ rg 0 n ↔ 0 ≤ x ∧ x < n := by
  unfold rg
  constructor
  · intro h
    obtain ⟨i, hi, rfl⟩ := List.mem_map.mp h
    have := List.mem_range.mp hi
    omega
  · rintro ⟨h1, h2⟩
    exact List.mem_map.mpr ⟨x.toNat, List.mem_range.mpr (by omega), by omega⟩
theorem rg_lt (n : Nat) : (rg 0 n).Pairwise (· < ·) := by
  unfold rg
  rw [List.pairwise_map]
  exact List.pairwise_lt_range.imp fun h => by omega
theorem rg_nodup (n : Nat) : (rg 0 n).Nodup := (rg_lt n).imp fun h => by omega
theorem rg_len (n : Nat) : (rg 0 n).length = n := by simp [rg]
structure Pm (n : Nat) (l : List Int) : Prop where
  len : l.length = n
  nd : l.Nodup
  mem : ∀ x, x ∈ l ↔ 0 ≤ x ∧ x < n
theorem pm_of {n : Nat} {l : List Int} (h : List.Perm l (rg 0 n)) : Pm n l := ⟨by rw [h.length_eq, rg_len], h.nodup_iff.mpr (rg_nodup n), fun x => by rw [h.mem_iff, mem_rg]⟩
theorem Pm.full {n : Nat} {l : List Int} (h : Pm n l) (h1 : 1 ≤ n) (h7 : n ≤ 7) : Full l := ⟨by rw [h.len]; exact h1, by rw [h.len]; exact h7, fun x hx => by
  have := (h.mem x).mp hx
  rw [h.len]
  omega, h.nd⟩
theorem ov_comm (l m : List Int) (hl : l.Nodup) (hm : m.Nodup) (i : Nat) : ov l m i = ov m l i := by
  have h : List.Perm ((l.take i).filter fun x => decide (x ∈ m.take i)) ((m.take i).filter fun x => decide (x ∈ l.take i)) := by
    refine (List.perm_ext_iff_of_nodup ((hl.sublist (List.take_sublist _ _)).sublist List.filter_sublist) ((hm.sublist (List.take_sublist _ _)).sublist List.filter_sublist)).mpr fun x => ?_
    simp [and_comm]
  exact h.length_eq
theorem rowOf_comm (l m : List Int) (hl : l.Nodup) (hm : m.Nodup) (e : l.length = m.length) : rowOf m l = rowOf l m := by
  unfold rowOf
  rw [e]
  refine List.map_congr_left fun i _ => ?_
  rw [ov_comm m l hm hl]
theorem overlap_row_v [F_is_int Φ] [F_is_full Φ] [F_check_full Φ] [F_check_both Φ] [F_row_of Φ] [F_overlap_row Φ] (l m : List Int) (h : Full l) (h' : Full m) (e : l.length = m.length) : Φ (k + 5) 6 [.val (I l), .val (I m)] g = .ok (I (rowOf l m)) g := by
  rw [F_overlap_row.eq (Φ := Φ)]
  refine fn_rt rfl ?_
  rw [b_overlap_row, s_nx (s_drop (ev_call (by trivial) (check_both_v l m h h' e)))]
  exact s_rt (s_ret (ev_call (by trivial) (row_of_v l m h.2.1)))
/-- the common things, in order -/
def sn (n : Nat) (l m : List Int) (d : Nat) : List Int := (rg 0 n).filter fun x => decide (x ∈ l.take d) && decide (x ∈ m.take d)
def fi (n : Nat) (l s : List Int) (d : Nat) : List Int := (rg 0 n).filter fun x => decide (x ∈ l.take d) && !decide (x ∈ s)
theorem mem_sn {n : Nat} {l m : List Int} (hl : Pm n l) {d : Nat} {x : Int} : x ∈ sn n l m d ↔ x ∈ l.take d ∧ x ∈ m.take d := by
  simp only [sn, List.mem_filter, mem_rg, Bool.and_eq_true, decide_eq_true_eq]
  constructor
  · exact fun h => h.2
  · exact fun h => ⟨(hl.mem x).mp (List.mem_of_mem_take h.1), h⟩
theorem filt_lt (n : Nat) (p : Int → Bool) : ((rg 0 n).filter p).Pairwise (· < ·) := (rg_lt n).sublist List.filter_sublist
theorem cm_sn {n : Nat} {l m : List Int} (hl : Pm n l) (d : Nat) : isort (cm l m d) = sn n l m d := by
  refine isort_eq ((hl.nd.sublist (List.take_sublist _ _)).sublist List.filter_sublist) (filt_lt n _) fun x => ?_
  rw [mem_sn hl]
  simp [cm]
theorem cm_len (l m : List Int) (d : Nat) : (cm l m d).length = ov l m d := rfl
theorem sn_len {n : Nat} {l m : List Int} (hl : Pm n l) (d : Nat) : (sn n l m d).length = ov l m d := by
  rw [← cm_sn hl, (isort_perm _).length_eq]
  rfl
theorem nc_fi {n : Nat} {l m : List Int} (hl : Pm n l) (d : Nat) : isort (nc l m d) = fi n l (sn n l m d) d := by
  refine isort_eq ((hl.nd.sublist (List.take_sublist _ _)).sublist List.filter_sublist) (filt_lt n _) fun x => ?_
  simp only [nc, fi, List.mem_filter, mem_rg, Bool.and_eq_true, Bool.not_eq_true', decide_eq_true_eq, decide_eq_false_iff_not, mem_sn hl]
  constructor
  · rintro ⟨h1, h2⟩
    exact ⟨(hl.mem x).mp (List.mem_of_mem_take h1), h1, fun z => h2 z.2⟩
  · rintro ⟨_, h1, h2⟩
    exact ⟨h1, fun z => h2 ⟨h1, z⟩⟩
theorem sn_comm (n : Nat) (l m : List Int) (d : Nat) : sn n l m d = sn n m l d := by
  unfold sn
  refine List.filter_congr fun x _ => ?_
  rw [Bool.and_comm]
theorem len_split (L : List Int) (p : Int → Bool) : (L.filter fun x => !p x).length + (L.filter p).length = L.length := by
  induction L with
  | nil => rfl
  | cons x L ih =>
    cases h : p x <;> simp [List.filter_cons, h] <;> omega
theorem fi_len {n : Nat} {l m : List Int} (hl : Pm n l) (d : Nat) (hd : d ≤ n) : (fi n l (sn n l m d) d).length = d - ov l m d := by
  rw [← nc_fi hl, (isort_perm _).length_eq]
  have h := len_split (l.take d) (fun x => decide (x ∈ m.take d))
  have h2 : (l.take d).length = d := by rw [List.length_take, hl.len]; omega
  unfold nc ov
  omega
theorem nw_sn {n : Nat} {l m : List Int} (hl : Pm n l) (d : Nat) : isort (nw l m (d + 1)) = (sn n l m (d + 1)).filter fun x => !decide (x ∈ sn n l m d) := by
  refine isort_eq ((hl.nd.sublist (List.take_sublist _ _)).sublist List.filter_sublist) ((filt_lt n _).sublist List.filter_sublist) fun x => ?_
  simp only [nw, List.mem_filter, Bool.and_eq_true, Bool.not_eq_true', decide_eq_true_eq, decide_eq_false_iff_not, mem_sn hl, cm, Nat.add_sub_cancel]
  constructor
  · rintro ⟨h1, h2, h3⟩
    exact ⟨⟨h1, h2⟩, h3⟩
  · rintro ⟨⟨h1, h2⟩, h3⟩
    exact ⟨h1, h2, h3⟩
end
end Tl
end
section
set_option Elab.async false
set_option linter.all false
set_option autoImplicit false
namespace Tl
open PySem
local macro_rules
  | `(tactic| trivial) => `(tactic| first
    | exact ev_con
    | exact ev_glo
    | exact ev_var rfl
    | exact evc_own rfl
    | exact evc_var rfl
    | exact eva_nil
    | (apply eva_cons rfl <;> trivial)
    | (apply ev_itl; trivial)
    | (apply ev_isi; trivial)
    | (apply ev_le2 <;> trivial)
    | (apply ev_bi; trivial; trivial; exact rfl; first | exact upto_I _ _ | (simp only [b_isin, b_notin, in_I, eq_I, eq_int, b_eq, b_ne, Option.map_some]; done) | exact rfl)
    | (apply ev_un; trivial; first | exact u_len _ | exact rfl)
    | (apply evc_of rfl; trivial))
section
variable {Φ : Nat → Nat → Fn} {k : Nat} {g : G}
theorem depthI_map (L : List (List Int)) : PyData.depthAll (L.map I) ≤ 1 := by
  induction L with
  | nil => simp [PyData.depthAll]
  | cons a L ih =>
    simp only [List.map_cons, PyData.depthAll, PyData.depth, depth_I]
    omega
theorem eqvAll_II (L : List (List Int)) : PyData.eqvAll (L.map I) (L.map I) = true := by
  induction L with
  | nil => simp [PyData.eqvAll]
  | cons a L ih => simp [PyData.eqvAll, PyData.eqv, eqvAll_I, ih]
theorem ne_II (L : List (List Int)) : bop .ne (.list (L.map I)) (.list (L.map I)) = some (.bool false) := by
  have h := depthI_map L
  have hs : shp (.list (L.map I)) = true := by
    unfold shp
    refine decide_eq_true ?_
    show PyData.depthAll (L.map I) + 1 ≤ 60
    omega
  simp only [b_ne, eqD, hs, PyData.eqv, eqvAll_II]
  simp
theorem eq_T2 (p : Nat × Nat) : bop .eq (T2 p) (T2 p) = some (.bool true) := by
  simp [eqD, PyData.eqv, PyData.eqvAll, shp, PyData.depth, PyData.depthAll]
theorem nw_len {n : Nat} {l m : List Int} (hl : Pm n l) (hm : Pm n m) (i : Nat) (h : i < n) : (isort (nw l m (i + 1))).length ≤ 2 := by
  rw [nw_sn hl]
  have h1 := len_split (sn n l m (i + 1)) (fun x => decide (x ∈ sn n l m i))
  have h2 : ((sn n l m (i + 1)).filter fun x => decide (x ∈ sn n l m i)).length = (sn n l m i).length := by
    have nd1 : ∀ d, (sn n l m d).Nodup := fun d => (filt_lt n _).imp fun h => by omega
    refine ((List.perm_ext_iff_of_nodup ((nd1 (i + 1)).sublist List.filter_sublist) (nd1 i)).mpr fun x => ?_).length_eq
    rw [List.mem_filter, decide_eq_true_eq]
    constructor
    · exact fun z => z.2
    · refine fun z => ⟨?_, z⟩
      have := (mem_sn hl).mp z
      exact (mem_sn hl).mpr ⟨(List.take_subset_take_left l (by omega)) this.1, (List.take_subset_take_left m (by omega)) this.2⟩
  rw [sn_len hl] at h1 h2
  have h3 := ov_step l m hl.nd hm.nd (by rw [hl.len, hm.len]) i (by rw [hl.len]; exact h)
  omega
theorem mem_take_idx {l : List Int} {x : Int} (hx : x ∈ l) (j : Nat) : x ∈ l.take j ↔ l.idxOf x < j := by
  induction l generalizing j with
  | nil => cases hx
  | cons y l ih =>
    cases j with
    | zero => simp
    | succ j =>
      rw [List.take_succ_cons, List.mem_cons, List.idxOf_cons]
      by_cases hy : y = x
      · subst hy
        simp
      · have hb : (y == x) = false := by simpa using hy
        have hx' : x ∈ l := by
          rcases List.mem_cons.mp hx with e | e
          · exact absurd e.symm hy
          · exact e
        rw [ih hx' j, hb]
        simp [Ne.symm hy]
theorem mem_nw {n : Nat} {l m : List Int} (hl : Pm n l) {x : Int} (h1 : x ∈ l) (h2 : x ∈ m) (i : Nat) : x ∈ isort (nw l m (i + 1)) ↔ i = max (l.idxOf x) (m.idxOf x) := by
  rw [nw_sn hl, List.mem_filter, mem_sn hl]
  simp only [Bool.not_eq_true', decide_eq_false_iff_not, mem_sn hl, mem_take_idx h1, mem_take_idx h2]
  omega
theorem filter_one (M : Nat) : ∀ n, M < n → (List.range n).filter (fun i => decide (i = M)) = [M]
  | 0, h => by omega
  | n + 1, h => by
    rw [List.range_succ, List.filter_append]
    by_cases hn : M = n
    · subst hn
      rw [List.filter_eq_nil_iff.mpr (fun i hi => by have := List.mem_range.mp hi; simp; omega)]
      simp
    · rw [filter_one M n (by omega)]
      have : ¬ n = M := fun z => hn z.symm
      simp [this]
theorem wsum_sum (f : Nat → Nat) : ∀ n, n ≤ 7 → ((List.range n).map fun i => ((f i : Int) * 420 / ((i : Int) + 1))).sum = (wsum f n : Nat)
  | 0, _ => by simp [wsum]
  | n + 1, h => by
    rw [List.range_succ, List.map_append, List.sum_append, wsum_sum f n (by omega)]
    have e := div420 (n := n) (by omega)
    have e2 : (f n : Int) * 420 / ((n : Int) + 1) = ((f n * (420 / (n + 1)) : Nat) : Int) := by
      have e3 : (f n : Int) * 420 = ((f n * (420 / (n + 1)) : Nat) : Int) * ((n : Int) + 1) := by
        have : f n * 420 = f n * (420 / (n + 1)) * (n + 1) := by
          rw [Nat.mul_assoc, Nat.mul_comm (420 / (n + 1)), ← e]
        have h9 := congrArg (Nat.cast : Nat → Int) this
        rw [Int.natCast_mul (f n) 420, Int.natCast_mul (f n * (420 / (n + 1))) (n + 1)] at h9
        exact h9
      rw [e3, Int.mul_ediv_cancel _ (by omega)]
    rw [List.map_singleton, List.sum_singleton, e2]
    have ew : wsum f (n + 1) = wsum f n + f n * (420 / (n + 1)) := rfl
    rw [ew]
    omega
end
end Tl
end
section
set_option Elab.async false
set_option linter.all false
set_option autoImplicit false
set_option synthInstance.maxHeartbeats 400000
set_option synthInstance.maxSize 2000
namespace Tl
open PySem
section
variable {Φ : Nat → Nat → Fn} {k : Nat}
instance cIsInt [F_is_int Φ] {v a b : Int} : CallP (Φ (k + 1)) 1 [.val (.int v), .val (.int a), .val (.int b)] (.bool (decide (a ≤ v) && decide (v ≤ b))) True := ⟨fun _ g => is_int_v v a b⟩
section
variable [F_is_int Φ] [F_is_full Φ]
instance cIsFull {l : List Int} : CallP (Φ (k + 2)) 2 [.val (I l)] (.bool true) (Full l) := ⟨fun p g => is_full_v l p⟩
variable [F_check_full Φ]
instance cCheckFull {l : List Int} : CallP (Φ (k + 3)) 3 [.val (I l)] .none (Full l) := ⟨fun p g => check_full_v l p⟩
variable [F_check_both Φ] {l m : List Int}
instance cCheckBoth : CallP (Φ (k + 4)) 4 [.val (I l), .val (I m)] .none (Full l ∧ Full m ∧ l.length = m.length) := ⟨fun p g => check_both_v l m p.1 p.2.1 p.2.2⟩
instance cOverlapRow [F_row_of Φ] [F_overlap_row Φ] : CallP (Φ (k + 5)) 6 [.val (I l), .val (I m)] (I (rowOf l m)) (Full l ∧ Full m ∧ l.length = m.length) := ⟨fun p g => overlap_row_v l m p.1 p.2.1 p.2.2⟩
instance cOverlap [F_overlap Φ] {i : Int} {n : Nat} {P : Prop} [N : NatI i n P] : CallP (Φ (k + 5)) 7 [.val (I l), .val (I m), .val (.int i)] (.int (ov l m n : Nat)) (P ∧ Full l ∧ Full m ∧ l.length = m.length ∧ n ≤ l.length) := ⟨fun p g => by rw [N.h p.1]; exact overlap_v l m n p.2.1 p.2.2.1 p.2.2.2.1 p.2.2.2.2⟩
instance cCommon [F_common_things Φ] {i : Int} {n : Nat} {P : Prop} [N : NatI i n P] : CallP (Φ (k + 5)) 8 [.val (I l), .val (I m), .val (.int i)] (I (isort (cm l m n))) (P ∧ Full l ∧ Full m ∧ l.length = m.length ∧ n ≤ l.length) := ⟨fun p g => by rw [N.h p.1]; exact common_things_v l m n p.2.1 p.2.2.1 p.2.2.2.1 p.2.2.2.2⟩
instance cWaiting [F_waiting Φ] {i : Int} {n : Nat} {P : Prop} [N : NatI i n P] : CallP (Φ (k + 5)) 15 [.val (I l), .val (I m), .val (.int i)] (.tuple [I (isort (nc l m n)), I (isort (nc m l n))]) (P ∧ Full l ∧ Full m ∧ l.length = m.length ∧ n ≤ l.length) := ⟨fun p g => by rw [N.h p.1]; exact waiting_v l m n p.2.1 p.2.2.1 p.2.2.2.1 p.2.2.2.2⟩
instance cMeeting [F_meeting_depth Φ] {x : Int} : CallP (Φ (k + 5)) 14 [.val (I l), .val (I m), .val (.int x)] (.int (1 + max (l.idxOf x : Int) (m.idxOf x : Int))) (Full l ∧ Full m ∧ l.length = m.length ∧ x ∈ l ∧ x ∈ m) := ⟨fun p g => meeting_v l m x p.1 p.2.1 p.2.2.1 p.2.2.2.1 p.2.2.2.2⟩
end
instance cRowOf [F_row_of Φ] {l m : List Int} : CallP (Φ (k + 1)) 5 [.val (I l), .val (I m)] (I (rowOf l m)) (l.length ≤ 7) := ⟨fun p g => row_of_v l m p⟩
instance cLawRow [F_law_row Φ] {l m : List Int} : CallP (Φ (k + 1)) 19 [.val (I l), .val (I m)] (I (rowOf l m)) (l.length ≤ 7) := ⟨fun p g => law_row_v l m p⟩
end
/-! ### first places -/
def fst (p : Nat → Bool) (n : Nat) : Nat := ((List.range n).filter p).getD 0 0
theorem filter_from (K : Nat) : ∀ n, K < n → (List.range n).filter (fun k => decide (K ≤ k)) = (List.range (n - K)).map (K + ·)
  | 0, h => by omega
  | n + 1, h => by
    rw [List.range_succ, List.filter_append]
    by_cases e : K = n
    · subst e
      have : (List.range K).filter (fun k => decide (K ≤ k)) = [] := by
        rw [List.filter_eq_nil_iff]
        intro x hx
        have := List.mem_range.mp hx
        simp
        omega
      rw [this]
      simp
    · rw [filter_from K n (by omega)]
      have e2 : n + 1 - K = (n - K) + 1 := by omega
      have e3 : K ≤ n := by omega
      rw [e2, List.range_succ, List.map_append]
      simp [e3]
theorem fst_ge {K n : Nat} (h : K < n) {p : Nat → Bool} (hp : ∀ k, k < n → (p k = true ↔ K ≤ k)) : fst p n = K := by
  unfold fst
  have : (List.range n).filter p = (List.range n).filter (fun k => decide (K ≤ k)) := List.filter_congr fun k hk => by
    rw [Bool.eq_iff_iff, hp k (List.mem_range.mp hk)]
    simp
  rw [this, filter_from K n h]
  obtain ⟨j, hj⟩ : ∃ j, n - K = j + 1 := ⟨n - K - 1, by omega⟩
  rw [hj, List.range_succ_eq_map]
  simp
theorem fst_pos {K n : Nat} (h : K < n) {p : Nat → Bool} (hp : p K = true) : 0 < ((List.range n).filter p).length :=
  List.length_pos_of_mem (List.mem_filter.mpr ⟨List.mem_range.mpr h, hp⟩)
/-- the overlap grows -/
theorem ov_mono {l m : List Int} (hl : l.Nodup) (hm : m.Nodup) (e : l.length = m.length) : ∀ {i j : Nat}, i ≤ j → j ≤ l.length → ov l m i ≤ ov l m j
  | i, 0, h, _ => by
    have : i = 0 := by omega
    subst this
    exact Nat.le_refl _
  | i, j + 1, h, hj => by
    by_cases z : i = j + 1
    · subst z; exact Nat.le_refl _
    · exact Nat.le_trans (ov_mono hl hm e (i := i) (j := j) (by omega) (by omega)) (ov_step l m hl hm e j (by omega)).1
theorem ov_zero (l m : List Int) : ov l m 0 = 0 := by simp [ov]
/-- with a 0 ahead -/
theorem row0 (l m : List Int) {k : Nat} (h : k ≤ l.length) : ([0] ++ rowOf l m).getD k default = (ov l m k : Int) := by
  cases k with
  | zero => simp [ov_zero]
  | succ k =>
    have : k < l.length := by omega
    simp [rowOf, this]
theorem head_cast (p : Nat → Bool) (n : Nat) : (((List.range n).filter p).map (fun (x : Nat) => (x : Int))).getD 0 default = (fst p n : Nat) := by
  unfold fst
  cases (List.range n).filter p <;> rfl
theorem fst_congr {p q : Nat → Bool} {n : Nat} (h : ∀ k, k < n → p k = q k) : fst p n = fst q n := by
  unfold fst
  rw [List.filter_congr fun k hk => h k (List.mem_range.mp hk)]
theorem ne_f {α : Type} [DecidableEq α] {a b : α} (h : a = b) : (!decide (a = b)) = false := by simp [h]
/-! ### what is drawn -/
theorem lcL_congr {c c' : D → G → R Bool} {e e' : D → G → R D} {xs : List D} {g : G} (hc : ∀ x g, c x g = c' x g) (he : ∀ x g, e x g = e' x g) : lcL c e xs g = lcL c' e' xs g := by
  have h1 : c = c' := funext fun x => funext (hc x)
  have h2 : e = e' := funext fun x => funext (he x)
  rw [h1, h2]
theorem draws_lc {α : Type} {enc : α → D} {e : D → G → R D} {P : α → Prop} (he : ∀ x g, Good g → ∃ v g', e x g = .ok (enc v) g' ∧ Good g' ∧ P v) :
    ∀ (xs : List D) (g : G), Good g → ∃ (vs : List α) (g' : G), lcL (fun _ g => .ok true g) e xs g = .ok (vs.map enc) g' ∧ Good g' ∧ vs.length = xs.length ∧ ∀ v ∈ vs, P v
  | [], g, hg => ⟨[], g, rfl, hg, rfl, fun _ h => by cases h⟩
  | x :: xs, g, hg => by
    obtain ⟨v, g1, h1, h2, h3⟩ := he x g hg
    obtain ⟨vs, g2, k1, k2, k3, k4⟩ := draws_lc he xs g1 h2
    refine ⟨v :: vs, g2, ?_, k2, by simp [k3], fun u hu => ?_⟩
    · simp only [lcL, h1, k1, List.map_cons]
    · rcases List.mem_cons.mp hu with e | e
      · rw [e]; exact h3
      · exact k4 u e
/-- a comprehension that draws -/
theorem ev_lcD {F : Nat → Fn} {it e : E} {r : Env} {i : Nat} {g g1 : G} {xs : List D} {α : Type} {enc : α → D} {P : α → Prop} (hit : evE F it r g = .ok (.list xs) g1) (hg : Good g1) (he : ∀ x g, Good g → ∃ v g', evE F e (r.set i (.val x)) g = .ok (enc v) g' ∧ Good g' ∧ P v) :
    ∃ (vs : List α) (g' : G), evE F (.lc (.nm i) it (.con (.bool true)) e) r g = .ok (.list (vs.map enc)) g' ∧ Good g' ∧ vs.length = xs.length ∧ ∀ v ∈ vs, P v := by
  obtain ⟨vs, g2, k1, k2, k3, k4⟩ := draws_lc (e := fun x g => evE F e (r.set i (.val x)) g) he xs g1 hg
  refine ⟨vs, g2, ?_, k2, k3, k4⟩
  rw [evE, hit]
  simp only [v_bind_ok]
  rw [lcL_congr (c' := fun _ g => .ok true g) (e' := fun x g => evE F e (r.set i (.val x)) g) (fun x g => by simp) (fun x g => by simp), k1]
end Tl
end
section
set_option Elab.async false
set_option linter.all false
set_option autoImplicit false
set_option synthInstance.maxHeartbeats 400000
set_option synthInstance.maxSize 2000
namespace Tl
open PySem
/-! ### sorting things of one encoding -/
def dle {α : Type} (enc : α → D) (a b : α) : Bool := PySem.W.dataLe false id (enc a) (enc b)
def dsort {α : Type} (enc : α → D) (l : List α) : List α := l.mergeSort (dle enc)
class SortEnc {α : Type} (enc : α → D) : Prop where
  h : ∀ l : List α, sortOk (l.map enc) = true
theorem sort_enc {α : Type} (enc : α → D) (l : List α) : sortD (l.map enc) = (dsort enc l).map enc := by
  unfold sortD dsort
  exact (List.map_mergeSort (r := dle enc) (s := PySem.W.dataLe false id) (f := enc) fun a _ b _ => rfl).symm
instance (priority := low) uSortG {α : Type} {enc : α → D} {l : List α} [H : SortEnc enc] : UoP .sorted (.list (l.map enc)) (.list ((dsort enc l).map enc)) True := ⟨fun _ => by
  simp only [uop, H.h l, sort_enc, if_true]⟩
instance seII : SortEnc (fun y : Int × Int => PyData.tuple [.int y.1, .int y.2]) := ⟨fun l => by
  simp [sortOk, PySem.W.alike, PySem.W.alikeAll, shp, PyData.depth, PyData.depthAll]⟩
instance seIS : SortEnc (fun y : Int × Str => PyData.tuple [.int y.1, .str y.2]) := ⟨fun l => by
  simp [sortOk, PySem.W.alike, PySem.W.alikeAll, shp, PyData.depth, PyData.depthAll]⟩
instance seS : SortEnc PyData.str := ⟨fun l => by
  simp [sortOk, PySem.W.alike, shp, PyData.depth]⟩
theorem dle_total {α : Type} (enc : α → D) : (∀ a b c, dle enc a b = true → dle enc b c = true → dle enc a c = true) ∧ ∀ a b, (dle enc a b || dle enc b a) = true := by
  have h := PySem.W.sortLe_total (PyProof.Rows.listOrd PyProof.Rows.itemOrd) false (fun b : D => PySem.W.keyToks b)
  exact ⟨fun a b c => h.trans _ _ _, fun a b => by
    have := h.total (enc a) (enc b)
    rw [Bool.or_eq_true]
    exact this⟩
theorem dsort_perm {α : Type} (enc : α → D) (l : List α) : (dsort enc l).Perm l := List.mergeSort_perm l _
theorem dsort_le {α : Type} (enc : α → D) (l : List α) : (dsort enc l).Pairwise (fun a b => dle enc a b = true) :=
  List.pairwise_mergeSort (dle_total enc).1 (dle_total enc).2 l
theorem dsort_id {α : Type} {enc : α → D} {l : List α} (h : l.Pairwise (fun a b => dle enc a b = true)) : dsort enc l = l := List.mergeSort_of_pairwise h
/-! ### least and greatest -/
theorem fold_mn (l : List Int) : ∀ a : Int, (l.foldl min a = a ∨ l.foldl min a ∈ l) ∧ l.foldl min a ≤ a ∧ ∀ y ∈ l, l.foldl min a ≤ y := by
  induction l with
  | nil => intro a; simp
  | cons x l ih =>
    intro a
    obtain ⟨h1, h2, h3⟩ := ih (min a x)
    rw [List.foldl_cons]
    refine ⟨?_, by omega, fun y hy => ?_⟩
    · rcases h1 with e | e
      · rw [e]
        by_cases q : a ≤ x
        · left; omega
        · right
          have : min a x = x := by omega
          rw [this]
          exact .head _
      · exact .inr (.tail _ e)
    · rcases List.mem_cons.mp hy with e | e
      · subst e; omega
      · exact h3 y e
theorem minL_mem {l : List Int} (h : l ≠ []) : minL l ∈ l := by
  cases l with
  | nil => exact absurd rfl h
  | cons x l =>
    rcases (fold_mn l x).1 with e | e
    · show l.foldl min x ∈ _
      rw [e]; exact .head _
    · exact .tail _ e
theorem minL_le {l : List Int} {y : Int} (h : y ∈ l) : minL l ≤ y := by
  cases l with
  | nil => cases h
  | cons x l =>
    show l.foldl min x ≤ y
    rcases List.mem_cons.mp h with e | e
    · subst e; exact (fold_mn l y).2.1
    · exact (fold_mn l x).2.2 y e
theorem minL_eq {l : List Int} {x : Int} (hx : x ∈ l) (h : ∀ y ∈ l, x ≤ y) : minL l = x := by
  have h1 := minL_mem (l := l) (fun z => by rw [z] at hx; cases hx)
  have h2 := minL_le hx
  have h3 := h _ h1
  omega
theorem minL_same {l m : List Int} (h : ∀ x, x ∈ l ↔ x ∈ m) (hn : l ≠ []) : minL l = minL m := by
  have h1 := minL_mem hn
  have hm : m ≠ [] := fun z => by
    have := (h _).mp h1
    rw [z] at this
    cases this
  exact (minL_eq ((h _).mp h1) fun y hy => minL_le ((h y).mpr hy)).symm
theorem fold_mx (l : List Int) : ∀ a : Int, (l.foldl max a = a ∨ l.foldl max a ∈ l) ∧ a ≤ l.foldl max a ∧ ∀ y ∈ l, y ≤ l.foldl max a := by
  induction l with
  | nil => intro a; simp
  | cons x l ih =>
    intro a
    obtain ⟨h1, h2, h3⟩ := ih (max a x)
    rw [List.foldl_cons]
    refine ⟨?_, by omega, fun y hy => ?_⟩
    · rcases h1 with e | e
      · rw [e]
        by_cases q : x ≤ a
        · left; omega
        · right
          have : max a x = x := by omega
          rw [this]
          exact .head _
      · exact .inr (.tail _ e)
    · rcases List.mem_cons.mp hy with e | e
      · subst e; omega
      · exact h3 y e
theorem maxL_mem {l : List Int} (h : l ≠ []) : maxL l ∈ l := by
  cases l with
  | nil => exact absurd rfl h
  | cons x l =>
    rcases (fold_mx l x).1 with e | e
    · show l.foldl max x ∈ _
      rw [e]; exact .head _
    · exact .tail _ e
theorem maxL_le {l : List Int} {y : Int} (h : y ∈ l) : y ≤ maxL l := by
  cases l with
  | nil => cases h
  | cons x l =>
    show y ≤ l.foldl max x
    rcases List.mem_cons.mp h with e | e
    · subst e; exact (fold_mx l y).2.1
    · exact (fold_mx l x).2.2 y e
theorem maxL_eq {l : List Int} {x : Int} (hx : x ∈ l) (h : ∀ y ∈ l, y ≤ x) : maxL l = x := by
  have h1 := maxL_mem (l := l) (fun z => by rw [z] at hx; cases hx)
  have h2 := maxL_le hx
  have h3 := h _ h1
  omega
theorem maxL_le_iff (x : Int) (l : List Int) (k : Int) : maxL (x :: l) ≤ k ↔ x ≤ k ∧ ∀ y ∈ l, y ≤ k := by
  constructor
  · intro h
    exact ⟨Int.le_trans (maxL_le (.head _)) h, fun y hy => Int.le_trans (maxL_le (.tail _ hy)) h⟩
  · rintro ⟨h1, h2⟩
    rcases List.mem_cons.mp (maxL_mem (l := x :: l) (by simp)) with e | e
    · rw [e]; exact h1
    · exact h2 _ e
end Tl
end
section
set_option Elab.async false
set_option linter.all false
set_option autoImplicit false
set_option synthInstance.maxHeartbeats 400000
set_option synthInstance.maxSize 2000
namespace Tl
open PySem
/-! ### a run, step by step, to what is asked of its end -/
def Run (Q : O → Prop) (F : Nat → Fn) (s : Sm) (r : Env) (g : G) : Prop := Q (evS F s r g)
/-- behind a part, the rest -/
abbrev Thn (Q : O → Prop) (F : Nat → Fn) (t : Sm) : O → Prop := fun o => Q (o.andThen fun r g => evS F t r g)
/-- the end of a turn -/
abbrev Turn (J : Env → G → Prop) : O → Prop := fun o => ∃ r' g', (o = .nx r' g' ∨ o = .ct r' g') ∧ J r' g'
section
variable {Q : O → Prop} {F : Nat → Fn} {r s u : Env} {g g' : G} {a b c t : Sm} {e : E} {d d' : D} {P : Prop} {x : Bool}
theorem run_eq {o : O} (h : Run (fun z => z = o) F a r g) : evS F a r g = o := h
theorem r_nx [H : StP F a r s P] (p : P) (k : Run Q F b s g) : Run Q F (.cons a b) r g := by
  unfold Run
  rw [s_nx (H.h p g)]
  exact k
theorem r_seq (k : Run (Thn Q F b) F a r g) : Run Q F (.cons a b) r g := by
  unfold Run Thn at *
  simp only [evS]
  exact k
theorem r_end (k : Run Q F b r g) : Run (Thn Q F b) F .nil r g := by
  unfold Run Thn at *
  simp only [evS, v_then_nx]
  exact k
theorem r_nil (k : Q (.nx r g)) : Run Q F .nil r g := by
  unfold Run
  simp only [evS]
  exact k
theorem r_turn {J : Env → G → Prop} (k : J r g) : Run (Turn J) F .nil r g := r_nil ⟨r, g, .inl rfl, k⟩
theorem r_cont {J : Env → G → Prop} (k : J r g) : Run (Turn J) F (.cons .cont t) r g := by
  unfold Run
  simp only [evS, v_then_ct]
  exact ⟨r, g, .inr rfl, k⟩
/-- a test that does not hold -/
theorem r_if0 [H : EvP F e r (.bool x) P] (p : P) (hx : x = false) (k : Run Q F b r g) : Run Q F (.cons (.ite e a .nil) b) r g := by
  have h : Ev F e r g (.bool x) := H.h p g
  rw [hx] at h
  unfold Run
  rw [s_nx (s_if0 h)]
  exact k
theorem r_ite [H : EvP F e r (.bool x) P] (p : P) (ht : x = true → Run (Thn Q F c) F a r g) (hf : x = false → Run (Thn Q F c) F b r g) : Run Q F (.cons (.ite e a b) c) r g := by
  have h : evE F e r g = .ok (.bool x) g := H.h p g
  refine r_seq ?_
  unfold Run
  simp only [evS, evT, h, v_bind_ok, bl_bool, v_of, v_st_ok]
  cases x with
  | true => exact ht rfl
  | false => exact hf rfl
theorem r_iteE {v : Bool} (h : Ev F e r g (.bool v)) (ht : v = true → Run (Thn Q F c) F a r g) (hf : v = false → Run (Thn Q F c) F b r g) : Run Q F (.cons (.ite e a b) c) r g := by
  have h : evE F e r g = .ok (.bool v) g := h
  refine r_seq ?_
  unfold Run
  simp only [evS, evT, h, v_bind_ok, bl_bool, v_of, v_st_ok]
  cases v with
  | true => exact ht rfl
  | false => exact hf rfl
theorem r_ret [H : EvP F e r d P] (p : P) (k : Q (.rt d g)) : Run Q F (.cons (.ret e) t) r g := by
  unfold Run
  rw [s_rt (s_ret (H.h p g))]
  exact k
theorem r_retE {o : D} [H : EvP F e r d P] (p : P) (z : d = o) : Run (fun q => q = .rt o g) F (.cons (.ret e) t) r g := by
  subst z
  exact r_ret p rfl
theorem r_in {tg : Tg} [H : PutT tg d r s] (k : Run Q F a s g) : ∃ r0, setT tg d r = some r0 ∧ Run Q F a r0 g := ⟨s, H.h, k⟩
theorem r_for {tg : Tg} {it : E} {α : Type} {enc : α → D} {xs : List α} [H : EvP F it r (.list (xs.map enc)) P] (p : P) (J : Nat → Env → G → Prop) (h0 : J 0 r g)
    (hs : ∀ (i : Nat) (x : α) (r : Env) (g : G), xs[i]? = some x → J i r g → ∃ r0, setT tg (enc x) r = some r0 ∧ Run (Turn (J (i + 1))) F a r0 g)
    (hk : ∀ r g, J xs.length r g → Run Q F b r g) : Run Q F (.cons (.for_ tg it a) b) r g := by
  refine s_loopP (P := Q) (H.h p g) J h0 (fun i d r g hd hj => ?_) fun r' g' hj => hk r' g' (by simpa using hj)
  rw [List.getElem?_map] at hd
  cases hx : xs[i]? with
  | none => rw [hx] at hd; cases hd
  | some y =>
    rw [hx] at hd
    cases hd
    obtain ⟨r0, h1, r', g', h2, h3⟩ := hs i y r g hx hj
    exact ⟨r0, r', g', h1, h2, h3⟩
/-- a statement that draws -/
theorem r_by (h : evS F a r g = .nx s g') (k : Run Q F b s g') : Run Q F (.cons a b) r g := by
  unfold Run
  rw [s_nx h]
  exact k
/-- a loop whose list is drawn -/
theorem r_forE {tg : Tg} {it : E} {α : Type} {enc : α → D} {xs : List α} {g1 : G} (hit : evE F it r g = .ok (.list (xs.map enc)) g1) (J : Nat → Env → G → Prop) (h0 : J 0 r g1)
    (hs : ∀ (i : Nat) (x : α) (r : Env) (g : G), xs[i]? = some x → J i r g → ∃ r0, setT tg (enc x) r = some r0 ∧ Run (Turn (J (i + 1))) F a r0 g)
    (hk : ∀ r g, J xs.length r g → Run Q F b r g) : Run Q F (.cons (.for_ tg it a) b) r g := by
  obtain ⟨r', g', e, hj⟩ := forL_rel (f := fun x r g => match setT tg x r with
      | some r => evS F a r g
      | none => .bad) (xs := xs.map enc) (r := r) (g := g1) J h0 (fun i d r g hd hj => by
    rw [List.getElem?_map] at hd
    cases hx : xs[i]? with
    | none => rw [hx] at hd; cases hd
    | some y =>
      rw [hx] at hd
      cases hd
      obtain ⟨r0, h1, r', g', h2, h3⟩ := hs i y r g hx hj
      exact ⟨r', g', by simp only [h1]; exact h2, h3⟩)
  have e2 : evS F (.for_ tg it a) r g = .nx r' g' := by
    rw [← e]
    simp only [evS, hit, v_st_ok]
    all_goals rfl
  refine r_by e2 (hk r' g' (by simpa using hj))
theorem rgAt {n i x : Nat} (h : (List.range n)[i]? = some x) : x = i ∧ i < n := by
  obtain ⟨h1, h2⟩ := List.getElem?_eq_some_iff.mp h
  simp at h1 h2
  exact ⟨h2.symm, h1⟩
theorem r_fn {F' : Nat → Fn} {f n j : Nat} {cs : List Cell} {g1 : G} (e : F' f = fnD F n (j + n) b) (hc : cs.length = n) [H : Pad cs j r] (h : Run (fun o => o = .rt d g1) F b r g) : F' f cs g = .ok d g1 := by
  rw [e]
  exact fn_rt hc (by rw [Nat.add_sub_cancel, H.h]; exact h)
/-- the law ends in True -/
abbrev Tru : O → Prop := fun o => ∃ g, o = .rt (.bool true) g
theorem r_true [H : EvP F e r (.bool x) P] (p : P) (z : x = true) : Run Tru F (.cons (.ret e) t) r g := r_ret p ⟨g, by rw [z]⟩
/-- size = k + draw -/
theorem r_size {F : Nat → Fn} {i j : Nat} (c q : Nat) (hF : ∀ g, Good g → ∀ l : Int, 0 < l → l < 1000 → ∃ v g', F 0 [.drw, .val (.int l)] g = .ok (.int v) g' ∧ Good g' ∧ 0 ≤ v ∧ v < l) (hg : Good g) [L : Look r j .drw] (hq : 0 < q) (hq2 : q < 1000)
    (h : ∀ (n : Nat) (g' : G), c ≤ n → n < c + q → Good g' → Run Q F t (r.set i (.val (.int n))) g') : Run Q F (.cons (.asg i (.bi .add (.con (.int c)) (.call 0 (.cons (.var j) (.cons (.con (.int q)) .nil))))) t) r g := by
  obtain ⟨v, g1, e1, hg1, v1, v2⟩ := hF g hg q (by omega) (by omega)
  have l := L.h
  refine r_by (s := r.set i (.val (.int ((c + v.toNat : Nat) : Int)))) (g' := g1) ?_ (h (c + v.toNat) g1 (by omega) (by omega) hg1)
  have e2 : ((c + v.toNat : Nat) : Int) = c + v := by omega
  rw [e2]
  simp [evS, v_bi, evC, own?, evE, evA, cell?, l, e1]
theorem r_lists {F : Nat → Fn} {i j a q : Nat} (n : Nat) (hF : ∀ g, Good g → ∃ (l : List Int) (g' : G), F 18 [.drw, .val (.int n)] g = .ok (I l) g' ∧ Good g' ∧ List.Perm l (rg 0 n)) (hg : Good g) [L : Look r a .drw] [N : Look r q (.val (.int n))]
    (h : ∀ (l m : List Int) (g' : G), Pm n l → Pm n m → Good g' → Run Q F t ((r.set i (.val (I l))).set j (.val (I m))) g') : Run Q F (.cons (.par (.two i j) [false, false] (.cons (.call 18 (.cons (.var a) (.cons (.var q) .nil))) (.cons (.call 18 (.cons (.var a) (.cons (.var q) .nil))) .nil))) t) r g := by
  obtain ⟨l, g1, e1, hg1, p1⟩ := hF g hg
  obtain ⟨m, g2, e2, hg2, p2⟩ := hF g1 hg1
  have l1 := L.h
  have l2 := N.h
  refine r_by (s := (r.set i (.val (I l))).set j (.val (I m))) (g' := g2) ?_ (h l m g2 (pm_of p1) (pm_of p2) hg2)
  simp [evS, evE, evA, cell?, l1, l2, e1, e2, setPar, setO]
end
end Tl
end
section
set_option Elab.async false
set_option linter.all false
set_option autoImplicit false
set_option synthInstance.maxHeartbeats 400000
set_option synthInstance.maxSize 2000
namespace Tl
open PySem
/-! ### loops that may end early -/
/-- a turn goes on, breaks, or returns -/
abbrev Turn3 (J : Env → G → Prop) (K : Env → G → Prop) (Q : O → Prop) : O → Prop := fun o => (∃ r' g', (o = .nx r' g' ∨ o = .ct r' g') ∧ J r' g') ∨ (∃ r' g', o = .bk r' g' ∧ K r' g') ∨ (∃ d g', o = .rt d g' ∧ Q (.rt d g'))
theorem forL_3 {f : D → Env → G → O} {α : Type} {enc : α → D} {J : Nat → Env → G → Prop} {K : Env → G → Prop} {Q : O → Prop} {N : Nat} : ∀ (xs : List α) (i : Nat) (r : Env) (g : G), N = i + xs.length → J i r g →
    (∀ (j : Nat) (x : α) (r : Env) (g : G), i ≤ j → xs[j - i]? = some x → J j r g → Turn3 (J (j + 1)) K Q (f (enc x) r g)) →
    (∃ r' g', forL f (xs.map enc) r g = .nx r' g' ∧ (J N r' g' ∨ K r' g')) ∨ ∃ d g', forL f (xs.map enc) r g = .rt d g' ∧ Q (.rt d g')
  | [], i, r, g, hN, hj, _ => .inl ⟨r, g, rfl, .inl (by rw [hN]; exact hj)⟩
  | x :: xs, i, r, g, hN, hj, hs => by
    have h := hs i x r g (Nat.le_refl _) (by simp) hj
    have rc := fun (r' : Env) (g' : G) (hj' : J (i + 1) r' g') => forL_3 (f := f) (enc := enc) (J := J) (K := K) (Q := Q) (N := N) xs (i + 1) r' g' (by simp at hN; omega) hj' (fun j y r g hij hy hj => hs j y r g (by omega) (by
      have : j - i = (j - (i + 1)) + 1 := by omega
      rw [this, List.getElem?_cons_succ]
      exact hy) hj)
    simp only [List.map_cons, forL]
    rcases h with ⟨r', g', e, hj'⟩ | ⟨r', g', e, hk⟩ | ⟨d, g', e, hq⟩
    · rcases e with e | e <;> (rw [e]; exact rc r' g' hj')
    · rw [e]
      exact .inl ⟨r', g', rfl, .inr hk⟩
    · rw [e]
      exact .inr ⟨d, g', rfl, hq⟩
section
variable {Q : O → Prop} {F : Nat → Fn} {r s u : Env} {g g' : G} {a b c t : Sm} {e : E} {d d' : D} {P : Prop} {x : Bool}
/-- a loop that may break or return -/
theorem r_for3 {tg : Tg} {it : E} {α : Type} {enc : α → D} {xs : List α} [H : EvP F it r (.list (xs.map enc)) P] (p : P) (J : Nat → Env → G → Prop) (K : Env → G → Prop) (h0 : J 0 r g)
    (hs : ∀ (i : Nat) (x : α) (r : Env) (g : G), xs[i]? = some x → J i r g → ∃ r0, setT tg (enc x) r = some r0 ∧ Run (Turn3 (J (i + 1)) K Q) F a r0 g)
    (hk : ∀ r g, (J xs.length r g ∨ K r g) → Run Q F b r g) : Run Q F (.cons (.for_ tg it a) b) r g := by
  have hit := H.h p g
  have h := forL_3 (f := fun x r g => match setT tg x r with
      | some r => evS F a r g
      | none => .bad) (enc := enc) (J := J) (K := K) (Q := Q) xs 0 r g (by simp; rfl) h0 (fun j y r g _ hy hj => by
    obtain ⟨r0, h1, h2⟩ := hs j y r g hy hj
    simp only [h1]
    exact h2)
  have e2 : evS F (.for_ tg it a) r g = forL (fun x r g => match setT tg x r with
      | some r => evS F a r g
      | none => .bad) (xs.map enc) r g := by
    simp only [evS, hit, v_st_ok]
    all_goals rfl
  rcases h with ⟨r', g', e, hj⟩ | ⟨d, g', e, hq⟩
  · refine r_by (e2.trans e) (hk r' g' hj)
  · unfold Run
    rw [s_rt (e2.trans e)]
    exact hq
theorem r_turn3 {J K : Env → G → Prop} (k : J r g) : Run (Turn3 J K Q) F .nil r g := r_nil (.inl ⟨r, g, .inl rfl, k⟩)
theorem r_cont3 {J K : Env → G → Prop} (k : J r g) : Run (Turn3 J K Q) F (.cons .cont t) r g := by
  unfold Run
  simp only [evS, v_then_ct]
  exact .inl ⟨r, g, .inr rfl, k⟩
theorem r_brk3 {J K : Env → G → Prop} (k : K r g) : Run (Turn3 J K Q) F (.cons .brk t) r g := by
  unfold Run
  simp only [evS]
  exact .inr (.inl ⟨r, g, rfl, k⟩)
theorem r_ret3 {J K : Env → G → Prop} [H : EvP F e r d P] (p : P) (k : Q (.rt d g)) : Run (Turn3 J K Q) F (.cons (.ret e) t) r g := r_ret p (.inr (.inr ⟨d, g, rfl, k⟩))
/-- an end that is no going on passes what comes behind -/
theorem r_thn_rt [H : EvP F e r d P] {s : Sm} (p : P) (k : Q (.rt d g)) : Run (Thn Q F s) F (.cons (.ret e) t) r g := r_ret p k
theorem r_thn_brk {s : Sm} {J K : Env → G → Prop} (k : K r g) : Run (Thn (Turn3 J K Q) F s) F (.cons .brk t) r g := by
  unfold Run Thn
  simp only [evS]
  exact .inr (.inl ⟨r, g, rfl, k⟩)
theorem r_thn_cont {s : Sm} {J K : Env → G → Prop} (k : J r g) : Run (Thn (Turn3 J K Q) F s) F (.cons .cont t) r g := by
  unfold Run Thn
  simp only [evS, v_then_ct]
  exact .inl ⟨r, g, .inr rfl, k⟩
/-- an error -/
theorem r_raise {n : Nat} (k : Q (.ex n r g)) : Run Q F (.cons (.raise n) t) r g := by
  unfold Run
  simp only [evS]
  exact k
/-- a test that holds, the way ends in an error or a return -/
theorem r_if1 [H : EvP F e r (.bool x) P] (p : P) (hx : x = true) (k : Run (Thn Q F b) F a r g) : Run Q F (.cons (.ite e a c) b) r g :=
  r_ite p (fun _ => k) (fun z => by rw [hx] at z; cases z)
theorem fn_ex {F' : Nat → Fn} {f n j : Nat} {cs : List Cell} {g1 : G} {q : Nat} (e : F' f = fnD F n (j + n) b) (hc : cs.length = n) [H : Pad cs j r] (h : Run (fun o => ∃ r', o = .ex q r' g1) F b r g) : F' f cs g = .exc q g1 := by
  have h : ∃ r', evS F b r g = .ex q r' g1 := h
  obtain ⟨r', h⟩ := h
  rw [e]
  have h2 := H.h
  unfold fnD
  rw [if_pos hc, Nat.add_sub_cancel, h2, h]
instance spTry {i j : Nat} [H : StP F a r s P] : StP F (.try_ a i j) r s P := ⟨fun p g => by
  have := H.h p g
  simp only [evS, this]⟩
instance evIsx0 {i : Nat} [L : Look r i (.val .none)] : EvP F (.isx i 8) r (.bool true) True := ⟨fun _ g => by
  have := L.h
  simp [evE, this]⟩
instance evIsxE {i q : Nat} [L : Look r i (.exn q)] : EvP F (.isx i 8) r (.bool false) (q < 6) := ⟨fun p g => by
  have := L.h
  simp [evE, this, p, isSub]⟩
instance elX {i q : Nat} {cs : List Cell} {Q : Prop} [H : Look r i (.exn q)] [K : EvL F e r cs Q] : EvL F (.cons (.var i) e) r (.exn q :: cs) Q := ⟨fun p g => by
  have h := H.h
  simp [evA, cell?, h, evE, K.h p g]⟩
instance evIteN {i : Nat} {x y : E} [L : Look r i (.val .none)] [H : EvP F x r d P] : EvP F (.ite (.isx i 8) x y) r d P := ⟨fun p g => by
  have := L.h
  have h := H.h p g
  simp [evE, this, h]⟩
instance evIteX {i q : Nat} {x y : E} [L : Look r i (.exn q)] [H : EvP F y r d P] : EvP F (.ite (.isx i 8) x y) r d (q < 6 ∧ P) := ⟨fun p g => by
  have := L.h
  have h := H.h p.2 g
  simp [evE, this, h, p.1, isSub]⟩
instance nvX {i q : Nat} : NoV (.isx i q) := ⟨fun _ => ⟨rfl, rfl⟩⟩
end
instance eqNN : EqP .none .none true := ⟨by simp [eqD, shp, PyData.depth, PyData.eqv]⟩
instance eqIN {i : Int} : EqP (.int i) .none false := ⟨by simp [eqD, shp, PyData.depth, PyData.eqv]⟩
instance eqNI {i : Int} : EqP .none (.int i) false := ⟨by simp [eqD, shp, PyData.depth, PyData.eqv]⟩
/-- a thing is itself -/
theorem eqD_self {d : D} (h : d.depth ≤ 60) (e : PyData.eqv d d = true) : eqD d d = some true := by
  unfold eqD shp
  rw [decide_eq_true (by omega)]
  simp [e]
/-- the error's name -/
def errN : Nat → Str
  | 0 => "list" | 1 => "number" | 2 => "row" | 3 => "short" | 4 => "text" | _ => "none"
theorem errV {F : Nat → Fn} {g : G} : ∀ q, q < 6 → evS F b_law_error [.exn q, .und] g = .rt (.str (errN q)) g
  | 0, _ => by kernel_rfl
  | 1, _ => by kernel_rfl
  | 2, _ => by kernel_rfl
  | 3, _ => by kernel_rfl
  | 4, _ => by kernel_rfl
  | 5, _ => by kernel_rfl
  | n + 6, h => by omega
instance cLawError {Φ : Nat → Nat → Fn} {k q : Nat} [F_law_error Φ] : CallP (Φ (k + 1)) 36 [.exn q] (.str (errN q)) (q < 6) := ⟨fun p g => by
  rw [F_law_error.eq (Φ := Φ)]
  exact fn_rt rfl (errV q p)⟩
instance cLawTrue7 {Φ : Nat → Nat → Fn} {k : Nat} [F_law_true Φ] {x y : Bool} : CallP (Φ (k + 1)) 33 [.val (.bool x), .val (.bool y)] (.bool (decide (x = y))) True := ⟨fun _ g => by
  refine callP (F_law_true.eq _) rfl ?_
  unfold b_law_true
  refine RetP.to ?_ ?_
  · simp
  · simp⟩
end Tl
end
section
set_option Elab.async false
set_option linter.all false
set_option autoImplicit false
set_option maxRecDepth 100000
namespace Tl
/-! ### orders with last places -/
section
variable {α : Type}
def sumN (f : α → Nat) : List α → Nat
  | [] => 0
  | x :: l => f x + sumN f l
theorem sumN_perm {f : α → Nat} {l m : List α} (h : l.Perm m) : sumN f l = sumN f m := by
  induction h with
  | nil => rfl
  | cons x _ ih => simp only [sumN, ih]
  | swap x y l => simp only [sumN]; omega
  | trans _ _ a b => exact a.trans b
theorem sumN_congr {f g : α → Nat} {l : List α} (h : ∀ x ∈ l, f x = g x) : sumN f l = sumN g l := by
  induction l with
  | nil => rfl
  | cons x l ih => simp only [sumN]; rw [h x (.head _), ih fun y hy => h y (.tail _ hy)]
theorem sumN_mul {f : α → Nat} {c : Nat} {l : List α} : sumN (fun x => c * f x) l = c * sumN f l := by
  induction l with
  | nil => rfl
  | cons x l ih => simp only [sumN]; rw [ih, Nat.mul_add]
theorem sumN_zero {f : α → Nat} {l : List α} (h : ∀ x ∈ l, f x = 0) : sumN f l = 0 := by
  induction l with
  | nil => rfl
  | cons x l ih => simp only [sumN]; rw [h x (.head _), ih fun y hy => h y (.tail _ hy)]
theorem sumN_map {β : Type} {f : β → Nat} {h : α → β} {l : List α} : sumN f (l.map h) = sumN (fun x => f (h x)) l := by
  induction l with
  | nil => rfl
  | cons x l ih => simp only [List.map_cons, sumN, ih]
theorem len_flatMap {β : Type} {f : α → List β} {l : List α} : (l.flatMap f).length = sumN (fun x => (f x).length) l := by
  induction l with
  | nil => rfl
  | cons x l ih => simp only [List.flatMap_cons, List.length_append, sumN, ih]
end
/-- the product of what is left -/
def W (q : Nat) : List Nat → Nat
  | [] => 1
  | s :: S => (s - q) * W (q + 1) S
theorem W_rec : ∀ (S : List Nat) (p : Nat), S ≠ [] → S.Pairwise (· ≤ ·) → (∀ s ∈ S, s ≤ p + S.length) → sumN (fun x => if p < x then W (p + 1) (S.erase x) else 0) S = W p S
  | [], p, h, _, _ => absurd rfl h
  | s :: S, p, _, hp, hb => by
    obtain ⟨h1, h2⟩ := List.pairwise_cons.mp hp
    have he : ∀ x ∈ S, (s :: S).erase x = s :: S.erase x := fun x hx => by
      by_cases e : s = x
      · subst e
        rw [List.erase_cons_head]
        cases S with
        | nil => cases hx
        | cons y S' =>
          have : y = s := by
            rcases List.mem_cons.mp hx with z | z
            · exact z.symm
            · have a := (List.pairwise_cons.mp h2).1 s z
              have b := h1 y (.head _)
              omega
          subst this
          rw [List.erase_cons_head]
      · rw [List.erase_cons_tail (by simpa using e)]
    simp only [sumN, W]
    rw [List.erase_cons_head, sumN_congr (g := fun x => (s - (p + 1)) * (if p < x then W (p + 2) (S.erase x) else 0)) fun x hx => by
      rw [he x hx]
      simp only [W]
      split
      · rfl
      · simp, sumN_mul]
    by_cases c1 : p + 1 < s
    · have hS : S ≠ [] := fun z => by
        subst z
        have := hb s (.head _)
        simp at this
        omega
      have ih := W_rec S (p + 1) hS h2 fun x hx => by
        have := hb x (.tail _ hx)
        simp at this
        omega
      rw [sumN_congr (g := fun x => if p + 1 < x then W (p + 1 + 1) (S.erase x) else 0) fun x hx => by
        have := h1 x hx
        rw [if_pos (by omega), if_pos (by omega)], ih, if_pos (by omega)]
      have : s - p = 1 + (s - (p + 1)) := by omega
      rw [this, Nat.add_mul, Nat.one_mul]
    · have e0 : s - (p + 1) = 0 := by omega
      rw [e0, Nat.zero_mul, Nat.add_zero]
      by_cases c2 : p < s
      · rw [if_pos c2]
        have : s - p = 1 := by omega
        rw [this, Nat.one_mul]
      · rw [if_neg c2]
        have : s - p = 0 := by omega
        rw [this, Nat.zero_mul]
def nsort (l : List Nat) : List Nat := l.mergeSort (fun a b => decide (a ≤ b))
theorem nsort_perm (l : List Nat) : (nsort l).Perm l := List.mergeSort_perm l _
theorem nsort_le (l : List Nat) : (nsort l).Pairwise (· ≤ ·) := by
  have := List.pairwise_mergeSort (le := fun a b : Nat => decide (a ≤ b)) (fun a b c h1 h2 => by
    simp only [decide_eq_true_iff] at *
    omega) (fun a b => by
    simp only [Bool.or_eq_true, decide_eq_true_iff]
    omega) l
  exact this.imp fun h => of_decide_eq_true h
theorem sorted_eq {l m : List Nat} (h : l.Perm m) (hl : l.Pairwise (· ≤ ·)) (hm : m.Pairwise (· ≤ ·)) : l = m :=
  List.Perm.eq_of_pairwise (le := fun a b => a ≤ b) (fun a b _ _ h1 h2 => by omega) hl hm h
section
variable (e : Int → Nat)
/-- all orders of the things left that keep their last places, in order -/
def gen : Nat → Nat → List Int → List (List Int)
  | 0, _, _ => [[]]
  | k + 1, p, L => L.flatMap fun t => if p < e t then (gen k (p + 1) (L.erase t)).map (t :: ·) else []
theorem map_erase_sort {L : List Int} {t : Int} (ht : t ∈ L) : nsort ((L.erase t).map e) = (nsort (L.map e)).erase (e t) := by
  refine sorted_eq ?_ (nsort_le _) ((nsort_le _).sublist List.erase_sublist)
  refine (nsort_perm _).trans ?_
  have h1 : (L.map e).Perm (e t :: (L.erase t).map e) := by
    have := (List.perm_cons_erase ht).map e
    exact this
  have h2 : ((nsort (L.map e)).erase (e t)).Perm ((e t :: (L.erase t).map e).erase (e t)) := ((nsort_perm _).trans h1).erase _
  rw [List.erase_cons_head] at h2
  exact h2.symm
theorem gen_len : ∀ (k p : Nat) (L : List Int), L.length = k → (∀ t ∈ L, e t ≤ p + k) → (gen e k p L).length = W p (nsort (L.map e))
  | 0, p, L, h, _ => by
    have : L = [] := List.length_eq_zero_iff.mp h
    subst this
    have : nsort (List.map e []) = [] := List.length_eq_zero_iff.mp (by rw [(nsort_perm _).length_eq]; rfl)
    rw [this]
    rfl
  | k + 1, p, L, h, hb => by
    simp only [gen]
    rw [len_flatMap]
    have hlen : (nsort (L.map e)).length = k + 1 := by rw [(nsort_perm _).length_eq, List.length_map, h]
    have hr := W_rec (nsort (L.map e)) p (fun z => by rw [z] at hlen; cases hlen) (nsort_le _) (fun s hs => by
      obtain ⟨t, ht, rfl⟩ := List.mem_map.mp ((nsort_perm _).mem_iff.mp hs)
      rw [hlen]
      exact hb t ht)
    rw [← hr, sumN_perm (nsort_perm _), sumN_map]
    refine sumN_congr fun t ht => ?_
    by_cases c : p < e t
    · rw [if_pos c, if_pos c, List.length_map, gen_len k (p + 1) (L.erase t) (by rw [List.length_erase_of_mem ht]; omega) (fun u hu => by
        have := hb u (List.mem_of_mem_erase hu)
        omega), map_erase_sort e ht]
    · rw [if_neg c, if_neg c]
      rfl
theorem W_pos {p : Nat} : ∀ {S : List Nat}, 0 < W p S → S.Pairwise (· ≤ ·) → ∀ s ∈ S, p < s
  | [], _, _, s, hs => by cases hs
  | x :: S, h, hp, s, hs => by
    simp only [W] at h
    have hx : 0 < x - p := Nat.pos_of_mul_pos_right h
    rcases List.mem_cons.mp hs with z | z
    · subst z; omega
    · have := (List.pairwise_cons.mp hp).1 s z
      omega
/-- the thing whose part holds the rank -/
def sel (f : Int → Nat) : List Int → Nat → Option (Int × Nat)
  | [], _ => none
  | t :: ts, r => if r < f t then some (t, r) else sel f ts (r - f t)
theorem sel_flat {β : Type} {h : Int → List β} {f : Int → Nat} : ∀ (L : List Int) (r : Nat), (∀ t ∈ L, (h t).length = f t) → r < (L.flatMap h).length → ∃ t r', sel f L r = some (t, r') ∧ t ∈ L ∧ r' < f t ∧ (L.flatMap h)[r]? = (h t)[r']?
  | [], r, _, hr => by simp at hr
  | t :: L, r, hf, hr => by
    simp only [sel]
    have h1 := hf t (.head _)
    by_cases c : r < f t
    · rw [if_pos c]
      refine ⟨t, r, rfl, .head _, c, ?_⟩
      rw [List.flatMap_cons, List.getElem?_append_left (by omega)]
    · rw [if_neg c]
      rw [List.flatMap_cons, List.length_append] at hr
      obtain ⟨u, r', a, b, d, z⟩ := sel_flat L (r - f t) (fun u hu => hf u (.tail _ hu)) (by omega)
      refine ⟨u, r', a, .tail _ b, d, ?_⟩
      rw [List.flatMap_cons, List.getElem?_append_right (by omega), h1]
      exact z
end
end Tl
end
section
set_option Elab.async false
set_option linter.all false
set_option autoImplicit false
set_option maxRecDepth 100000
namespace Tl
/-- keeps its last places from place p on -/
def okR (e : Int → Nat) : Nat → List Int → Bool
  | _, [] => true
  | p, t :: r => decide (p < e t) && okR e (p + 1) r
/-- all orders -/
def genA : Nat → List Int → List (List Int)
  | 0, _ => [[]]
  | k + 1, L => L.flatMap fun t => (genA k (L.erase t)).map (t :: ·)
theorem filter_flatMap' {α β : Type} (q : β → Bool) (f : α → List β) : ∀ l : List α, (l.flatMap f).filter q = l.flatMap fun x => (f x).filter q
  | [] => rfl
  | x :: l => by rw [List.flatMap_cons, List.filter_append, filter_flatMap' q f l, List.flatMap_cons]
theorem flatMap_congr' {α β : Type} {f g : α → List β} : ∀ {l : List α}, (∀ x ∈ l, f x = g x) → l.flatMap f = l.flatMap g
  | [], _ => rfl
  | x :: l, h => by rw [List.flatMap_cons, List.flatMap_cons, h x (.head _), flatMap_congr' fun y hy => h y (.tail _ hy)]
theorem gen_filter (e : Int → Nat) : ∀ (k p : Nat) (L : List Int), (genA k L).filter (okR e p) = gen e k p L
  | 0, p, L => rfl
  | k + 1, p, L => by
    simp only [genA, gen]
    rw [filter_flatMap']
    refine flatMap_congr' fun t _ => ?_
    rw [List.filter_map]
    by_cases c : p < e t
    · rw [if_pos c, ← gen_filter e k (p + 1) (L.erase t)]
      congr 1
      refine List.filter_congr fun r _ => ?_
      simp [okR, c]
    · rw [if_neg c]
      have : List.filter (okR e p ∘ fun x => t :: x) (genA k (L.erase t)) = [] := by
        rw [List.filter_eq_nil_iff]
        intro r _
        simp [okR, c]
      rw [this]
      rfl
theorem genA_mem : ∀ (k : Nat) (L r : List Int), L.length = k → (r ∈ genA k L ↔ r.Perm L)
  | 0, L, r, h => by
    have : L = [] := List.length_eq_zero_iff.mp h
    subst this
    simp [genA]
  | k + 1, L, r, h => by
    simp only [genA]
    rw [List.mem_flatMap]
    constructor
    · rintro ⟨t, ht, hr⟩
      obtain ⟨q, hq, rfl⟩ := List.mem_map.mp hr
      have := (genA_mem k (L.erase t) q (by rw [List.length_erase_of_mem ht]; omega)).mp hq
      exact (this.cons t).trans (List.perm_cons_erase ht).symm
    · intro hp
      cases r with
      | nil => rw [← hp.length_eq] at h; cases h
      | cons t q =>
        have ht : t ∈ L := hp.mem_iff.mp (.head _)
        refine ⟨t, ht, List.mem_map.mpr ⟨q, ?_, rfl⟩⟩
        refine (genA_mem k (L.erase t) q (by rw [List.length_erase_of_mem ht]; omega)).mpr ?_
        have := hp.erase t
        rw [List.erase_cons_head] at this
        exact this
theorem idx_ne {x t : Int} {r : List Int} (h : x ≠ t) : (x :: r).idxOf t = r.idxOf t + 1 := by
  rw [List.idxOf_cons, beq_eq_false_iff_ne.mpr h]
  rfl
theorem okR_iff (e : Int → Nat) : ∀ (r : List Int) (p : Nat), r.Nodup → (okR e p r = true ↔ ∀ t ∈ r, p + r.idxOf t < e t)
  | [], p, _ => by simp [okR]
  | x :: r, p, nd => by
    obtain ⟨h1, h2⟩ := List.nodup_cons.mp nd
    simp only [okR, Bool.and_eq_true, decide_eq_true_iff]
    rw [okR_iff e r (p + 1) h2]
    constructor
    · rintro ⟨a, b⟩ t ht
      rcases List.mem_cons.mp ht with z | z
      · subst z
        rw [List.idxOf_cons_self]
        exact a
      · have ne : x ≠ t := fun q => h1 (q ▸ z)
        rw [idx_ne ne]
        have := b t z
        omega
    · intro h
      refine ⟨?_, fun t ht => ?_⟩
      · have := h x (.head _)
        rw [List.idxOf_cons_self] at this
        exact this
      · have ne : x ≠ t := fun q => h1 (q ▸ ht)
        have := h t (.tail _ ht)
        rw [idx_ne ne] at this
        omega
/-! level by level -/
def lft (n : Nat) (p : List Int) : List Int := (rg 0 n).filter fun t => !decide (t ∈ p)
def lvA (n k : Nat) : List (List Int) := (List.range k).foldl (fun (rows : List (List Int)) _ => rows.flatMap fun row => (lft n row).map fun t => row ++ [t]) [[]]
theorem lvA_succ (n k : Nat) : lvA n (k + 1) = (lvA n k).flatMap fun row => (lft n row).map fun t => row ++ [t] := by
  unfold lvA
  rw [List.range_succ, List.foldl_append]
  rfl
theorem lft_erase {n : Nat} {p : List Int} {t : Int} : (lft n p).erase t = lft n (p ++ [t]) := by
  unfold lft
  rw [((rg_nodup n).sublist List.filter_sublist).erase_eq_filter, List.filter_filter]
  refine List.filter_congr fun x _ => ?_
  by_cases c : x = t
  · subst c; simp
  · simp [c]
theorem lvA_gen (n : Nat) : ∀ k, k ≤ n → (lvA n k).flatMap (fun p => (genA (n - k) (lft n p)).map (p ++ ·)) = genA n (rg 0 n)
  | 0, _ => by
    have : lft n [] = rg 0 n := by
      unfold lft
      rw [List.filter_eq_self]
      intro x _
      simp
    simp [lvA, this]
  | k + 1, h => by
    rw [← lvA_gen n k (by omega), lvA_succ, List.flatMap_assoc]
    refine flatMap_congr' fun p _ => ?_
    have : n - k = (n - (k + 1)) + 1 := by omega
    rw [this]
    simp only [genA]
    rw [List.map_flatMap, List.flatMap_map]
    refine flatMap_congr' fun t _ => ?_
    rw [lft_erase, List.map_map]
    refine List.map_congr_left fun q _ => ?_
    simp
theorem lvA_all (n : Nat) : lvA n n = genA n (rg 0 n) := by
  rw [← lvA_gen n n (Nat.le_refl _), Nat.sub_self]
  simp only [genA, List.map_cons, List.map_nil, List.append_nil]
  induction lvA n n with
  | nil => rfl
  | cons x l ih => rw [List.flatMap_cons, ← ih]; rfl
/-! in order -/
def ltL : List Int → List Int → Bool
  | [], [] => false
  | [], _ :: _ => true
  | _ :: _, [] => false
  | x :: xs, y :: ys => decide (x < y) || (decide (x = y) && ltL xs ys)
theorem pw_flat {f : Int → List (List Int)} : ∀ L : List Int, L.Pairwise (· < ·) → (∀ t, (f t).Pairwise (fun a b => ltL a b = true)) → (∀ t a, a ∈ f t → ∃ q, a = t :: q) → (L.flatMap f).Pairwise (fun a b => ltL a b = true)
  | [], _, _, _ => .nil
  | x :: L, h, part, hd => by
    obtain ⟨h1, h2⟩ := List.pairwise_cons.mp h
    rw [List.flatMap_cons, List.pairwise_append]
    refine ⟨part x, pw_flat L h2 part hd, fun a ha b hb => ?_⟩
    obtain ⟨q, rfl⟩ := hd x a ha
    obtain ⟨y, hy, hb⟩ := List.mem_flatMap.mp hb
    obtain ⟨q', rfl⟩ := hd y b hb
    simp [ltL, h1 y hy]
theorem gen_lt (e : Int → Nat) : ∀ (k p : Nat) (L : List Int), L.Pairwise (· < ·) → (gen e k p L).Pairwise (fun a b => ltL a b = true)
  | 0, p, L, _ => by simp [gen]
  | k + 1, p, L, h => by
    simp only [gen]
    have part : ∀ t, (if p < e t then (gen e k (p + 1) (L.erase t)).map (t :: ·) else []).Pairwise (fun a b => ltL a b = true) := fun t => by
      split
      · rw [List.pairwise_map]
        refine (gen_lt e k (p + 1) (L.erase t) (h.sublist List.erase_sublist)).imp fun z => ?_
        simp [ltL, z]
      · exact .nil
    have hd : ∀ t a, a ∈ (if p < e t then (gen e k (p + 1) (L.erase t)).map (t :: ·) else []) → ∃ q, a = t :: q := fun t a ha => by
      split at ha
      · obtain ⟨q, _, rfl⟩ := List.mem_map.mp ha
        exact ⟨q, rfl⟩
      · cases ha
    exact pw_flat L h part hd
end Tl
end
section
set_option Elab.async false
set_option linter.all false
set_option autoImplicit false
set_option synthInstance.maxHeartbeats 400000
set_option synthInstance.maxSize 2000
namespace Tl
open PySem
theorem row_idx (l m : List Int) : (rowOf l m).zipIdx = (List.range l.length).map fun k => ((ov l m (k + 1) : Int), k) := by
  apply List.ext_getElem?
  intro i
  simp [List.getElem?_zipIdx, rowOf]
  by_cases h : i < l.length <;> simp [h]
theorem fst_shift {p : Nat → Bool} {n : Nat} (h0 : p 0 = false) : ((List.range (n + 1)).filter p) = ((List.range n).filter fun k => p (k + 1)).map (· + 1) := by
  rw [List.range_succ_eq_map, List.filter_cons, h0, if_neg Bool.false_ne_true, List.filter_map]
  rfl
theorem head_map {α β : Type} [Inhabited α] (f : α → β) (L : List α) (h : 0 < L.length) (d : β) : (L.map f).getD 0 d = f (L.getD 0 default) := by
  cases L with
  | nil => simp at h
  | cons x L => rfl
section
variable {Φ : Nat → Nat → Fn} {k : Nat} [F_is_int Φ] [F_is_full Φ] [F_check_full Φ] [F_check_both Φ] {l m : List Int}
instance cDepthFor [F_row_of Φ] [F_depth_for Φ] {i : Int} {c : Nat} {P : Prop} [N : NatI i c P] : CallP (Φ (k + 5)) 49 [.val (I l), .val (I m), .val (.int i)] (.int (fst (fun k => decide (c ≤ ov l m k)) (l.length + 1) : Nat)) (P ∧ Full l ∧ Full m ∧ l.length = m.length ∧ c ≤ l.length ∧ ov l m l.length = l.length) := ⟨fun ⟨p, h, h', e, hc, ha⟩ g => by
  rw [N.h p]
  have h1 := h.1
  have h7 := h.2.1
  have pos : 0 < ((List.range l.length).filter fun k => decide (c ≤ ov l m (k + 1))).length := fst_pos (K := l.length - 1) (by omega) (by
    have : l.length - 1 + 1 = l.length := by omega
    rw [this, ha]
    simpa using hc)
  refine callP (F_depth_for.eq _) rfl ?_
  unfold b_depth_for
  refine RetP.to ?_ ?_
  · simp [h, h', e.symm, row_idx, List.filter_map, Function.comp_def]
    refine ⟨by omega, fun _ => ⟨by omega, ?_⟩⟩
    simpa using pos
  · rw [row_idx, List.filter_map]
    simp only [Function.comp_def, Int.ofNat_le]
    rw [List.map_map, head_map _ _ pos]
    unfold fst
    by_cases hz : c = 0
    · subst hz
      simp [List.range_succ_eq_map]
    · rw [if_neg (by simpa using hz), fst_shift (by simp [ov_zero]; omega), head_map _ _ pos]
      rfl⟩
instance cCheckThings [F_check_things Φ] {ts : List Int} : CallP (Φ (k + 2)) 50 [.val (I l), .val (I ts)] .none (∀ t ∈ ts, 0 ≤ t ∧ t < l.length) := ⟨fun p g => by
  refine callN (F_check_things.eq _) rfl (by unfold b_check_things; exact stp) ?_
  simp
  intro t ht
  have := p t ht
  omega⟩
/-- from which depth on a thing is common -/
def mt (l m : List Int) (t : Int) : Int := 1 + max (l.idxOf t : Int) (m.idxOf t : Int)
instance cForAll [F_check_things Φ] [F_depth_for_all Φ] {ts : List Int} : CallP (Φ (k + 5)) 51 [.val (I l), .val (I m), .val (I ts)] (.int (maxL (0 :: ts.map (mt l m)))) (Full l ∧ Full m ∧ l.length = m.length ∧ ts.length ≤ 1000 ∧ ∀ t ∈ ts, 0 ≤ t ∧ t < l.length ∧ t ∈ l ∧ t ∈ m) := ⟨fun ⟨h, h', e, hn, ht⟩ g => by
  refine callP (F_depth_for_all.eq _) rfl ?_
  unfold b_depth_for_all
  refine RetP.to ?_ ?_
  · simp [h, h', e.symm]
    exact ⟨fun t q => ⟨(ht t q).1, (ht t q).2.1⟩, by unfold lim; omega, fun t q => (ht t q).2.2, by unfold lim; omega⟩
  · rfl⟩
instance cForAny [F_check_things Φ] [F_depth_for_any Φ] {ts : List Int} : CallP (Φ (k + 5)) 52 [.val (I l), .val (I m), .val (I ts)] (.int (minL (ts.map (mt l m)))) (Full l ∧ Full m ∧ l.length = m.length ∧ ts ≠ [] ∧ ∀ t ∈ ts, 0 ≤ t ∧ t < l.length ∧ t ∈ l ∧ t ∈ m) := ⟨fun ⟨h, h', e, hn, ht⟩ g => by
  refine callP (F_depth_for_any.eq _) rfl ?_
  unfold b_depth_for_any
  refine RetP.to ?_ ?_
  · simp [h, h', e.symm, hn]
    exact ⟨fun t q => ⟨(ht t q).1, (ht t q).2.1⟩, fun t q => (ht t q).2.2⟩
  · rfl⟩
instance cFullD [F_row_of Φ] [F_full_depths Φ] : CallP (Φ (k + 5)) 54 [.val (I l), .val (I m)] (I (((List.range l.length).filter fun k => decide (ov l m (k + 1) = k + 1)).map fun (k : Nat) => (k : Int) + 1)) (Full l ∧ Full m ∧ l.length = m.length) := ⟨fun ⟨h, h', e⟩ g => by
  refine callP (F_full_depths.eq _) rfl ?_
  unfold b_full_depths
  refine RetP.to ?_ ?_
  · simp [h, h', e.symm, h.2.1]
  · rw [row_idx, List.filter_map, List.filter_congr (q := fun k => decide (ov l m (k + 1) = k + 1)) (fun x _ => by
      rw [Bool.eq_iff_iff]
      simp
      omega), List.map_map]
    simp [Function.comp_def]⟩
instance cEmptyD [F_row_of Φ] [F_empty_depth Φ] : CallP (Φ (k + 5)) 55 [.val (I l), .val (I m)] (.int (((List.range l.length).filter fun k => decide (ov l m (k + 1) = 0)).length : Nat)) (Full l ∧ Full m ∧ l.length = m.length) := ⟨fun ⟨h, h', e⟩ g => by
  refine callP (F_empty_depth.eq _) rfl ?_
  unfold b_empty_depth
  refine RetP.to ?_ ?_
  · simp [h, h', e.symm]
    have := h'.2.1
    omega
  · unfold rowOf
    rw [List.filter_map, List.length_map]
    simp [Function.comp_def]⟩

/-! the order of meeting -/
abbrev eII (p : Int × Int) : D := .tuple [.int p.1, .int p.2]
/-- a thing with its depth less 1 -/
def mk2 (l m : List Int) (t : Int) : Int × Int := (max (l.idxOf t : Int) (m.idxOf t : Int), t)
def mord (l m : List Int) : List (Int × Int) := dsort eII ((rg 0 l.length).map (mk2 l m))
instance cMeetOrd [F_meeting_order Φ] : CallP (Φ (k + 5)) 53 [.val (I l), .val (I m)] (I ((mord l m).map (·.2))) (Full l ∧ Full m ∧ l.length = m.length ∧ ∀ t ∈ rg 0 l.length, t ∈ l ∧ t ∈ m) := ⟨fun ⟨h, h', e, ht⟩ g => by
  refine callP (F_meeting_order.eq _) rfl ?_
  unfold b_meeting_order
  refine RetP.to ?_ ?_
  · simp [h, h', e.symm, lim]
    refine ⟨by have := h.2.1; omega, fun x hx => ?_⟩
    exact ht _ (by simp [rg]; exact ⟨x, hx, rfl⟩)
  · have e1 : ((List.range l.length).map fun x : Nat => (max (l.idxOf (x : Int) : Int) (m.idxOf (x : Int) : Int), (x : Int))) = (rg 0 l.length).map (mk2 l m) := by
      simp [rg, mk2, Function.comp_def]
    rw [e1]
    rfl⟩
/-! the cheapest reading -/
def cmm (l m : List Int) (i j : Nat) : Nat := ((l.take i).filter fun x => decide (x ∈ m.take j)).length
def prow (l m : List Int) (c a b i : Nat) (J : Nat) : List Int := (List.range J).flatMap fun j => if c ≤ cmm l m i j then [(i : Int) * a + j * b] else []
def prs (l m : List Int) (c a b n : Nat) (K : Nat) : List Int := (List.range K).flatMap fun i => prow l m c a b i n
theorem prow_succ (l m : List Int) (c a b i J : Nat) : prow l m c a b i (J + 1) = prow l m c a b i J ++ if c ≤ cmm l m i J then [(i : Int) * a + J * b] else [] := by
  simp [prow, List.range_succ]
theorem prs_succ (l m : List Int) (c a b n K : Nat) : prs l m c a b n (K + 1) = prs l m c a b n K ++ prow l m c a b K n := by
  simp [prs, List.range_succ]
def bst : List Int → D
  | [] => .none
  | x :: l => .int (minL (x :: l))
theorem minL_snoc (x y : Int) (l : List Int) : minL (x :: l ++ [y]) = min (minL (x :: l)) y := by
  show (l ++ [y]).foldl min x = min (l.foldl min x) y
  simp
theorem bst_snoc (L : List Int) (h : L ≠ []) (y : Int) : bst (L ++ [y]) = .int (min (minL L) y) := by
  cases L with
  | nil => exact absurd rfl h
  | cons x l =>
    show PyData.int (minL (x :: l ++ [y])) = _
    rw [minL_snoc]
theorem ch_turn {F : Nat → Fn} (c a b i j : Nat) (L : List Int) (c8 c9 c10 : Cell) (g : G) (ha : a ≤ 100) (hb : b ≤ 100) : evS F (.cons (.asg 8 (.un .len (.lc (.nm 10) (.itl (.bi .upto (.var 0) (.var 6))) (.bi .isin (.var 10) (.bi .upto (.var 1) (.var 7))) (.var 10))))
  (.cons (.asg 9 (.bi .add (.bi .mul (.var 6) (.var 3)) (.bi .mul (.var 7) (.var 4))))
  (.cons (.ite (.and (.bi .ge (.var 8) (.var 2)) (.or (.isc (.var 5) .none) (.bi .lt (.var 9) (.var 5))))
  (.cons (.asg 5 (.var 9))
  .nil)
  .nil)
  .nil))) [.val (I l), .val (I m), .val (.int c), .val (.int a), .val (.int b), .val (bst L), .val (.int i), .val (.int j), c8, c9, c10] g =
  .nx [.val (I l), .val (I m), .val (.int c), .val (.int a), .val (.int b), .val (bst (L ++ if c ≤ cmm l m i j then [(i : Int) * a + j * b] else [])), .val (.int i), .val (.int j), .val (.int (cmm l m i j : Nat)), .val (.int ((i : Int) * a + j * b)), c10] g := by
  refine nxP (by simp) ?_
  refine nxP (by simp; omega) ?_
  have ec : ((List.map (fun x => x) (List.filter (fun x => decide (x ∈ List.take j m)) (List.take i l))).length : Int) = (cmm l m i j : Nat) := by simp [cmm]
  rw [ec]
  by_cases hc : c ≤ cmm l m i j
  · rw [if_pos hc]
    cases L with
    | nil =>
      have ht : Ev F (.and (.bi .ge (.var 8) (.var 2)) (.or (.isc (.var 5) .none) (.bi .lt (.var 9) (.var 5)))) [.val (I l), .val (I m), .val (.int c), .val (.int a), .val (.int b), .val (bst []), .val (.int i), .val (.int j), .val (.int (cmm l m i j : Nat)), .val (.int ((i : Int) * a + j * b)), c10] g (.bool true) :=
        ev_and (x := true) (by
          refine EvP.ev inferInstance (by simp) ?_
          simp [hc]) (fun _ => ev_or (x := true) (ev_isc (ev_var rfl) rfl) (fun z => by cases z) (fun _ => rfl)) (fun z => by cases z)
      rw [s_nx (s_if ht (fun _ => nxP (by simp) (by rw [evS])) (fun z => by cases z))]
      rw [evS]
      rfl
    | cons x L =>
      rw [bst_snoc (x :: L) (by simp)]
      have ht : Ev F (.and (.bi .ge (.var 8) (.var 2)) (.or (.isc (.var 5) .none) (.bi .lt (.var 9) (.var 5)))) [.val (I l), .val (I m), .val (.int c), .val (.int a), .val (.int b), .val (.int (minL (x :: L))), .val (.int i), .val (.int j), .val (.int (cmm l m i j : Nat)), .val (.int ((i : Int) * a + j * b)), c10] g (.bool (decide ((i : Int) * a + j * b < minL (x :: L)))) := by
        refine EvP.ev inferInstance (by simp) ?_
        simp [hc]
      by_cases hl : (i : Int) * a + j * b < minL (x :: L)
      · rw [decide_eq_true hl] at ht
        refine (s_nx (s_if ht (fun _ => nxP (by simp) (by rw [evS])) (fun z => by cases z))).trans ?_
        rw [evS, Int.min_eq_right (by omega)]
      · rw [decide_eq_false hl] at ht
        refine (s_nx (s_if0 ht)).trans ?_
        rw [evS, Int.min_eq_left (by omega)]
  · rw [if_neg hc, List.append_nil]
    have ht : Ev F (.and (.bi .ge (.var 8) (.var 2)) (.or (.isc (.var 5) .none) (.bi .lt (.var 9) (.var 5)))) [.val (I l), .val (I m), .val (.int c), .val (.int a), .val (.int b), .val (bst L), .val (.int i), .val (.int j), .val (.int (cmm l m i j : Nat)), .val (.int ((i : Int) * a + j * b)), c10] g (.bool false) :=
      ev_and (x := false) (by
        refine EvP.ev inferInstance (by simp) ?_
        simp [hc]) (fun z => by cases z) (fun _ => rfl)
    refine (s_nx (s_if0 ht)).trans ?_
    rw [evS]
instance cCheapest [F_cheapest Φ] {x y z : Int} {c a b : Nat} {P Q R : Prop} [X : NatI x c P] [Y : NatI y a Q] [Z : NatI z b R] : CallP (Φ (k + 5)) 56 [.val (I l), .val (I m), .val (.int x), .val (.int y), .val (.int z)] (.int (minL (prs l m c a b (l.length + 1) (l.length + 1)))) (P ∧ Q ∧ R ∧ Full l ∧ Full m ∧ l.length = m.length ∧ c ≤ l.length ∧ a ≤ 100 ∧ b ≤ 100 ∧ prs l m c a b (l.length + 1) (l.length + 1) ≠ []) := ⟨fun ⟨p, q, r, h, h', e, hc, ha, hb, hne⟩ g => by
  rw [X.h p, Y.h q, Z.h r]
  refine r_fn (F_cheapest.eq _) rfl ?_
  unfold b_cheapest
  have h7 := h.2.1
  refine r_nx (by simp [h, h', e]) ?_
  refine r_nx (by simp; omega) ?_
  refine r_nx (by simp; omega) ?_
  refine r_nx (by simp) ?_
  refine r_for (by simp [lim]; omega) (fun i r g' => g' = g ∧ ∃ c6 c7 c8 c9 c10, r = [.val (I l), .val (I m), .val (.int c), .val (.int a), .val (.int b), .val (bst (prs l m c a b (l.length + 1) i)), c6, c7, c8, c9, c10]) ⟨rfl, _, _, _, _, _, rfl⟩ ?_ ?_
  · rintro i x r g' hx ⟨rfl, c6, c7, c8, c9, c10, rfl⟩
    obtain ⟨rfl, hi⟩ := rgAt hx
    refine r_in ?_
    refine r_for (by simp [lim]; omega) (fun j r g'' => g'' = g' ∧ ∃ c7 c8 c9 c10, r = [.val (I l), .val (I m), .val (.int c), .val (.int a), .val (.int b), .val (bst (prs l m c a b (l.length + 1) x ++ prow l m c a b x j)), .val (.int x), c7, c8, c9, c10]) ⟨rfl, c7, c8, c9, c10, by simp [prow]⟩ ?_ ?_
    · rintro j y r g'' hy ⟨rfl, c7, c8, c9, c10, rfl⟩
      obtain ⟨rfl, hj⟩ := rgAt hy
      refine r_in ?_
      unfold Run
      rw [ch_turn c a b x y _ c8 c9 c10 g'' ha hb, List.append_assoc, ← prow_succ]
      exact ⟨_, _, .inl rfl, rfl, _, _, _, _, rfl⟩
    · rintro r g'' ⟨rfl, c7, c8, c9, c10, rfl⟩
      rw [List.length_range, ← prs_succ]
      exact r_turn ⟨rfl, _, _, _, _, _, rfl⟩
  · rintro r' g' ⟨rfl, c6, c7, c8, c9, c10, rfl⟩
    rw [List.length_range]
    obtain ⟨x, L, hL⟩ : ∃ x L, prs l m c a b (l.length + 1) (l.length + 1) = x :: L := by
      cases hq : prs l m c a b (l.length + 1) (l.length + 1) with
      | nil => exact absurd hq hne
      | cons x L => exact ⟨x, L, rfl⟩
    rw [hL]
    exact r_retE trivial rfl⟩
theorem mem_prow {l m : List Int} {c a b i J : Nat} {x : Int} : x ∈ prow l m c a b i J ↔ ∃ j, j < J ∧ c ≤ cmm l m i j ∧ x = (i : Int) * a + j * b := by
  unfold prow
  rw [List.mem_flatMap]
  constructor
  · rintro ⟨j, h1, h2⟩
    split at h2
    · exact ⟨j, List.mem_range.mp h1, by assumption, by simpa using h2⟩
    · cases h2
  · rintro ⟨j, h1, h2, rfl⟩
    exact ⟨j, List.mem_range.mpr h1, by rw [if_pos h2]; exact .head _⟩
theorem mem_prs {l m : List Int} {c a b n K : Nat} {x : Int} : x ∈ prs l m c a b n K ↔ ∃ i j, i < K ∧ j < n ∧ c ≤ cmm l m i j ∧ x = (i : Int) * a + j * b := by
  unfold prs
  rw [List.mem_flatMap]
  constructor
  · rintro ⟨i, h1, h2⟩
    obtain ⟨j, h3, h4, h5⟩ := mem_prow.mp h2
    exact ⟨i, j, List.mem_range.mp h1, h3, h4, h5⟩
  · rintro ⟨i, j, h1, h2, h3, h4⟩
    exact ⟨i, List.mem_range.mpr h1, mem_prow.mpr ⟨j, h2, h3, h4⟩⟩
theorem cmm_comm {l m : List Int} (hl : l.Nodup) (hm : m.Nodup) (i j : Nat) : cmm l m i j = cmm m l j i := by
  unfold cmm
  apply List.Perm.length_eq
  rw [List.perm_ext_iff_of_nodup ((hl.sublist (List.take_sublist _ _)).sublist List.filter_sublist) ((hm.sublist (List.take_sublist _ _)).sublist List.filter_sublist)]
  intro x
  simp only [List.mem_filter, decide_eq_true_iff]
  exact And.comm
theorem law_ch_turn {F : Nat → Fn} {c a b n : Nat} {i j : Nat} {c0 c4 c5 c12 c13 : Cell} {Q : O → Prop} {t : Sm} {g : G} (L : List Int) (ha : a ≤ 100) (hb : b ≤ 100) (hL : L.length ≤ 1000)
    (h : Run Q F t [c0, .val (I l), .val (I m), .val (.int n), c4, c5, .val (.int c), .val (.int a), .val (.int b), .own ((L ++ if c ≤ cmm l m i j then [(i : Int) * a + j * b] else []).map .int), .val (.int i), .val (.int j), c12, c13] g) :
    Run Q F (.cons (.ite (.bi .ge (.un .len (.lc (.nm 13) (.itl (.bi .upto (.var 1) (.var 10))) (.bi .isin (.var 13) (.bi .upto (.var 2) (.var 11))) (.var 13))) (.var 6))
  (.cons (.app 9 (.bi .add (.bi .mul (.var 10) (.var 7)) (.bi .mul (.var 11) (.var 8))))
  .nil)
  .nil) t) [c0, .val (I l), .val (I m), .val (.int n), c4, c5, .val (.int c), .val (.int a), .val (.int b), .own (L.map .int), .val (.int i), .val (.int j), c12, c13] g := by
  refine r_ite (by simp) (fun z => ?_) (fun z => ?_)
  · have hc : c ≤ cmm l m i j := by simpa [cmm] using z
    rw [if_pos hc] at h
    refine r_nx (by simp [lim]; omega) (r_end h)
  · have hc : ¬ c ≤ cmm l m i j := by simpa [cmm] using z
    rw [if_neg hc, List.append_nil] at h
    exact r_end h
theorem prow_len (l m : List Int) (c a b i J : Nat) : (prow l m c a b i J).length ≤ J := by
  induction J with
  | zero => simp [prow]
  | succ J ih =>
    rw [prow_succ, List.length_append]
    split <;> simp <;> omega
theorem prs_len (l m : List Int) (c a b n K : Nat) : (prs l m c a b n K).length ≤ K * n := by
  induction K with
  | zero => simp [prs]
  | succ K ih =>
    have := prow_len l m c a b K n
    rw [prs_succ, List.length_append, Nat.succ_mul]
    omega
theorem cheap_v [F_draw Φ] [F_row_of Φ] [F_depth_for Φ] [F_meeting_order Φ] [F_cheapest Φ] [F_law_cheapest Φ] {n : Nat} (hL : Pm n l) (hM : Pm n m) (n1 : 1 ≤ n) (n7 : n ≤ 7) {g : G} (hg : Good g) : ∃ g', Φ (k + 6) 57 [.drw, .val (I l), .val (I m), .val (.int n)] g = .ok (.bool true) g' := by
  have fL := hL.full n1 n7
  have fM := hM.full n1 n7
  have lL : l.length = n := hL.len
  have lM : m.length = n := hM.len
  have elm : l.length = m.length := by rw [lL, lM]
  have hmem : ∀ t ∈ rg 0 l.length, t ∈ l ∧ t ∈ m := fun t h => by
    rw [lL] at h
    exact ⟨(hL.mem t).mpr (mem_rg.mp h), (hM.mem t).mpr (mem_rg.mp h)⟩
  have hall : ov l m n = n := by
    have := ov_all l m (fun x hx => (hM.mem x).mpr ((hL.mem x).mp hx)) elm
    rw [lL] at this
    exact this
  have hs : (dsort eII ((rg 0 l.length).map (mk2 l m))).Perm ((rg 0 l.length).map (mk2 l m)) := dsort_perm _ _
  have ho : ((mord l m).map (·.2)).Perm (rg 0 n) := by
    have := hs.map (·.2)
    rw [List.map_map, lL] at this
    have e : ((fun x : Int × Int => x.2) ∘ mk2 l m) = fun x => x := rfl
    rw [e, List.map_id'] at this
    rw [← lL] at *
    exact this
  have hk : ((mord l m).map (·.2)).map (mk2 l m) = mord l m := by
    rw [List.map_map]
    have : ∀ p ∈ mord l m, (mk2 l m ∘ (·.2)) p = p := fun p hp => by
      obtain ⟨t, _, rfl⟩ := List.mem_map.mp (hs.mem_iff.mp hp)
      rfl
    rw [List.map_congr_left this, List.map_id']
  have hsr : dsort eII (mord l m) = mord l m := dsort_id (dsort_le _ _)
  suffices h : Run (fun o => ∃ g', o = .rt (.bool true) g') (Φ (k + 5)) b_law_cheapest [.drw, .val (I l), .val (I m), .val (.int n), .und, .und, .und, .und, .und, .und, .und, .und, .und, .und] g from by
    obtain ⟨g', h⟩ := h
    refine ⟨g', ?_⟩
    rw [F_law_cheapest.eq (Φ := Φ)]
    exact fn_rt rfl h
  unfold b_law_cheapest
  generalize hord : (mord l m).map (·.2) = ord at *
  refine r_nx (by
    simp only [fL, fM, elm, true_and, and_true]
    rw [← elm]
    exact hmem) ?_
  rw [hord]
  refine r_nx (by
    simp only [true_and, and_true]
    intro x hx
    have := ho.mem_iff.mp hx
    rw [← lL] at this
    exact ⟨hmem x this, by simp [lim]⟩) ?_
  refine r_if0 ?_ ?_ ?_
  · simp only [true_and, and_true, implies_true]
    omega
  · have e1 : isort ord = rg 0 n := isort_eq (ho.nodup_iff.mpr (rg_nodup n)) (rg_lt n) fun x => ho.mem_iff
    have e2 : (List.map (fun x => (max (l.idxOf x : Int) (m.idxOf x : Int), x)) ord) = mord l m := by rw [← hk]; rfl
    have e3 : dsort (fun y : Int × Int => PyData.tuple [.int y.1, .int y.2]) (mord l m) = mord l m := hsr
    rw [e1, e2, e3]
    simp
  obtain ⟨v1, g1, d1, hg1, a1, b1⟩ := draw_v (Φ := Φ) (k := k + 4) hg ((n + 1 : Nat) : Int) (by omega) (by omega)
  obtain ⟨v2, g2, d2, hg2, a2, b2⟩ := draw_v (Φ := Φ) (k := k + 4) hg1 6 (by omega) (by omega)
  obtain ⟨v3, g3, d3, hg3, a3, b3⟩ := draw_v (Φ := Φ) (k := k + 4) hg2 6 (by omega) (by omega)
  obtain ⟨c, rfl⟩ := Int.eq_ofNat_of_zero_le a1
  obtain ⟨a, rfl⟩ := Int.eq_ofNat_of_zero_le a2
  obtain ⟨b, rfl⟩ := Int.eq_ofNat_of_zero_le a3
  generalize (PyData.list _) = kk
  refine r_by (s := [.drw, .val (I l), .val (I m), .val (.int n), .val (I ord), .val kk, .val (.int c), .val (.int a), .val (.int b), .und, .und, .und, .und, .und]) (g' := g3) ?_ ?_
  · have q : ((n + 1 : Nat) : Int) = (n : Int) + 1 := by omega
    rw [q] at d1
    simp [evS, evE, evA, cell?, v_bi, evC, own?, d1, d2, d3, setPar, setO]
  refine r_nx (by simp [lim]) ?_
  refine r_for (by simp [lim]; omega) (fun i r g' => g' = g3 ∧ ∃ L c10 c11, r = [.drw, .val (I l), .val (I m), .val (.int n), .val (I ord), .val kk, .val (.int c), .val (.int a), .val (.int b), .own (L.map .int), c10, c11, .und, .und] ∧ L = prs l m c a b (n + 1) i) ⟨rfl, [], _, _, rfl, rfl⟩ ?_ ?_
  · rintro i x r g' hx ⟨rfl, L, c10, c11, rfl, hLL⟩
    obtain ⟨rfl, hi⟩ := rgAt hx
    refine r_in ?_
    refine r_for (by simp [lim]; omega) (fun j r g'' => g'' = g' ∧ ∃ L' c11, r = [.drw, .val (I l), .val (I m), .val (.int n), .val (I ord), .val kk, .val (.int c), .val (.int a), .val (.int b), .own (L'.map .int), .val (.int x), c11, .und, .und] ∧ L' = L ++ prow l m c a b x j) ⟨rfl, L, _, rfl, by simp [prow]⟩ ?_ ?_
    · rintro j y r g'' hy ⟨rfl, L', c11, rfl, hL'⟩
      obtain ⟨rfl, hj⟩ := rgAt hy
      refine r_in (law_ch_turn L' (by omega) (by omega) ?_ (r_turn ⟨rfl, _, _, rfl, ?_⟩))
      · rw [hL', hLL, List.length_append]
        have h1 := prow_len l m c a b x y
        have h2 := prs_len l m c a b (n + 1) x
        have h3 : x * (n + 1) ≤ 7 * 8 := Nat.mul_le_mul (by omega) (by omega)
        omega
      · rw [hL', prow_succ, List.append_assoc]
    · rintro r g'' ⟨rfl, L', c11, rfl, hL'⟩
      rw [List.length_range] at hL'
      exact r_turn ⟨rfl, _, _, _, rfl, by rw [hL', hLL, prs_succ]⟩
  rintro r g' ⟨rfl, L, c10, c11, rfl, hLL⟩
  rw [List.length_range] at hLL
  have hc : c ≤ n := by omega
  have hin : ∀ d, d ≤ n → c ≤ ov l m d → (d : Int) * a + d * b ∈ prs l m c a b (n + 1) (n + 1) := fun d hd h => mem_prs.mpr ⟨d, d, by omega, by omega, h, rfl⟩
  have hne : prs l m c a b (n + 1) (n + 1) ≠ [] := fun z => by
    have := hin n (by omega) (by omega)
    rw [z] at this
    cases this
  have hne2 : prs m l c b a (n + 1) (n + 1) ≠ [] := fun z => by
    have := (mem_prs (l := m) (m := l) (c := c) (a := b) (b := a) (n := n + 1) (K := n + 1)).mpr ⟨n, n, by omega, by omega, (show c ≤ cmm m l n n by rw [cmm_comm hM.nd hL.nd]; show c ≤ ov l m n; omega), rfl⟩
    rw [z] at this
    cases this
  have hsame : minL (prs m l c b a (n + 1) (n + 1)) = minL (prs l m c a b (n + 1) (n + 1)) := minL_same (fun x => by
    rw [mem_prs, mem_prs]
    constructor
    · rintro ⟨i, j, h1, h2, h3, h4⟩
      exact ⟨j, i, h2, h1, by rw [cmm_comm hL.nd hM.nd]; exact h3, by omega⟩
    · rintro ⟨i, j, h1, h2, h3, h4⟩
      exact ⟨j, i, h2, h1, by rw [cmm_comm hM.nd hL.nd]; exact h3, by omega⟩) hne2
  have hlast : c ≤ ov l m (fst (fun k => decide (c ≤ ov l m k)) (n + 1)) ∧ fst (fun k => decide (c ≤ ov l m k)) (n + 1) ≤ n := by
    have hp := fst_pos (n := n + 1) (K := n) (p := fun k => decide (c ≤ ov l m k)) (by omega) (by simp; omega)
    have : fst (fun k => decide (c ≤ ov l m k)) (n + 1) ∈ (List.range (n + 1)).filter fun k => decide (c ≤ ov l m k) := by
      unfold fst
      cases hq : (List.range (n + 1)).filter fun k => decide (c ≤ ov l m k) with
      | nil => rw [hq] at hp; cases hp
      | cons x r => exact .head _
    obtain ⟨h1, h2⟩ := List.mem_filter.mp this
    have := List.mem_range.mp h1
    exact ⟨by simpa using h2, by omega⟩
  refine r_nx (by
    simp only [fL, fM, elm, true_and, and_true]
    rw [← elm, lL]
    exact ⟨hc, by omega, by omega, hne⟩) ?_
  rw [lL]
  refine r_ret ?_ ⟨g', ?_⟩
  · simp only [fL, fM, elm, true_and, and_true]
    rw [← elm, lL]
    refine ⟨by rw [hLL]; exact hne, fun _ => ⟨⟨⟨hc, hall⟩, by omega⟩, fun _ => ⟨hc, by omega, by omega, hne2⟩⟩⟩
  · rw [lM, lL, hsame, hLL]
    have h1 := minL_le (hin _ hlast.2 hlast.1)
    simp
    rw [Int.mul_add]
    exact h1
end
theorem zeros {f : Nat → Nat} (h0 : f 0 = 0) : ∀ n, (∀ i, i < n → f i ≤ f (i + 1)) → ∃ z, z ≤ n ∧ ∀ k, k ≤ n → (f k = 0 ↔ k ≤ z)
  | 0, _ => ⟨0, by omega, fun k hk => by
    have : k = 0 := by omega
    subst this
    simp [h0]⟩
  | n + 1, h => by
    obtain ⟨z, h1, h2⟩ := zeros h0 n (fun i hi => h i (by omega))
    by_cases hz : f (n + 1) = 0
    · have h3 : f n = 0 := by have := h n (by omega); omega
      have h4 := (h2 n (by omega)).mp h3
      refine ⟨n + 1, by omega, fun k hk => ?_⟩
      by_cases e : k = n + 1
      · subst e; simp [hz]
      · have := h2 k (by omega)
        omega
    · refine ⟨z, by omega, fun k hk => ?_⟩
      by_cases e : k = n + 1
      · subst e
        omega
      · exact h2 k (by omega)
theorem filter_lt {z n : Nat} (h : z ≤ n) : (List.range n).filter (fun k => decide (k < z)) = List.range z := by
  induction n with
  | zero =>
    have : z = 0 := by omega
    subst this
    rfl
  | succ n ih =>
    rw [List.range_succ, List.filter_append]
    by_cases e : z = n + 1
    · subst e
      rw [List.filter_eq_self.mpr (fun k hk => by have := List.mem_range.mp hk; simp; omega)]
      simp [List.range_succ]
    · rw [ih (by omega)]
      have : ¬ n < z := by omega
      simp [this]
end Tl
end
section
set_option Elab.async false
set_option linter.all false
set_option autoImplicit false
set_option synthInstance.maxHeartbeats 400000
set_option synthInstance.maxSize 2000
namespace Tl
open PySem
/-! ### renaming -/
theorem ov_map {f : Int → Int} {l m : List Int} (h : ∀ x ∈ l, ∀ y ∈ m, f x = f y → x = y) (k : Nat) : ov (l.map f) (m.map f) k = ov l m k := by
  unfold ov
  rw [← List.map_take, ← List.map_take, List.filter_map, List.length_map]
  congr 1
  refine List.filter_congr fun x hx => ?_
  rw [Bool.eq_iff_iff]
  simp only [Function.comp_def, decide_eq_true_iff]
  constructor
  · intro z
    obtain ⟨y, hy, e⟩ := List.mem_map.mp z
    rw [h x (List.mem_of_mem_take hx) y (List.mem_of_mem_take hy) e.symm]
    exact hy
  · exact fun z => List.mem_map_of_mem z
theorem rowOf_map {f : Int → Int} {l m : List Int} (h : ∀ x ∈ l, ∀ y ∈ m, f x = f y → x = y) : rowOf (l.map f) (m.map f) = rowOf l m := by
  unfold rowOf
  rw [List.length_map]
  exact List.map_congr_left fun k _ => by rw [ov_map h]
/-- a name -/
def nam (w : List Int) (t : Int) : Int := w.getD t.toNat default
theorem getD_idx {l : List Int} {x : Int} (h : x ∈ l) : l.getD (l.idxOf x) default = x := by
  have hl := List.idxOf_lt_length_of_mem h
  rw [List.getD_eq_getElem?_getD, List.getElem?_eq_getElem hl]
  simp
theorem idx_getD {l : List Int} (hn : l.Nodup) {i : Nat} (h : i < l.length) : l.idxOf (l.getD i default) = i := by
  rw [List.getD_eq_getElem?_getD, List.getElem?_eq_getElem h]
  simp
  exact List.Nodup.idxOf_getElem hn i h
theorem getD_mem {l : List Int} {i : Nat} (h : i < l.length) : l.getD i default ∈ l := by
  rw [List.getD_eq_getElem?_getD, List.getElem?_eq_getElem h]
  simp
theorem nd_len {α : Type} [DecidableEq α] : ∀ (l m : List α), l.Nodup → (∀ x ∈ l, x ∈ m) → l.length ≤ m.length
  | [], _, _, _ => Nat.zero_le _
  | x :: l, m, hn, hs => by
    obtain ⟨h1, h2⟩ := List.nodup_cons.mp hn
    have hx : x ∈ m := hs x (.head _)
    have ih := nd_len l (m.erase x) h2 fun y hy => (List.mem_erase_of_ne (fun e : y = x => h1 (e ▸ hy))).2 (hs y (.tail _ hy))
    have e := List.length_erase_of_mem hx
    have hp : 0 < m.length := List.length_pos_of_mem hx
    rw [List.length_cons]
    omega
theorem nd_sup {α : Type} [DecidableEq α] {l m : List α} (hn : l.Nodup) (hs : ∀ x ∈ l, x ∈ m) (e : m.length ≤ l.length) : ∀ x ∈ m, x ∈ l := fun x hx => by
  by_cases h : x ∈ l
  · exact h
  · have := nd_len (x :: l) m (List.nodup_cons.mpr ⟨h, hn⟩) fun y hy => by
      rcases List.mem_cons.mp hy with e | e
      · rw [e]; exact hx
      · exact hs y e
    rw [List.length_cons] at this
    omega
section
variable {n : Nat} {w l m : List Int}
theorem nam_mem (hw : Pm n w) {t : Int} (h : 0 ≤ t ∧ t < n) : 0 ≤ nam w t ∧ nam w t < n := (hw.mem _).mp (getD_mem (by rw [hw.len]; omega))
theorem nam_inj (hw : Pm n w) {s t : Int} (h : 0 ≤ s ∧ s < n) (h' : 0 ≤ t ∧ t < n) (e : nam w s = nam w t) : s = t := by
  have h1 := idx_getD hw.nd (i := s.toNat) (by rw [hw.len]; omega)
  have h2 := idx_getD hw.nd (i := t.toNat) (by rw [hw.len]; omega)
  unfold nam at e
  rw [e] at h1
  omega
theorem pm_map (hl : Pm n l) {f : Int → Int} (h1 : ∀ t, 0 ≤ t ∧ t < (n : Int) → 0 ≤ f t ∧ f t < n) (h2 : ∀ s t, 0 ≤ s ∧ s < (n : Int) → 0 ≤ t ∧ t < (n : Int) → f s = f t → s = t) : Pm n (l.map f) := by
  have nd : (l.map f).Nodup := by
    unfold List.Nodup
    rw [List.pairwise_map]
    exact hl.nd.imp_of_mem fun {a b} ha hb hab e => hab (h2 a b ((hl.mem a).mp ha) ((hl.mem b).mp hb) e)
  have len : (l.map f).length = n := by rw [List.length_map, hl.len]
  have sub : ∀ x ∈ l.map f, x ∈ rg 0 n := fun x hx => by
    obtain ⟨t, ht, rfl⟩ := List.mem_map.mp hx
    exact mem_rg.mpr (h1 t ((hl.mem t).mp ht))
  have p : (l.map f).Perm (rg 0 n) := (List.perm_ext_iff_of_nodup nd (rg_nodup n)).mpr fun x => ⟨sub x, nd_sup nd sub (by rw [len, rg_len]; exact Nat.le_refl _) x⟩
  exact pm_of p
theorem pm_nam (hl : Pm n l) (hw : Pm n w) : Pm n (l.map (nam w)) := pm_map hl (fun _ h => nam_mem hw h) (fun _ _ h h' e => nam_inj hw h h' e)
theorem idx_map (hl : ∀ x ∈ l, 0 ≤ x ∧ x < (n : Int)) (hw : Pm n w) {t : Int} (ht : 0 ≤ t ∧ t < n) : (l.map (nam w)).idxOf (nam w t) = l.idxOf t := by
  induction l with
  | nil => rfl
  | cons x l ih =>
    rw [List.map_cons, List.idxOf_cons, List.idxOf_cons, ih (fun y hy => hl y (.tail _ hy))]
    by_cases e : x = t
    · subst e; simp
    · have : nam w x ≠ nam w t := fun z => e (nam_inj hw (hl x (.head _)) ht z)
      rw [beq_eq_false_iff_ne.mpr this, beq_eq_false_iff_ne.mpr e]
/-! ### ends -/
def endOf (l m : List Int) (t : Int) : Int := min (l.length : Int) (2 * (1 + min (l.idxOf t : Int) (m.idxOf t : Int)))
def ends (l m : List Int) : List Int := (rg 0 l.length).map (endOf l m)
/-- the product of what is left -/
def wprod (es : List Int) : Int := es.zipIdx.foldl (fun (a : Int) (p : Int × Nat) => a * (p.1 - (p.2 : Int))) 1
theorem isort_congr {a b : List Int} (h : a.Perm b) : isort a = isort b :=
  List.Perm.eq_of_pairwise (le := (· ≤ ·)) (fun a b _ _ h1 h2 => Int.le_antisymm h1 h2) (isort_le a) (isort_le b) (((isort_perm a).trans h).trans (isort_perm b).symm)
theorem pm_perm (hw : Pm n w) : w.Perm (rg 0 n) := (List.perm_ext_iff_of_nodup hw.nd (rg_nodup n)).mpr fun x => by rw [hw.mem, mem_rg]
theorem ends_ren (hl : Pm n l) (hm : Pm n m) (hw : Pm n w) : (ends (l.map (nam w)) (m.map (nam w))).Perm (ends l m) := by
  unfold ends
  rw [List.length_map, hl.len]
  have p : (rg 0 n).Perm ((rg 0 n).map (nam w)) := (pm_perm (pm_nam (pm_of (List.Perm.refl (rg 0 n))) hw)).symm
  refine (p.map _).trans ?_
  rw [List.map_map]
  rw [List.map_congr_left fun t ht => ?_]
  have ht := mem_rg.mp ht
  show endOf (l.map (nam w)) (m.map (nam w)) (nam w t) = endOf l m t
  unfold endOf
  rw [idx_map (fun x hx => (hl.mem x).mp hx) hw ht, idx_map (fun x hx => (hm.mem x).mp hx) hw ht, List.length_map]
end
section
variable {Φ : Nat → Nat → Fn} {k : Nat} {l m : List Int}
instance cBetter [F_better Φ] {t : Int} : CallP (Φ (k + 1)) 38 [.val (I l), .val (I m), .val (.int t)] (.int (1 + min (l.idxOf t : Int) (m.idxOf t : Int))) (t ∈ l ∧ t ∈ m) := ⟨fun p g => by
  refine callP (F_better.eq _) rfl ?_
  unfold b_better
  exact RetP.to (by simp [p]) rfl⟩
instance cWays [F_better Φ] [F_ways Φ] : CallP (Φ (k + 2)) 44 [.val (I l), .val (I m)] (.int (wprod (isort (ends l m)))) (l.length ≤ 7 ∧ ∀ t ∈ rg 0 l.length, t ∈ l ∧ t ∈ m) := ⟨fun ⟨h7, ht⟩ g => by
  refine r_fn (F_ways.eq _) rfl ?_
  unfold b_ways
  refine r_nx (by
    simp only [true_and, and_true, lim]
    refine ⟨by omega, fun x hx => ⟨ht _ (mem_rg.mpr (by have := List.mem_range.mp hx; omega)), by omega⟩⟩) ?_
  have e1 : ((List.range l.length).map fun (x : Nat) => min (l.length : Int) (2 * (1 + min (l.idxOf (x : Int) : Int) (m.idxOf (x : Int) : Int)))) = ends l m := by
    simp [ends, rg, endOf, Function.comp_def]
  rw [e1]
  refine r_nx (by trivial) ?_
  refine r_for (by trivial) (fun i r g' => g' = g ∧ ∃ v c4 c5, r = [.val (I l), .val (I m), .val (I (isort (ends l m))), .val (.int v), c4, c5, .und] ∧ v = ((isort (ends l m)).zipIdx.take i).foldl (fun (a : Int) (p : Int × Nat) => a * (p.1 - (p.2 : Int))) 1) ⟨rfl, _, _, _, rfl, rfl⟩ ?_ ?_
  · rintro i x r g' hx ⟨rfl, v, c4, c5, rfl, hv⟩
    refine r_in (r_nx ?_ (r_turn ⟨rfl, _, _, _, rfl, ?_⟩))
    · simp only [true_and]
      right
      have h1 := List.mem_of_getElem? hx
      obtain ⟨y, j⟩ := x
      have h2 := List.mem_zipIdx h1
      have h3 : y ∈ ends l m := (isort_perm _).mem_iff.mp (by
        have := h2.2.2
        rw [this]
        exact List.getElem_mem _)
      obtain ⟨t, _, rfl⟩ := List.mem_map.mp h3
      have h4 : j < 7 := by
        have := h2.2.1
        have e : (isort (ends l m)).length = l.length := by rw [(isort_perm _).length_eq]; simp [ends, rg]
        omega
      unfold endOf
      simp only
      omega
    · rw [List.take_add_one, hx, List.foldl_append, ← hv]
      rfl
  · rintro r g' ⟨rfl, v, c4, c5, rfl, hv⟩
    rw [List.take_length] at hv
    exact r_retE trivial (by rw [hv]; rfl)⟩
section
variable [F_is_int Φ] [F_is_full Φ] [F_check_full Φ]
instance cExch [F_exchanged Φ] {i : Int} {p : Nat} {P : Prop} [N : NatI i p P] : CallP (Φ (k + 4)) 95 [.val (I l), .val (.int i)] (I (l.take p ++ [l.getD (p + 1) default, l.getD p default] ++ l.drop (p + 2))) (P ∧ Full l ∧ p + 1 < l.length) := ⟨fun ⟨q, h, hp⟩ g => by
  rw [N.h q]
  refine callP (F_exchanged.eq _) rfl ?_
  unfold b_exchanged
  have := h.2.1
  refine RetP.to ?_ rfl
  simp [h, lim]
  omega⟩
instance cMoved [F_moved Φ] {i j : Int} {p : Nat} {P : Prop} [N : NatI j p P] : CallP (Φ (k + 4)) 96 [.val (I l), .val (.int i), .val (.int j)] (I ((l.filter fun x => !decide (x = i)).take p ++ [i] ++ (l.filter fun x => !decide (x = i)).drop p)) (P ∧ Full l ∧ 0 ≤ i ∧ i < l.length ∧ p < l.length) := ⟨fun ⟨q, h, h1, h2, hp⟩ g => by
  rw [N.h q]
  refine callP (F_moved.eq _) rfl ?_
  unfold b_moved
  have h7 := h.2.1
  have h9 : (l.filter fun x => !decide (x = i)).length ≤ l.length := List.length_filter_le _ _
  refine RetP.to ?_ ?_
  · simp [h, lim]
    omega
  · simp⟩
instance cPlaces [F_places Φ] : CallP (Φ (k + 4)) 98 [.val (I l)] (I ((rg 0 l.length).map fun t => (l.idxOf t : Int))) (Full l ∧ ∀ t ∈ rg 0 l.length, t ∈ l) := ⟨fun ⟨h, ht⟩ g => by
  refine callP (F_places.eq _) rfl ?_
  unfold b_places
  have := h.2.1
  refine RetP.to ?_ ?_
  · simp [h, lim]
    exact ⟨by omega, fun x hx => ht _ (mem_rg.mpr (by omega))⟩
  · simp [rg, Function.comp_def]⟩
instance cBack [F_backward Φ] : CallP (Φ (k + 4)) 100 [.val (I l)] (I l.reverse) (Full l) := ⟨fun h g => by
  refine callP (F_backward.eq _) rfl ?_
  unfold b_backward
  exact RetP.to (by simp [h]) rfl⟩
instance cWithout [F_without_thing Φ] {t : Int} : CallP (Φ (k + 4)) 101 [.val (I l), .val (.int t)] (I ((l.filter fun x => !decide (x = t)).map fun x => if t < x then x - 1 else x)) (Full l ∧ 0 ≤ t ∧ t < l.length ∧ 1 < l.length) := ⟨fun ⟨h, h1, h2, h3⟩ g => by
  refine callP (F_without_thing.eq _) rfl ?_
  unfold b_without_thing
  refine RetP.to ?_ ?_
  · simp [h]
    omega
  · simp⟩
variable [F_check_both Φ]
instance cCountFair [F_better Φ] [F_ways Φ] [F_count_fair Φ] : CallP (Φ (k + 5)) 45 [.val (I l), .val (I m)] (.int (wprod (isort (ends l m)))) (Full l ∧ Full m ∧ l.length = m.length ∧ ∀ t ∈ rg 0 l.length, t ∈ l ∧ t ∈ m) := ⟨fun ⟨h, h', e, ht⟩ g => by
  refine callP (F_count_fair.eq _) rfl ?_
  unfold b_count_fair
  refine RetP.to ?_ rfl
  simp only [h, h', e, true_and]
  exact ⟨h'.2.1, by rw [← e]; exact ht⟩⟩
instance cRenamed [F_renamed Φ] : CallP (Φ (k + 5)) 97 [.val (I l), .val (I m)] (I (l.map (nam m))) (Full l ∧ Full m ∧ l.length = m.length) := ⟨fun ⟨h, h', e⟩ g => by
  refine callP (F_renamed.eq _) rfl ?_
  unfold b_renamed
  refine RetP.to ?_ rfl
  simp only [h, h', e, true_and, and_true]
  intro x hx
  have := h.2.2.1 x hx
  omega⟩
instance cSeen [F_seen_from Φ] : CallP (Φ (k + 5)) 99 [.val (I l), .val (I m)] (I (m.map fun t => (l.idxOf t : Int))) (Full l ∧ Full m ∧ l.length = m.length ∧ ∀ t ∈ m, t ∈ l) := ⟨fun ⟨h, h', e, ht⟩ g => by
  refine callP (F_seen_from.eq _) rfl ?_
  unfold b_seen_from
  refine RetP.to ?_ rfl
  simp only [h, h', e, true_and, and_true]
  exact ht⟩
end
end
/-! ### turned round, exchanged -/
section
variable {n : Nat} {l m : List Int}
theorem mem_drop_iff {l : List Int} (hn : l.Nodup) (i : Nat) {x : Int} (hx : x ∈ l) : x ∈ l.drop i ↔ x ∉ l.take i := by
  have h : l.take i ++ l.drop i = l := List.take_append_drop i l
  have nd : (l.take i ++ l.drop i).Nodup := by rw [h]; exact hn
  rw [List.nodup_append] at nd
  constructor
  · exact fun h1 h2 => nd.2.2 x h2 x h1 rfl
  · intro h1
    rw [← h] at hx
    rcases List.mem_append.mp hx with z | z
    · exact absurd z h1
    · exact z
theorem rev_take (l : List Int) (k : Nat) (h : k ≤ l.length) : l.reverse.take k = (l.drop (l.length - k)).reverse := by
  rw [List.take_reverse]
theorem filter_all {l T : List Int} (hl : l.Nodup) (hT : T.Nodup) (h : ∀ x ∈ T, x ∈ l) : (l.filter fun x => decide (x ∈ T)).length = T.length := by
  apply List.Perm.length_eq
  rw [List.perm_ext_iff_of_nodup (hl.sublist List.filter_sublist) hT]
  intro x
  simp only [List.mem_filter, decide_eq_true_iff]
  exact ⟨fun z => z.2, fun z => ⟨h x z, z⟩⟩
theorem ov_rev (hl : Pm n l) (hm : Pm n m) (k : Nat) (hk : k ≤ n) : (ov l.reverse m.reverse k : Int) = 2 * k - n + ov l m (n - k) := by
  have hmem : ∀ x, x ∈ l ↔ x ∈ m := fun x => by rw [hl.mem, hm.mem]
  have e1 : ov l.reverse m.reverse k = ((l.drop (n - k)).filter fun x => !decide (x ∈ m.take (n - k))).length := by
    unfold ov
    rw [rev_take l k (by rw [hl.len]; exact hk), rev_take m k (by rw [hm.len]; exact hk), hl.len, hm.len, List.filter_reverse, List.length_reverse]
    congr 1
    refine List.filter_congr fun x hx => ?_
    have hxm : x ∈ m := (hmem x).mp (List.mem_of_mem_drop hx)
    rw [Bool.eq_iff_iff]
    simp only [List.mem_reverse, decide_eq_true_iff, Bool.not_eq_true', decide_eq_false_iff_not]
    exact mem_drop_iff hm.nd (n - k) hxm
  have e2 := len_split (l.drop (n - k)) (fun x => decide (x ∈ m.take (n - k)))
  have e3 : (l.filter fun x => decide (x ∈ m.take (n - k))).length = n - k := by
    rw [filter_all hl.nd (hm.nd.sublist (List.take_sublist _ _)) (fun x hx => (hmem x).mpr (List.mem_of_mem_take hx)), List.length_take, hm.len]
    omega
  have e4 : (l.filter fun x => decide (x ∈ m.take (n - k))).length = ov l m (n - k) + ((l.drop (n - k)).filter fun x => decide (x ∈ m.take (n - k))).length := by
    unfold ov
    rw [← List.length_append, ← List.filter_append, List.take_append_drop]
  have e5 : (l.drop (n - k)).length = k := by rw [List.length_drop, hl.len]; omega
  omega
/-- two neighbours exchanged -/
def exch (l : List Int) (p : Nat) : List Int := l.take p ++ [l.getD (p + 1) default, l.getD p default] ++ l.drop (p + 2)
theorem split2 {l : List Int} {p : Nat} (h : p + 1 < l.length) : ∃ A x y B, l = A ++ x :: y :: B ∧ A.length = p := by
  refine ⟨l.take p, l[p], l[p + 1], l.drop (p + 2), ?_, by rw [List.length_take]; omega⟩
  have h1 : l.drop p = l[p] :: l.drop (p + 1) := List.drop_eq_getElem_cons (by omega)
  have h2 : l.drop (p + 1) = l[p + 1] :: l.drop (p + 1 + 1) := List.drop_eq_getElem_cons (by omega)
  calc l = l.take p ++ l.drop p := (List.take_append_drop p l).symm
    _ = _ := by rw [h1, h2]
theorem exch_eq {A B : List Int} {x y : Int} : exch (A ++ x :: y :: B) A.length = A ++ y :: x :: B := by
  unfold exch
  simp [List.getD_eq_getElem?_getD, List.getElem?_append, List.drop_append]
theorem exch_len {p : Nat} (h : p + 1 < l.length) : (exch l p).length = l.length := by
  obtain ⟨A, x, y, B, rfl, rfl⟩ := split2 h
  rw [exch_eq]
  simp
theorem exch_twice {p : Nat} (h : p + 1 < l.length) : exch (exch l p) p = l := by
  obtain ⟨A, x, y, B, rfl, rfl⟩ := split2 h
  rw [exch_eq, exch_eq]
theorem exch_pm (hl : Pm n l) {p : Nat} (h : p + 1 < n) : Pm n (exch l p) := by
  obtain ⟨A, x, y, B, rfl, rfl⟩ := split2 (l := l) (p := p) (by rw [hl.len]; exact h)
  rw [exch_eq]
  refine pm_of (List.Perm.trans ?_ (pm_perm hl))
  exact List.Perm.append_left A (List.Perm.swap x y B)
theorem exch_take {p k : Nat} (h : p + 1 < l.length) (hk : k ≠ p + 1) (z : Int) : z ∈ (exch l p).take k ↔ z ∈ l.take k := by
  obtain ⟨A, x, y, B, rfl, rfl⟩ := split2 h
  rw [exch_eq, List.take_append, List.take_append]
  by_cases h1 : k ≤ A.length
  · rw [Nat.sub_eq_zero_of_le h1, List.take_zero, List.take_zero]
  · obtain ⟨j, hj⟩ : ∃ j, k - A.length = j + 2 := ⟨k - A.length - 2, by omega⟩
    rw [hj]
    simp only [List.take_succ_cons, List.mem_append, List.mem_cons]
    constructor <;> (intro q; rcases q with q | q | q | q <;> simp [q])
theorem ov_exch {p k : Nat} (h : p + 1 < m.length) (hk : k ≠ p + 1) : ov l (exch m p) k = ov l m k := by
  unfold ov
  congr 1
  refine List.filter_congr fun x hx => ?_
  rw [Bool.eq_iff_iff]
  simp only [decide_eq_true_iff]
  exact exch_take h hk x
theorem ov_exch1 {p : Nat} (hl : l.Nodup) (hm : m.Nodup) (h : p + 1 < m.length) : (ov l (exch m p) (p + 1) : Int) - ov l m (p + 1) ≤ 1 ∧ -1 ≤ (ov l (exch m p) (p + 1) : Int) - ov l m (p + 1) := by
  obtain ⟨A, x, y, B, rfl, rfl⟩ := split2 h
  rw [exch_eq]
  have go : ∀ (x : Int) (B : List Int), x ∉ A → ov l (A ++ x :: B) (A.length + 1) = ((l.take (A.length + 1)).filter fun z => decide (z ∈ A)).length + if x ∈ l.take (A.length + 1) then 1 else 0 := fun x B hx => by
    unfold ov
    rw [List.take_append, List.take_of_length_le (l := A) (by omega), Nat.add_sub_cancel_left, List.take_succ_cons, List.take_zero]
    rw [← len_filter_or (l.take (A.length + 1)) (fun z => decide (z ∈ A)) x (hl.sublist (List.take_sublist _ _)) (by simpa using hx)]
    congr 1
    refine List.filter_congr fun z _ => ?_
    rw [Bool.eq_iff_iff]
    simp
  rw [List.nodup_append] at hm
  have hx : x ∉ A := fun z => hm.2.2 x z x (.head _) rfl
  have hy : y ∉ A := fun z => hm.2.2 y z y (.tail _ (.head _)) rfl
  rw [go y (x :: B) hy, go x (y :: B) hx]
  split <;> split <;> simp <;> omega
end
end Tl
end
section
set_option Elab.async false
set_option linter.all false
set_option autoImplicit false
set_option maxRecDepth 100000
namespace Tl
theorem nd_lenA {α : Type} [DecidableEq α] : ∀ {l m : List α}, l.Nodup → (∀ x ∈ l, x ∈ m) → l.length ≤ m.length
  | [], m, _, _ => by simp
  | x :: l, m, nd, h => by
    obtain ⟨h1, h2⟩ := List.nodup_cons.mp nd
    have hx := h x (.head _)
    have := nd_lenA (l := l) (m := m.erase x) h2 fun y hy => (List.mem_erase_of_ne (fun (z : y = x) => h1 (z ▸ hy))).mpr (h y (.tail _ hy))
    have e := List.length_erase_of_mem hx
    have p := List.length_pos_of_mem hx
    rw [List.length_cons]
    omega
theorem er_perm {α : Type} : ∀ (T : List α) (j : Nat) (h : j < T.length), (T[j] :: T.eraseIdx j).Perm T
  | [], j, h => by simp at h
  | x :: T, 0, h => List.Perm.refl _
  | x :: T, j + 1, h => by
    rw [List.getElem_cons_succ, List.eraseIdx_cons_succ]
    exact (List.Perm.swap _ _ _).trans ((er_perm T j (by simpa using h)).cons x)
/-! ### last places of two lists -/
def lpN (n : Nat) (l m : List Int) (t : Int) : Nat := min n (2 * (1 + min (l.idxOf t) (m.idxOf t)))
section
variable {n : Nat} {l m : List Int}
theorem endOf_en (hl : l.length = n) (t : Int) : endOf l m t = (lpN n l m t : Nat) := by
  unfold endOf lpN
  rw [hl]
  omega
theorem en_comm (t : Int) : lpN n l m t = lpN n m l t := by
  unfold lpN
  rw [Nat.min_comm (l.idxOf t)]
abbrev fairJ (l m row : List Int) (j : Nat) : Bool := (l.take j ++ m.take j).all fun t => decide (t ∈ row.take (2 * j))
def fairB (l m row : List Int) (n : Nat) : Bool := (List.range n).all fun k => fairJ l m row (k + 1)
theorem fair_ok {row : List Int} (hl : Pm n l) (hm : Pm n m) (hr : Pm n row) : fairB l m row n = okR (lpN n l m) 0 row := by
  rw [Bool.eq_iff_iff, okR_iff _ _ _ hr.nd]
  unfold fairB
  simp only [List.all_eq_true, List.mem_range, List.mem_append, decide_eq_true_iff]
  have ml : ∀ t, 0 ≤ t ∧ t < (n : Int) → t ∈ l := fun t h => (hl.mem t).mpr h
  have mm : ∀ t, 0 ≤ t ∧ t < (n : Int) → t ∈ m := fun t h => (hm.mem t).mpr h
  constructor
  · intro h t ht
    have hb := (hr.mem t).mp ht
    have hi : row.idxOf t < n := by
      have := List.idxOf_lt_length_of_mem ht
      rw [hr.len] at this
      exact this
    have il : l.idxOf t < n := by
      have := List.idxOf_lt_length_of_mem (ml t hb)
      rw [hl.len] at this
      exact this
    have z := h (min (l.idxOf t) (m.idxOf t)) (by omega) t (by
      rw [mem_take_idx (ml t hb), mem_take_idx (mm t hb)]
      omega)
    rw [mem_take_idx ht] at z
    unfold lpN
    omega
  · intro h k hk t ht
    have hb : 0 ≤ t ∧ t < (n : Int) := by
      rcases ht with z | z
      · exact (hl.mem t).mp (List.mem_of_mem_take z)
      · exact (hm.mem t).mp (List.mem_of_mem_take z)
    have hr2 := (hr.mem t).mpr hb
    rw [mem_take_idx (ml t hb), mem_take_idx (mm t hb)] at ht
    rw [mem_take_idx hr2]
    have := h t hr2
    unfold lpN at this
    omega
/-- few have early last places -/
theorem en_few (hl : Pm n l) (hm : Pm n m) {x : Nat} (hx : x < n) : ((rg 0 n).filter fun t => decide (lpN n l m t ≤ x)).length ≤ x := by
  have nd : ((rg 0 n).filter fun t => decide (lpN n l m t ≤ x)).Nodup := (rg_nodup n).sublist List.filter_sublist
  have sub : ∀ t ∈ (rg 0 n).filter (fun t => decide (lpN n l m t ≤ x)), t ∈ l.take (x / 2) ++ m.take (x / 2) := fun t ht => by
    obtain ⟨h1, h2⟩ := List.mem_filter.mp ht
    have hb := mem_rg.mp h1
    have h2 := of_decide_eq_true h2
    unfold lpN at h2
    rw [List.mem_append, mem_take_idx ((hl.mem t).mpr hb), mem_take_idx ((hm.mem t).mpr hb)]
    omega
  have := nd_lenA nd sub
  rw [List.length_append, List.length_take, List.length_take] at this
  omega
/-- what is sorted leaves a way -/
def Via (q : Nat) (S : List Nat) : Prop := ∀ k (h : k < S.length), q + k < S[k]
theorem via_W : ∀ {S : List Nat} {q : Nat}, Via q S → 0 < W q S
  | [], q, _ => by simp [W]
  | s :: S, q, h => by
    have h0 := h 0 (by simp)
    simp only [List.getElem_cons_zero] at h0
    have := via_W (S := S) (q := q + 1) fun k hk => by
      have := h (k + 1) (by simp; omega)
      simp only [List.getElem_cons_succ] at this
      omega
    simp only [W]
    exact Nat.mul_pos (by omega) this
theorem sort_via {L : List Int} {e : Int → Nat} (h : ∀ x, x < L.length → (L.filter fun t => decide (e t ≤ x)).length ≤ x) : Via 0 (nsort (L.map e)) := by
  intro k hk
  rw [Nat.zero_add]
  have hlen : (nsort (L.map e)).length = L.length := by rw [(nsort_perm _).length_eq, List.length_map]
  refine Nat.lt_of_not_le fun c => ?_
  have hx : k < L.length := by omega
  have h1 := h k hx
  have h2 : (L.filter fun t => decide (e t ≤ k)).length = ((nsort (L.map e)).filter fun s => decide (s ≤ k)).length := by
    rw [((nsort_perm (L.map e)).filter _).length_eq, List.filter_map, List.length_map]
    rfl
  rw [h2] at h1
  have h3 : ((nsort (L.map e)).take (k + 1)).filter (fun s => decide (s ≤ k)) = (nsort (L.map e)).take (k + 1) := by
    rw [List.filter_eq_self]
    intro s hs
    obtain ⟨i, hi, rfl⟩ := List.mem_iff_getElem.mp hs
    rw [List.length_take] at hi
    rw [List.getElem_take]
    rcases Nat.lt_or_ge i k with z | z
    · have := List.pairwise_iff_getElem.mp (nsort_le (L.map e)) i k (by omega) hk z
      simp
      omega
    · have : i = k := by omega
      subst this
      simpa using c
  have h4 : (((nsort (L.map e)).take (k + 1)).filter (fun s => decide (s ≤ k))).length ≤ ((nsort (L.map e)).filter fun s => decide (s ≤ k)).length := ((List.take_sublist _ _).filter _).length_le
  rw [h3, List.length_take] at h4
  omega
theorem en_via (hl : Pm n l) (hm : Pm n m) : Via 0 (nsort ((rg 0 n).map (lpN n l m))) := sort_via fun x hx => en_few hl hm (by rw [rg_len] at hx; exact hx)
theorem wprod_W : ∀ (S : List Nat) (q : Nat) (a : Int), Via q S → ((S.map fun (x : Nat) => (x : Int)).zipIdx q).foldl (fun (a : Int) (p : Int × Nat) => a * (p.1 - (p.2 : Int))) a = a * (W q S : Nat)
  | [], q, a, _ => by simp [W]
  | s :: S, q, a, h => by
    have h0 := h 0 (by simp)
    simp only [List.getElem_cons_zero] at h0
    have := wprod_W S (q + 1) (a * ((s : Int) - (q : Int))) fun k hk => by
      have := h (k + 1) (by simp; omega)
      simp only [List.getElem_cons_succ] at this
      omega
    simp only [List.map_cons, List.zipIdx_cons, List.foldl_cons, W]
    rw [this, Int.natCast_mul, Int.mul_assoc]
    congr 2
    omega
theorem isort_cast (L : List Nat) : isort (L.map fun (x : Nat) => (x : Int)) = (nsort L).map fun (x : Nat) => (x : Int) := by
  refine List.Perm.eq_of_pairwise (le := (· ≤ ·)) (fun a b _ _ h1 h2 => Int.le_antisymm h1 h2) (isort_le _) ?_ ((isort_perm _).trans ((nsort_perm L).symm.map _))
  rw [List.pairwise_map]
  exact (nsort_le L).imp fun h => by omega
/-- how many there are -/
def manyF (n : Nat) (l m : List Int) : Nat := W 0 (nsort ((rg 0 n).map (lpN n l m)))
theorem ends_cast (hl : l.length = n) : ends l m = ((rg 0 n).map (lpN n l m)).map fun (x : Nat) => (x : Int) := by
  unfold ends
  rw [hl, List.map_map]
  exact List.map_congr_left fun t _ => endOf_en hl t
theorem ways_W (hl : Pm n l) (hm : Pm n m) : wprod (isort (ends l m)) = (manyF n l m : Nat) := by
  rw [ends_cast hl.len, isort_cast]
  unfold wprod manyF
  rw [wprod_W _ 0 1 (en_via hl hm), Int.one_mul]
/-- all fair lists -/
def goodF (n : Nat) (l m : List Int) : List (List Int) := gen (lpN n l m) n 0 (rg 0 n)
theorem good_len : (goodF n l m).length = manyF n l m := gen_len _ n 0 _ (rg_len n) fun t _ => by unfold lpN; omega
theorem good_pos (hl : Pm n l) (hm : Pm n m) : 0 < manyF n l m := via_W (en_via hl hm)
theorem good_filter : (genA n (rg 0 n)).filter (okR (lpN n l m) 0) = goodF n l m := gen_filter _ n 0 _
theorem good_mem {row : List Int} : row ∈ goodF n l m ↔ row.Perm (rg 0 n) ∧ okR (lpN n l m) 0 row = true := by
  rw [← good_filter, List.mem_filter, genA_mem n _ _ (rg_len n)]
theorem okR_get (e : Int → Nat) : ∀ (r : List Int) (p : Nat), okR e p r = true ↔ ∀ i (h : i < r.length), p + i < e r[i]
  | [], p => by simp [okR]
  | x :: r, p => by
    simp only [okR, Bool.and_eq_true, decide_eq_true_iff]
    rw [okR_get e r (p + 1)]
    constructor
    · rintro ⟨a, b⟩ i hi
      cases i with
      | zero => exact a
      | succ i =>
        have := b i (by simp at hi; omega)
        rw [List.getElem_cons_succ]
        omega
    · intro h
      refine ⟨h 0 (by simp), fun i hi => ?_⟩
      have := h (i + 1) (by simp; omega)
      rw [List.getElem_cons_succ] at this
      omega
/-- a fair list with a thing at its last place -/
theorem good_last (hl : Pm n l) (hm : Pm n m) {t : Int} (ht : t ∈ rg 0 n) : ∃ row ∈ goodF n l m, row.idxOf t + 1 = lpN n l m t := by
  have ev := en_via hl hm
  generalize he : lpN n l m = e at *
  have eE : 1 ≤ e t ∧ e t ≤ n := by
    have := mem_rg.mp ht
    rw [← he]
    unfold lpN
    omega
  let T := (rg 0 n).mergeSort (fun a b => decide (e a ≤ e b))
  have pT : T.Perm (rg 0 n) := List.mergeSort_perm _ _
  have sT : T.Pairwise (fun a b => e a ≤ e b) := by
    have := List.pairwise_mergeSort (le := fun a b : Int => decide (e a ≤ e b)) (fun a b c h1 h2 => by
      simp only [decide_eq_true_iff] at *
      omega) (fun a b => by
      simp only [Bool.or_eq_true, decide_eq_true_iff]
      omega) (rg 0 n)
    exact this.imp fun h => of_decide_eq_true h
  have mT : T.map e = nsort ((rg 0 n).map e) := sorted_eq ((pT.map e).trans (nsort_perm _).symm) (List.pairwise_map.mpr sT) (nsort_le _)
  have lT : T.length = n := by rw [pT.length_eq, rg_len]
  have vT : ∀ k (h : k < T.length), k < e T[k] := fun k h => by
    have := ev k (by rw [← mT, List.length_map]; exact h)
    have e2 : (nsort ((rg 0 n).map e))[k]'(by rw [← mT, List.length_map]; exact h) = e T[k] := by
      simp only [← mT, List.getElem_map]
    rw [e2] at this
    omega
  have tT : t ∈ T := pT.mem_iff.mpr ht
  obtain ⟨j, hj, ej⟩ := List.mem_iff_getElem.mp tT
  have hjE : j < e t := by have := vT j hj; rw [ej] at this; exact this
  have ndT : T.Nodup := pT.nodup_iff.mpr (rg_nodup n)
  have lE : (T.eraseIdx j).length = n - 1 := by rw [List.length_eraseIdx_of_lt hj, lT]
  have pR : ((T.eraseIdx j).insertIdx (e t - 1) t).Perm (rg 0 n) := by
    refine (List.perm_insertIdx t _ (by omega)).trans ?_
    have := er_perm T j hj
    rw [ej] at this
    exact this.trans pT
  have lR : ((T.eraseIdx j).insertIdx (e t - 1) t).length = n := by rw [pR.length_eq, rg_len]
  have g : ∀ i (h : i < ((T.eraseIdx j).insertIdx (e t - 1) t).length), i < e ((T.eraseIdx j).insertIdx (e t - 1) t)[i] := fun i h => by
    rw [List.getElem_insertIdx]
    split
    · rw [List.getElem_eraseIdx]
      split
      · exact vT i _
      · have := vT (i + 1) (by omega)
        omega
    · split
      · omega
      · rw [List.getElem_eraseIdx]
        split
        · omega
        · have := vT (i - 1 + 1) (by omega)
          omega
  have nR := pR.nodup_iff.mpr (rg_nodup n)
  refine ⟨_, good_mem.mpr ⟨pR, ?_⟩, ?_⟩
  · rw [he, okR_get]
    intro i h
    rw [Nat.zero_add]
    exact g i h
  · have hlt : e t - 1 < ((T.eraseIdx j).insertIdx (e t - 1) t).length := by omega
    have e3 : ((T.eraseIdx j).insertIdx (e t - 1) t)[e t - 1] = t := by
      rw [List.getElem_insertIdx]
      simp
    have := nR.idxOf_getElem (e t - 1) hlt
    rw [e3] at this
    rw [this]
    omega
theorem good_le {row : List Int} (h : row ∈ goodF n l m) {t : Int} (ht : t ∈ rg 0 n) : row.idxOf t < lpN n l m t := by
  obtain ⟨h1, h2⟩ := good_mem.mp h
  have := (okR_iff _ row 0 (h1.nodup_iff.mpr (rg_nodup n))).mp h2 t (h1.mem_iff.mpr ht)
  omega
end
end Tl
end
section
set_option Elab.async false
set_option linter.all false
set_option autoImplicit false
set_option synthInstance.maxHeartbeats 400000
set_option synthInstance.maxSize 2000
namespace Tl
open PySem
/-- the first of some numbers, or None -/
def encI : Option Int → D
  | none => .none
  | some v => .int v
instance evHead {F : Nat → Fn} {r : Env} {i : Nat} {xs : List Int} [L : Look r i (.val (.list (xs.map .int)))] : EvP F (.ite (.bi .ne (.var i) (.lst .nil)) (.bi .idx (.var i) (.con (.int (0)))) (.con .none)) r (encI xs.head?) True := ⟨fun _ g => by
  cases xs with
  | nil =>
    have h : EvP F (.ite (.bi .ne (.var i) (.lst .nil)) (.bi .idx (.var i) (.con (.int (0)))) (.con .none)) r _ _ := evIte
    have := h.h (by simp [lim]) g
    simpa [encI] using this
  | cons x xs =>
    have h : EvP F (.ite (.bi .ne (.var i) (.lst .nil)) (.bi .idx (.var i) (.con (.int (0)))) (.con .none)) r _ _ := evIte
    have := h.h (by simp [lim]) g
    simpa [encI] using this⟩
instance eqEncI {a b : Option Int} : EqP (encI a) (encI b) (decide (a = b)) := ⟨by
  cases a <;> cases b <;> simp [encI, eqD, shp, PyData.depth, PyData.eqv]
  rename_i a b
  rw [Bool.eq_iff_iff]
  simp⟩
instance eqEncN {a : Option Int} : EqP (encI a) .none (decide (a = none)) := ⟨by
  cases a <;> simp [encI, eqD, shp, PyData.depth, PyData.eqv]⟩
instance isEncN {a : Option Int} : IsP (encI a) .none a.isNone := ⟨by
  cases a <;> rfl⟩
end Tl
end
section
set_option Elab.async false
set_option linter.all false
set_option autoImplicit false
set_option synthInstance.maxHeartbeats 400000
set_option synthInstance.maxSize 2000
set_option maxRecDepth 100000
namespace Tl
open PySem
/-! ### by turns -/
def tkA (B : List Int) (t : Int) : List Int := if t ∈ B then B else B ++ [t]
def turnsL (ps : List (Int × Int)) : List Int := ps.foldl (fun B p => tkA (tkA B p.1) p.2) []
theorem tkA_mem {B : List Int} {t x : Int} : x ∈ tkA B t ↔ x ∈ B ∨ x = t := by
  unfold tkA
  split
  · rename_i h
    constructor
    · exact .inl
    · rintro (z | z)
      · exact z
      · rw [z]; exact h
  · simp
theorem tkA_nd {B : List Int} {t : Int} (h : B.Nodup) : (tkA B t).Nodup := by
  unfold tkA
  split
  · exact h
  · rename_i hh
    rw [List.nodup_append]
    refine ⟨h, by simp, fun a ha b hb => ?_⟩
    rw [List.mem_singleton] at hb
    subst hb
    exact fun z => hh (z ▸ ha)
theorem tkA_pre {B : List Int} {t : Int} : B <+: tkA B t := by
  unfold tkA
  split
  · exact List.prefix_refl _
  · exact List.prefix_append _ _
theorem tkA_len {B : List Int} {t : Int} : (tkA B t).length ≤ B.length + 1 := by
  unfold tkA
  split <;> simp
theorem turns_snoc (ps : List (Int × Int)) (p : Int × Int) : turnsL (ps ++ [p]) = tkA (tkA (turnsL ps) p.1) p.2 := by
  unfold turnsL
  rw [List.foldl_append]
  rfl
section
variable {n : Nat} {l m : List Int}
def btL (l m : List Int) : List Int := turnsL (l.zip m)
theorem zip_take (i : Nat) (l m : List Int) (h : i < l.length) (h' : i < m.length) : (l.zip m).take (i + 1) = (l.zip m).take i ++ [(l[i], m[i])] := by
  rw [List.take_add_one, List.getElem?_eq_getElem (by simp; omega)]
  simp
theorem turns_at (hl : l.length = n) (hm : m.length = n) : ∀ i, i ≤ n → (turnsL ((l.zip m).take i)).Nodup ∧ (∀ x, x ∈ turnsL ((l.zip m).take i) ↔ x ∈ l.take i ∨ x ∈ m.take i) ∧ (turnsL ((l.zip m).take i)).length ≤ 2 * i
  | 0, _ => by simp [turnsL]
  | i + 1, h => by
    obtain ⟨h1, h2, h3⟩ := turns_at hl hm i (by omega)
    rw [zip_take i l m (by omega) (by omega), turns_snoc]
    refine ⟨tkA_nd (tkA_nd h1), fun x => ?_, ?_⟩
    · rw [tkA_mem, tkA_mem, h2, List.take_add_one, List.take_add_one, List.getElem?_eq_getElem (show i < l.length by omega), List.getElem?_eq_getElem (show i < m.length by omega)]
      simp only [Option.toList_some, List.mem_append, List.mem_singleton]
      constructor
      · rintro (((z | z) | z) | z)
        · exact .inl (.inl z)
        · exact .inr (.inl z)
        · exact .inl (.inr z)
        · exact .inr (.inr z)
      · rintro ((z | z) | (z | z))
        · exact .inl (.inl (.inl z))
        · exact .inl (.inr z)
        · exact .inl (.inl (.inr z))
        · exact .inr z
    · have a := tkA_len (B := turnsL ((l.zip m).take i)) (t := l[i])
      have b := tkA_len (B := tkA (turnsL ((l.zip m).take i)) l[i]) (t := m[i])
      simp only
      omega
theorem turns_pre (hl : l.length = n) (hm : m.length = n) : ∀ j i, i ≤ j → j ≤ n → turnsL ((l.zip m).take i) <+: turnsL ((l.zip m).take j)
  | 0, i, h, _ => by
    have : i = 0 := by omega
    subst this
    exact List.prefix_refl _
  | j + 1, i, h, hj => by
    by_cases c : i = j + 1
    · subst c; exact List.prefix_refl _
    · refine (turns_pre hl hm j i (by omega) (by omega)).trans ?_
      rw [zip_take j l m (by omega) (by omega), turns_snoc]
      exact tkA_pre.trans tkA_pre
theorem bt_full (hl : l.length = n) (hm : m.length = n) : turnsL ((l.zip m).take n) = btL l m := by
  unfold btL
  rw [List.take_of_length_le (by simp; omega)]
theorem bt_pm (hl : Pm n l) (hm : Pm n m) : Pm n (btL l m) := by
  obtain ⟨h1, h2, _⟩ := turns_at hl.len hm.len n (Nat.le_refl _)
  rw [bt_full hl.len hm.len] at h1 h2
  refine pm_of ((List.perm_ext_iff_of_nodup h1 (rg_nodup n)).mpr fun x => ?_)
  rw [h2, List.take_of_length_le (by rw [hl.len]; exact Nat.le_refl _), List.take_of_length_le (by rw [hm.len]; exact Nat.le_refl _), hl.mem, hm.mem, mem_rg]
  exact ⟨fun z => z.elim id id, .inl⟩
theorem bt_take (hl : Pm n l) (hm : Pm n m) {i : Nat} (h : i ≤ n) : turnsL ((l.zip m).take i) = (btL l m).take (turnsL ((l.zip m).take i)).length := by
  have := turns_pre hl.len hm.len n i h (Nat.le_refl _)
  rw [bt_full hl.len hm.len] at this
  exact List.prefix_iff_eq_take.mp this
theorem bt_fair (hl : Pm n l) (hm : Pm n m) : fairB l m (btL l m) n = true := by
  unfold fairB
  rw [List.all_eq_true]
  intro k hk
  have hk := List.mem_range.mp hk
  rw [List.all_eq_true]
  intro t ht
  obtain ⟨h1, h2, h3⟩ := turns_at hl.len hm.len (k + 1) (by omega)
  have := (h2 t).mpr (List.mem_append.mp ht)
  rw [bt_take hl hm (by omega)] at this
  rw [decide_eq_true_iff]
  exact (List.take_subset_take_left _ h3) this
theorem bt_good (hl : Pm n l) (hm : Pm n m) : btL l m ∈ goodF n l m := by
  have hb := bt_pm hl hm
  refine good_mem.mpr ⟨pm_perm hb, ?_⟩
  rw [← fair_ok hl hm hb]
  exact bt_fair hl hm
/-- the first unfair -/
def fuL (l m row : List Int) (n : Nat) : List Nat := (List.range n).filter fun k => !fairJ l m row (k + 1)
theorem fu_nil {row : List Int} : (fuL l m row n).isEmpty = fairB l m row n := by
  unfold fuL fairB
  rw [Bool.eq_iff_iff, List.isEmpty_iff, List.filter_eq_nil_iff, List.all_eq_true]
  exact ⟨fun h k hk => by have := h k hk; simpa using this, fun h k hk => by rw [h k hk]; simp⟩
theorem fu_some {row : List Int} {i : Nat} (hi : i < n) (h : ∀ k, k < i → fairJ l m row (k + 1) = true) (hb : fairJ l m row (i + 1) = false) : (fuL l m row n).head? = some i := by
  unfold fuL
  rw [List.head?_filter, List.find?_range_eq_some]
  refine ⟨by rw [hb]; rfl, List.mem_range.mpr hi, fun j hj => by rw [h j hj]; rfl⟩
theorem fu_none {row : List Int} (h : ∀ k, k < n → fairJ l m row (k + 1) = true) : (fuL l m row n).head? = none := by
  unfold fuL
  rw [List.head?_filter, List.find?_eq_none]
  intro k hk
  rw [h k (List.mem_range.mp hk)]
  simp
end
/-! ### a while loop with so many turns -/
theorem whl_rel {F : Nat → Fn} {c : E} {b : Sm} {J : Nat → Env → G → Prop} {M : Nat} (hs : ∀ j r g, j < M → J j r g → evT F c r g = .ok true g ∧ Run (Turn (J (j + 1))) F b r g) (he : ∀ r g, J M r g → evT F c r g = .ok false g) :
    ∀ (d N j : Nat) (r : Env) (g : G), j + d = M → d < N → J j r g → ∃ r' g', whlL (fun r g => evT F c r g) (fun r g => evS F b r g) N r g = .nx r' g' ∧ J M r' g'
  | _, 0, _, _, _, _, h, _ => by omega
  | 0, N + 1, j, r, g, e, _, hj => by
    have : j = M := by omega
    subst this
    refine ⟨r, g, ?_, hj⟩
    simp only [whlL, he r g hj]
  | d + 1, N + 1, j, r, g, e, hN, hj => by
    obtain ⟨h1, r1, g1, h2, h3⟩ := hs j r g (by omega) hj
    obtain ⟨r', g', h4, h5⟩ := whl_rel hs he d N (j + 1) r1 g1 (by omega) (by omega) h3
    refine ⟨r', g', ?_, h5⟩
    simp only [whlL, h1]
    rcases h2 with z | z <;> (rw [z]; exact h4)
theorem r_whl {Q : O → Prop} {F : Nat → Fn} {c : E} {b t : Sm} {r : Env} {g : G} {N : Nat} (J : Nat → Env → G → Prop) (M : Nat) (hN : M < N) (h0 : J 0 r g) (hs : ∀ j r g, j < M → J j r g → evT F c r g = .ok true g ∧ Run (Turn (J (j + 1))) F b r g) (he : ∀ r g, J M r g → evT F c r g = .ok false g) (hk : ∀ r g, J M r g → Run Q F t r g) : Run Q F (.cons (.whl N c b) t) r g := by
  obtain ⟨r', g', h1, h2⟩ := whl_rel hs he M N 0 r g (by omega) hN h0
  exact r_by (s_whl.trans h1) (hk r' g' h2)
theorem evT_of {F : Nat → Fn} {c : E} {r : Env} {g : G} {x y : Bool} {P : Prop} [H : EvP F c r (.bool x) P] (p : P) (z : x = y) : evT F c r g = .ok y g := by
  subst z
  unfold evT
  rw [H.h p g]
  rfl
section
variable {Φ : Nat → Nat → Fn} {k : Nat} {l m : List Int}
instance cIsFair [F_is_fair Φ] {row : List Int} : CallP (Φ (k + 1)) 39 [.val (I l), .val (I m), .val (I row)] (.bool (fairB l m row l.length)) (l.length ≤ 7 ∧ m.length ≤ 7) := ⟨fun ⟨h7, h7'⟩ g => by
  refine r_fn (F_is_fair.eq _) rfl ?_
  unfold b_is_fair
  refine r_for3 (by simp; omega) (fun i r g' => g' = g ∧ (∃ c3 c4, r = [.val (I l), .val (I m), .val (I row), c3, c4]) ∧ ∀ k, k < i → fairJ l m row (k + 1) = true) (fun _ _ => False) ⟨rfl, ⟨_, _, rfl⟩, fun _ h => by omega⟩ ?_ ?_
  · rintro i x r g' hx ⟨rfl, ⟨c3, c4, rfl⟩, hf⟩
    obtain ⟨rfl, hi⟩ := rgAt hx
    have hi : x < l.length := by omega
    refine r_in (r_ite ?_ (fun z => ?_) (fun z => ?_))
    · simp only [true_and, and_true, implies_true, List.length_take, lim]
      refine ⟨by omega, fun _ _ => ?_⟩
      omega
    · refine r_thn_rt trivial (.inr (.inr ⟨_, _, rfl, ?_⟩))
      have : fairB l m row l.length = false := by
        rw [Bool.eq_false_iff]
        intro y
        have := (List.all_eq_true.mp y) x (List.mem_range.mpr hi)
        unfold fairJ at this
        rw [List.all_map, Nat.add_comm 1 x] at z
        simp only [Function.comp_def] at z
        rw [this] at z
        cases z
      rw [this]
    · refine r_end (r_turn3 ⟨rfl, ⟨_, _, rfl⟩, fun k hk => ?_⟩)
      by_cases c : k = x
      · subst c
        rw [List.all_map, Nat.add_comm 1 k] at z
        simp only [Function.comp_def, Bool.not_eq_false'] at z
        exact z
      · exact hf k (by omega)
  · rintro r g' (⟨rfl, ⟨c3, c4, rfl⟩, hf⟩ | h)
    · rw [List.length_range] at hf
      refine r_retE trivial ?_
      have : fairB l m row l.length = true := List.all_eq_true.mpr fun k hk => hf k (by have := List.mem_range.mp hk; omega)
      rw [this]
    · exact h.elim⟩
section
variable [F_is_int Φ] [F_is_full Φ] [F_check_full Φ] [F_check_both Φ]
instance cIsFairList [F_is_fair Φ] [F_is_fair_list Φ] {row : List Int} : CallP (Φ (k + 5)) 40 [.val (I l), .val (I m), .val (I row)] (.bool (fairB l m row l.length)) (Full l ∧ Full m ∧ l.length = m.length ∧ Full row ∧ l.length = row.length) := ⟨fun ⟨h1, h2, h3, h4, h5⟩ g => by
  refine callP (F_is_fair_list.eq _) rfl ?_
  unfold b_is_fair_list
  refine RetP.to ?_ rfl
  have := h1.2.1
  have := h2.2.1
  exact ⟨⟨trivial, h1, h2, h3⟩, ⟨trivial, h1, h4, h5⟩, trivial, by omega, by omega⟩⟩
instance cFirstUnfair [F_first_unfair Φ] {row : List Int} : CallP (Φ (k + 5)) 41 [.val (I l), .val (I m), .val (I row)] (encI ((fuL l m row l.length).head?.map fun (k : Nat) => (1 : Int) + (k : Int))) (Full l ∧ Full m ∧ l.length = m.length ∧ Full row ∧ l.length = row.length) := ⟨fun ⟨h1, h2, h3, h4, h5⟩ g => by
  have h7 := h1.2.1
  have h7' := h2.2.1
  refine r_fn (F_first_unfair.eq _) rfl ?_
  unfold b_first_unfair
  refine r_nx ⟨trivial, h1, h2, h3⟩ (r_nx ⟨trivial, h1, h4, h5⟩ ?_)
  refine r_for3 (by simp; omega) (fun i r g' => g' = g ∧ (∃ c3 c4, r = [.val (I l), .val (I m), .val (I row), c3, c4]) ∧ ∀ k, k < i → fairJ l m row (k + 1) = true) (fun _ _ => False) ⟨rfl, ⟨_, _, rfl⟩, fun _ h => by omega⟩ ?_ ?_
  · rintro i x r g' hx ⟨rfl, ⟨c3, c4, rfl⟩, hf⟩
    obtain ⟨rfl, hi⟩ := rgAt hx
    have hi : x < l.length := by omega
    refine r_in (r_ite ?_ (fun z => ?_) (fun z => ?_))
    · simp only [true_and, and_true, implies_true, List.length_take, lim]
      refine ⟨by omega, fun _ _ => ?_⟩
      omega
    · refine r_thn_rt trivial (.inr (.inr ⟨_, _, rfl, ?_⟩))
      rw [List.all_map, Nat.add_comm 1 x] at z
      simp only [Function.comp_def, Bool.not_eq_true'] at z
      rw [fu_some hi hf z]
      rfl
    · refine r_end (r_turn3 ⟨rfl, ⟨_, _, rfl⟩, fun k hk => ?_⟩)
      by_cases c : k = x
      · subst c
        rw [List.all_map, Nat.add_comm 1 k] at z
        simp only [Function.comp_def, Bool.not_eq_false'] at z
        exact z
      · exact hf k (by omega)
  · rintro r g' (⟨rfl, ⟨c3, c4, rfl⟩, hf⟩ | h)
    · rw [List.length_range] at hf
      refine r_retE trivial ?_
      rw [fu_none fun k hk => hf k (by omega)]
      rfl
    · exact h.elim⟩
instance cLastPlaces [F_better Φ] [F_last_places Φ] : CallP (Φ (k + 5)) 42 [.val (I l), .val (I m)] (I (ends l m)) (Full l ∧ Full m ∧ l.length = m.length ∧ ∀ t ∈ rg 0 l.length, t ∈ l ∧ t ∈ m) := ⟨fun ⟨h1, h2, h3, ht⟩ g => by
  have h7 := h1.2.1
  refine callP (F_last_places.eq _) rfl ?_
  unfold b_last_places
  refine RetP.to ?_ ?_
  · simp only [h1, h2, h3, true_and, and_true, lim]
    refine ⟨by omega, fun x hx => ⟨ht _ (mem_rg.mpr (by have := List.mem_range.mp hx; omega)), by omega⟩⟩
  · simp [ends, rg, endOf, Function.comp_def]⟩
instance cByTurns [F_by_turns Φ] : CallP (Φ (k + 5)) 43 [.val (I l), .val (I m)] (I (btL l m)) (Full l ∧ Full m ∧ l.length = m.length) := ⟨fun ⟨h1, h2, h3⟩ g => by
  have h7 := h1.2.1
  refine r_fn (F_by_turns.eq _) rfl ?_
  unfold b_by_turns
  refine r_nx ⟨trivial, h1, h2, h3⟩ (r_nx (by simp [lim]) ?_)
  refine r_for (by trivial) (fun i r g' => g' = g ∧ ∃ B c3 c4 c5, r = [.val (I l), .val (I m), .own (B.map .int), c3, c4, c5] ∧ B = turnsL ((l.zip m).take i) ∧ B.length ≤ 2 * i) ⟨rfl, [], _, _, _, rfl, rfl, by simp⟩ ?_ ?_
  · rintro i ⟨a, b⟩ r g' hx ⟨rfl, B, c3, c4, c5, rfl, hB, hl⟩
    have hi : i < l.length := by
      obtain ⟨h, _⟩ := List.getElem?_eq_some_iff.mp hx
      simp at h
      omega
    refine r_in ?_
    refine r_for (xs := [a, b]) (enc := PyData.int) (by simp [lim]) (fun j r g'' => g'' = g' ∧ ∃ C c5, r = [.val (I l), .val (I m), .own (C.map .int), .val (.int a), .val (.int b), c5] ∧ C = ([a, b].take j).foldl tkA B ∧ C.length ≤ 2 * i + j) ⟨rfl, B, _, rfl, rfl, hl⟩ ?_ ?_
    · rintro j x r g'' hx ⟨rfl, C, c5, rfl, hC, hl2⟩
      have hj : j < 2 := by
        obtain ⟨h, _⟩ := List.getElem?_eq_some_iff.mp hx
        exact h
      have e1 : ([a, b].take (j + 1)).foldl tkA B = tkA C x := by
        rw [List.take_add_one, hx, List.foldl_append, ← hC]
        rfl
      refine r_in (r_ite (by simp) (fun z => ?_) (fun z => ?_))
      · have z : x ∉ C := by simpa using z
        refine r_nx (by simp only [true_and, lim]; omega) (r_end (r_turn ⟨rfl, _, _, rfl, ?_, by simp; omega⟩))
        rw [e1]
        unfold tkA
        rw [if_neg z]
      · have z : x ∈ C := by simpa using z
        refine r_end (r_turn ⟨rfl, _, _, rfl, ?_, by omega⟩)
        rw [e1]
        unfold tkA
        rw [if_pos z]
    · rintro r g'' ⟨rfl, C, c5, rfl, hC, hl2⟩
      refine r_turn ⟨rfl, _, _, _, _, rfl, ?_, by simp at hl2; omega⟩
      rw [hC, List.take_add_one, hx]
      show _ = turnsL (_ ++ [(a, b)])
      rw [turns_snoc, ← hB]
      rfl
  · rintro r g' ⟨rfl, B, c3, c4, c5, rfl, hB, hl⟩
    rw [List.take_length] at hB
    exact r_nx trivial (r_retE trivial (by rw [hB]; rfl))⟩
end
end
end Tl
end
section
set_option Elab.async false
set_option linter.all false
set_option autoImplicit false
set_option synthInstance.maxHeartbeats 400000
set_option synthInstance.maxSize 2000
set_option maxRecDepth 100000
namespace Tl
open PySem
section
variable {n : Nat} {l m : List Int}
/-- the ends of the things left -/
theorem left_ends {e : Int → Nat} {p : List Int} : ((((rg 0 n).map fun t => (e t : Int)).zipIdx.filter fun (q : Int × Nat) => !decide ((q.2 : Int) ∈ p)).map fun (q : Int × Nat) => q.1) = ((lft n p).map e).map fun (x : Nat) => (x : Int) := by
  have z : ((rg 0 n).map fun t => (e t : Int)).zipIdx = (List.range n).map fun (i : Nat) => (((e (i : Int) : Nat) : Int), i) := by
    apply List.ext_getElem?
    intro i
    by_cases hi : i < n
    · simp [rg, hi]
    · rw [List.getElem?_eq_none (by simp [rg]; omega), List.getElem?_eq_none (by simp; omega)]
  rw [z, List.filter_map, List.map_map, List.map_map]
  unfold lft rg
  rw [List.filter_map, List.map_map]
  have : (List.range n).filter ((fun (q : Int × Nat) => !decide ((q.2 : Int) ∈ p)) ∘ fun (i : Nat) => (((e (i : Int) : Nat) : Int), i)) = (List.range n).filter ((fun t => !decide (t ∈ p)) ∘ fun (i : Nat) => (0 : Int) + (i : Int)) := List.filter_congr fun i _ => by simp
  rw [this]
  refine List.map_congr_left fun i _ => by simp
theorem W_drop (q : Nat) : ∀ (S : List Nat) (i : Nat) (x : Nat), S[i]? = some x → W (q + i) (S.drop i) = (x - (q + i)) * W (q + (i + 1)) (S.drop (i + 1)) := by
  intro S i x h
  obtain ⟨hi, e⟩ := List.getElem?_eq_some_iff.mp h
  rw [List.drop_eq_getElem_cons hi, e]
  rfl
end
section
variable {Φ : Nat → Nat → Fn} {k : Nat} {n : Nat} {l m : List Int}
theorem rest_ways_v [F_rest_ways Φ] {e : Int → Nat} {p : List Int} {q : Nat} (hn : n ≤ 7) (he : ∀ t, e t ≤ 100) (hq : q ≤ 100) (g : G) : Φ (k + 1) 46 [.val (I ((rg 0 n).map fun t => (e t : Int))), .val (I p), .val (.int q)] g = .ok (.int (W q (nsort ((lft n p).map e)) : Nat)) g := by
  refine r_fn (F_rest_ways.eq _) rfl ?_
  unfold b_rest_ways
  refine r_nx (by simp) ?_
  rw [left_ends, isort_cast]
  refine r_nx trivial ?_
  have hb : ∀ s ∈ nsort ((lft n p).map e), s ≤ 100 := fun s hs => by
    obtain ⟨t, _, rfl⟩ := List.mem_map.mp ((nsort_perm _).mem_iff.mp hs)
    exact he t
  have hlen : (nsort ((lft n p).map e)).length ≤ 7 := by
    rw [(nsort_perm _).length_eq, List.length_map]
    have : (lft n p).length ≤ (rg 0 n).length := List.length_filter_le _ _
    rw [rg_len] at this
    omega
  generalize nsort ((lft n p).map e) = S at hb hlen ⊢
  refine r_for (by trivial) (fun i r g' => g' = g ∧ ∃ v c5 c6, r = [.val (I ((rg 0 n).map fun t => (e t : Int))), .val (I p), .val (.int q), .val (I (S.map fun (x : Nat) => (x : Int))), .val (.int v), c5, c6, .und] ∧ v * (W (q + i) (S.drop i) : Nat) = (W q S : Nat)) ⟨rfl, _, _, _, rfl, by simp⟩ ?_ ?_
  · rintro i ⟨y, i'⟩ r g' hx ⟨rfl, v, c5, c6, rfl, hv⟩
    obtain ⟨hi, ha⟩ : i' = i ∧ (S.map fun (x : Nat) => (x : Int))[i]? = some y := by
      rw [List.getElem?_zipIdx] at hx
      cases h : (S.map fun (x : Nat) => (x : Int))[i]? with
      | none => rw [h] at hx; cases hx
      | some y => rw [h] at hx; simp at hx; exact ⟨hx.2.symm, by rw [hx.1]⟩
    subst hi
    rw [List.getElem?_map] at ha
    cases hs : S[i']? with
    | none => rw [hs] at ha; cases ha
    | some x =>
      rw [hs] at ha
      cases ha
      have hx100 := hb x (List.mem_of_getElem? hs)
      have hi7 : i' < 7 := by
        obtain ⟨h, _⟩ := List.getElem?_eq_some_iff.mp hs
        omega
      refine r_in (r_nx ?_ (r_turn ⟨rfl, _, _, _, rfl, ?_⟩))
      · simp only [true_and]
        omega
      · rw [← hv, W_drop q S i' x hs, Int.natCast_mul, ← Int.mul_assoc]
        congr 2
        dsimp only
        omega
  · rintro r g' ⟨rfl, v, c5, c6, rfl, hv⟩
    rw [List.length_zipIdx, List.length_map, List.drop_length] at hv
    refine r_retE trivial ?_
    rw [← hv]
    simp [W]
theorem lft_mem {p : List Int} {t : Int} : t ∈ lft n p ↔ t ∈ rg 0 n ∧ t ∉ p := by
  unfold lft
  rw [List.mem_filter]
  simp
theorem lft_len {p : List Int} (nd : p.Nodup) (hp : ∀ t ∈ p, t ∈ rg 0 n) : (lft n p).length + p.length = n := by
  have h1 : (lft n p).Nodup := (rg_nodup n).sublist List.filter_sublist
  have h2 : (lft n p ++ p).Perm (rg 0 n) := (List.perm_ext_iff_of_nodup (List.nodup_append.mpr ⟨h1, nd, fun a ha b hb z => (lft_mem.mp ha).2 (z ▸ hb)⟩) (rg_nodup n)).mpr fun x => by
    rw [List.mem_append, lft_mem]
    constructor
    · rintro (z | z)
      · exact z.1
      · exact hp x z
    · intro z
      by_cases c : x ∈ p
      · exact .inr c
      · exact .inl ⟨z, c⟩
  have := h2.length_eq
  rw [List.length_append, rg_len] at this
  exact this
/-- one step of the ranking -/
theorem gen_step {e : Int → Nat} {p suf : List Int} {r j : Nat} (nd : p.Nodup) (hp : ∀ t ∈ p, t ∈ rg 0 n) (hj : p.length = j) (hjn : j < n) (he : ∀ t, e t ≤ n) (h : (gen e (n - j) j (lft n p))[r]? = some suf) :
    ∃ t r' suf', sel (fun t => W (j + 1) (nsort ((lft n (p ++ [t])).map e))) (lft n p) r = some (t, r') ∧ t ∈ lft n p ∧ suf = t :: suf' ∧ (gen e (n - (j + 1)) (j + 1) (lft n (p ++ [t])))[r']? = some suf' := by
  have hL := lft_len nd hp
  have e1 : n - j = (n - (j + 1)) + 1 := by omega
  have hlen := gen_len e (n - j) j (lft n p) (by omega) fun t _ => by have := he t; omega
  have hr : r < (gen e (n - j) j (lft n p)).length := (List.getElem?_eq_some_iff.mp h).1
  have pos := W_pos (p := j) (S := nsort ((lft n p).map e)) (by rw [← hlen]; omega) (nsort_le _)
  have pos : ∀ t ∈ lft n p, j < e t := fun t ht => pos _ ((nsort_perm _).mem_iff.mpr (List.mem_map_of_mem ht))
  rw [e1] at h hr
  simp only [gen] at h hr
  obtain ⟨t, r', a, b, c, d⟩ := sel_flat (h := fun t => if j < e t then (gen e (n - (j + 1)) (j + 1) ((lft n p).erase t)).map (t :: ·) else []) (f := fun t => W (j + 1) (nsort ((lft n (p ++ [t])).map e))) (lft n p) r (fun t ht => by
    rw [if_pos (pos t ht), List.length_map, gen_len e _ _ _ (by rw [List.length_erase_of_mem ht]; omega) (fun u _ => by have := he u; omega), lft_erase]) hr
  rw [d] at h
  rw [if_pos (pos t b), List.getElem?_map, lft_erase] at h
  cases hs : (gen e (n - (j + 1)) (j + 1) (lft n (p ++ [t])))[r']? with
  | none => rw [hs] at h; cases h
  | some suf' =>
    rw [hs] at h
    cases h
    exact ⟨t, r', suf', a, b, rfl, hs⟩
section
variable [F_is_int Φ] [F_is_full Φ] [F_check_full Φ] [F_check_both Φ]
theorem fair_at_x [F_better Φ] [F_ways Φ] [F_rest_ways Φ] [F_fair_at Φ] (n1 : 1 ≤ n) (n7 : n ≤ 7) (hl : Pm n l) (hm : Pm n m) {r : Int} (hr : ¬ (0 ≤ r ∧ r < (manyF n l m : Nat))) (g : G) : Φ (k + 5) 47 [.val (I l), .val (I m), .val (.int r)] g = .exc 1 g := by
  have fl := hl.full n1 n7
  have fm := hm.full n1 n7
  have ll := hl.len
  have lm := hm.len
  have ht : ∀ t ∈ rg 0 l.length, t ∈ l ∧ t ∈ m := fun t h => by
    rw [ll] at h
    exact ⟨(hl.mem t).mpr (mem_rg.mp h), (hm.mem t).mpr (mem_rg.mp h)⟩
  refine fn_ex (F_fair_at.eq _) rfl ?_
  unfold b_fair_at
  refine r_nx ⟨trivial, fl, fm, by omega⟩ ?_
  refine r_if1 ?_ ?_ (r_raise ⟨_, rfl⟩)
  · simp only [true_and, and_true]
    exact ⟨by omega, ht⟩
  · rw [ways_W hl hm]
    simp
    omega
theorem fair_at_v [F_better Φ] [F_ways Φ] [F_rest_ways Φ] [F_fair_at Φ] (n1 : 1 ≤ n) (n7 : n ≤ 7) (hl : Pm n l) (hm : Pm n m) {r : Nat} {row : List Int} (hr : (goodF n l m)[r]? = some row) (g : G) : Φ (k + 5) 47 [.val (I l), .val (I m), .val (.int r)] g = .ok (I row) g := by
  have fl := hl.full n1 n7
  have fm := hm.full n1 n7
  have ll := hl.len
  have lm := hm.len
  have ht : ∀ t ∈ rg 0 l.length, t ∈ l ∧ t ∈ m := fun t h => by
    rw [ll] at h
    exact ⟨(hl.mem t).mpr (mem_rg.mp h), (hm.mem t).mpr (mem_rg.mp h)⟩
  have hrm : r < manyF n l m := by
    rw [← good_len]
    exact (List.getElem?_eq_some_iff.mp hr).1
  refine r_fn (F_fair_at.eq _) rfl ?_
  unfold b_fair_at
  refine r_nx ⟨trivial, fl, fm, by omega⟩ ?_
  refine r_if0 ?_ ?_ ?_
  · simp only [true_and, and_true]
    exact ⟨by omega, ht⟩
  · rw [ways_W hl hm]
    simp
    omega
  refine r_nx (by
    simp only [true_and, and_true, lim]
    refine ⟨by omega, fun x hx => ⟨ht _ (mem_rg.mpr (by have := List.mem_range.mp hx; omega)), by omega⟩⟩) ?_
  have e1 : ((List.range l.length).map fun (x : Nat) => min (l.length : Int) (2 * (1 + min (l.idxOf (x : Int) : Int) (m.idxOf (x : Int) : Int)))) = ends l m := by
    simp [ends, rg, endOf, Function.comp_def]
  have e2 : ends l m = (rg 0 n).map fun t => (lpN n l m t : Int) := by
    rw [ends_cast ll, List.map_map]
    rfl
  rw [e1, e2]
  refine r_nx (by simp [lim]) ?_
  have he : ∀ t, lpN n l m t ≤ n := fun t => by unfold lpN; omega
  unfold goodF at hr
  generalize lpN n l m = e at hr he ⊢
  have h00 : ∀ t ∈ ([] : List Int), t ∈ rg 0 n := fun t h => by cases h
  have h01 : (gen e (n - 0) 0 (lft n []))[r]? = some row := by
    have : lft n [] = rg 0 n := by
      unfold lft
      rw [List.filter_eq_self]
      intro x _
      simp
    rw [this]
    exact hr
  refine r_whl (fun j r' g' => g' = g ∧ ∃ (p suf : List Int) (q : Nat) (c5 c6 : Cell), r' = [.val (I l), .val (I m), .val (.int (q : Int)), .val (I ((rg 0 n).map fun t => (e t : Int))), .val (I p), c5, c6] ∧ p.Nodup ∧ (∀ t ∈ p, t ∈ rg 0 n) ∧ p.length = j ∧ (gen e (n - j) j (lft n p))[q]? = some suf ∧ p ++ suf = row) n (by omega) ⟨rfl, [], row, r, _, _, rfl, .nil, h00, rfl, h01, rfl⟩ ?_ ?_ ?_
  · rintro j r' g' hj ⟨rfl, p, suf, q, c5, c6, rfl, nd, hp, hpj, hgen, hrow⟩
    refine ⟨evT_of (by simp) (by simp; omega), ?_⟩
    obtain ⟨t, q', suf', hs, htL, rfl, hgen'⟩ := gen_step nd hp hpj hj he hgen
    refine r_for3 (Q := Turn _) (by simp [lim]; omega) (fun i r'' g'' => g'' = g' ∧ ∃ (q2 : Nat) (c5 c6 : Cell), r'' = [.val (I l), .val (I m), .val (.int (q2 : Int)), .val (I ((rg 0 n).map fun t => (e t : Int))), .val (I p), c5, c6] ∧ sel (fun t => W (j + 1) (nsort ((lft n (p ++ [t])).map e))) (((rg 0 n).drop i).filter fun t => !decide (t ∈ p)) q2 = some (t, q')) (fun r'' g'' => g'' = g' ∧ ∃ (c5 c6 : Cell), r'' = [.val (I l), .val (I m), .val (.int (q' : Int)), .val (I ((rg 0 n).map fun t => (e t : Int))), .val (I (p ++ [t])), c5, c6]) ⟨rfl, q, _, _, rfl, hs⟩ ?_ ?_
    · rintro i x r'' g'' hx ⟨rfl, q2, c5, c6, rfl, hsel⟩
      obtain ⟨rfl, hi⟩ := rgAt hx
      have hi : x < n := by omega
      have hd : (rg 0 n).drop x = (x : Int) :: (rg 0 n).drop (x + 1) := by
        rw [List.drop_eq_getElem_cons (by rw [rg_len]; exact hi)]
        congr 1
        simp [rg]
      rw [hd, List.filter_cons] at hsel
      refine r_in (r_ite (by simp) (fun z => ?_) (fun z => ?_))
      · have z : (x : Int) ∈ p := by simpa using z
        rw [if_neg (by simpa using z)] at hsel
        exact r_thn_cont ⟨rfl, _, _, _, rfl, hsel⟩
      · have z : (x : Int) ∉ p := by simpa using z
        rw [if_pos (by simpa using z)] at hsel
        simp only [sel] at hsel
        have rw1 : CallP (Φ (k + 4)) 46 [.val (I ((rg 0 n).map fun t => (e t : Int))), .val (I (p ++ [(x : Int)])), .val (.int ((p.length : Int) + 1))] (.int (W (j + 1) (nsort ((lft n (p ++ [(x : Int)])).map e)) : Nat)) True := ⟨fun _ g => by
          have := rest_ways_v (Φ := Φ) (k := k + 3) (n := n) (e := e) (p := p ++ [(x : Int)]) (q := j + 1) n7 (fun t => by have := he t; omega) (by omega) g
          have e3 : ((j + 1 : Nat) : Int) = (p.length : Int) + 1 := by omega
          rw [e3] at this
          exact this⟩
        refine r_end (r_nx ?_ ?_)
        · simp [lim]
          omega
        refine r_ite (by simp) (fun y => ?_) (fun y => ?_)
        · have y : q2 < W (j + 1) (nsort ((lft n (p ++ [(x : Int)])).map e)) := by simpa using y
          rw [if_pos y] at hsel
          cases hsel
          refine r_nx ?_ (r_thn_brk ⟨rfl, _, _, rfl⟩)
          simp [lim]
          omega
        · have y : ¬ q2 < W (j + 1) (nsort ((lft n (p ++ [(x : Int)])).map e)) := by simpa using y
          rw [if_neg y] at hsel
          refine r_end (r_nx (by simp) (r_turn3 ⟨rfl, _, .val (.int (x : Nat)), .val (.int (W (j + 1) (nsort ((lft n (p ++ [(x : Int)])).map e)) : Nat)), ?_, hsel⟩))
          have : ((q2 - W (j + 1) (nsort ((lft n (p ++ [(x : Int)])).map e)) : Nat) : Int) = (q2 : Int) - (W (j + 1) (nsort ((lft n (p ++ [(x : Int)])).map e)) : Nat) := by omega
          rw [this]
    · rintro r'' g'' (⟨rfl, q2, c5, c6, rfl, hsel⟩ | ⟨rfl, c5, c6, rfl⟩)
      · rw [List.length_range, ll, List.drop_of_length_le (by rw [rg_len]; exact Nat.le_refl _)] at hsel
        cases hsel
      · obtain ⟨t1, t2⟩ := lft_mem.mp htL
        refine r_turn ⟨rfl, p ++ [t], suf', q', _, _, rfl, ?_, ?_, by simp [hpj], hgen', by simpa using hrow⟩
        · rw [List.nodup_append]
          refine ⟨nd, by simp, fun a ha b hb => ?_⟩
          rw [List.mem_singleton] at hb
          subst hb
          exact fun z => t2 (z ▸ ha)
        · intro u hu
          rcases List.mem_append.mp hu with z | z
          · exact hp u z
          · rw [List.mem_singleton.mp z]
            exact t1
  · rintro r' g' ⟨rfl, p, suf, q, c5, c6, rfl, nd, hp, hpj, hgen, hrow⟩
    exact evT_of (by simp) (by simp; omega)
  · rintro r' g' ⟨rfl, p, suf, q, c5, c6, rfl, nd, hp, hpj, hgen, hrow⟩
    rw [Nat.sub_self] at hgen
    simp only [gen] at hgen
    have : suf = [] := by
      have := List.mem_of_getElem? hgen
      simpa using this
    subst this
    rw [List.append_nil] at hrow
    exact r_retE trivial (by rw [hrow])
end
end
end Tl
end
section
set_option Elab.async false
set_option linter.all false
set_option autoImplicit false
set_option maxRecDepth 100000
set_option maxHeartbeats 0
namespace Tl
open PySem PySem.Spec PyProof.Rows L2
def top (i : Nat) : Stmt := PySem.Challenge.pw_toplists_k04_whole_fair.main.body.getD i (.Pass ⟨0, 0, 0, 0⟩)
def b_theLaw : Sm := (.cons (.asg 2 (.bi .add (.con (.int (1))) (.call 0 (.cons (.var 1) (.cons (.con (.int (6))) .nil)))))
  (.cons (.par (.three 3 4 5) [false, false, false] (.cons (.call 18 (.cons (.var 1) (.cons (.var 2) .nil))) (.cons (.call 18 (.cons (.var 1) (.cons (.var 2) .nil))) (.cons (.call 18 (.cons (.var 1) (.cons (.var 2) .nil))) .nil))))
  (.cons (.mk 6 (.lst .nil))
  (.cons (.for_ (.nm 7) (.itl (.call 34 (.cons (.var 2) .nil)))
  (.cons (.asg 8 (.lc (.nm 15) (.rng2 (.con (.int (1))) (.bi .add (.var 2) (.con (.int (1))))) (.bi .ne (.lc (.nm 11) (.itl (.bi .add (.bi .upto (.var 3) (.var 15)) (.bi .upto (.var 4) (.var 15)))) (.bi .notin (.var 11) (.bi .upto (.var 7) (.bi .mul (.con (.int (2))) (.var 15)))) (.var 11)) (.lst .nil)) (.var 15)))
  (.cons (.ite (.bi .eq (.var 8) (.lst .nil))
  (.cons (.app 6 (.var 7))
  .nil)
  .nil)
  (.cons (.ite (.and (.bi .eq (.var 7) (.var 5)) (.bi .ne (.call 41 (.cons (.var 3) (.cons (.var 4) (.cons (.var 5) .nil)))) (.ite (.bi .ne (.var 8) (.lst .nil)) (.bi .idx (.var 8) (.con (.int (0)))) (.con .none))))
  (.cons (.ret (.con (.bool false)))
  .nil)
  .nil)
  .nil))))
  (.cons (.ite (.or (.un .notv (.call 33 (.cons (.call 40 (.cons (.var 3) (.cons (.var 4) (.cons (.var 5) .nil)))) (.cons (.bi .isin (.var 5) (.var 6)) .nil)))) (.or (.bi .ne (.call 45 (.cons (.var 3) (.cons (.var 4) .nil))) (.un .len (.var 6))) (.bi .eq (.var 6) (.lst .nil))))
  (.cons (.ret (.con (.bool false)))
  .nil)
  .nil)
  (.cons (.for_ (.nm 9) (.itl (.lst (.cons (.con (.int (0))) (.cons (.bi .sub (.un .len (.var 6)) (.con (.int (1)))) (.cons (.call 0 (.cons (.var 1) (.cons (.un .len (.var 6)) .nil))) .nil)))))
  (.cons (.ite (.bi .ne (.call 48 (.cons (.var 1) (.cons (.var 3) (.cons (.var 4) (.cons (.var 9) .nil))))) (.bi .idx (.var 6) (.var 9)))
  (.cons (.ret (.con (.bool false)))
  .nil)
  .nil)
  .nil))
  (.cons (.ite (.bi .ne (.call 48 (.cons (.var 1) (.cons (.var 3) (.cons (.var 4) (.cons (.un .len (.var 6)) .nil))))) (.con (.str "number")))
  (.cons (.ret (.con (.bool false)))
  .nil)
  .nil)
  (.cons (.asg 10 (.call 42 (.cons (.var 3) (.cons (.var 4) .nil))))
  (.cons (.for_ (.nm 11) (.rng1 (.var 2))
  (.cons (.frz 6)
  (.cons (.ite (.bi .ne (.bi .idx (.var 10) (.var 11)) (.un .max1 (.lc (.nm 7) (.itl (.var 6)) (.con (.bool true)) (.bi .add (.bi .index (.var 7) (.var 11)) (.con (.int (1)))))))
  (.cons (.ret (.con (.bool false)))
  .nil)
  .nil)
  .nil)))
  (.cons (.ite (.bi .ne (.bi .isin (.var 5) (.var 6)) (.bi .eq (.lc (.nm 11) (.rng1 (.var 2)) (.bi .ge (.bi .index (.var 5) (.var 11)) (.bi .idx (.var 10) (.var 11))) (.var 11)) (.lst .nil)))
  (.cons (.ret (.con (.bool false)))
  .nil)
  .nil)
  (.cons (.asg 12 (.call 43 (.cons (.var 3) (.cons (.var 4) .nil))))
  (.cons (.asg 13 (.lst .nil))
  (.cons (.for_ (.nm 14) (.rng1 (.var 2))
  (.cons (.for_ (.nm 11) (.itt (.tup (.cons (.bi .idx (.var 3) (.var 14)) (.cons (.bi .idx (.var 4) (.var 14)) .nil))))
  (.cons (.ite (.bi .notin (.var 11) (.var 13))
  (.cons (.asg 13 (.bi .add (.var 13) (.lst (.cons (.var 11) .nil))))
  .nil)
  .nil)
  .nil))
  .nil))
  (.cons (.ret (.and (.bi .eq (.var 12) (.var 13)) (.and (.bi .isin (.var 12) (.var 6)) (.bi .eq (.call 45 (.cons (.var 4) (.cons (.var 3) .nil))) (.un .len (.var 6))))))
  .nil))))))))))))))
def gs0 : List (Str × D) := [("MOST_THINGS", .int 7)]
def cn0 : List Str := ["BadList", "BadNumber", "BadRow", "BadShort", "BadText", "NotFound"]
def d_is_int : Df := ⟨"is_int", top 9, ["value", "low", "high"], ["value", "low", "high"], b_is_int⟩
def d_is_full : Df := ⟨"is_full", top 10, ["value"], ["value", "thing"], b_is_full⟩
def d_check_full : Df := ⟨"check_full", top 11, ["value"], ["value"], b_check_full⟩
def d_check_both : Df := ⟨"check_both", top 12, ["one", "other"], ["one", "other"], b_check_both⟩
def d_better : Df := ⟨"better", top 14, ["one", "other", "thing"], ["one", "other", "thing"], b_better⟩
def d_is_fair : Df := ⟨"is_fair", top 15, ["one", "other", "joint"], ["one", "other", "joint", "j", "thing"], b_is_fair⟩
def d_is_fair_list : Df := ⟨"is_fair_list", top 16, ["one", "other", "joint"], ["one", "other", "joint"], b_is_fair_list⟩
def d_first_unfair : Df := ⟨"first_unfair", top 17, ["one", "other", "joint"], ["one", "other", "joint", "j", "thing"], b_first_unfair⟩
def d_last_places : Df := ⟨"last_places", top 18, ["one", "other"], ["one", "other", "thing"], b_last_places⟩
def d_by_turns : Df := ⟨"by_turns", top 19, ["one", "other"], ["one", "other", "found", "first", "second", "thing"], b_by_turns⟩
def d_ways : Df := ⟨"ways", top 20, ["one", "other"], ["one", "other", "ends", "found", "k", "end", "thing"], b_ways⟩
def d_count_fair : Df := ⟨"count_fair", top 21, ["one", "other"], ["one", "other"], b_count_fair⟩
def d_rest_ways : Df := ⟨"rest_ways", top 22, ["ends", "used", "place"], ["ends", "used", "place", "left", "found", "k", "end", "thing"], b_rest_ways⟩
def d_fair_at : Df := ⟨"fair_at", top 23, ["one", "other", "rank"], ["one", "other", "rank", "ends", "found", "thing", "many"], b_fair_at⟩
def d_law_pick : Df := ⟨"_law_pick", top 27, ["draws", "choices"], ["draws", "choices"], b_law_pick⟩
def d_law_error : Df := ⟨"_law_error", top 28, ["caught"], ["caught", "kinds"], b_law_error⟩
def d_law_true : Df := ⟨"_law_true", top 29, ["value", "expected"], ["value", "expected"], b_law_true⟩
def d_law_list : Df := ⟨"_law_list", top 30, ["draws", "size"], ["draws", "size", "left", "found", "thing"], b_law_list⟩
def d_law_all : Df := ⟨"_law_all", top 31, ["size"], ["size", "rows", "k", "longer_rows", "row", "thing"], b_law_all⟩
def d_law_fair : Df := ⟨"_law_fair", top 32, ["draws", "one", "other", "rank"], ["draws", "one", "other", "rank", "found", "caught", "e"], b_law_fair⟩
def ds0 : List (Nat × Df) := [(1, d_is_int), (2, d_is_full), (3, d_check_full), (4, d_check_both), (38, d_better), (39, d_is_fair), (40, d_is_fair_list), (41, d_first_unfair), (42, d_last_places), (43, d_by_turns), (44, d_ways), (45, d_count_fair), (46, d_rest_ways), (47, d_fair_at), (17, d_law_pick), (36, d_law_error), (33, d_law_true), (18, d_law_list), (34, d_law_all), (48, d_law_fair)]
def T0 : Tab := tab nmAll ds0 gs0 cn0
theorem ok_d1 : DfOk T0 1 d_is_int := ⟨by decide +kernel, fun _ _ _ _ _ _ us hl => match us, hl with | [_, _, _], _ => rfl, ⟨rfl, rfl, rfl, by decide +kernel, rfl, by decide +kernel, by decide +kernel⟩, by decide +kernel⟩
theorem ok_d2 : DfOk T0 2 d_is_full := ⟨by decide +kernel, fun _ _ _ _ _ _ us hl => match us, hl with | [_], _ => rfl, ⟨rfl, rfl, rfl, by decide +kernel, rfl, by decide +kernel, by decide +kernel⟩, by decide +kernel⟩
theorem ok_d3 : DfOk T0 3 d_check_full := ⟨by decide +kernel, fun _ _ _ _ _ _ us hl => match us, hl with | [_], _ => rfl, ⟨rfl, rfl, rfl, by decide +kernel, rfl, by decide +kernel, by decide +kernel⟩, by decide +kernel⟩
theorem ok_d4 : DfOk T0 4 d_check_both := ⟨by decide +kernel, fun _ _ _ _ _ _ us hl => match us, hl with | [_, _], _ => rfl, ⟨rfl, rfl, rfl, by decide +kernel, rfl, by decide +kernel, by decide +kernel⟩, by decide +kernel⟩
theorem ok_d38 : DfOk T0 38 d_better := ⟨by decide +kernel, fun _ _ _ _ _ _ us hl => match us, hl with | [_, _, _], _ => rfl, ⟨rfl, rfl, rfl, by decide +kernel, rfl, by decide +kernel, by decide +kernel⟩, by decide +kernel⟩
theorem ok_d39 : DfOk T0 39 d_is_fair := ⟨by decide +kernel, fun _ _ _ _ _ _ us hl => match us, hl with | [_, _, _], _ => rfl, ⟨rfl, rfl, rfl, by decide +kernel, rfl, by decide +kernel, by decide +kernel⟩, by decide +kernel⟩
theorem ok_d40 : DfOk T0 40 d_is_fair_list := ⟨by decide +kernel, fun _ _ _ _ _ _ us hl => match us, hl with | [_, _, _], _ => rfl, ⟨rfl, rfl, rfl, by decide +kernel, rfl, by decide +kernel, by decide +kernel⟩, by decide +kernel⟩
theorem ok_d41 : DfOk T0 41 d_first_unfair := ⟨by decide +kernel, fun _ _ _ _ _ _ us hl => match us, hl with | [_, _, _], _ => rfl, ⟨rfl, rfl, rfl, by decide +kernel, rfl, by decide +kernel, by decide +kernel⟩, by decide +kernel⟩
theorem ok_d42 : DfOk T0 42 d_last_places := ⟨by decide +kernel, fun _ _ _ _ _ _ us hl => match us, hl with | [_, _], _ => rfl, ⟨rfl, rfl, rfl, by decide +kernel, rfl, by decide +kernel, by decide +kernel⟩, by decide +kernel⟩
theorem ok_d43 : DfOk T0 43 d_by_turns := ⟨by decide +kernel, fun _ _ _ _ _ _ us hl => match us, hl with | [_, _], _ => rfl, ⟨rfl, rfl, rfl, by decide +kernel, rfl, by decide +kernel, by decide +kernel⟩, by decide +kernel⟩
theorem ok_d44 : DfOk T0 44 d_ways := ⟨by decide +kernel, fun _ _ _ _ _ _ us hl => match us, hl with | [_, _], _ => rfl, ⟨rfl, rfl, rfl, by decide +kernel, rfl, by decide +kernel, by decide +kernel⟩, by decide +kernel⟩
theorem ok_d45 : DfOk T0 45 d_count_fair := ⟨by decide +kernel, fun _ _ _ _ _ _ us hl => match us, hl with | [_, _], _ => rfl, ⟨rfl, rfl, rfl, by decide +kernel, rfl, by decide +kernel, by decide +kernel⟩, by decide +kernel⟩
theorem ok_d46 : DfOk T0 46 d_rest_ways := ⟨by decide +kernel, fun _ _ _ _ _ _ us hl => match us, hl with | [_, _, _], _ => rfl, ⟨rfl, rfl, rfl, by decide +kernel, rfl, by decide +kernel, by decide +kernel⟩, by decide +kernel⟩
theorem ok_d47 : DfOk T0 47 d_fair_at := ⟨by decide +kernel, fun _ _ _ _ _ _ us hl => match us, hl with | [_, _, _], _ => rfl, ⟨rfl, rfl, rfl, by decide +kernel, rfl, by decide +kernel, by decide +kernel⟩, by decide +kernel⟩
theorem ok_d17 : DfOk T0 17 d_law_pick := ⟨by decide +kernel, fun _ _ _ _ _ _ us hl => match us, hl with | [_, _], _ => rfl, ⟨rfl, rfl, rfl, by decide +kernel, rfl, by decide +kernel, by decide +kernel⟩, by decide +kernel⟩
theorem ok_d36 : DfOk T0 36 d_law_error := ⟨by decide +kernel, fun _ _ _ _ _ _ us hl => match us, hl with | [_], _ => rfl, ⟨rfl, rfl, rfl, by decide +kernel, rfl, by decide +kernel, by decide +kernel⟩, by decide +kernel⟩
theorem ok_d33 : DfOk T0 33 d_law_true := ⟨by decide +kernel, fun _ _ _ _ _ _ us hl => match us, hl with | [_, _], _ => rfl, ⟨rfl, rfl, rfl, by decide +kernel, rfl, by decide +kernel, by decide +kernel⟩, by decide +kernel⟩
theorem ok_d18 : DfOk T0 18 d_law_list := ⟨by decide +kernel, fun _ _ _ _ _ _ us hl => match us, hl with | [_, _], _ => rfl, ⟨rfl, rfl, rfl, by decide +kernel, rfl, by decide +kernel, by decide +kernel⟩, by decide +kernel⟩
theorem ok_d34 : DfOk T0 34 d_law_all := ⟨by decide +kernel, fun _ _ _ _ _ _ us hl => match us, hl with | [_], _ => rfl, ⟨rfl, rfl, rfl, by decide +kernel, rfl, by decide +kernel, by decide +kernel⟩, by decide +kernel⟩
theorem ok_d48 : DfOk T0 48 d_law_fair := ⟨by decide +kernel, fun _ _ _ _ _ _ us hl => match us, hl with | [_, _, _, _], _ => rfl, ⟨rfl, rfl, rfl, by decide +kernel, rfl, by decide +kernel, by decide +kernel⟩, by decide +kernel⟩
theorem ok_all : ∀ p ∈ ds0, DfOk T0 p.1 p.2 :=
  (all_cons ok_d1
  (all_cons ok_d2
  (all_cons ok_d3
  (all_cons ok_d4
  (all_cons ok_d38
  (all_cons ok_d39
  (all_cons ok_d40
  (all_cons ok_d41
  (all_cons ok_d42
  (all_cons ok_d43
  (all_cons ok_d44
  (all_cons ok_d45
  (all_cons ok_d46
  (all_cons ok_d47
  (all_cons ok_d17
  (all_cons ok_d36
  (all_cons ok_d33
  (all_cons ok_d18
  (all_cons ok_d34
  (all_cons ok_d48
  (fun _ h => by cases h)))))))))))))))))))))
instance : F_is_int (phi ds0) := ⟨fun _ => rfl⟩
instance : F_is_full (phi ds0) := ⟨fun _ => rfl⟩
instance : F_check_full (phi ds0) := ⟨fun _ => rfl⟩
instance : F_check_both (phi ds0) := ⟨fun _ => rfl⟩
instance : F_better (phi ds0) := ⟨fun _ => rfl⟩
instance : F_is_fair (phi ds0) := ⟨fun _ => rfl⟩
instance : F_is_fair_list (phi ds0) := ⟨fun _ => rfl⟩
instance : F_first_unfair (phi ds0) := ⟨fun _ => rfl⟩
instance : F_last_places (phi ds0) := ⟨fun _ => rfl⟩
instance : F_by_turns (phi ds0) := ⟨fun _ => rfl⟩
instance : F_ways (phi ds0) := ⟨fun _ => rfl⟩
instance : F_count_fair (phi ds0) := ⟨fun _ => rfl⟩
instance : F_rest_ways (phi ds0) := ⟨fun _ => rfl⟩
instance : F_fair_at (phi ds0) := ⟨fun _ => rfl⟩
instance : F_law_pick (phi ds0) := ⟨fun _ => rfl⟩
instance : F_law_error (phi ds0) := ⟨fun _ => rfl⟩
instance : F_law_true (phi ds0) := ⟨fun _ => rfl⟩
instance : F_law_list (phi ds0) := ⟨fun _ => rfl⟩
instance : F_law_all (phi ds0) := ⟨fun _ => rfl⟩
instance : F_law_fair (phi ds0) := ⟨fun _ => rfl⟩
def nLaw : List Str := ["script", "draws", "size", "one", "other", "joint", "good", "row", "bad", "rank", "ends", "thing", "told", "due", "k", "j"]
theorem sc_law : FnScope nLaw ["script"] (defScope (top 33)) := ⟨rfl, rfl, rfl, by decide +kernel, rfl, by decide +kernel, by decide +kernel⟩
theorem ok_law : okLaw T0 ⟨nLaw, defScope (top 33), fun _ => true⟩ b_theLaw (defBody (top 33)) = true := by decide +kernel

section
variable {P : Program} {w : World} {K : PySem.W.Frag} {mg : Str → Option Value} {base : Heap} {cl : Cls} {f : Addr} {fd : FuncData} {kws : List (Str × V)}
abbrev sStart : Stmt := top 25
abbrev sDraw : Stmt := top 26
abbrev sLaw : Stmt := top 33
theorem sc_draw : FnScope nDraw ["draws", "limit"] (defScope sDraw) := ⟨rfl, rfl, rfl, by decide +kernel, rfl, by decide +kernel, by decide +kernel⟩
theorem sc_start : FnScope ["script"] ["script"] (defScope sStart) := ⟨rfl, rfl, rfl, by decide +kernel, rfl, by decide +kernel, by decide +kernel⟩
theorem ok_draw (F : FunD K "_law_draw" "_law_draw" (defArgs sDraw) (defBody sDraw) (defScope sDraw) [] kws f fd) (gL : mg "len" = none) : FnOk P w K mg base (L2.CX P w) 1 f fd ["draws", "limit"] (spF cl mDraw) := by
  refine F.ok sc_draw (fun vs H Q E h => ?_) fun cdv A outer s H vs Q E hr h => ?_
  · obtain ⟨a, n, ns, c, l, rfl, _⟩ := draw_open h
    rfl
  · refine ⟨tDraw K, pss_cons (ps_set (i := 2) sc_draw.nd rfl (.inl rfl) (pe_ix ix_list (pv 0) pe_int fun _ _ => rfl))
      (pss_cons (ps_asg (pe_op op_add (pe_ix ix_list (pv 0) pe_int fun _ _ => rfl) pe_int) (pg_sub (pv 0) pe_int set_list fun _ => rfl))
      (pss_cons (ps_set (i := 3) sc_draw.nd rfl (.inl rfl) (pe_op op_mod (pe_ix ix_list (pv 0) pe_int fun _ _ => rfl) (pe_callB call_len rfl gL boot_len (pa_cons (pv 2) pa_nil))))
      (pss_cons (ps_set (i := 4) sc_draw.nd rfl (.inl rfl) (pe_ix ix_list (pv 2) (pv 3) fun _ _ => rfl))
      (pss_cons (ps_if (pt_cmp (pc_ge (pv 4) pe_int)) (pss_cons (ps_asg (pe_op op_fdiv (pv 4) (pv 1)) (pg_sub (pv 2) (pv 3) set_list fun _ => rfl)) (pss_one (ps_ret (pe_op op_mod (pv 4) (pv 1))))) pss_nil)
      (pss_cons (ps_set (i := 5) sc_draw.nd rfl (.inl rfl) (pe_op op_mod (pe_op op_add (pv 4) (pe_op op_mul pe_int (pe_ix ix_list (pv 0) pe_int fun _ _ => rfl))) pe_int))
      (pss_cons (ps_set (i := 5) sc_draw.nd rfl (.inl rfl) (pe_op op_mod (pe_op op_pow (pv 5) pe_int) pe_int))
      (pss_one (ps_ret (pe_op op_mod (pe_op op_fdiv (pe_op op_mod (pe_op op_add (pe_op op_mul (pe_op op_fdiv (pv 5) pe_int) pe_int) (pv 5)) pe_int) pe_int) (pv 1)))))))))), draw_run h⟩
theorem ok_start (F : FunD K "_law_start" "_law_start" (defArgs sStart) (defBody sStart) (defScope sStart) [] kws f fd) (gL : mg "list" = none) : FnOk P w K mg base (L2.CX P w) 1 f fd ["script"] (spStart K) := by
  refine F.ok sc_start (fun vs H Q E h => ?_) fun cdv A outer s H vs Q E hr h => ?_
  · obtain ⟨a, ns, rfl, _⟩ := h
    rfl
  · refine ⟨tStart K, pss_one (ps_ret (pe_lst (pa_cons (pe_ifExp (pt_cmpR (op_neD ?_) (pv 0) (pe_lst pa_nil) (nomark _)) (pe_callTy call_list_of rfl gL boot_list (pa_cons (pv 0) pa_nil)) (pe_lst (pa_cons pe_int pa_nil))) (pa_cons pe_int pa_nil)))), start_run h⟩
    have := hr.un
    show (A.deeper (envOfC "_law_start" (defScope sStart) s.heap.objs.size f cdv)).units + 64 < cLine
    omega
end
abbrev RR : PySem.W.OpenRow := PySem.W.OpenLaw.row PySem.Challenge.rw_toplists_k04_whole_fair
def fa0 : List He.Fa := faOf ds0 gs0 cn0
def fn0 : List He.DefD := fnOf ds0 sDraw sStart sLaw
abbrev hk0 : PySem.W.Hook := hookE 4 fa0 fn0 cn0
def ob0 (s : PySem.W.SharedT) : He.AlD × Bool := obsE 4 fa0 fn0 cn0 (HandSHeadRun.getT s)
theorem ob0_eq (s : PySem.W.SharedT) : ob0 s = hk0.obs s.abs := obsE_eq (HandSHeadRun.getT_eq s)
def loose0_0 : List Str := ["ListError", "BadList", "BadNumber", "BadRow", "BadShort", "BadText", "NotFound", "MOST_THINGS", "is_int", "is_full", "check_full", "check_both", "better", "is_fair", "is_fair_list", "first_unfair", "last_places", "by_turns", "ways", "count_fair", "rest_ways", "fair_at", "_law_start", "_law_draw", "_law_pick", "_law_error", "_law_true", "_law_list", "_law_all", "_law_fair"]
def loose0 : List Str := loose0_0
theorem run0 (w : World) : HandSHeadRun.RunEq RR (PySem.W.view RR.prog [33]) hk0 ob0 6000 loose0 w := by
  intro os
  kernel_rfl
theorem facts0 {P : Program} {w : World} {K : PySem.W.Frag} {h : Heap} {mg : Str → Option Value} {f : Addr} (X : K.In h) (G : h.Ns mainGlobals mg) (hfa : mg ("law" : Str) = some (.ref f)) (c : He.SaysD fa0 fn0 K) (cx : exB cn0 K = true)
    (hm : ∀ ns : List Int, ns ≠ [] → ns.length ≤ 1000 → ∃ g, evS (phi ds0 20) b_theLaw (.und :: .drw :: List.replicate (nLaw.length - 2) .und) (some (ns, 0)) = .rt (.bool true) g) :
    ∃ fd : FuncData, (∀ (s : Shared) (v : Value), BindsTo s fd ⟨[v], []⟩ [("script", v)]) ∧ ∀ base : Heap, K.In base → base.Ns mainGlobals mg → FnOk P w K mg base (L2.CX P w) 21 f fd ["script"] (spLaw K) :=
  law_end X G hfa c cx (by decide +kernel) rfl ok_all (k := 19) sc_law ok_law (by decide) (fun _ _ _ _ _ _ us hl => match us, hl with | [_, _], _ => rfl) (fun _ _ _ _ _ _ us hl => match us, hl with | [_], _ => rfl) (fun _ _ _ _ _ _ us hl => match us, hl with | [_], _ => rfl) ok_draw ok_start hm

end Tl
end
section
set_option Elab.async false
set_option linter.all false
set_option autoImplicit false
set_option synthInstance.maxHeartbeats 400000
set_option synthInstance.maxSize 2000
set_option maxRecDepth 100000
namespace Tl
open PySem
instance : F_draw (phi ds0) := ⟨fun _ => rfl⟩
abbrev II4 (ls : List (List Int)) : D := .list (ls.map fun y => .list (y.map .int))
theorem drawF {k : Nat} : ∀ g, Good g → ∀ l : Int, 0 < l → l < 1000 → ∃ v g', phi ds0 (k + 1) 0 [.drw, .val (.int l)] g = .ok (.int v) g' ∧ Good g' ∧ 0 ≤ v ∧ v < l := fun g hg l h1 h2 => draw_v hg l h1 (by omega)
theorem listF {k n : Nat} (h : n ≤ 900) : ∀ g, Good g → ∃ (l : List Int) (g' : G), phi ds0 (k + 3) 18 [.drw, .val (.int n)] g = .ok (I l) g' ∧ Good g' ∧ List.Perm l (rg 0 n) := fun g hg => law_list_v hg n h
theorem sumN_le {α : Type} {f : α → Nat} {c : Nat} : ∀ {l : List α}, (∀ x ∈ l, f x ≤ c) → sumN f l ≤ c * l.length
  | [], _ => by simp [sumN]
  | x :: l, h => by
    have a := h x (.head _)
    have b := sumN_le (l := l) fun y hy => h y (.tail _ hy)
    simp only [sumN, List.length_cons, Nat.mul_add, Nat.mul_one]
    omega
theorem lft_le (n : Nat) (p : List Int) : (lft n p).length ≤ n := by
  have : (lft n p).length ≤ (rg 0 n).length := List.length_filter_le _ _
  rw [rg_len] at this
  exact this
theorem ext_le (n : Nat) (rows : List (List Int)) : (rows.flatMap fun row => (lft n row).map fun t => row ++ [t]).length ≤ n * rows.length := by
  rw [len_flatMap]
  exact sumN_le fun row _ => by rw [List.length_map]; exact lft_le n row
theorem lvA_le {n : Nat} (h : n ≤ 6) : ∀ i, i ≤ 6 → (lvA n i).length ≤ 6 ^ i
  | 0, _ => by simp [lvA]
  | i + 1, hi => by
    rw [lvA_succ]
    have a := ext_le n (lvA n i)
    have b := lvA_le h i (by omega)
    rw [Nat.pow_succ]
    have c : n * (lvA n i).length ≤ 6 * 6 ^ i := Nat.mul_le_mul h b
    omega
theorem lvA_lim {n : Nat} (h : n ≤ 6) {i : Nat} (hi : i ≤ 6) : (lvA n i).length ≤ 46656 := Nat.le_trans (lvA_le h i hi) (Nat.le_trans (Nat.pow_le_pow_right (by omega) hi) (by decide))
theorem lvA_row (n : Nat) : ∀ i, ∀ row ∈ lvA n i, row.length = i
  | 0, row, h => by
    simp [lvA] at h
    rw [h]
    rfl
  | i + 1, row, h => by
    rw [lvA_succ, List.mem_flatMap] at h
    obtain ⟨p, hp, h⟩ := h
    obtain ⟨t, _, rfl⟩ := List.mem_map.mp h
    rw [List.length_append, lvA_row n i p hp]
    rfl
theorem law_all_v {k n : Nat} (h6 : n ≤ 6) (g : G) : phi ds0 (k + 1) 34 [.val (.int n)] g = .ok (II4 (lvA n n)) g := by
  refine r_fn (F_law_all.eq _) rfl ?_
  unfold b_law_all
  refine r_nx (by simp [lim]) ?_
  refine r_for (by simp [lim]; omega) (fun i r g' => g' = g ∧ ∃ R c2 c3 c4 c5, r = [.val (.int n), .val (II4 R), c2, c3, c4, c5] ∧ R = lvA n i) ⟨rfl, [[]], _, _, _, _, rfl, rfl⟩ ?_ ?_
  · rintro i x r g' hx ⟨rfl, R, c2, c3, c4, c5, rfl, hR⟩
    obtain ⟨rfl, hi⟩ := rgAt hx
    refine r_in (r_nx (by simp [lim]) ?_)
    refine r_for (by trivial) (fun j r g'' => g'' = g' ∧ ∃ S c4 c5, r = [.val (.int n), .val (II4 R), .val (.int (x : Nat)), .val (II4 S), c4, c5] ∧ S = (R.take j).flatMap fun row => (lft n row).map fun t => row ++ [t]) ⟨rfl, [], _, _, rfl, rfl⟩ ?_ ?_
    · rintro j row r g'' hx ⟨rfl, S, c4, c5, rfl, hS⟩
      have hrow : row ∈ lvA n x := hR ▸ List.mem_of_getElem? hx
      have lrow := lvA_row n x row hrow
      have lS : S.length ≤ 6 * 46656 := by
        rw [hS]
        refine Nat.le_trans (ext_le n _) (Nat.mul_le_mul h6 ?_)
        rw [List.length_take, hR]
        have := lvA_lim h6 (i := x) (by omega)
        omega
      have ee : ((List.range n).filter (fun (x : Nat) => !decide ((x : Int) ∈ row))).map (fun (x : Nat) => row ++ [(x : Int)]) = (lft n row).map fun t => row ++ [t] := by
        unfold lft rg
        rw [List.filter_map, List.map_map]
        have : (List.range n).filter ((fun t => !decide (t ∈ row)) ∘ fun (i : Nat) => (0 : Int) + (i : Int)) = (List.range n).filter (fun (x : Nat) => !decide ((x : Int) ∈ row)) := List.filter_congr fun i _ => by simp
        rw [this]
        exact List.map_congr_left fun i _ => by simp
      refine r_in (r_nx ?_ (r_turn ⟨rfl, _, _, _, rfl, ?_⟩))
      · simp only [true_and, and_true, lim, List.length_map, List.length_singleton]
        refine ⟨⟨by omega, fun y _ _ => ⟨by omega, by omega⟩⟩, ?_⟩
        have : (List.filter (fun (x : Nat) => !decide ((x : Int) ∈ row)) (List.range n)).length ≤ n := by
          have := List.length_filter_le (fun (x : Nat) => !decide ((x : Int) ∈ row)) (List.range n)
          rw [List.length_range] at this
          exact this
        omega
      · rw [ee, hS, List.take_add_one, hx, List.flatMap_append]
        simp
    · rintro r g'' ⟨rfl, S, c4, c5, rfl, hS⟩
      rw [List.take_length] at hS
      refine r_nx trivial (r_turn ⟨rfl, _, _, _, _, _, rfl, ?_⟩)
      rw [hS, hR, lvA_succ]
  · rintro r g' ⟨rfl, R, c2, c3, c4, c5, rfl, hR⟩
    rw [List.length_range] at hR
    exact r_retE trivial (by rw [hR])
theorem law_fair_v {k n : Nat} {l m : List Int} (n1 : 1 ≤ n) (n7 : n ≤ 7) (hl : Pm n l) (hm : Pm n m) {r : Nat} {row : List Int} (hr : (goodF n l m)[r]? = some row) (g : G) : phi ds0 (k + 6) 48 [.drw, .val (I l), .val (I m), .val (.int r)] g = .ok (I row) g := by
  have cf : CallP (phi ds0 (k + 5)) 47 [.val (I l), .val (I m), .val (.int r)] (I row) True := ⟨fun _ g => fair_at_v (Φ := phi ds0) (k := k) n1 n7 hl hm hr g⟩
  refine r_fn (F_law_fair.eq _) rfl ?_
  unfold b_law_fair
  refine r_nx trivial (r_nx trivial (r_nx (by simp) ?_))
  exact r_retE trivial rfl
theorem law_fair_x {k n : Nat} {l m : List Int} (n1 : 1 ≤ n) (n7 : n ≤ 7) (hl : Pm n l) (hm : Pm n m) {r : Int} (hr : ¬ (0 ≤ r ∧ r < (manyF n l m : Nat))) (g : G) : phi ds0 (k + 6) 48 [.drw, .val (I l), .val (I m), .val (.int r)] g = .ok (.str "number") g := by
  have e := fair_at_x (Φ := phi ds0) (k := k) n1 n7 hl hm hr g
  refine r_fn (F_law_fair.eq _) rfl ?_
  unfold b_law_fair
  refine r_nx trivial (r_nx trivial ?_)
  refine r_by (s := [.drw, .val (I l), .val (I m), .val (.int r), .val .none, .exn 1, .und]) (g' := g) (by simp [evS, evE, evA, cell?, e, R.st]) ?_
  exact r_retE (by simp) rfl
theorem law_run (g : G) (hg : Good g) : Run Tru (phi ds0 20) b_theLaw [.und, .drw, .und, .und, .und, .und, .und, .und, .und, .und, .und, .und, .und, .und, .und, .und] g := by
  unfold b_theLaw
  refine r_size (F := phi ds0 20) 1 6 drawF hg (by omega) (by omega) fun n g1 n1 n7 hg1 => ?_
  dsimp only [List.set]
  have n6 : n ≤ 6 := by omega
  have n7 : n ≤ 7 := by omega
  obtain ⟨l, g2, e2, hg2, p2⟩ := listF (k := 17) (n := n) (by omega) g1 hg1
  obtain ⟨m, g3, e3, hg3, p3⟩ := listF (k := 17) (n := n) (by omega) g2 hg2
  obtain ⟨w, g4, e4, hg4, p4⟩ := listF (k := 17) (n := n) (by omega) g3 hg3
  refine r_by (s := [.und, .drw, .val (.int n), .val (I l), .val (I m), .val (I w), .und, .und, .und, .und, .und, .und, .und, .und, .und, .und]) (g' := g4) (by simp [evS, evE, evA, cell?, e2, e3, e4, setPar, setO]) ?_
  have hl := pm_of p2
  have hm := pm_of p3
  have hw := pm_of p4
  have fl := hl.full n1 n7
  have fm := hm.full n1 n7
  have fw := hw.full n1 n7
  have ll : l.length = n := hl.len
  have lm : m.length = n := hm.len
  have lw : w.length = n := hw.len
  have ht : ∀ t ∈ rg 0 l.length, t ∈ l ∧ t ∈ m := fun t h => by
    rw [ll] at h
    exact ⟨(hl.mem t).mpr (mem_rg.mp h), (hm.mem t).mpr (mem_rg.mp h)⟩
  have ht' : ∀ t ∈ rg 0 m.length, t ∈ m ∧ t ∈ l := fun t h => by
    rw [lm] at h
    exact ⟨(hm.mem t).mpr (mem_rg.mp h), (hl.mem t).mpr (mem_rg.mp h)⟩
  have e5 : ((n : Int) + 1 - 1).toNat = n := by omega
  have la : CallP (phi ds0 20) 34 [.val (.int n)] (.list ((lvA n n).map fun y => .list (y.map .int))) True := ⟨fun _ g => law_all_v (k := 19) n6 g⟩
  have hall : ∀ row, row ∈ lvA n n ↔ row.Perm (rg 0 n) := fun row => by rw [lvA_all, genA_mem n _ _ (rg_len n)]
  refine r_nx (by simp [lim]) ?_
  refine r_for (by trivial) (fun i r g' => g' = g4 ∧ ∃ C c7 c8 c11 c15, r = [.und, .drw, .val (.int n), .val (I l), .val (I m), .val (I w), .own (C.map fun y => .list (y.map .int)), c7, c8, .und, .und, c11, .und, .und, .und, c15] ∧ C = ((lvA n n).take i).filter (fun row => fairB l m row n)) ⟨rfl, [], _, _, _, _, rfl, rfl⟩ ?_ ?_
  · rintro i row r g' hx ⟨rfl, C, c7, c8, c11, c15, rfl, hC⟩
    have hrow := (hall row).mp (List.mem_of_getElem? hx)
    have hr := pm_of hrow
    have lC : C.length ≤ 46656 := by
      rw [hC]
      refine Nat.le_trans (List.length_filter_le _ _) ?_
      rw [List.length_take]
      have := lvA_lim n6 (i := n) n6
      omega
    refine r_in (r_nx ?_ ?_)
    · simp only [true_and, and_true, implies_true, lim, List.length_nil, List.length_take, e5]
      refine ⟨by omega, fun x hx => ?_⟩
      refine ⟨⟨by omega, ?_⟩, by omega⟩
      intros
      omega
    rw [e5]
    have eb : List.map (fun (x : Nat) => (1 : Int) + (x : Int)) ((List.range n).filter fun x => !(List.map (fun x => x) ((l.take (1 + x) ++ m.take (1 + x)).filter fun t => !decide (t ∈ row.take (2 * (1 + x))))).isEmpty) = (fuL l m row n).map fun (x : Nat) => (1 : Int) + (x : Int) := by
      unfold fuL fairJ
      congr 1
      refine List.filter_congr fun x _ => ?_
      rw [List.map_id', Nat.add_comm 1 x]
      congr 1
      rw [Bool.eq_iff_iff, List.isEmpty_iff, List.filter_eq_nil_iff, List.all_eq_true]
      exact ⟨fun h t ht => by have := h t ht; simpa using this, fun h t ht => by rw [h t ht]; simp⟩
    rw [eb]
    have en : (List.map (fun (x : Nat) => (1 : Int) + (x : Int)) (fuL l m row n)).isEmpty = fairB l m row n := by
      rw [← fu_nil]
      cases fuL l m row n <;> rfl
    have tk : ((lvA n n).take (i + 1)).filter (fun row => fairB l m row n) = C ++ (if fairB l m row n then [row] else []) := by
      rw [List.take_add_one, hx, List.filter_append, ← hC]
      simp [List.filter_cons]
    have last : ∀ (C' : List (List Int)), C' = ((lvA n n).take (i + 1)).filter (fun row => fairB l m row n) → Run (Turn (fun r g'' => g'' = g' ∧ ∃ C c7 c8 c11 c15, r = [.und, .drw, .val (.int n), .val (I l), .val (I m), .val (I w), .own (C.map fun y => .list (y.map .int)), c7, c8, .und, .und, c11, .und, .und, .und, c15] ∧ C = ((lvA n n).take (i + 1)).filter (fun row => fairB l m row n))) (phi ds0 20) (.cons (.ite (.and (.bi .eq (.var 7) (.var 5)) (.bi .ne (.call 41 (.cons (.var 3) (.cons (.var 4) (.cons (.var 5) .nil)))) (.ite (.bi .ne (.var 8) (.lst .nil)) (.bi .idx (.var 8) (.con (.int (0)))) (.con .none)))) (.cons (.ret (.con (.bool false))) .nil) .nil) .nil) [.und, .drw, .val (.int n), .val (I l), .val (I m), .val (I w), .own (C'.map fun y => .list (y.map .int)), .val (I row), .val (I ((fuL l m row n).map fun (x : Nat) => (1 : Int) + (x : Int))), .und, .und, c11, .und, .und, .und, c15] g' := fun C' hC' => by
      refine r_if0 ?_ ?_ (r_turn ⟨rfl, _, _, _, _, _, rfl, hC'⟩)
      · simp only [true_and, and_true, implies_true, fl, fm, fw, ll, lm, lw]
      · by_cases c : row = w
        · subst c
          rw [ll]
          simp [List.head?_map]
        · simp [c]
    refine r_ite (by simp [lim]) (fun z => ?_) (fun z => ?_)
    · rw [en] at z
      rw [z] at tk
      refine r_nx (by simp only [true_and, lim]; omega) (r_end (last _ ?_))
      rw [tk]
      rfl
    · rw [en] at z
      rw [z] at tk
      refine r_end (last _ ?_)
      rw [tk]
      simp
  rintro r g' ⟨rfl, C, c7, c8, c11, c15, rfl, hC⟩
  have hC : C = goodF n l m := by
    rw [hC, List.take_length, ← good_filter, lvA_all]
    refine List.filter_congr fun row hrow => ?_
    exact fair_ok hl hm (pm_of ((genA_mem n _ _ (rg_len n)).mp hrow))
  have lC : C.length = manyF n l m := by rw [hC, good_len]
  have pC : 0 < C.length := by rw [lC]; exact good_pos hl hm
  have bC : C.length ≤ 46656 := by
    rw [hC, ← good_filter, ← lvA_all]
    exact Nat.le_trans (List.length_filter_le _ _) (lvA_lim n6 n6)
  have neC : C ≠ [] := fun z => by rw [z] at pC; cases pC
  have mC : ∀ row, Pm n row → (row ∈ C ↔ fairB l m row n = true) := fun row hr => by
    rw [hC, good_mem, fair_ok hl hm hr]
    exact ⟨fun z => z.2, fun z => ⟨pm_perm hr, z⟩⟩
  refine r_if0 ?_ ?_ ?_
  · simp only [true_and, and_true, implies_true, fl, fm, fw, ll, lm, lw, lim, List.length_nil]
    intro _
    exact ⟨fun t h => ht t (by rw [ll]; exact h), fun _ => (by omega)⟩
  · rw [ll, ways_W hl hm, lC]
    have : decide (w ∈ C) = fairB l m w n := by rw [Bool.eq_iff_iff, decide_eq_true_iff, mC w hw]
    rw [this]
    simp [neC]
  obtain ⟨v, g5, d5, hg5, v1, v2⟩ := draw_v (Φ := phi ds0) (k := 19) hg4 (C.length : Int) (by omega) (by omega)
  obtain ⟨q, rfl⟩ := Int.eq_ofNat_of_zero_le v1
  have er : evE (phi ds0 20) (.itl (.lst (.cons (.con (.int (0))) (.cons (.bi .sub (.un .len (.var 6)) (.con (.int (1)))) (.cons (.call 0 (.cons (.var 1) (.cons (.un .len (.var 6)) .nil))) .nil))))) [.und, .drw, .val (.int n), .val (I l), .val (I m), .val (I w), .own (C.map fun y => .list (y.map .int)), c7, c8, .und, .und, c11, .und, .und, .und, c15] g' = .ok (.list (([0, C.length - 1, q] : List Nat).map fun (i : Nat) => .int (i : Int))) g5 := by
    have e6 : ((C.length - 1 : Nat) : Int) = (C.length : Int) - 1 := by omega
    simp [evE, evA, cell?, v_bi, v_un, evC, own?, uop, bop, R.of, preB, d5, vals?, e6, lim]
  refine r_forE er (fun i r g => g = g5 ∧ ∃ c9, r = [.und, .drw, .val (.int n), .val (I l), .val (I m), .val (I w), .own (C.map fun y => .list (y.map .int)), c7, c8, c9, .und, c11, .und, .und, .und, c15]) ⟨rfl, _, rfl⟩ ?_ ?_
  · rintro i x r g hx ⟨rfl, c9, rfl⟩
    have hxC : x < C.length := by
      have := List.mem_of_getElem? hx
      simp at this
      omega
    have hrow : (goodF n l m)[x]? = some (C.getD x default) := by
      rw [← hC, List.getD_eq_getElem?_getD, List.getElem?_eq_getElem hxC]
      rfl
    have lf : CallP (phi ds0 20) 48 [.drw, .val (I l), .val (I m), .val (.int (x : Nat))] (I (C.getD x default)) True := ⟨fun _ g => law_fair_v (k := 14) n1 n7 hl hm hrow g⟩
    refine r_in (r_if0 ?_ ?_ (r_turn ⟨rfl, _, rfl⟩))
    · simp only [true_and, and_true]
      exact hxC
    · simp
  rintro r g ⟨rfl, c9, rfl⟩
  have lx : CallP (phi ds0 20) 48 [.drw, .val (I l), .val (I m), .val (.int (C.length : Nat))] (.str "number") True := ⟨fun _ g => law_fair_x (k := 14) n1 n7 hl hm (by omega) g⟩
  refine r_if0 ?_ ?_ ?_
  · simp
  · simp
  refine r_nx ⟨trivial, fl, fm, by omega, ht⟩ ?_
  have gE : ∀ x, x < n → (ends l m).getD x default = (lpN n l m (x : Int) : Nat) := fun x hx => by
    rw [ends_cast ll, List.getD_eq_getElem?_getD]
    simp [rg, hx]
  have lE : (ends l m).length = n := by
    rw [ends_cast ll]
    simp [rg]
  refine r_for (by simp [lim]; omega) (fun i r g' => g' = g ∧ ∃ c6 c7 c11, r = [.und, .drw, .val (.int n), .val (I l), .val (I m), .val (I w), c6, c7, c8, c9, .val (I (ends l m)), c11, .und, .und, .und, c15] ∧ ((i = 0 ∧ c6 = .own (C.map fun y => .list (y.map .int))) ∨ c6 = .val (II4 C))) ⟨rfl, _, _, _, rfl, .inl ⟨rfl, rfl⟩⟩ ?_ ?_
  · rintro i x r g' hx ⟨rfl, c6, c7, c11, rfl, h6⟩
    obtain ⟨rfl, hi⟩ := rgAt hx
    have body : Run (Turn (fun r g'' => g'' = g' ∧ ∃ c6 c7 c11, r = [.und, .drw, .val (.int n), .val (I l), .val (I m), .val (I w), c6, c7, c8, c9, .val (I (ends l m)), c11, .und, .und, .und, c15] ∧ ((x + 1 = 0 ∧ c6 = .own (C.map fun y => .list (y.map .int))) ∨ c6 = .val (II4 C)))) (phi ds0 20) (.cons (.ite (.bi .ne (.bi .idx (.var 10) (.var 11)) (.un .max1 (.lc (.nm 7) (.itl (.var 6)) (.con (.bool true)) (.bi .add (.bi .index (.var 7) (.var 11)) (.con (.int (1))))))) (.cons (.ret (.con (.bool false))) .nil) .nil) .nil) [.und, .drw, .val (.int n), .val (I l), .val (I m), .val (I w), .val (II4 C), c7, c8, c9, .val (I (ends l m)), .val (.int (x : Nat)), .und, .und, .und, c15] g' := by
      refine r_if0 ?_ ?_ (r_turn ⟨rfl, _, _, _, rfl, .inr rfl⟩)
      · simp only [true_and, and_true, lE]
        refine ⟨hi, fun row hrow => ?_, by simpa using neC⟩
        rw [hC] at hrow
        exact (good_mem.mp hrow).1.mem_iff.mpr (mem_rg.mpr (by omega))
      · rw [gE x hi]
        have hxr : (x : Int) ∈ rg 0 n := mem_rg.mpr (by omega)
        have : maxL (C.map fun row => (row.idxOf (x : Int) : Int) + 1) = (lpN n l m (x : Int) : Nat) := by
          obtain ⟨row, h1, h2⟩ := good_last hl hm hxr
          refine maxL_eq (List.mem_map.mpr ⟨row, by rw [hC]; exact h1, by omega⟩) fun y hy => ?_
          obtain ⟨row, h3, rfl⟩ := List.mem_map.mp hy
          rw [hC] at h3
          have := good_le h3 hxr
          omega
        rw [this]
        simp
    rcases h6 with ⟨_, rfl⟩ | rfl
    · exact r_in (r_nx trivial body)
    · exact r_in (r_nx trivial body)
  rintro r g' ⟨rfl, c6, c7, c11, rfl, h6⟩
  have h6 : c6 = .val (II4 C) := by
    rcases h6 with ⟨z, _⟩ | z
    · rw [List.length_range] at z
      omega
    · exact z
  subst h6
  refine r_if0 ?_ ?_ ?_
  · simp only [true_and, and_true, implies_true, lim, List.length_nil, lE]
    refine ⟨⟨by omega, fun x hx => ⟨(hw.mem _).mpr (by have := List.mem_range.mp hx; omega), List.mem_range.mp hx⟩⟩, by omega⟩
  · have : decide (w ∈ C) = (List.map (fun (x : Nat) => (x : Int)) ((List.range n).filter fun (x : Nat) => decide ((ends l m).getD x default ≤ (w.idxOf (x : Int) : Int)))).isEmpty := by
      rw [Bool.eq_iff_iff, decide_eq_true_iff, mC w hw, fair_ok hl hm hw, okR_iff _ _ _ hw.nd, List.isEmpty_iff, List.map_eq_nil_iff, List.filter_eq_nil_iff]
      constructor
      · intro h x hx
        have hx := List.mem_range.mp hx
        have := h (x : Int) ((hw.mem _).mpr (by omega))
        rw [gE x hx]
        simp
        omega
      · intro h t ht
        obtain ⟨a, b⟩ := (hw.mem t).mp ht
        obtain ⟨x, rfl⟩ := Int.eq_ofNat_of_zero_le a
        have := h x (List.mem_range.mpr (by omega))
        rw [gE x (by omega)] at this
        simp at this
        omega
    rw [this]
    simp
  refine r_nx ⟨trivial, fl, fm, by omega⟩ (r_nx (by simp [lim]) ?_)
  refine r_for (by simp [lim]; omega) (fun i r g'' => g'' = g' ∧ ∃ B c11 c14, r = [.und, .drw, .val (.int n), .val (I l), .val (I m), .val (I w), .val (II4 C), c7, c8, c9, .val (I (ends l m)), c11, .val (I (btL l m)), .val (I B), c14, c15] ∧ B = turnsL ((l.zip m).take i) ∧ B.length ≤ 2 * i) ⟨rfl, [], _, _, rfl, rfl, by simp⟩ ?_ ?_
  · rintro i x r g'' hx ⟨rfl, B, c11, c14, rfl, hB, lB⟩
    obtain ⟨rfl, hi⟩ := rgAt hx
    refine r_in ?_
    refine r_for (xs := [l.getD x default, m.getD x default]) (enc := PyData.int) (by simp [lim]; omega) (fun j r g3 => g3 = g'' ∧ ∃ C' c11, r = [.und, .drw, .val (.int n), .val (I l), .val (I m), .val (I w), .val (II4 C), c7, c8, c9, .val (I (ends l m)), c11, .val (I (btL l m)), .val (I C'), .val (.int (x : Nat)), c15] ∧ C' = ([l.getD x default, m.getD x default].take j).foldl tkA B ∧ C'.length ≤ 2 * x + j) ⟨rfl, B, _, rfl, rfl, lB⟩ ?_ ?_
    · rintro j y r g3 hx ⟨rfl, C', c11, rfl, hC', lC'⟩
      have hj : j < 2 := by
        obtain ⟨h, _⟩ := List.getElem?_eq_some_iff.mp hx
        exact h
      have e1 : ([l.getD x default, m.getD x default].take (j + 1)).foldl tkA B = tkA C' y := by
        rw [List.take_add_one, hx, List.foldl_append, ← hC']
        rfl
      refine r_in (r_ite (by simp) (fun z => ?_) (fun z => ?_))
      · have z : y ∉ C' := by simpa using z
        refine r_nx (by simp [lim]; omega) (r_end (r_turn ⟨rfl, _, _, rfl, ?_, by simp; omega⟩))
        rw [e1]
        unfold tkA
        rw [if_neg z]
      · have z : y ∈ C' := by simpa using z
        refine r_end (r_turn ⟨rfl, _, _, rfl, ?_, by omega⟩)
        rw [e1]
        unfold tkA
        rw [if_pos z]
    · rintro r g3 ⟨rfl, C', c11, rfl, hC', lC'⟩
      refine r_turn ⟨rfl, _, _, _, rfl, ?_, by simp at lC'; omega⟩
      rw [hC', zip_take x l m (by omega) (by omega), turns_snoc, ← hB]
      have a : l.getD x default = l[x]'(by omega) := by rw [List.getD_eq_getElem?_getD, List.getElem?_eq_getElem (by omega)]; rfl
      have b : m.getD x default = m[x]'(by omega) := by rw [List.getD_eq_getElem?_getD, List.getElem?_eq_getElem (by omega)]; rfl
      rw [a, b]
      rfl
  rintro r g'' ⟨rfl, B, c11, c14, rfl, hB, lB⟩
  have hB : B = btL l m := by
    rw [hB, List.length_range]
    exact bt_full ll lm
  refine r_true ?_ ?_
  · simp only [true_and, and_true, implies_true, fl, fm, ll, lm]
    exact fun _ _ t h => ht' t (by rw [lm]; exact h)
  · have h1 : btL l m ∈ C := by rw [hC]; exact bt_good hl hm
    have h2 : wprod (isort (ends m l)) = (C.length : Nat) := by
      rw [ways_W hm hl, lC]
      unfold manyF
      have : lpN n m l = lpN n l m := funext fun t => en_comm t
      rw [this]
    rw [h2, hB]
    simp [h1]
theorem mathLaw : ∀ ns : List Int, ns ≠ [] → ns.length ≤ 1000 → ∃ g, evS (phi ds0 20) b_theLaw (.und :: .drw :: List.replicate (nLaw.length - 2) .und) (some (ns, 0)) = .rt (.bool true) g :=
  fun ns _ _ => law_run (some (ns, 0)) ⟨_, _, rfl⟩
end Tl
end
section
set_option Elab.async false
set_option linter.all false
set_option autoImplicit false
set_option maxRecDepth 100000
set_option maxHeartbeats 0
open PySem PySem.W PySem.Calls PyProof.Rows
theorem PySem.Challenge.cw_toplists_k04_whole_fair_holds : PySem.Challenge.rw_toplists_k04_whole_fair.Holds := by
  w_on; o_law
  refine HandSHeadRun.head_any (r := OpenLaw.row PySem.Challenge.rw_toplists_k04_whole_fair) (q := view (OpenLaw.row PySem.Challenge.rw_toplists_k04_whole_fair).prog [33]) (H := Tl.hk0) (ob := Tl.ob0) (M := 6000) (loose := Tl.loose0) (d := HandSHeadRun.topDef (OpenLaw.row PySem.Challenge.rw_toplists_k04_whole_fair).prog 33) (kwd := []) Tl.ob0_eq
    (by kernel_rfl) (fun s => by kernel_rfl) Tl.run0 (by kernel_rfl) (by kernel_rfl) (by kernel_rfl) (by rfl) (by first | assumption | decide +kernel) (by decide +kernel) ⟨rfl, rfl, rfl, rfl, rfl, by decide +kernel⟩ ?hw ?hc
  case hw => w_witness2
  case hc =>
    refine Tl.walk_out (l := PySem.Challenge.rw_toplists_k04_whole_fair) (n := 63) (k := 21) (x := "script") rfl (by decide) (by kernel_rfl) ⟨rfl, by decide, by decide⟩ ?_
    intro w mg fa h Y G hmg0
    obtain ⟨K, KX, c, cx⟩ := Y
    have hmg : mg ("law" : PySem.Str) = some (.ref fa) := by
      have e : (HandSHeadRun.topDef (OpenLaw.row PySem.Challenge.rw_toplists_k04_whole_fair).prog 33).name = ("law" : PySem.Str) := by kernel_rfl
      rw [← e]
      exact hmg0
    obtain ⟨fd, hb, hF⟩ := Tl.facts0 (P := (PySem.Challenge.rw_toplists_k04_whole_fair).prog) (w := w) KX G hmg c cx Tl.mathLaw
    exact ⟨K, fd, Tl.spLaw K, KX, hb, fun H a ns hl hS => ⟨a, ns, rfl, hS, hl, fun _ => rfl⟩, hF⟩
end

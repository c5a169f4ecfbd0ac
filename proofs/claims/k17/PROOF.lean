import PyProof.Rows.All
import KE.KDictZip
import HandS.ForMost
import HandS.ForExc
import HandS.Walk
import HandS.Deep
import HandS.IsInst
import HandS.Style
import HandS.Conv
import HandS.SetFor
import HandS.ExcIs
import HandS.SetKeys
import PyProof.P3Statements
import PyProof.EqLayable
import KE.SortData
import KE.IntText
import PyProof.StrBlockL
import HandS.ExcValue
import HandS.ExcBuiltin
import PyProof.ListStr
import KE.DataMinMax
import HandS.Set
import KE.DatumOrd
import HandS.Text
import PyProof.StrLawsChain
import HandS.SetBool
import KE.GoesMore
import KE.KTurns
import PyProof.InstSpecial
import HandS.Head0
import HandS.Head1
import HandS.Head2
import HandS.HeadEnd
import HandS.HeadHook1
import HandS.HeadHook2
import HandS.Defaults
import PySem.Challenge.RW_toplists_k17_examples
section
set_option Elab.async false
set_option linter.all false
namespace Tl
/-- each thing once, in the order of its first coming -/
def dd {α : Type} [BEq α] (l : List α) : List α := l.foldl (fun s k => if s.any (· == k) then s else s ++ [k]) []
end Tl
end
section
set_option Elab.async false
set_option linter.all false
namespace Tl
open PySem (PyData Str)
abbrev D := PyData
/-- a reader's state: how far both lists are read, what was read -/
abbrev Rd := Int × Int × List Int
/-- the drawing state: the numbers, the counter; the readers -/
abbrev G := Option (List Int × Int × List Rd)
def rdA (g : G) (j : Nat) : Option Rd := g.bind fun p => p.2.2[j]?
def rdPut (g : G) (j : Nat) (x : Rd) : G := g.map fun p => (p.1, p.2.1, p.2.2.set j x)
def dpA (x : Rd) (k : Int) : Option Int := if k = 0 then some x.1 else if k = 1 then some x.2.1 else none
def dpPut (x : Rd) (k v : Int) : Rd := if k = 0 then (v, x.2.1, x.2.2) else (x.1, v, x.2.2)
inductive Cell where
  | und | val (d : D) | own (ds : List D) | drw | exn (c : Nat) | scr (ns : List Int) | ot (a b c : List D) | dct (kvs : List (List Int × Int)) | rdr (j : Nat) (a b : List D)
abbrev Env := List Cell
inductive R (α : Type) where
  | ok (a : α) (g : G) | exc (c : Nat) (g : G) | bad
def R.bind {α β : Type} : R α → (α → G → R β) → R β
  | .ok a g, f => f a g
  | .exc c g, _ => .exc c g
  | .bad, _ => .bad
inductive O where
  | nx (r : Env) (g : G) | rt (d : D) (g : G) | ro (g : G) | bk (r : Env) (g : G) | ct (r : Env) (g : G) | ex (c : Nat) (r : Env) (g : G) | bad
/-- from an expression's end -/
def R.st {α : Type} (r : Env) : R α → (α → G → O) → O
  | .ok a g, f => f a g
  | .exc c g, _ => .ex c r g
  | .bad, _ => .bad
def O.andThen : O → (Env → G → O) → O
  | .nx r g, f => f r g
  | o, _ => o
abbrev Fn := List Cell → G → R D
inductive Un where
  | neg | notv | len | lenset | sum | min1 | max1 | sorted | all | any | abs | list | tuple | str | int | rev | lrange | lstr | sortedset | minS
  deriving DecidableEq
inductive Bi where
  | add | sub | mul | fdiv | mod | eq | ne | lt | le | gt | ge | isin | notin | instr | notinstr | min2 | max2 | idx | upto | from_ | index | count | join | split
  deriving DecidableEq
inductive Ty where
  | int | bool | list | str
  deriving DecidableEq
inductive Tg where
  | nm (i : Nat) | two (i j : Nat) | three (i j k : Nat)
  deriving DecidableEq
inductive E where
  | var (i : Nat)
  | con (d : D)
  | glo (n : Nat) (d : D)
  | un (o : Un) (a : E)
  | bi (o : Bi) (a b : E)
  | le2 (a b c : E)
  | le3 (a b c d : E)
  | isc (a : E) (d : D)
  | isnc (a : E) (d : D)
  | and (a b : E)
  | or (a b : E)
  | ite (c a b : E)
  | lst (as : E)
  | tup (as : E)
  | nil
  | cons (a as : E)
  | call (f : Nat) (as : E)
  | isi (a : E) (t : Ty)
  | isx (i : Nat) (c : Nat)
  | dsort (i : Nat)
  | dget (i : Nat) (e : E)
  | lzip (a b : E)
  | szip (a b : E)
  | szip3 (a b c : E)
  | rls (i : Nat)
  | rdep (i : Nat) (e : E)
  | rdt (i : Nat)
  | rln (i : Nat)
  | rme (i : Nat)
  | mth (f i : Nat) (as : E)
  | mlen (i : Nat)
  | lc (t : Tg) (it c e : E)
  | itl (a : E)
  | itt (a : E)
  | its (a : E)
  | rng1 (a : E)
  | rng2 (a b : E)
  | enum (a : E)
  | zip (a b : E)
  | bor (e : E)
/-- the most items -/
def lim : Nat := 1000000
/-! ### operations on data -/
def dInts (l : List Int) : D := .list (l.map .int)
def toInts : List D → Option (List Int)
  | [] => some []
  | .int i :: r => (toInts r).map (i :: ·)
  | _ :: _ => none
def toStrs : List D → Option (List Str)
  | [] => some []
  | .str i :: r => (toStrs r).map (i :: ·)
  | _ :: _ => none
def toBls : List D → Option (List Bool)
  | [] => some []
  | .bool i :: r => (toBls r).map (i :: ·)
  | _ :: _ => none
def chars (z : Str) : List D := z.cps.toList.map fun c => .str ⟨#[c]⟩
def rangeD (a : Int) (n : Nat) : List D := (List.range n).map fun i => .int (a + (i : Nat))
/-- a slice's place -/
def sIx (n d : Nat) : Option Int → Nat
  | none => d
  | some v => if v < 0 then (v + (n : Int)).toNat else min v.toNat n
def cut {α : Type} (xs : List α) (lo hi : Option Int) : List α := (xs.drop (sIx xs.length 0 lo)).take (sIx xs.length xs.length hi - sIx xs.length 0 lo)
def ixN (n : Nat) (i : Int) : Option Nat := if 0 ≤ i then (if i < n then some i.toNat else none) else if -(n : Int) ≤ i then some (i + n).toNat else none
def atI {α : Type} (xs : List α) (i : Int) : Option α := (ixN xs.length i).bind fun j => xs[j]?
def shp (d : D) : Bool := decide (d.depth ≤ 60)
def smallI (i : Int) : Bool := decide (-(2 ^ 62) ≤ i) && decide (i < 2 ^ 62)
/-- may be sorted: alike, of one kind that has an order -/
def sortOk (ds : List D) : Bool := (ds.all fun a => ds.all fun b => PySem.W.alike a b) && ((ds.all fun d => match d with | .tuple (_ :: _) => true | _ => false) || (ds.all fun d => match d with | .none => false | .tuple _ => false | _ => true)) && ds.all shp
/-! the same as mergeSort, by a count that goes down -/
def mgF {α : Type} (le : α → α → Bool) : Nat → List α → List α → List α
  | 0, xs, ys => xs ++ ys
  | n + 1, xs, ys => match xs, ys with
    | [], ys => ys
    | x :: xs, [] => x :: xs
    | x :: xs, y :: ys => if le x y then x :: mgF le n xs (y :: ys) else y :: mgF le n (x :: xs) ys
def msF {α : Type} (le : α → α → Bool) : Nat → List α → List α
  | 0, l => l
  | n + 1, l => match l with
    | [] => []
    | [a] => [a]
    | a :: b :: xs => mgF le (xs.length + 2) (msF le n ((a :: b :: xs).take ((xs.length + 3) / 2))) (msF le n ((a :: b :: xs).drop ((xs.length + 3) / 2)))
theorem mgF_eq {α : Type} (le : α → α → Bool) : ∀ (n : Nat) (xs ys : List α), xs.length + ys.length ≤ n → mgF le n xs ys = List.merge xs ys le
  | 0, xs, ys, h => by
    have h1 : xs = [] := List.eq_nil_of_length_eq_zero (by omega)
    have h2 : ys = [] := List.eq_nil_of_length_eq_zero (by omega)
    subst h1 h2
    simp [mgF]
  | n + 1, [], ys, h => by simp [mgF]
  | n + 1, x :: xs, [], h => by simp [mgF]
  | n + 1, x :: xs, y :: ys, h => by
    simp only [List.length_cons] at h
    simp only [mgF, List.cons_merge_cons]
    rw [mgF_eq le n xs (y :: ys) (by simp; omega), mgF_eq le n (x :: xs) ys (by simp; omega)]
theorem msF_eq {α : Type} (le : α → α → Bool) : ∀ (n : Nat) (l : List α), l.length ≤ n → msF le n l = l.mergeSort le
  | 0, l, h => by
    have h1 : l = [] := List.eq_nil_of_length_eq_zero (by omega)
    subst h1
    simp [msF]
  | n + 1, [], h => by simp [msF]
  | n + 1, [a], h => by simp [msF]
  | n + 1, a :: b :: xs, h => by
    simp only [List.length_cons] at h
    rw [List.mergeSort]
    simp only [msF]
    rw [msF_eq le n _ (by simp; omega), msF_eq le n _ (by simp; omega), mgF_eq _ _ _ _ (by simp [List.length_mergeSort]; omega)]
    simp [List.MergeSort.Internal.splitInTwo_fst, List.MergeSort.Internal.splitInTwo_snd]
def sortD (ds : List D) : List D := msF (PySem.W.dataLe false id) ds.length ds
theorem sortD_eq (ds : List D) : sortD ds = ds.mergeSort (PySem.W.dataLe false id) := msF_eq _ _ _ (Nat.le_refl _)
def minI : List Int → Option Int
  | [] => none
  | x :: r => some (r.foldl min x)
def maxI : List Int → Option Int
  | [] => none
  | x :: r => some (r.foldl max x)
def minSt : List Str → Option Str
  | [] => none
  | x :: r => some (r.foldl (fun a y => if PySem.W.dataLt (.str y) (.str a) then y else a) x)
/-- the truth values there are, in order -/
def srtB (bs : List Bool) : List Bool := (if false ∈ bs then [false] else []) ++ (if true ∈ bs then [true] else [])
/-- the first difference decides, else the shorter is the less -/
def ltI : List Int → List Int → Bool
  | [], [] => false
  | [], _ :: _ => true
  | _ :: _, [] => false
  | x :: xs, y :: ys => if x = y then ltI xs ys else decide (x < y)
def uop : Un → D → Option D
  | .neg, .int i => some (.int (-i))
  | .notv, .bool b => some (.bool !b)
  | .len, .list ds => some (.int ds.length)
  | .len, .tuple ds => some (.int ds.length)
  | .len, .str z => some (.int z.length)
  | .lenset, .list ds => match toInts ds with
    | some ns => if ns.length ≤ 1000 then some (.int (dd ns).length) else none
    | none => match toStrs ds with
      | some ss => if ss.length ≤ 1000 then some (.int (dd ss).length) else none
      | none => none
  | .sortedset, .list ds => match toInts ds with
    | some ns => if ns.length < 64 then some (.list (((dd ns).mergeSort fun a b => decide (a ≤ b)).map .int)) else none
    | none => match toBls ds with
      | some bs => if bs.length ≤ 1000 then some (.list ((srtB bs).map .bool)) else none
      | none => none
  | .sum, .list ds => (toInts ds).map fun ns => .int ns.sum
  | .min1, .list ds => (toInts ds).bind fun ns => (minI ns).map .int
  | .minS, .list ds => (toStrs ds).bind fun ss => (minSt ss).map .str
  | .max1, .list ds => (toInts ds).bind fun ns => (maxI ns).map .int
  | .sorted, .list ds => if sortOk ds then some (.list (sortD ds)) else none
  | .all, .list ds => (toBls ds).map fun bs => .bool (bs.all id)
  | .any, .list ds => (toBls ds).map fun bs => .bool (bs.any id)
  | .str, .int i => if 0 ≤ i ∧ i ≤ 9 then some (.str ⟨#[48 + i.toNat]⟩) else none
  | .int, .str z => match z.cps.toList with
    | [c] => if 48 ≤ c ∧ c ≤ 57 then some (.int ((c - 48 : Nat) : Int)) else none
    | _ => none
  | .abs, .int i => some (.int (if i < 0 then -i else i))
  | .list, .list ds => some (.list ds)
  | .list, .tuple ds => some (.list ds)
  | .lstr, .str z => some (.list (chars z))
  | .tuple, .list ds => some (.tuple ds)
  | .rev, .list ds => some (.list ds.reverse)
  | .lrange, .int n => if 0 ≤ n ∧ n ≤ 1000 then some (.list (rangeD 0 n.toNat)) else none
  | _, _ => none
def eqD (a b : D) : Option Bool := if shp a && shp b then some (PyData.eqv a b) else none
def inD (a : D) (ds : List D) : Option Bool := if shp a && shp (.list ds) then some (ds.any fun z => PyData.eqv z a) else none
/-- the first place -/
def indexD (ds : List D) (a : D) : Option Nat := if shp a && shp (.list ds) then ds.findIdx? (fun z => PyData.eqv z a) else none
def mulOk (i j : Int) : Bool := (decide (-(2 ^ 64) < i) && decide (i < 2 ^ 64)) || (decide (-(2 ^ 64) < j) && decide (j < 2 ^ 64))
def bop : Bi → D → D → Option D
  | .add, .int i, .int j => some (.int (i + j))
  | .add, .str x, .str y => if x.length + y.length ≤ lim then some (.str (x ++ y)) else none
  | .add, .list xs, .list ys => if xs.length + ys.length ≤ lim then some (.list (xs ++ ys)) else none
  | .sub, .int i, .int j => some (.int (i - j))
  | .mul, .int i, .int j => if mulOk i j then some (.int (i * j)) else none
  | .mul, .list xs, .int j => if 0 ≤ j ∧ j ≤ 1000 ∧ xs.length * j.toNat ≤ lim then some (.list (List.replicate j.toNat xs).flatten) else none
  | .fdiv, .int i, .int j => if 0 < j ∧ j < 1073741824 then some (.int (i / j)) else none
  | .mod, .int i, .int j => if 0 < j then some (.int (i % j)) else none
  | .eq, a, b => (eqD a b).map .bool
  | .ne, a, b => (eqD a b).map fun k => .bool !k
  | .lt, .int i, .int j => some (.bool (decide (i < j)))
  | .lt, .list xs, .list ys => match toInts xs, toInts ys with
    | some ns, some ms => some (.bool (ltI ns ms))
    | _, _ => none
  | .le, .int i, .int j => some (.bool (decide (i ≤ j)))
  | .gt, .int i, .int j => some (.bool (decide (j < i)))
  | .ge, .int i, .int j => some (.bool (decide (j ≤ i)))
  | .isin, a, .list ds => (inD a ds).map .bool
  | .notin, a, .list ds => (inD a ds).map fun k => .bool !k
  | .instr, .str x, .str y => if x.length = 1 then some (.bool (y.cps.toList.any fun c => decide (x.cps.toList = [c]))) else none
  | .min2, .int i, .int j => some (.int (if j < i then j else i))
  | .max2, .int i, .int j => some (.int (if j > i then j else i))
  | .idx, .list ds, .int i => atI ds i
  | .idx, .tuple ds, .int i => atI ds i
  | .idx, .str z, .int i => (atI z.cps.toList i).map fun c => .str ⟨#[c]⟩
  | .upto, .list ds, .int i => some (.list (cut ds none (some i)))
  | .upto, .str z, .int i => some (.str ⟨(cut z.cps.toList none (some i)).toArray⟩)
  | .from_, .list ds, .int i => some (.list (cut ds (some i) none))
  | .from_, .str z, .int i => some (.str ⟨(cut z.cps.toList (some i) none).toArray⟩)
  | .index, .list ds, a => (indexD ds a).map fun j => .int (j : Nat)
  | .join, .str a, .list ds => (toStrs ds).bind fun ys => if (ys.map (·.length)).sum + ys.length * a.length ≤ 1000000 ∧ (PySem.Str.join a ys).length ≤ lim ∧ PyData.strOk (PySem.Str.join a ys) = true then some (.str (PySem.Str.join a ys)) else none
  | .split, .str a, .str b => if b.length ≠ 0 ∧ a.length + 2 ≤ lim ∧ (PySem.Txt.split a b).all (fun p => decide (p.length ≤ lim) && PyData.strOk p) = true then some (.list ((PySem.Txt.split a b).map .str)) else none
  | .count, .list ds, a => if shp a && shp (.list ds) then some (.int (ds.countP fun z => PyData.eqv z a : Nat)) else none
  | _, _, _ => none
/-- a method's object is of its kind -/
def preB : Bi → D → Bool
  | .index, .list _ => true
  | .index, _ => false
  | .count, .list _ => true
  | .count, _ => false
  | .join, .str _ => true
  | .join, _ => false
  | .split, .str _ => true
  | .split, _ => false
  | _, _ => true
def isTy : Ty → D → Bool
  | .int, .int _ => true
  | .int, .bool _ => true
  | .bool, .bool _ => true
  | .list, .list _ => true
  | .str, .str _ => true
  | _, _ => false
/-- x is c, for None, True, False -/
def isD (d c : D) : Option Bool := match c, d with
  | .none, .none => some true
  | .none, _ => some false
  | .bool a, .bool b => some (decide (b = a))
  | _, _ => none
def bl? : D → Option Bool
  | .bool b => some b
  | _ => none
/-- an owned list is read -/
def own? : E → Env → Option D
  | .var i, r => match r[i]? with
    | some (.own ds) => some (.list ds)
    | _ => none
  | _, _ => none
def cell? : E → Env → Option Cell
  | .var i, r => match r[i]? with
    | some .drw => some .drw
    | some (.exn c) => some (.exn c)
    | some (.rdr j a b) => some (.rdr j a b)
    | _ => none
  | _, _ => none
def vals? : List Cell → Option (List D)
  | [] => some []
  | .val d :: r => (vals? r).map (d :: ·)
  | _ :: _ => none
def setT : Tg → D → Env → Option Env
  | .nm i, d, r => some (r.set i (.val d))
  | .two i j, .tuple [a, b], r => some ((r.set i (.val a)).set j (.val b))
  | .three i j k, .tuple [a, b, c], r => some (((r.set i (.val a)).set j (.val b)).set k (.val c))
  | _, _, _ => none
def R.of {α : Type} (g : G) : Option α → R α
  | some a => .ok a g
  | none => .bad
/-- a comprehension -/
def lcL (c : D → G → R Bool) (e : D → G → R D) : List D → G → R (List D)
  | [], g => .ok [] g
  | x :: xs, g => match c x g with
    | .ok true g1 => (match e x g1 with
      | .ok y g2 => (match lcL c e xs g2 with
        | .ok ys g3 => .ok (y :: ys) g3
        | _ => .bad)
      | _ => .bad)
    | .ok false g1 => lcL c e xs g1
    | _ => .bad
/-- all that one owns, as data -/
def frz1 : Cell → Cell
  | .own ds => .val (.list ds)
  | .ot _ _ _ => .und
  | .dct _ => .und
  | c => c
def flatD : D → Bool
  | .none => true
  | .bool _ => true
  | .int _ => true
  | .str _ => true
  | _ => false
/-- tuples of numbers and texts -/
def flD : D → Bool
  | .int _ => true
  | .str _ => true
  | _ => false
def zp2 (xs ys : List D) : List (List D) := List.zipWith (fun x y => [x, y]) xs ys
def zp3 (xs ys us : List D) : List (List D) := List.zipWith (fun x r => x :: r) xs (zp2 ys us)
/-- dicts with tuples of numbers as keys -/
def toTI : D → Option (List Int)
  | .tuple ds => toInts ds
  | _ => none
def valI (kvs : List (List Int × Int)) (k : List Int) : Option Int := (kvs.find? fun p => decide (p.1 = k)).map (·.2)
def putI (kvs : List (List Int × Int)) (k : List Int) (v : Int) : List (List Int × Int) := if (kvs.any fun p => decide (p.1 = k)) = true then kvs.map (fun p => if p.1 = k then (p.1, v) else p) else kvs ++ [(k, v)]
def keysD (kvs : List (List Int × Int)) : List D := kvs.map fun p => .tuple (p.1.map .int)
def isSub (c d : Nat) : Bool := d != 8 && (c == d || d == 6 || d == 7)
mutual
def evE (F : Nat → Fn) : E → Env → G → R D
  | .var i, r, g => match r[i]? with
    | some (.val d) => .ok d g
    | _ => .bad
  | .con d, _, g => .ok d g
  | .glo _ d, _, g => .ok d g
  | .un o a, r, g => ((match own? a r with | some d => .ok d g | none => evE F a r g) : R D).bind fun d g => R.of g (uop o d)
  | .bi o a b, r, g => ((match own? a r with | some d => .ok d g | none => evE F a r g) : R D).bind fun x g => match preB o x with
    | true => ((match own? b r with | some d => .ok d g | none => evE F b r g) : R D).bind fun y g => R.of g (bop o x y)
    | false => .bad
  | .le2 a b c, r, g => (evE F a r g).bind fun x g => (evE F b r g).bind fun y g => match x, y with
    | .int i, .int j => if i ≤ j then (evE F c r g).bind fun z g => (match z with | .int k => .ok (.bool (decide (j ≤ k))) g | _ => .bad) else .ok (.bool false) g
    | _, _ => .bad
  | .le3 a b c d, r, g => (evE F a r g).bind fun x g => (evE F b r g).bind fun y g => match x, y with
    | .int i, .int j => if i ≤ j then (evE F c r g).bind fun z g => (match z with
        | .int k => if j ≤ k then (evE F d r g).bind fun u g => (match u with | .int l => .ok (.bool (decide (k ≤ l))) g | _ => .bad) else .ok (.bool false) g
        | _ => .bad) else .ok (.bool false) g
    | _, _ => .bad
  | .isc a c, r, g => (evE F a r g).bind fun x g => R.of g ((isD x c).map .bool)
  | .isnc a c, r, g => (evE F a r g).bind fun x g => R.of g ((isD x c).map fun k => .bool !k)
  | .and a b, r, g => (evE F a r g).bind fun x g => match x with
    | .bool true => evE F b r g
    | .bool false => .ok (.bool false) g
    | _ => .bad
  | .or a b, r, g => (evE F a r g).bind fun x g => match x with
    | .bool true => .ok (.bool true) g
    | .bool false => evE F b r g
    | _ => .bad
  | .ite c a b, r, g => (evE F c r g).bind fun x g => match x with
    | .bool true => evE F a r g
    | .bool false => evE F b r g
    | _ => .bad
  | .lst as, r, g => (evA F as r g).bind fun cs g => R.of g ((vals? cs).bind fun ds => if ds.length ≤ lim then some (.list ds) else none)
  | .tup as, r, g => (evA F as r g).bind fun cs g => R.of g ((vals? cs).bind fun ds => if ds.length ≤ lim then some (.tuple ds) else none)
  | .nil, _, _ => .bad
  | .cons _ _, _, _ => .bad
  | .call f as, r, g => (evA F as r g).bind fun cs g => F f cs g
  | .isi a t, r, g => (evE F a r g).bind fun x g => .ok (.bool (isTy t x)) g
  | .dsort i, r, g => match r[i]? with
    | some (.dct kvs) => if kvs.length ≤ lim ∧ (kvs.all fun p => !p.1.isEmpty && decide (p.1.length ≤ lim)) = true then .ok (.list (sortD (keysD kvs))) g else .bad
    | _ => .bad
  | .dget i e, r, g => match r[i]? with
    | some (.dct kvs) => (evE F e r g).bind fun d g => R.of g ((toTI d).bind fun k => (valI kvs k).map .int)
    | _ => .bad
  | .lzip a b, r, g => (evE F a r g).bind fun x g => (evE F b r g).bind fun y g => match x, y with
    | .list xs, .list ys => if xs.length = ys.length then .ok (.list ((zp2 xs ys).map .tuple)) g else .bad
    | _, _ => .bad
  | .szip a b, r, g => (evE F a r g).bind fun x g => (evE F b r g).bind fun y g => match x, y with
    | .list xs, .list ys => if xs.length = ys.length ∧ ((zp2 xs ys).all fun ds => ds.all flD) = true ∧ sortOk ((zp2 xs ys).map .tuple) = true then .ok (.list (sortD ((zp2 xs ys).map .tuple))) g else .bad
    | _, _ => .bad
  | .szip3 a b c, r, g => (evE F a r g).bind fun x g => (evE F b r g).bind fun y g => (evE F c r g).bind fun z g => match x, y, z with
    | .list xs, .list ys, .list us => if (xs.length = ys.length ∧ xs.length = us.length ∧ 0 < xs.length) ∧ ((zp3 xs ys us).all fun ds => ds.all flD) = true ∧ sortOk ((zp3 xs ys us).map .tuple) = true then .ok (.list (sortD ((zp3 xs ys us).map .tuple))) g else .bad
    | _, _, _ => .bad
  | .rls i, r, g => match r[i]? with
    | some (.rdr _ a b) => .ok (.tuple [.list a, .list b]) g
    | _ => .bad
  | .rdep i e, r, g => match r[i]? with
    | some (.rdr j _ _) => (evE F e r g).bind fun d g => (match d with
      | .int k => R.of g ((rdA g j).bind fun x => (dpA x k).map .int)
      | _ => .bad)
    | _ => .bad
  | .rdt i, r, g => match r[i]? with
    | some (.rdr j _ _) => R.of g ((rdA g j).map fun x => .tuple [.int x.1, .int x.2.1])
    | _ => .bad
  | .rln i, r, g => match r[i]? with
    | some (.rdr j _ _) => R.of g ((rdA g j).map fun x => .int x.2.2.length)
    | _ => .bad
  | .rme i, r, g => match r[i]? with
    | some (.rdr j _ _) => R.of g ((rdA g j).map fun x => .bool x.2.2.isEmpty)
    | _ => .bad
  | .mth f i as, r, g => match r[i]? with
    | some (.rdr j a b) => (evA F as r g).bind fun cs g => F f (.rdr j a b :: cs) g
    | _ => .bad
  | .mlen i, r, g => match r[i]? with
    | some (.rdr j a b) => (match F 901 [.rdr j a b] g with
      | .ok (.int n) g => if 0 ≤ n ∧ n < 1000000 then .ok (.int n) g else .bad
      | _ => .bad)
    | _ => .bad
  | .isx i c, r, g => match r[i]? with
    | some (.exn d) => if d < 6 then .ok (.bool (isSub d c)) g else .bad
    | some (.val .none) => if c = 8 then .ok (.bool true) g else .bad
    | _ => .bad
  | .lc t it c e, r, g => (evE F it r g).bind fun x g => match x with
    | .list xs => (match lcL (fun x g => match setT t x r with
          | some r1 => (evE F c r1 g).bind fun k g => R.of g (bl? k)
          | none => .bad) (fun x g => match setT t x r with
          | some r1 => evE F e r1 g
          | none => .bad) xs g with
        | .ok ys g => .ok (.list ys) g
        | _ => .bad)
    | _ => .bad
  | .itl a, r, g => (evE F a r g).bind fun x g => match x with
    | .list xs => .ok (.list xs) g
    | _ => .bad
  | .itt a, r, g => (evE F a r g).bind fun x g => match x with
    | .tuple xs => .ok (.list xs) g
    | _ => .bad
  | .its a, r, g => (evE F a r g).bind fun x g => match x with
    | .str z => .ok (.list (chars z)) g
    | _ => .bad
  | .rng1 a, r, g => (evE F a r g).bind fun x g => match x with
    | .int n => if n ≤ lim ∧ -(2 ^ 62) ≤ n then .ok (.list (rangeD 0 n.toNat)) g else .bad
    | _ => .bad
  | .rng2 a b, r, g => (evE F a r g).bind fun x g => (evE F b r g).bind fun y g => match x, y with
    | .int m, .int n => if n - m ≤ lim ∧ smallI m = true ∧ smallI n = true then .ok (.list (rangeD m (n - m).toNat)) g else .bad
    | _, _ => .bad
  | .enum a, r, g => (evE F a r g).bind fun x g => match x with
    | .list xs => .ok (.list (xs.zipIdx.map fun p => .tuple [.int (p.2 : Nat), p.1])) g
    | _ => .bad
  | .zip a b, r, g => (evE F a r g).bind fun x g => (evE F b r g).bind fun y g => match x, y with
    | .list xs, .list ys => .ok (.list (List.zipWith (fun x y => .tuple [x, y]) xs ys)) g
    | _, _ => .bad
  | .bor e, r, g => (evE F e (r.map frz1) g).bind fun d g => match flatD d with
    | true => .ok d g
    | false => .bad
def evA (F : Nat → Fn) : E → Env → G → R (List Cell)
  | .nil, _, g => .ok [] g
  | .cons a as, r, g => ((match cell? a r with | some c => .ok c g | none => (evE F a r g).bind fun d g => .ok (.val d) g) : R Cell).bind fun c g => (evA F as r g).bind fun cs g => .ok (c :: cs) g
  | _, _, _ => .bad
end
/-! ### statements -/
/-- l.remove(x), numbers or texts -/
def remD (ds : List D) : D → Option (List D)
  | .int k => (toInts ds).bind fun ns => (ns.findIdx? (· == k)).map fun j => ds.eraseIdx j
  | .str k => (toStrs ds).bind fun ns => (ns.findIdx? (· == k)).map fun j => ds.eraseIdx j
  | _ => none
inductive Sm where
  | nil
  | cons (s r : Sm)
  | asg (i : Nat) (e : E)
  | mk (i : Nat) (e : E)
  | frz (i : Nat)
  | par (t : Tg) (o : List Bool) (as : E)
  | unp (t : Tg) (e : E)
  | aug (i : Nat) (o : Bi) (e : E)
  | drop (e : E)
  | app (i : Nat) (e : E)
  | rem (i : Nat) (e : E)
  | seti (i : Nat) (k e : E)
  | seti2 (i : Nat) (k1 k2 a b : E)
  | augi (i : Nat) (k : E) (o : Bi) (e : E)
  | ite (c : E) (a b : Sm)
  | for_ (t : Tg) (it : E) (b : Sm)
  | whl (n : Nat) (c : E) (b : Sm)
  | ret (e : E)
  | brk | cont
  | raise (c : Nat)
  | try_ (b : Sm) (i j : Nat)
  | start (i j : Nat)
  | mk3 (i j k : Nat)
  | mkt (i : Nat)
  | appt (i : Nat) (k e : E)
  | mkd (i : Nat)
  | cntd (i j : Nat)
  | radd (i : Nat) (e : E) (up : Bool)
  | rapp (i : Nat) (e : E)
  | rpop (j i : Nat)
  | mkr (i : Nat) (a b : E)
  | mkr3 (i j k : Nat) (a b as : E)
  | retr (a b : E)
  | dropc (f : Nat) (as : E)
def forL (f : D → Env → G → O) : List D → Env → G → O
  | [], r, g => .nx r g
  | x :: xs, r, g => match f x r g with
    | .nx r g => forL f xs r g
    | .ct r g => forL f xs r g
    | .bk r g => .nx r g
    | o => o
def whlL (c : Env → G → R Bool) (f : Env → G → O) : Nat → Env → G → O
  | 0, _, _ => .bad
  | n + 1, r, g => match c r g with
    | .ok true g => (match f r g with
      | .nx r g => whlL c f n r g
      | .ct r g => whlL c f n r g
      | .bk r g => .nx r g
      | o => o)
    | .ok false g => .nx r g
    | .exc k g => .ex k r g
    | .bad => .bad
def evT (F : Nat → Fn) (e : E) (r : Env) (g : G) : R Bool := (evE F e r g).bind fun k g => R.of g (bl? k)
def evC (F : Nat → Fn) (a : E) (r : Env) (g : G) : R D := match own? a r with | some d => .ok d g | none => evE F a r g
def frzC : Cell → Option Cell
  | .own ds => some (.val (.list ds))
  | .val d => some (.val d)
  | .ot a b c => some (.val (.tuple [.list a, .list b, .list c]))
  | _ => none
def setO : Nat → Bool → Cell → Env → Option Env
  | i, false, .val d, r => some (r.set i (.val d))
  | i, true, .val (.list ds), r => some (r.set i (.own ds))
  | _, _, _, _ => none
def setPar : Tg → List Bool → List Cell → Env → Option Env
  | .two i j, [o1, o2], [a, b], r => (setO i o1 a r).bind (setO j o2 b)
  | .three i j k, [o1, o2, o3], [a, b, c], r => ((setO i o1 a r).bind (setO j o2 b)).bind (setO k o3 c)
  | _, _, _, _ => none
def notOt : Cell → Bool
  | .ot _ _ _ => false
  | _ => true
def notDc : Cell → Bool
  | .dct _ => false
  | _ => true
/-- one of three lists grows -/
def appO (a b c : List D) : Nat → D → Option Cell
  | 0, d => if a.length < lim then some (.ot (a ++ [d]) b c) else none
  | 1, d => if b.length < lim then some (.ot a (b ++ [d]) c) else none
  | 2, d => if c.length < lim then some (.ot a b (c ++ [d])) else none
  | _, _ => none
/-- a new reader among the readers -/
def rdNew : G → G
  | some (ns, c, rs) => some (ns, c, rs ++ [(0, 0, [])])
  | none => none
/-- how many readers there are -/
def rdN : G → Nat
  | some (_, _, rs) => rs.length
  | none => 0
/-- Reader(a, b): its check, then the lists -/
def evMk (F : Nat → Fn) (a b : E) (r : Env) (g : G) : R (List D × List D) := (evE F a r g).bind fun x g => (evE F b r g).bind fun y g => match F 900 [.val x, .val y] g with
  | .ok _ g => (match x, y, g with
    | .list A, .list B, some _ => .ok (A, B) g
    | _, _, _ => .bad)
  | .exc c g => .exc c g
  | .bad => .bad
def evS (F : Nat → Fn) : Sm → Env → G → O
  | .nil, r, g => .nx r g
  | .cons s t, r, g => (evS F s r g).andThen fun r g => evS F t r g
  | .asg i e, r, g => (evE F e r g).st r fun d g => .nx (r.set i (.val d)) g
  | .mk i e, r, g => (evE F e r g).st r fun d g => match d with
    | .list ds => .nx (r.set i (.own ds)) g
    | _ => .bad
  | .frz i, r, g => match (r[i]?).bind frzC with
    | some c => .nx (r.set i c) g
    | none => .bad
  | .par t o as, r, g => (evA F as r g).st r fun cs g => match setPar t o cs r with
    | some r => .nx r g
    | none => .bad
  | .unp t e, r, g => (evE F e r g).st r fun d g => match setT t d r with
    | some r => .nx r g
    | none => .bad
  | .aug i o e, r, g => match r[i]? with
    | some (.val (.int x)) => (evE F e r g).st r fun y g => match y with
      | .int y => (match bop o (.int x) (.int y) with
        | some z => .nx (r.set i (.val z)) g
        | none => .bad)
      | _ => .bad
    | _ => .bad
  | .drop e, r, g => (evE F e r g).st r fun _ g => .nx r g
  | .app i e, r, g => match r[i]? with
    | some (.own ds) => (evE F e r g).st r fun d g => if ds.length < lim then .nx (r.set i (.own (ds ++ [d]))) g else .bad
    | _ => .bad
  | .rem i e, r, g => match r[i]? with
    | some (.own ds) => (evE F e r g).st r fun d g => match remD ds d with
      | some es => .nx (r.set i (.own es)) g
      | none => .bad
    | _ => .bad
  | .seti i k e, r, g => match r[i]? with
    | some (.own ds) => (evE F e r g).st r fun d g => (evE F k r g).st r fun k g => match k with
      | .int k => (match ixN ds.length k with
        | some j => .nx (r.set i (.own (ds.set j d))) g
        | none => .bad)
      | _ => .bad
    | _ => .bad
  | .seti2 i k1 k2 a b, r, g => match r[i]? with
    | some (.own ds) => (evE F a r g).st r fun x g => (evE F b r g).st r fun y g => (evE F k1 r g).st r fun k1 g => match k1 with
      | .int k1 => (match ixN ds.length k1 with
        | some j1 => (evE F k2 (r.set i (.own (ds.set j1 x))) g).st (r.set i (.own (ds.set j1 x))) fun k2 g => match k2 with
          | .int k2 => (match ixN ds.length k2 with
            | some j2 => .nx (r.set i (.own ((ds.set j1 x).set j2 y))) g
            | none => .bad)
          | _ => .bad
        | none => .bad)
      | _ => .bad
    | _ => .bad
  | .augi i k o e, r, g => match r[i]? with
    | some (.own ds) => (evE F k r g).st r fun k g => match k with
      | .int k => (match (ixN ds.length k).bind fun j => ds[j]? with
        | some (.int x) => (evE F e r g).st r fun y g => (match y with
          | .int y => (match bop o (.int x) (.int y), ixN ds.length k with
            | some z, some j => .nx (r.set i (.own (ds.set j z))) g
            | _, _ => .bad)
          | _ => .bad)
        | _ => .bad)
      | _ => .bad
    | _ => .bad
  | .ite c a b, r, g => (evT F c r g).st r fun k g => match k with
    | true => evS F a r g
    | false => evS F b r g
  | .for_ t it b, r, g => (evE F it r g).st r fun x g => match x with
    | .list xs => forL (fun x r g => match setT t x r with
      | some r => evS F b r g
      | none => .bad) xs r g
    | _ => .bad
  | .whl n c b, r, g => whlL (fun r g => evT F c r g) (fun r g => evS F b r g) n r g
  | .ret e, r, g => (evE F e r g).st r fun d g => .rt d g
  | .brk, r, g => .bk r g
  | .cont, r, g => .ct r g
  | .raise c, r, g => .ex c r g
  | .try_ b i j, r, g => match evS F b r g with
    | .ex c r g => if c < 6 then .nx ((r.set i .und).set j (.exn c)) g else .bad
    | o => o
  | .mkd i, r, g => if r.all notDc = true then .nx (r.set i (.dct [])) g else .bad
  | .cntd i j, r, g => match r[i]?, r[j]? with
    | some (.dct kvs), some (.val d) => (match toTI d with
      | some k => if kvs.length < lim then .nx (r.set i (.dct (putI kvs k ((valI kvs k).getD 0 + 1)))) g else .bad
      | none => .bad)
    | _, _ => .bad
  | .radd i e up, r, g => match r[i]? with
    | some (.rdr j _ _) => (evE F e r g).st r fun d g => match d, rdA g j with
      | .int k, some x => (match dpA x k with
        | some v => .nx r (rdPut g j (dpPut x k (if up then v + 1 else v - 1)))
        | none => .bad)
      | _, _ => .bad
    | _ => .bad
  | .rapp i e, r, g => match r[i]? with
    | some (.rdr j _ _) => (evE F e r g).st r fun d g => match d, rdA g j with
      | .int k, some x => if x.2.2.length < 1000 then .nx r (rdPut g j (x.1, x.2.1, x.2.2 ++ [k])) else .bad
      | _, _ => .bad
    | _ => .bad
  | .rpop t i, r, g => match r[i]? with
    | some (.rdr j _ _) => (match rdA g j with
      | some x => (match x.2.2.getLast? with
        | some k => .nx (r.set t (.val (.int k))) (rdPut g j (x.1, x.2.1, x.2.2.dropLast))
        | none => .bad)
      | none => .bad)
    | _ => .bad
  | .mkr i a b, r, g => (evMk F a b r g).st r fun p g => .nx (r.set i (.rdr (rdN g) p.1 p.2)) (rdNew g)
  | .mkr3 i j k a b as, r, g => (evMk F a b r g).st r fun p g1 => (evA F as r (rdNew g1)).st r fun cs g => match vals? cs with
    | some ds => if ds.length ≤ lim then .nx (((r.set i (.rdr (rdN g1) p.1 p.2)).set j (.own ds)).set k (.val (.list []))) g else .bad
    | none => .bad
  | .retr a b, r, g => (evMk F a b r g).st r fun _ g => .ro g
  | .dropc f as, r, g => (evA F as r g).st r fun cs g => (F f cs g).st r fun _ g => .nx r g
  | .mkt i, r, g => if r.all notOt = true then .nx (r.set i (.ot [] [] [])) g else .bad
  | .appt i k e, r, g => match r[i]? with
    | some (.ot a b c) => (evE F k r g).st r fun kv g => match kv with
      | .int k => (match ixN 3 k with
        | some j => (evE F e r g).st r fun d g => (match appO a b c j d with
          | some cc => .nx (r.set i cc) g
          | none => .bad)
        | none => .bad)
      | _ => .bad
    | _ => .bad
  | .mk3 i j k, r, g => .nx (((r.set i (.own [])).set j (.own [])).set k (.own [])) g
  | .start i j, r, g => match r[j]?, g with
    | some (.scr ns), none => .nx (r.set i .drw) (some (if ns = [] then [0] else ns, 0, []))
    | _, _ => .bad
/-- a def: n parameters, m slots; it leaves no reader behind -/
def fnD (F : Nat → Fn) (n m : Nat) (b : Sm) : Fn := fun cs g =>
  if cs.length = n then
    match evS F b (cs ++ List.replicate (m - n) .und) g with
    | .nx _ g1 => if rdN g1 = rdN g then .ok .none g1 else .bad
    | .rt d g1 => if rdN g1 = rdN g then .ok d g1 else .bad
    | .ex c _ g1 => if rdN g1 = rdN g then .exc c g1 else .bad
    | _ => .bad
  else .bad
/-- a def whose value is not looked at -/
def fnO (F : Nat → Fn) (n m : Nat) (b : Sm) : Fn := fun cs g =>
  if cs.length = n then
    match evS F b (cs ++ List.replicate (m - n) .und) g with
    | .nx _ g1 => if rdN g1 = rdN g then .ok .none g1 else .bad
    | .rt _ g1 => if rdN g1 = rdN g then .ok .none g1 else .bad
    | .ro g1 => if rdN g1 = rdN g then .ok .none g1 else .bad
    | .ex c _ g1 => if rdN g1 = rdN g then .exc c g1 else .bad
    | _ => .bad
  else .bad
end Tl
end
section
set_option Elab.async false
set_option linter.all false
set_option maxRecDepth 100000
namespace Tl
open PySem PySem.Spec PyProof.Rows L2
/-! ### what stands for a datum in the frozen heap -/
mutual
inductive Rp (F : Hp) : V → D → Prop
  | non : Rp F .non .none
  | bl (b : Bool) : Rp F (.bl b) (.bool b)
  | int (i : Int) : Rp F (.int i) (.int i)
  | str (x : Str) : x.length ≤ lim → PyData.strOk x = true → Rp F (.str x) (.str x)
  | lst {a : Addr} {xs : List V} {ds : List D} : F a = some (.lst xs) → RpAll F xs ds → ds.length ≤ lim → Rp F (.ref a) (.list ds)
  | tup {a : Addr} {xs : List V} {ds : List D} : F a = some (.tup xs) → RpAll F xs ds → ds.length ≤ lim → Rp F (.ref a) (.tuple ds)
inductive RpAll (F : Hp) : List V → List D → Prop
  | nil : RpAll F [] []
  | cons {v : V} {vs : List V} {d : D} {ds : List D} : Rp F v d → RpAll F vs ds → RpAll F (v :: vs) (d :: ds)
end
mutual
theorem Rp.mono {F F' : Hp} (s : Same F F') : ∀ {v : V} {d : D}, Rp F v d → Rp F' v d
  | _, _, .non => .non
  | _, _, .bl b => .bl b
  | _, _, .int i => .int i
  | _, _, .str x h k => .str x h k
  | _, _, .lst h r l => .lst (s _ _ h) (RpAll.mono s r) l
  | _, _, .tup h r l => .tup (s _ _ h) (RpAll.mono s r) l
theorem RpAll.mono {F F' : Hp} (s : Same F F') : ∀ {vs : List V} {ds : List D}, RpAll F vs ds → RpAll F' vs ds
  | _, _, .nil => .nil
  | _, _, .cons h t => .cons (Rp.mono s h) (RpAll.mono s t)
end
mutual
theorem Rp.dp {K : PySem.W.Frag} {F H : Hp} (s : Same F H) : ∀ {v : V} {d : D}, Rp F v d → Dp K H v d
  | _, _, .non => .non
  | _, _, .bl b => .bl b
  | _, _, .int i => .int i
  | _, _, .str x h k => .str x
  | _, _, .lst h r l => .lst (.inl (.inl (s _ _ h))) (RpAll.dp s r)
  | _, _, .tup h r l => .tup (.inl (.inl (s _ _ h))) (RpAll.dp s r)
theorem RpAll.dp {K : PySem.W.Frag} {F H : Hp} (s : Same F H) : ∀ {vs : List V} {ds : List D}, RpAll F vs ds → DpAll K H vs ds
  | _, _, .nil => .nil
  | _, _, .cons h t => .cons (Rp.dp s h) (RpAll.dp s t)
end
mutual
theorem Rp.lay {F : Hp} : ∀ {v : V} {d : D}, Rp F v d → d.canLay0 = true
  | _, _, .non => by simp [PyData.canLay0]
  | _, _, .bl b => by simp [PyData.canLay0]
  | _, _, .int i => by simp [PyData.canLay0]
  | _, _, .str x h k => by simp [PyData.canLay0, k]
  | _, _, .lst h r l => by simp [PyData.canLay0, RpAll.lay r]
  | _, _, .tup h r l => by simp [PyData.canLay0, RpAll.lay r]
theorem RpAll.lay {F : Hp} : ∀ {vs : List V} {ds : List D}, RpAll F vs ds → PyData.canLayAll0 ds = true
  | _, _, .nil => by simp [PyData.canLayAll0]
  | _, _, .cons h t => by simp [PyData.canLayAll0, Rp.lay h, RpAll.lay t]
end
theorem RpAll.length {F : Hp} : ∀ {vs : List V} {ds : List D}, RpAll F vs ds → vs.length = ds.length
  | _, _, .nil => rfl
  | _, _, .cons h t => by rw [List.length_cons, List.length_cons, RpAll.length t]
theorem RpAll.get {F : Hp} : ∀ {vs : List V} {ds : List D} {i : Nat} {d : D}, RpAll F vs ds → ds[i]? = some d → ∃ v, vs[i]? = some v ∧ Rp F v d
  | _, _, _, _, .nil, e => by simp at e
  | _, _, 0, _, .cons h t, e => by simp at e; subst e; exact ⟨_, rfl, h⟩
  | _, _, i + 1, d, .cons h t, e => by
    obtain ⟨v, h1, h2⟩ := RpAll.get (i := i) (d := d) t (by simpa using e)
    exact ⟨v, by simpa using h1, h2⟩
theorem RpAll.getV {F : Hp} : ∀ {vs : List V} {ds : List D} {i : Nat} {v : V}, RpAll F vs ds → vs[i]? = some v → ∃ d, ds[i]? = some d ∧ Rp F v d
  | _, _, _, _, .nil, e => by simp at e
  | _, _, 0, _, .cons h t, e => by simp at e; subst e; exact ⟨_, rfl, h⟩
  | _, _, i + 1, v, .cons h t, e => by
    obtain ⟨d, h1, h2⟩ := RpAll.getV (i := i) (v := v) t (by simpa using e)
    exact ⟨d, by simpa using h1, h2⟩
theorem RpAll.append {F : Hp} : ∀ {vs ws : List V} {ds es : List D}, RpAll F vs ds → RpAll F ws es → RpAll F (vs ++ ws) (ds ++ es)
  | _, _, _, _, .nil, s => s
  | _, _, _, _, .cons h t, s => .cons h (RpAll.append t s)
theorem RpAll.take {F : Hp} : ∀ {vs : List V} {ds : List D} (n : Nat), RpAll F vs ds → RpAll F (vs.take n) (ds.take n)
  | _, _, 0, _ => .nil
  | _, _, _ + 1, .nil => .nil
  | _, _, n + 1, .cons h t => .cons h (RpAll.take n t)
theorem RpAll.drop {F : Hp} : ∀ {vs : List V} {ds : List D} (n : Nat), RpAll F vs ds → RpAll F (vs.drop n) (ds.drop n)
  | _, _, 0, r => r
  | _, _, _ + 1, .nil => .nil
  | _, _, n + 1, .cons h t => RpAll.drop n t
theorem RpAll.set {F : Hp} {v : V} {d : D} (h : Rp F v d) : ∀ {vs : List V} {ds : List D} (i : Nat), RpAll F vs ds → RpAll F (vs.set i v) (ds.set i d)
  | _, _, _, .nil => .nil
  | _, _, 0, .cons _ t => .cons h t
  | _, _, i + 1, .cons q t => .cons q (RpAll.set h i t)
theorem RpAll.erase {F : Hp} : ∀ {vs : List V} {ds : List D} (i : Nat), RpAll F vs ds → RpAll F (vs.eraseIdx i) (ds.eraseIdx i)
  | _, _, _, .nil => .nil
  | _, _, 0, .cons _ t => t
  | _, _, i + 1, .cons q t => .cons q (RpAll.erase i t)
theorem RpAll.reverse {F : Hp} : ∀ {vs : List V} {ds : List D}, RpAll F vs ds → RpAll F vs.reverse ds.reverse
  | _, _, .nil => .nil
  | _, _, .cons h t => by
    rw [List.reverse_cons, List.reverse_cons]
    exact RpAll.append (RpAll.reverse t) (.cons h .nil)
theorem RpAll.flat {F : Hp} {vs : List V} {ds : List D} (h : RpAll F vs ds) : ∀ k : Nat, RpAll F (List.replicate k vs).flatten (List.replicate k ds).flatten
  | 0 => .nil
  | k + 1 => by
    rw [List.replicate_succ, List.replicate_succ, List.flatten_cons, List.flatten_cons]
    exact RpAll.append h (RpAll.flat h k)
theorem rp_ints {F : Hp} : ∀ {vs : List V} {ds : List D} {ns : List Int}, RpAll F vs ds → toInts ds = some ns → vs = ns.map V.int ∧ ds = ns.map .int
  | _, _, ns, .nil, e => by cases e; exact ⟨rfl, rfl⟩
  | _, _, ns, .cons (d := d) (ds := ds) h t, e => by
    cases d with
    | int i =>
      simp only [toInts] at e
      cases q : toInts ds with
      | none => rw [q] at e; cases e
      | some ms =>
        rw [q] at e
        cases e
        obtain ⟨h1, h2⟩ := rp_ints t q
        cases h
        rw [h1, h2]
        exact ⟨rfl, rfl⟩
    | _ => simp [toInts] at e
theorem rp_strs {F : Hp} : ∀ {vs : List V} {ds : List D} {ns : List Str}, RpAll F vs ds → toStrs ds = some ns → vs = ns.map V.str ∧ ds = ns.map .str
  | _, _, ns, .nil, e => by cases e; exact ⟨rfl, rfl⟩
  | _, _, ns, .cons (d := d) (ds := ds) h t, e => by
    cases d with
    | str i =>
      simp only [toStrs] at e
      cases q : toStrs ds with
      | none => rw [q] at e; cases e
      | some ms =>
        rw [q] at e
        cases e
        obtain ⟨h1, h2⟩ := rp_strs t q
        cases h
        rw [h1, h2]
        exact ⟨rfl, rfl⟩
    | _ => simp [toStrs] at e
theorem rp_bls {F : Hp} : ∀ {vs : List V} {ds : List D} {ns : List Bool}, RpAll F vs ds → toBls ds = some ns → vs = ns.map V.bl ∧ ds = ns.map .bool
  | _, _, ns, .nil, e => by cases e; exact ⟨rfl, rfl⟩
  | _, _, ns, .cons (d := d) (ds := ds) h t, e => by
    cases d with
    | bool i =>
      simp only [toBls] at e
      cases q : toBls ds with
      | none => rw [q] at e; cases e
      | some ms =>
        rw [q] at e
        cases e
        obtain ⟨h1, h2⟩ := rp_bls t q
        cases h
        rw [h1, h2]
        exact ⟨rfl, rfl⟩
    | _ => simp [toBls] at e
theorem ints_rp {F : Hp} : ∀ (ns : List Int), RpAll F (ns.map V.int) (ns.map .int)
  | [] => .nil
  | i :: r => .cons (.int i) (ints_rp r)
/-! ### the drawing state, steps of the heaps -/
abbrev DA := Option (Addr × Addr × List (Addr × Addr))
def dAll (p : Addr × Addr × List (Addr × Addr)) : List Addr := p.1 :: p.2.1 :: p.2.2.flatMap fun z => [z.1, z.2]
def isDr (da : DA) (b : Addr) : Prop := ∃ p, da = some p ∧ b ∈ dAll p
def RdOk (H : Hp) : List Rd → List (Addr × Addr) → Prop
  | [], [] => True
  | x :: xs, z :: zs => (H z.1 = some (.lst [.int x.1, .int x.2.1]) ∧ H z.2 = some (.lst (x.2.2.map V.int)) ∧ x.2.2.length ≤ 1000) ∧ RdOk H xs zs
  | _, _ => False
theorem RdOk.keep {H H' : Hp} : ∀ {xs : List Rd} {zs : List (Addr × Addr)}, (∀ z ∈ zs, ∀ o, (H z.1 = some o → H' z.1 = some o) ∧ (H z.2 = some o → H' z.2 = some o)) → RdOk H xs zs → RdOk H' xs zs
  | [], [], _, _ => trivial
  | x :: xs, z :: zs, k, h => ⟨⟨(k z (.head _) _).1 h.1.1, (k z (.head _) _).2 h.1.2.1, h.1.2.2⟩, RdOk.keep (fun y hy => k y (.tail _ hy)) h.2⟩
  | [], _ :: _, _, h => h.elim
  | _ :: _, [], _, h => h.elim
theorem RdOk.lst {H : Hp} : ∀ {xs : List Rd} {zs : List (Addr × Addr)} {b : Addr}, RdOk H xs zs → b ∈ zs.flatMap (fun z => [z.1, z.2]) → ∃ ys, H b = some (.lst ys)
  | [], [], _, _, hb => by simp at hb
  | x :: xs, z :: zs, b, h, hb => by
    rw [List.flatMap_cons, List.mem_append] at hb
    rcases hb with hb | hb
    · simp only [List.mem_cons, List.not_mem_nil, or_false] at hb
      rcases hb with e | e
      · subst e; exact ⟨_, h.1.1⟩
      · subst e; exact ⟨_, h.1.2.1⟩
    · exact RdOk.lst h.2 hb
  | [], _ :: _, _, h, _ => h.elim
  | _ :: _, [], _, h, _ => h.elim
theorem RdOk.at {H : Hp} : ∀ {xs : List Rd} {zs : List (Addr × Addr)} {j : Nat} {x : Rd}, RdOk H xs zs → xs[j]? = some x → ∃ z, zs[j]? = some z ∧ H z.1 = some (.lst [.int x.1, .int x.2.1]) ∧ H z.2 = some (.lst (x.2.2.map V.int)) ∧ x.2.2.length ≤ 1000
  | [], [], _, _, _, e => by simp at e
  | x :: xs, z :: zs, 0, y, h, e => by
    simp at e
    subst e
    exact ⟨z, rfl, h.1⟩
  | x :: xs, z :: zs, j + 1, y, h, e => by
    obtain ⟨u, e1, e2⟩ := RdOk.at (j := j) h.2 (by simpa using e)
    exact ⟨u, by simpa using e1, e2⟩
  | [], _ :: _, _, _, h, _ => h.elim
  | _ :: _, [], _, _, h, _ => h.elim
theorem RdOk.len {H : Hp} : ∀ {xs : List Rd} {zs : List (Addr × Addr)}, RdOk H xs zs → xs.length = zs.length
  | [], [], _ => rfl
  | _ :: _, _ :: _, h => congrArg (· + 1) (RdOk.len h.2)
  | [], _ :: _, h => h.elim
  | _ :: _, [], h => h.elim
abbrev flat2 (zs : List (Addr × Addr)) : List Addr := zs.flatMap fun z => [z.1, z.2]
theorem flat2_mem {zs : List (Addr × Addr)} {z : Addr × Addr} (h : z ∈ zs) : z.1 ∈ flat2 zs ∧ z.2 ∈ flat2 zs := ⟨List.mem_flatMap.mpr ⟨z, h, .head _⟩, List.mem_flatMap.mpr ⟨z, h, .tail _ (.head _)⟩⟩
/-- one reader changes -/
theorem RdOk.set {H H' : Hp} {y : Rd} (hl : y.2.2.length ≤ 1000) : ∀ {xs : List Rd} {zs : List (Addr × Addr)} {j : Nat} {z : Addr × Addr}, (flat2 zs).Nodup → RdOk H xs zs → zs[j]? = some z → H' z.1 = some (.lst [.int y.1, .int y.2.1]) → H' z.2 = some (.lst (y.2.2.map V.int)) → (∀ b, b ≠ z.1 → b ≠ z.2 → H' b = H b) → RdOk H' (xs.set j y) zs
  | [], [], _, _, _, _, e, _, _, _ => by simp at e
  | x :: xs, w :: zs, 0, z, nd, h, e, h1, h2, k => by
    simp at e
    subst e
    rw [flat2, List.flatMap_cons, List.nodup_append] at nd
    refine ⟨⟨h1, h2, hl⟩, RdOk.keep (fun u hu o => ?_) h.2⟩
    obtain ⟨u1, u2⟩ := flat2_mem hu
    constructor
    · intro e
      rw [k _ (fun q => nd.2.2 _ (.head _) _ u1 q.symm) (fun q => nd.2.2 _ (.tail _ (.head _)) _ u1 q.symm)]
      exact e
    · intro e
      rw [k _ (fun q => nd.2.2 _ (.head _) _ u2 q.symm) (fun q => nd.2.2 _ (.tail _ (.head _)) _ u2 q.symm)]
      exact e
  | x :: xs, w :: zs, j + 1, z, nd, h, e, h1, h2, k => by
    have e : zs[j]? = some z := by simpa using e
    rw [flat2, List.flatMap_cons, List.nodup_append] at nd
    obtain ⟨u1, u2⟩ := flat2_mem (List.mem_of_getElem? e)
    refine ⟨⟨?_, ?_, h.1.2.2⟩, RdOk.set hl nd.2.1 h.2 e h1 h2 k⟩
    · rw [k _ (fun q => nd.2.2 _ (.head _) _ u1 q) (fun q => nd.2.2 _ (.head _) _ u2 q)]
      exact h.1.1
    · rw [k _ (fun q => nd.2.2 _ (.tail _ (.head _)) _ u1 q) (fun q => nd.2.2 _ (.tail _ (.head _)) _ u2 q)]
      exact h.1.2.1
  | [], _ :: _, _, _, _, h, _, _, _, _ => h.elim
  | _ :: _, [], _, _, _, h, _, _, _, _ => h.elim
theorem RdOk.add {H : Hp} {y : Rd} {z : Addr × Addr} (h1 : H z.1 = some (.lst [.int y.1, .int y.2.1])) (h2 : H z.2 = some (.lst (y.2.2.map V.int))) (hl : y.2.2.length ≤ 1000) : ∀ {xs : List Rd} {zs : List (Addr × Addr)}, RdOk H xs zs → RdOk H (xs ++ [y]) (zs ++ [z])
  | [], [], _ => ⟨⟨h1, h2, hl⟩, trivial⟩
  | _ :: _, _ :: _, h => ⟨h.1, RdOk.add h1 h2 hl h.2⟩
  | [], _ :: _, h => h.elim
  | _ :: _, [], h => h.elim
def GOk (H : Hp) (g : G) (da : DA) : Prop := match g, da with
  | none, none => True
  | some (ns, c, xs), some (a, n, zs) => (dAll (a, n, zs)).Nodup ∧ H a = some (.lst [.ref n, .int c]) ∧ H n = some (.lst (ns.map V.int)) ∧ (ns ≠ [] ∧ ns.length ≤ 1000) ∧ RdOk H xs zs
  | _, _ => False
theorem GOk.same {H H' : Hp} {g : G} {da : DA} (s : Same H H') (h : GOk H g da) : GOk H' g da := by
  unfold GOk at h ⊢
  split at h
  · trivial
  · obtain ⟨h1, h2, h3, h4, h5⟩ := h
    exact ⟨h1, s _ _ h2, s _ _ h3, h4, RdOk.keep (fun z _ o => ⟨s _ _, s _ _⟩) h5⟩
  · exact h
/-- a tuple of numbers: it may be known at any time -/
def TupI (o : HO) : Prop := ∃ ns : List Int, o = .tup (ns.map V.int)
theorem TupI.noL {xs : List V} : ¬ TupI (.lst xs) := fun ⟨_, z⟩ => by cases z
theorem TupI.noR {p : Addr} {xs : List V} : ¬ TupI (.tup (.ref p :: xs)) := fun ⟨ns, z⟩ => by
  cases ns with
  | nil => cases z
  | cons n ns =>
    rw [List.map_cons] at z
    injection z with z
    injection z with z1 _
    cases z1
/-- something new is laid -/
structure Al (F H F' H' : Hp) : Prop where
  fr : Same F F'
  sub : Same F' H'
  keep : Same H H'
  new : ∀ b o, H b = some o → F b = none → F' b = none ∨ TupI o
theorem Al.refl {F H : Hp} (s : Same F H) : Al F H F H := ⟨Same.refl F, s, Same.refl H, fun _ _ _ h => .inl h⟩
theorem Al.trans {F H F1 H1 F2 H2 : Hp} (a : Al F H F1 H1) (b : Al F1 H1 F2 H2) : Al F H F2 H2 :=
  ⟨a.fr.trans b.fr, b.sub, a.keep.trans b.keep, fun x o h n => (a.new x o h n).elim (b.new x o (a.keep x o h)) .inr⟩
theorem same_upd {H : Hp} {p : Addr} {o : HO} (h : H p = none) : Same H (upd H p o) := fun b x e => by
  rw [upd_ne (ne_of_none e h)]
  exact e
theorem Al.one {F H : Hp} {p : Addr} {o : HO} (s : Same F H) (h : H p = none) : Al F H (upd F p o) (upd H p o) :=
  ⟨same_upd (s.free h), fun b x e => by
    by_cases hb : b = p
    · subst hb
      rw [upd_same] at e ⊢
      exact e
    · rw [upd_ne hb] at e ⊢
      exact s b x e, same_upd h, fun b x e n => by
    rw [upd_ne (ne_of_none e h)]
    exact .inl n⟩
/-- laid, but not frozen -/
theorem Al.side {F H : Hp} {p : Addr} {o : HO} (s : Same F H) (h : H p = none) : Al F H F (upd H p o) :=
  ⟨Same.refl F, s.trans (same_upd h), same_upd h, fun _ _ _ n => .inl n⟩
theorem GOk.lst {H : Hp} {g : G} {da : DA} {b : Addr} (h : GOk H g da) (d : isDr da b) : ∃ xs, H b = some (.lst xs) := by
  obtain ⟨p, rfl, hb⟩ := d
  cases g with
  | none => exact False.elim h
  | some q =>
    obtain ⟨_, h1, h2, _, h5⟩ := h
    rcases List.mem_cons.mp hb with e | hb
    · subst e; exact ⟨_, h1⟩
    · rcases List.mem_cons.mp hb with e | hb
      · subst e; exact ⟨_, h2⟩
      · exact h5.lst hb
structure Nx (da : DA) (F H F' H' : Hp) (g' : G) : Prop where
  fr : Same F F'
  sub : Same F' H'
  keep : ∀ b o, H b = some o → ¬ isDr da b → H' b = some o
  new : ∀ b o, H b = some o → F b = none → F' b = none ∨ TupI o
  gok : GOk H' g' da
  tho : ∀ b o, H b = some o → ∃ o', H' b = some o'
theorem Nx.refl {da : DA} {F H : Hp} {g : G} (s : Same F H) (h : GOk H g da) : Nx da F H F H g := ⟨Same.refl F, s, fun _ _ e _ => e, fun _ _ _ n => .inl n, h, fun _ o e => ⟨o, e⟩⟩
theorem Nx.trans {da : DA} {F H F1 H1 F2 H2 : Hp} {g1 g2 : G} (a : Nx da F H F1 H1 g1) (b : Nx da F1 H1 F2 H2 g2) : Nx da F H F2 H2 g2 :=
  ⟨a.fr.trans b.fr, b.sub, fun x o h n => b.keep x o (a.keep x o h n) n, fun x o h n => by
    by_cases hd : isDr da x
    · obtain ⟨xs, h'⟩ := a.gok.lst hd
      rcases a.new x o h n with z | z
      · exact (b.new x _ h' z).elim .inl fun w => absurd w TupI.noL
      · exact .inr z
    · exact (a.new x o h n).elim (b.new x o (a.keep x o h hd)) .inr, b.gok, fun x o h => by
    obtain ⟨o', h'⟩ := a.tho x o h
    exact b.tho x o' h'⟩
theorem Nx.al {da : DA} {F H F1 H1 F2 H2 : Hp} {g : G} (a : Nx da F H F1 H1 g) (b : Al F1 H1 F2 H2) : Nx da F H F2 H2 g :=
  a.trans ⟨b.fr, b.sub, fun x o h _ => b.keep x o h, b.new, a.gok.same b.keep, fun x o h => ⟨o, b.keep x o h⟩⟩
theorem Nx.of_al {da : DA} {F H F2 H2 : Hp} {g : G} (h : GOk H g da) (b : Al F H F2 H2) : Nx da F H F2 H2 g :=
  ⟨b.fr, b.sub, fun x o h _ => b.keep x o h, b.new, h.same b.keep, fun x o h => ⟨o, b.keep x o h⟩⟩
/-! ### what may be read: a datum, or an owned list -/
def Ow (F H : Hp) (da : DA) (a : Addr) (ds : List D) : Prop := ∃ xs, H a = some (.lst xs) ∧ F a = none ∧ ¬ isDr da a ∧ RpAll F xs ds ∧ ds.length ≤ lim
def Cp (F H : Hp) (da : DA) (v : V) (d : D) : Prop := Rp F v d ∨ ∃ a ds, v = .ref a ∧ d = .list ds ∧ Ow F H da a ds
theorem Ow.nx {F H F' H' : Hp} {da : DA} {g : G} {a : Addr} {ds : List D} (n : Nx da F H F' H' g) (h : Ow F H da a ds) : Ow F' H' da a ds := by
  obtain ⟨xs, h1, h2, h3, h4, h5⟩ := h
  exact ⟨xs, n.keep _ _ h1 h3, (n.new _ _ h1 h2).resolve_right TupI.noL, h3, h4.mono n.fr, h5⟩
theorem Cp.nx {F H F' H' : Hp} {da : DA} {g : G} {v : V} {d : D} (n : Nx da F H F' H' g) (h : Cp F H da v d) : Cp F' H' da v d := by
  rcases h with h | ⟨a, ds, h1, h2, h3⟩
  · exact .inl (h.mono n.fr)
  · exact .inr ⟨a, ds, h1, h2, h3.nx n⟩
theorem Cp.list {F H : Hp} {da : DA} {v : V} {ds : List D} (s : Same F H) (h : Cp F H da v (.list ds)) : ∃ a xs, v = .ref a ∧ H a = some (.lst xs) ∧ RpAll F xs ds ∧ ds.length ≤ lim := by
  rcases h with h | ⟨a, es, h1, h2, xs, h3, _, _, h4, h5⟩
  · cases h with
    | lst h r l => exact ⟨_, _, rfl, s _ _ h, r, l⟩
  · cases h2
    exact ⟨a, xs, h1, h3, h4, h5⟩
theorem Cp.flat {F H : Hp} {da : DA} {v : V} {d : D} (h : Cp F H da v d) (n : ∀ ds, d ≠ .list ds) : Rp F v d := by
  rcases h with h | ⟨a, es, _, h2, _⟩
  · exact h
  · exact absurd h2 (n es)
theorem Cp.dp {K : PySem.W.Frag} {F H : Hp} {da : DA} {v : V} {d : D} (s : Same F H) (h : Cp F H da v d) : Dp K H v d := by
  rcases h with h | ⟨a, ds, rfl, rfl, xs, h1, _, _, h2, _⟩
  · exact h.dp s
  · exact .lst (.inl (.inl h1)) (h2.dp s)
theorem Cp.lay {F H : Hp} {da : DA} {v : V} {d : D} (h : Cp F H da v d) : d.canLay0 = true := by
  rcases h with h | ⟨a, ds, rfl, rfl, xs, h1, _, _, h2, _⟩
  · exact h.lay
  · simp [PyData.canLay0, h2.lay]
theorem shp_shaped {d : D} (h : d.canLay0 = true) (k : shp d = true) : SeqAt.shaped d = true := by
  have q : d.depth ≤ 60 := of_decide_eq_true k
  unfold SeqAt.shaped
  rw [h, Bool.true_and]
  exact decide_eq_true (by omega)
end Tl
end
section
set_option Elab.async false
set_option linter.all false
set_option maxRecDepth 100000
namespace Tl
open PySem PySem.Spec PyProof.Rows L2
theorem lim_line {n : Nat} (h : n ≤ lim) : n < sizeLine := by
  rw [sizeLine_eq]
  exact Nat.lt_of_le_of_lt h (by decide)
theorem lim_line' {n : Nat} (h : n ≤ lim) : n ≤ sizeLine := Nat.le_of_lt (lim_line h)
/-! ### operations by values -/
def S1 (o : Un) (r : V → Hp → VK → Prop) : Prop := ∀ (F H : Hp) (da : DA) (x : V) (d dz : D) (Q : VK), Same F H → Cp F H da x d → uop o d = some dz → (∀ v F' H', Al F H F' H' → Rp F' v dz → Q v H') → r x H Q
def S2 (o : Bi) (r : R2) : Prop := ∀ (F H : Hp) (da : DA) (x y : V) (d e dz : D) (Q : VK), Same F H → Cp F H da x d → Cp F H da y e → bop o d e = some dz → (∀ v F' H', Al F H F' H' → Rp F' v dz → Q v H') → r x y H Q
section
variable {K : PySem.W.Frag}
theorem cp_int {F H : Hp} {da : DA} {x : V} {i : Int} (h : Cp F H da x (.int i)) : x = .int i := by
  have q := h.flat (fun _ z => nomatch z)
  cases q
  rfl
theorem cp_bl {F H : Hp} {da : DA} {x : V} {i : Bool} (h : Cp F H da x (.bool i)) : x = .bl i := by
  have q := h.flat (fun _ z => nomatch z)
  cases q
  rfl
theorem cp_str {F H : Hp} {da : DA} {x : V} {i : Str} (h : Cp F H da x (.str i)) : x = .str i ∧ i.length ≤ lim ∧ PyData.strOk i = true := by
  have q := h.flat (fun _ z => nomatch z)
  cases q with
  | str _ h1 h2 => exact ⟨rfl, h1, h2⟩
theorem cp_tup {F H : Hp} {da : DA} {x : V} {ds : List D} (s : Same F H) (h : Cp F H da x (.tuple ds)) : ∃ a xs, x = .ref a ∧ H a = some (.tup xs) ∧ RpAll F xs ds ∧ ds.length ≤ lim := by
  have q := h.flat (fun _ z => nomatch z)
  cases q with
  | tup h1 h2 h3 => exact ⟨_, _, rfl, s _ _ h1, h2, h3⟩
theorem new_lst {F H : Hp} {xs : List V} {ds : List D} {Q : VK} (s : Same F H) (r : RpAll F xs ds) (l : ds.length ≤ lim) (k : ∀ v F' H', Al F H F' H' → Rp F' v (.list ds) → Q v H') (p : Addr) (hp : H p = none) : Q (.ref p) (upd H p (.lst xs)) :=
  k _ _ _ (Al.one s hp) (.lst upd_same (r.mono (same_upd (s.free hp))) l)
theorem new_tup {F H : Hp} {xs : List V} {ds : List D} {Q : VK} (s : Same F H) (r : RpAll F xs ds) (l : ds.length ≤ lim) (k : ∀ v F' H', Al F H F' H' → Rp F' v (.tuple ds) → Q v H') (p : Addr) (hp : H p = none) : Q (.ref p) (upd H p (.tup xs)) :=
  k _ _ _ (Al.one s hp) (.tup upd_same (r.mono (same_upd (s.free hp))) l)
/-! one operand -/
theorem s1_neg : S1 .neg (rU fun i => .int (-i)) := by
  intro F H da x d dz Q s c e k
  cases d with
  | int i =>
    cases e
    exact ⟨i, cp_int c, k _ _ _ (Al.refl s) (.int _)⟩
  | _ => simp [uop] at e
def rNotV : V → Hp → VK → Prop := fun x H Q => ∃ c, x = .bl c ∧ Q (.bl (!c)) H
theorem s1_not : S1 .notv rNotV := by
  intro F H da x d dz Q s c e k
  cases d with
  | bool i =>
    cases e
    exact ⟨i, cp_bl c, k _ _ _ (Al.refl s) (.bl _)⟩
  | _ => simp [uop] at e
def rLenV (K : PySem.W.Frag) : V → Hp → VK → Prop := fun x H Q => ∃ y n, [x] = [y] ∧ LenV K y H n ∧ Q (.int n) H
theorem s1_len : S1 .len (rLenV K) := by
  intro F H da x d dz Q s c e k
  cases d with
  | str i =>
    cases e
    obtain ⟨h1, h2, h3⟩ := cp_str c
    subst h1
    exact ⟨_, _, rfl, ⟨lim_line' h2, rfl⟩, k _ _ _ (Al.refl s) (.int _)⟩
  | list ds =>
    cases e
    obtain ⟨a, xs, h1, h2, h3, h4⟩ := c.list s
    subst h1
    refine ⟨_, ds.length, rfl, .inl ⟨xs, .inl (.inl h2), h3.length.symm⟩, k _ _ _ (Al.refl s) (.int _)⟩
  | tuple ds =>
    cases e
    obtain ⟨a, xs, h1, h2, h3, h4⟩ := cp_tup s c
    subst h1
    refine ⟨_, ds.length, rfl, .inr ⟨xs, .inl (.inl h2), h3.length.symm⟩, k _ _ _ (Al.refl s) (.int _)⟩
  | _ => simp [uop] at e
theorem s1_sum : S1 .sum (fun x H Q => rSum K [x] H Q) := by
  intro F H da x d dz Q s c e k
  cases d with
  | list ds =>
    obtain ⟨a, xs, h1, h2, h3, h4⟩ := c.list s
    simp only [uop] at e
    cases q : toInts ds with
    | none => rw [q] at e; cases e
    | some ns =>
      rw [q] at e
      cases e
      obtain ⟨h5, h6⟩ := rp_ints h3 q
      subst h1 h5
      exact ⟨a, ns, rfl, .inl (.inl h2), k _ _ _ (Al.refl s) (.int _)⟩
  | _ => simp [uop] at e
theorem foldl_min : ∀ (r : List Int) (x : Int), (r.foldl min x = x ∨ r.foldl min x ∈ r) ∧ r.foldl min x ≤ x ∧ ∀ y ∈ r, r.foldl min x ≤ y
  | [], x => ⟨.inl rfl, Int.le_refl _, fun _ h => nomatch h⟩
  | z :: r, x => by
    obtain ⟨h1, h2, h3⟩ := foldl_min r (min x z)
    rw [List.foldl_cons]
    refine ⟨?_, by omega, fun y hy => ?_⟩
    · rcases h1 with h1 | h1
      · rcases Int.le_total x z with h | h
        · left; omega
        · right; rw [h1]; have : min x z = z := by omega
          rw [this]; exact List.mem_cons_self
      · right; exact List.mem_cons_of_mem _ h1
    · rcases List.mem_cons.mp hy with h | h
      · omega
      · exact h3 y h
theorem foldl_max : ∀ (r : List Int) (x : Int), (r.foldl max x = x ∨ r.foldl max x ∈ r) ∧ x ≤ r.foldl max x ∧ ∀ y ∈ r, y ≤ r.foldl max x
  | [], x => ⟨.inl rfl, Int.le_refl _, fun _ h => nomatch h⟩
  | z :: r, x => by
    obtain ⟨h1, h2, h3⟩ := foldl_max r (max x z)
    rw [List.foldl_cons]
    refine ⟨?_, by omega, fun y hy => ?_⟩
    · rcases h1 with h1 | h1
      · rcases Int.le_total z x with h | h
        · left; omega
        · right; rw [h1]; have : max x z = z := by omega
          rw [this]; exact List.mem_cons_self
      · right; exact List.mem_cons_of_mem _ h1
    · rcases List.mem_cons.mp hy with h | h
      · omega
      · exact h3 y h
theorem minI_is {ns : List Int} {m z : Int} (h : minI ns = some z) (h1 : m ∈ ns) (h2 : ∀ y, y ∈ ns → m ≤ y) : m = z := by
  cases ns with
  | nil => cases h
  | cons x r =>
    cases h
    obtain ⟨a, b, c⟩ := foldl_min r x
    have h3 : m ≤ r.foldl min x := by
      rcases a with a | a
      · rw [a]; exact h2 x List.mem_cons_self
      · exact h2 _ (List.mem_cons_of_mem _ a)
    rcases List.mem_cons.mp h1 with e | e
    · omega
    · have := c m e; omega
theorem maxI_is {ns : List Int} {m z : Int} (h : maxI ns = some z) (h1 : m ∈ ns) (h2 : ∀ y, y ∈ ns → y ≤ m) : m = z := by
  cases ns with
  | nil => cases h
  | cons x r =>
    cases h
    obtain ⟨a, b, c⟩ := foldl_max r x
    have h3 : r.foldl max x ≤ m := by
      rcases a with a | a
      · rw [a]; exact h2 x List.mem_cons_self
      · exact h2 _ (List.mem_cons_of_mem _ a)
    rcases List.mem_cons.mp h1 with e | e
    · omega
    · have := c m e; omega
theorem minI_pos {ns : List Int} {z : Int} (h : minI ns = some z) : 0 < ns.length := by
  cases ns with
  | nil => cases h
  | cons x r => simp
theorem maxI_pos {ns : List Int} {z : Int} (h : maxI ns = some z) : 0 < ns.length := by
  cases ns with
  | nil => cases h
  | cons x r => simp
theorem s1_min : S1 .min1 (fun x H Q => rMin K [x] H Q) := by
  intro F H da x d dz Q s c e k
  cases d with
  | list ds =>
    obtain ⟨a, xs, h1, h2, h3, h4⟩ := c.list s
    simp only [uop] at e
    cases q : toInts ds with
    | none => rw [q] at e; cases e
    | some ns =>
      rw [q] at e
      cases q2 : minI ns with
      | none => simp only [Option.bind_some, q2] at e; cases e
      | some z =>
        simp only [Option.bind_some, q2] at e
        cases e
        obtain ⟨h5, h6⟩ := rp_ints h3 q
        subst h1 h5
        refine ⟨a, ns, rfl, .inl (.inl h2), minI_pos q2, fun m hm hle => ?_⟩
        rw [minI_is q2 hm hle]
        exact k _ _ _ (Al.refl s) (.int _)
  | _ => simp [uop] at e
theorem s1_max : S1 .max1 (fun x H Q => rMax K [x] H Q) := by
  intro F H da x d dz Q s c e k
  cases d with
  | list ds =>
    obtain ⟨a, xs, h1, h2, h3, h4⟩ := c.list s
    simp only [uop] at e
    cases q : toInts ds with
    | none => rw [q] at e; cases e
    | some ns =>
      rw [q] at e
      cases q2 : maxI ns with
      | none => simp only [Option.bind_some, q2] at e; cases e
      | some z =>
        simp only [Option.bind_some, q2] at e
        cases e
        obtain ⟨h5, h6⟩ := rp_ints h3 q
        subst h1 h5
        refine ⟨a, ns, rfl, .inl (.inl h2), maxI_pos q2, fun m hm hle => ?_⟩
        rw [maxI_is q2 hm hle]
        exact k _ _ _ (Al.refl s) (.int _)
  | _ => simp [uop] at e
theorem s1_all : S1 .all (fun x H Q => rAll K [x] H Q) := by
  intro F H da x d dz Q s c e k
  cases d with
  | list ds =>
    obtain ⟨a, xs, h1, h2, h3, h4⟩ := c.list s
    simp only [uop] at e
    cases q : toBls ds with
    | none => rw [q] at e; cases e
    | some ns =>
      rw [q] at e
      cases e
      obtain ⟨h5, h6⟩ := rp_bls h3 q
      subst h1 h5
      exact ⟨a, ns, rfl, .inl (.inl h2), k _ _ _ (Al.refl s) (.bl _)⟩
  | _ => simp [uop] at e
theorem s1_any : S1 .any (fun x H Q => rAny K [x] H Q) := by
  intro F H da x d dz Q s c e k
  cases d with
  | list ds =>
    obtain ⟨a, xs, h1, h2, h3, h4⟩ := c.list s
    simp only [uop] at e
    cases q : toBls ds with
    | none => rw [q] at e; cases e
    | some ns =>
      rw [q] at e
      cases e
      obtain ⟨h5, h6⟩ := rp_bls h3 q
      subst h1 h5
      exact ⟨a, ns, rfl, .inl (.inl h2), k _ _ _ (Al.refl s) (.bl _)⟩
  | _ => simp [uop] at e
theorem s1_abs : S1 .abs (fun x H Q => ∃ i, [x] = [.int i] ∧ Q (.int (if i < 0 then -i else i)) H) := by
  intro F H da x d dz Q s c e k
  cases d with
  | int i =>
    cases e
    exact ⟨i, by rw [cp_int c], k _ _ _ (Al.refl s) (.int _)⟩
  | _ => simp [uop] at e
theorem s1_list : S1 .list (fun x H Q => ∃ p ys, [x] = [.ref p] ∧ (SqL K H p ys ∨ SqT K H p ys) ∧ ∀ l, H l = none → Q (.ref l) (upd H l (.lst ys))) := by
  intro F H da x d dz Q s c e k
  cases d with
  | list ds =>
    cases e
    obtain ⟨a, xs, h1, h2, h3, h4⟩ := c.list s
    subst h1
    exact ⟨a, xs, rfl, .inl (.inl (.inl h2)), fun p hp => new_lst s h3 h4 k p hp⟩
  | tuple ds =>
    cases e
    obtain ⟨a, xs, h1, h2, h3, h4⟩ := cp_tup s c
    subst h1
    exact ⟨a, xs, rfl, .inr (.inl (.inl h2)), fun p hp => new_lst s h3 h4 k p hp⟩
  | _ => simp [uop] at e
theorem s1_tuple : S1 .tuple (fun x H Q => ∃ p ys, [x] = [.ref p] ∧ ((SqL K H p ys ∧ ∀ l, H l = none → Q (.ref l) (upd H l (.tup ys))) ∨ (SqT K H p ys ∧ Q (.ref p) H))) := by
  intro F H da x d dz Q s c e k
  cases d with
  | list ds =>
    cases e
    obtain ⟨a, xs, h1, h2, h3, h4⟩ := c.list s
    subst h1
    exact ⟨a, xs, rfl, .inl ⟨.inl (.inl h2), fun p hp => new_tup s h3 h4 k p hp⟩⟩
  | _ => simp [uop] at e
theorem s1_rev : S1 .rev (fun x H Q => ∃ a xs, x = .ref a ∧ SqL K H a xs ∧ ∀ p, H p = none → Q (.ref p) (upd H p (.lst xs.reverse))) := by
  intro F H da x d dz Q s c e k
  cases d with
  | list ds =>
    cases e
    obtain ⟨a, xs, h1, h2, h3, h4⟩ := c.list s
    subst h1
    exact ⟨a, xs, rfl, .inl (.inl h2), fun p hp => new_lst s h3.reverse (by rw [List.length_reverse]; exact h4) k p hp⟩
  | _ => simp [uop] at e
/-! two operands -/
abbrev rAddA : R2 := fun x y H Q => (rI0 (fun i j => .int (i + j)) x y H Q) ∨ ((∃ i j, x = .str i ∧ y = .str j ∧ i.length + j.length ≤ sizeLine ∧ Q (.str (i ++ j)) H) ∨ rCat x y H Q)
theorem op_addA {X : Cx} : OpR X (binaryOp .Add) rAddA := op_add.or (op_add_str.or op_cat)
theorem strOk_append {x y : Str} (h1 : PyData.strOk x = true) (h2 : PyData.strOk y = true) : PyData.strOk (x ++ y) = true := by
  unfold PyData.strOk at *
  have e : (x ++ y).cps = x.cps ++ y.cps := rfl
  rw [e, Array.all_append, h1, h2]
  rfl
theorem length_append (x y : Str) : (x ++ y).length = x.length + y.length := by
  show (x.cps ++ y.cps).size = x.cps.size + y.cps.size
  exact Array.size_append
theorem s2_add : S2 .add rAddA := by
  intro F H da x y d e dz Q s c1 c2 q k
  cases d with
  | int i =>
    cases e with
    | int j =>
      cases q
      exact .inl ⟨i, j, cp_int c1, cp_int c2, k _ _ _ (Al.refl s) (.int _)⟩
    | _ => simp [bop] at q
  | str i =>
    cases e with
    | str j =>
      simp only [bop] at q
      split at q
      · rename_i hl
        cases q
        obtain ⟨h1, h2, h3⟩ := cp_str c1
        obtain ⟨h4, h5, h6⟩ := cp_str c2
        exact .inr (.inl ⟨i, j, h1, h4, lim_line' hl, k _ _ _ (Al.refl s) (.str _ (by rw [length_append]; exact hl) (strOk_append h3 h6))⟩)
      · cases q
    | _ => simp [bop] at q
  | list xs =>
    cases e with
    | list ys =>
      simp only [bop] at q
      split at q
      · rename_i hl
        cases q
        obtain ⟨a, us, h1, h2, h3, h4⟩ := c1.list s
        obtain ⟨b, ws, g1, g2, g3, g4⟩ := c2.list s
        refine .inr (.inr ⟨a, b, us, ws, h1, g1, h2, g2, by rw [h3.length, g3.length]; exact lim_line' hl, fun p hp => new_lst s (h3.append g3) (by rw [List.length_append]; exact hl) k p hp⟩)
      · cases q
    | _ => simp [bop] at q
  | _ => simp [bop] at q
theorem s2_sub : S2 .sub (rI0 fun i j => .int (i - j)) := by
  intro F H da x y d e dz Q s c1 c2 q k
  cases d with
  | int i =>
    cases e with
    | int j =>
      cases q
      exact ⟨i, j, cp_int c1, cp_int c2, k _ _ _ (Al.refl s) (.int _)⟩
    | _ => simp [bop] at q
  | _ => simp [bop] at q
abbrev rMulA : R2 := fun x y H Q => (rI CMul (fun i j => .int (i * j)) x y H Q) ∨ rRep x y H Q
theorem op_mulA {X : Cx} : OpR X (binaryOp .Mult) rMulA := op_mul.or op_rep
theorem mulOk_is {i j : Int} (h : mulOk i j = true) : CMul i j := by
  unfold mulOk at h
  simp only [Bool.or_eq_true, Bool.and_eq_true, decide_eq_true_eq] at h
  exact h
theorem s2_mul : S2 .mul rMulA := by
  intro F H da x y d e dz Q s c1 c2 q k
  cases d with
  | int i =>
    cases e with
    | int j =>
      simp only [bop] at q
      split at q
      · rename_i hm
        cases q
        exact .inl ⟨i, j, cp_int c1, cp_int c2, mulOk_is hm, k _ _ _ (Al.refl s) (.int _)⟩
      · cases q
    | _ => simp [bop] at q
  | list xs =>
    cases e with
    | int j =>
      simp only [bop] at q
      split at q
      · rename_i hm
        cases q
        obtain ⟨a, us, h1, h2, h3, h4⟩ := c1.list s
        obtain ⟨m1, m2, m3⟩ := hm
        refine .inr ⟨a, j, us, h1, cp_int c2, h2, by omega, by omega, by rw [h3.length]; exact lim_line' m3, fun p hp => new_lst s (h3.flat _) ?_ k p hp⟩
        simp only [List.length_flatten, List.map_replicate, List.sum_replicate_nat]
        rw [Nat.mul_comm]
        exact m3
      · cases q
    | _ => simp [bop] at q
  | _ => simp [bop] at q
theorem s2_fdiv : S2 .fdiv (rI CDiv fun i j => .int (i / j)) := by
  intro F H da x y d e dz Q s c1 c2 q k
  cases d with
  | int i =>
    cases e with
    | int j =>
      simp only [bop] at q
      split at q
      · rename_i hm
        cases q
        exact ⟨i, j, cp_int c1, cp_int c2, hm, k _ _ _ (Al.refl s) (.int _)⟩
      · cases q
    | _ => simp [bop] at q
  | _ => simp [bop] at q
theorem s2_mod : S2 .mod (rI (fun _ j => 0 < j) fun i j => .int (i % j)) := by
  intro F H da x y d e dz Q s c1 c2 q k
  cases d with
  | int i =>
    cases e with
    | int j =>
      simp only [bop] at q
      split at q
      · rename_i hm
        cases q
        exact ⟨i, j, cp_int c1, cp_int c2, hm, k _ _ _ (Al.refl s) (.int _)⟩
      · cases q
    | _ => simp [bop] at q
  | _ => simp [bop] at q
theorem s2_eq : S2 .eq (rEqD K) := by
  intro F H da x y d e dz Q s c1 c2 q k
  have q' : (eqD d e).map .bool = some dz := q
  unfold eqD at q'
  split at q'
  · rename_i hs
    cases q'
    rw [Bool.and_eq_true] at hs
    exact ⟨d, e, c1.dp s, c2.dp s, shp_shaped c1.lay hs.1, shp_shaped c2.lay hs.2, k _ _ _ (Al.refl s) (.bl _)⟩
  · cases q'
theorem s2_ne : S2 .ne (rNeD K) := by
  intro F H da x y d e dz Q s c1 c2 q k
  have q' : (eqD d e).map (fun k => PyData.bool !k) = some dz := q
  unfold eqD at q'
  split at q'
  · rename_i hs
    cases q'
    rw [Bool.and_eq_true] at hs
    exact ⟨d, e, c1.dp s, c2.dp s, shp_shaped c1.lay hs.1, shp_shaped c2.lay hs.2, k _ _ _ (Al.refl s) (.bl _)⟩
  · cases q'
theorem s2_in : S2 .isin (rInD K) := by
  intro F H da x y d e dz Q s c1 c2 q k
  cases e with
  | list ds =>
    have q' : (inD d ds).map .bool = some dz := by cases d <;> exact q
    unfold inD at q'
    split at q'
    · rename_i hs
      cases q'
      rw [Bool.and_eq_true] at hs
      exact ⟨d, ds, c1.dp s, c2.dp s, shp_shaped c1.lay hs.1, shp_shaped c2.lay hs.2, k _ _ _ (Al.refl s) (.bl _)⟩
    · cases q'
  | _ => cases d <;> simp [bop] at q
theorem s2_notin : S2 .notin (rNotInD K) := by
  intro F H da x y d e dz Q s c1 c2 q k
  cases e with
  | list ds =>
    have q' : (inD d ds).map (fun k => PyData.bool !k) = some dz := by cases d <;> exact q
    unfold inD at q'
    split at q'
    · rename_i hs
      cases q'
      rw [Bool.and_eq_true] at hs
      exact ⟨d, ds, c1.dp s, c2.dp s, shp_shaped c1.lay hs.1, shp_shaped c2.lay hs.2, k _ _ _ (Al.refl s) (.bl _)⟩
    · cases q'
  | _ => cases d <;> simp [bop] at q
theorem s2_instr : S2 .instr (fun x y H Q => ∃ (c : Nat) (z : Str), x = .str ⟨#[c]⟩ ∧ y = .str z ∧ Q (.bl (decide (c ∈ z.cps.toList))) H) := by
  intro F H da x y d e dz Q s c1 c2 q k
  cases d with
  | str u =>
    cases e with
    | str z =>
      simp only [bop] at q
      split at q
      · rename_i hl
        cases q
        obtain ⟨h1, h2, h3⟩ := cp_str c1
        obtain ⟨h4, h5, h6⟩ := cp_str c2
        obtain ⟨c, hc⟩ : ∃ c, u.cps.toList = [c] := by
          have hl' : u.cps.toList.length = 1 := by rw [Array.length_toList]; exact hl
          match h : u.cps.toList, hl' with
          | [c], _ => exact ⟨c, rfl⟩
        have hu : u = ⟨#[c]⟩ := by
          obtain ⟨cps⟩ := u
          obtain ⟨l⟩ := cps
          simp only at hc
          rw [hc]
        refine ⟨c, z, by rw [h1, hu], h4, ?_⟩
        have e : decide (c ∈ z.cps.toList) = z.cps.toList.any fun c => decide (u.cps.toList = [c]) := by
          rw [hc]
          rw [Bool.eq_iff_iff]
          simp only [decide_eq_true_eq, List.any_eq_true, List.cons.injEq, and_true]
          exact ⟨fun h => ⟨c, h, rfl⟩, fun ⟨x, h, e⟩ => e ▸ h⟩
        rw [e]
        exact k _ _ _ (Al.refl s) (.bl _)
      · cases q
    | _ => simp [bop] at q
  | _ => simp [bop] at q
theorem s2_cmp {o : Bi} {p : Int → Int → Bool} (ho : ∀ i j, bop o (.int i) (.int j) = some (.bool (p i j))) (hn : ∀ d e dz, bop o d e = some dz → ∃ i j, d = .int i ∧ e = .int j) : S2 o (rI0 fun i j => .bl (p i j)) := by
  intro F H da x y d e dz Q s c1 c2 q k
  obtain ⟨i, j, rfl, rfl⟩ := hn d e dz q
  rw [ho] at q
  cases q
  exact ⟨i, j, cp_int c1, cp_int c2, k _ _ _ (Al.refl s) (.bl _)⟩
theorem s2_le : S2 .le (rI0 fun i j => .bl (decide (i ≤ j))) := s2_cmp (fun _ _ => rfl) fun d e dz q => by
  cases d <;> cases e <;> first | exact ⟨_, _, rfl, rfl⟩ | simp [bop] at q
theorem s2_gt : S2 .gt (rI0 fun i j => .bl (decide (j < i))) := s2_cmp (fun _ _ => rfl) fun d e dz q => by
  cases d <;> cases e <;> first | exact ⟨_, _, rfl, rfl⟩ | simp [bop] at q
theorem s2_ge : S2 .ge (rI0 fun i j => .bl (decide (j ≤ i))) := s2_cmp (fun _ _ => rfl) fun d e dz q => by
  cases d <;> cases e <;> first | exact ⟨_, _, rfl, rfl⟩ | simp [bop] at q
theorem s2_min2 : S2 .min2 (fun x y H Q => ∃ i j, [x, y] = [.int i, .int j] ∧ Q (.int (if j < i then j else i)) H) := by
  intro F H da x y d e dz Q s c1 c2 q k
  cases d with
  | int i =>
    cases e with
    | int j =>
      cases q
      exact ⟨i, j, by rw [cp_int c1, cp_int c2], k _ _ _ (Al.refl s) (.int _)⟩
    | _ => simp [bop] at q
  | _ => simp [bop] at q
theorem s2_max2 : S2 .max2 (fun x y H Q => ∃ i j, [x, y] = [.int i, .int j] ∧ Q (.int (if j > i then j else i)) H) := by
  intro F H da x y d e dz Q s c1 c2 q k
  cases d with
  | int i =>
    cases e with
    | int j =>
      cases q
      exact ⟨i, j, by rw [cp_int c1, cp_int c2], k _ _ _ (Al.refl s) (.int _)⟩
    | _ => simp [bop] at q
  | _ => simp [bop] at q
theorem at_rp {F : Hp} {xs : List V} {ds : List D} {i : Int} {d : D} (r : RpAll F xs ds) (h : atI ds i = some d) : ∃ v, L2.atI xs i = some v ∧ Rp F v d := by
  unfold atI at h
  cases q : ixN ds.length i with
  | none => rw [q] at h; cases h
  | some j =>
    rw [q] at h
    obtain ⟨v, h1, h2⟩ := r.get (show ds[j]? = some d from h)
    refine ⟨v, ?_, h2⟩
    unfold L2.atI
    have e : L2.ixN xs.length i = some j := by rw [r.length]; exact q
    rw [e]
    exact h1
theorem strOk_one {z : Str} (h : PyData.strOk z = true) {c : Nat} (hc : c ∈ z.cps.toList) : PyData.strOk ⟨#[c]⟩ = true := by
  unfold PyData.strOk at *
  rw [Array.all_eq_true'] at *
  intro x hx
  have : x = c := by simpa using hx
  subst this
  exact h x (by simpa using hc)
theorem atI_mem {α : Type} {xs : List α} {i : Int} {c : α} (h : atI xs i = some c) : c ∈ xs := by
  unfold atI at h
  cases q : ixN xs.length i with
  | none => rw [q] at h; cases h
  | some j =>
    rw [q] at h
    exact List.mem_of_getElem? (show xs[j]? = some c from h)
theorem one_lim {c : Nat} : (⟨#[c]⟩ : Str).length ≤ lim := by
  show 1 ≤ lim
  decide
theorem s2_idx : S2 .idx (rIx K) := by
  intro F H da x y d e dz Q s c1 c2 q k
  cases d with
  | list ds =>
    cases e with
    | int i =>
      obtain ⟨a, us, h1, h2, h3, h4⟩ := c1.list s
      obtain ⟨v, g1, g2⟩ := at_rp h3 q
      exact .inl ⟨a, us, i, v, h1, cp_int c2, .inl (.inl h2), g1, k _ _ _ (Al.refl s) g2⟩
    | _ => simp [bop] at q
  | tuple ds =>
    cases e with
    | int i =>
      obtain ⟨a, us, h1, h2, h3, h4⟩ := cp_tup s c1
      obtain ⟨v, g1, g2⟩ := at_rp h3 q
      exact .inr (.inl ⟨a, us, i, v, h1, cp_int c2, .inl (.inl h2), g1, k _ _ _ (Al.refl s) g2⟩)
    | _ => simp [bop] at q
  | str z =>
    cases e with
    | int i =>
      obtain ⟨h1, h2, h3⟩ := cp_str c1
      simp only [bop] at q
      cases qq : atI z.cps.toList i with
      | none => rw [qq] at q; cases q
      | some c =>
        rw [qq] at q
        cases q
        exact .inr (.inr ⟨z, i, c, h1, cp_int c2, lim_line' h2, qq, k _ _ _ (Al.refl s) (.str _ one_lim (strOk_one h3 (atI_mem qq)))⟩)
    | _ => simp [bop] at q
  | _ => simp [bop] at q
theorem cut_rp {F : Hp} {xs : List V} {ds : List D} (r : RpAll F xs ds) (lo hi : Option Int) : RpAll F (cutV xs lo hi) (cut ds lo hi) := by
  have e : cutV xs lo hi = (xs.drop (sIx ds.length 0 lo)).take (sIx ds.length ds.length hi - sIx ds.length 0 lo) := by
    rw [← r.length]
    rfl
  rw [e]
  exact (r.drop _).take _
theorem cut_len {α : Type} (xs : List α) (lo hi : Option Int) : (cut xs lo hi).length ≤ xs.length := by
  unfold cut
  rw [List.length_take, List.length_drop]
  omega
theorem cutS_is (z : Str) (lo hi : Option Int) : cutS z lo hi = ⟨(cut z.cps.toList lo hi).toArray⟩ := by
  unfold cut cutS
  rw [Array.length_toList]
  rfl
theorem strOk_cut {z : Str} (h : PyData.strOk z = true) (lo hi : Option Int) : PyData.strOk ⟨(cut z.cps.toList lo hi).toArray⟩ = true := by
  unfold PyData.strOk at *
  rw [Array.all_eq_true'] at *
  intro x hx
  have hx' : x ∈ cut z.cps.toList lo hi := by simpa using hx
  unfold cut at hx'
  have := List.mem_of_mem_drop (List.mem_of_mem_take hx')
  exact h x (by simpa using this)
/-- a slice by values -/
def S3 (o : Bi) (f : Int → Option Int × Option Int) (r : V → Option Int → Option Int → Hp → VK → Prop) : Prop := ∀ (F H : Hp) (da : DA) (x y : V) (d e dz : D) (Q : VK), Same F H → Cp F H da x d → Cp F H da y e → bop o d e = some dz → (∀ v F' H', Al F H F' H' → Rp F' v dz → Q v H') →
  ∃ i, y = .int i ∧ r x (f i).1 (f i).2 H Q
abbrev rSlA (K : PySem.W.Frag) : V → Option Int → Option Int → Hp → VK → Prop := fun x lo hi H Q => rSlL K x lo hi H Q ∨ rSlS x lo hi H Q
theorem sl_A {X : Cx} : SlR X (rSlA X.K) := sl_list.or sl_str
theorem s3_upto : S3 .upto (fun i => (none, some i)) (rSlA K) := by
  intro F H da x y d e dz Q s c1 c2 q k
  cases d with
  | list ds =>
    cases e with
    | int i =>
      cases q
      obtain ⟨a, us, h1, h2, h3, h4⟩ := c1.list s
      exact ⟨i, cp_int c2, .inl ⟨a, us, h1, .inl (.inl h2), fun p hp => new_lst s (cut_rp h3 _ _) (Nat.le_trans (cut_len _ _ _) h4) k p hp⟩⟩
    | _ => simp [bop] at q
  | str z =>
    cases e with
    | int i =>
      cases q
      obtain ⟨h1, h2, h3⟩ := cp_str c1
      refine ⟨i, cp_int c2, .inr ⟨z, h1, lim_line' h2, ?_⟩⟩
      rw [cutS_is]
      refine k _ _ _ (Al.refl s) (.str _ ?_ (strOk_cut h3 _ _))
      exact Nat.le_trans (show (cut z.cps.toList none (some i)).toArray.size ≤ z.cps.size by simpa using cut_len z.cps.toList none (some i)) h2
    | _ => simp [bop] at q
  | _ => simp [bop] at q
theorem s3_from : S3 .from_ (fun i => (some i, none)) (rSlA K) := by
  intro F H da x y d e dz Q s c1 c2 q k
  cases d with
  | list ds =>
    cases e with
    | int i =>
      cases q
      obtain ⟨a, us, h1, h2, h3, h4⟩ := c1.list s
      exact ⟨i, cp_int c2, .inl ⟨a, us, h1, .inl (.inl h2), fun p hp => new_lst s (cut_rp h3 _ _) (Nat.le_trans (cut_len _ _ _) h4) k p hp⟩⟩
    | _ => simp [bop] at q
  | str z =>
    cases e with
    | int i =>
      cases q
      obtain ⟨h1, h2, h3⟩ := cp_str c1
      refine ⟨i, cp_int c2, .inr ⟨z, h1, lim_line' h2, ?_⟩⟩
      rw [cutS_is]
      refine k _ _ _ (Al.refl s) (.str _ ?_ (strOk_cut h3 _ _))
      exact Nat.le_trans (show (cut z.cps.toList (some i) none).toArray.size ≤ z.cps.size by simpa using cut_len z.cps.toList (some i) none) h2
    | _ => simp [bop] at q
  | _ => simp [bop] at q
end
end Tl
end
section
set_option Elab.async false
set_option linter.all false
set_option autoImplicit false
set_option maxRecDepth 100000
namespace Tl
open PySem PySem.Spec PyProof.Rows L2
/-! ### an exception that is kept behind its clause -/
/-- an exception object of the class cls at a -/
def ExH (cls : Value) (d : Option Addr) (a : Addr) : HO := .ext fun h => ∃ (oe : Obj) (vs : Array Value), h.get? a = some oe ∧ Zc cls d oe ∧ oe.data = .fields vs
theorem exH_ok {P : Program} {w : World} {H : Hp} {h : Heap} {a : Addr} {cls : Value} {d : Option Addr} {oe : Obj} {vs : Array Value} (e : h.get? a = some oe) (z : Zc cls d oe) (q : oe.data = .fields vs) : ObjOk P w H h a (ExH cls d a) :=
  ⟨⟨oe, vs, e, z, q⟩, ⟨oe, e⟩, fun h1 h2 ⟨o, v, e1, z1, q1⟩ k => ⟨o, v, k o e1, z1, q1⟩⟩
def wKeep (K : PySem.W.Frag) (c : Value) (i j : Nat) (Wout : WX) (D : Ends) : WX := fun cls d σ H =>
  ∃ b, PySem.W.exmOne K cls c = some b ∧ (b = true → ∀ a, H a = none → D.nx (((σ.set i (some (.ref a))).set j (some (.ref a))).set i none) (upd H a (ExH cls d a))) ∧ (b = false → Wout cls d σ H)
section
variable {X : Cx} {pins : List (Addr × Obj)} {σ : L2.St} {H : Hp} {s : Shared}
/-- an object that is not tracked yet, new since the entry, is tracked from here on -/
theorem Inv.take {a : Addr} {o : HO} (I : Inv X pins σ H s) (hn : H a = none) (n0 : X.s_0.heap.get? a = none) (nL : a ≠ X.env.locals) (nP : ∀ p ∈ X.pn ++ pins, p.1 ≠ a) (nC : ∀ v, ¬ s.heap.IsCell a v) (new : ObjOk X.prog X.w (upd H a o) s.heap a o) : Inv X pins σ (upd H a o) s := by
  refine ⟨I.ok, I.os, I.bare, ⟨I.base.keep, I.base.slot, fun b u q n hx => ?_, I.base.there, fun b xs q => ?_, fun b u v q => ?_, fun b ps q => ?_⟩, I.loc, I.cell, ?_, fun x c e => ?_, fun p hp => ?_, ?_, I.len⟩
  · rw [upd_ne (fun z => by rw [z, n0] at q; cases q)]
    exact I.base.free b u q n hx
  · have := I.base.tups b xs q
    rw [upd_ne (ne_of_none this hn)]
    exact this
  · have := I.base.frzs b u v q
    rw [upd_ne (ne_of_none this hn)]
    exact this
  · obtain ⟨more, e⟩ := I.base.tbls b ps q
    exact ⟨more, by rw [upd_ne (ne_of_none e hn)]; exact e⟩
  · rw [upd_ne (Ne.symm nL)]
    exact I.free
  · have hc : c ≠ a := fun z => by
      obtain ⟨v, hv⟩ := I.cell x c e
      rw [z] at hv
      exact nC v hv
    rw [upd_ne hc]
    exact I.freeC x c e
  · obtain ⟨q1, q2, q3, q4, q5⟩ := I.pin p hp
    exact ⟨q1, by rw [upd_ne (nP p hp)]; exact q2, q3, q4, q5⟩
  · exact I.hok.laidN (fun _ _ e => e) hn new
end
section
variable {X : Cx} {x n y : Str} {c : Value} {i j : Nat} {body : List Stmt} {np pos pos' py pn' ps : Pos} {tb : WX → TS} {Wout : WX}
/-- try: body / except x as n: y = n -/
theorem ps_try_keep (hs : X.stack = X.env :: X.outer) (hf : X.env.frame = some X.env.locals) (hN : X.N.Nodup) (hi : X.N[i]? = some n) (hln : X.env.kindOf n = some .local) (hj : X.N[j]? = some y) (hly : X.env.kindOf y = some .local) (hnd : (n == ("__debug__" : Str)) = false) (hnc : (n == ("__classdict__" : Str)) = false) (hc : Names X x c) (tk : Takes X Wout) (hx : X.ex = [])
    (hb : ∀ (W : WX) (pn : List (Addr × Obj)) (xe : Value → Shared → Prop), Takes (X.tr pn xe) W → PassesOwn (model X.prog X.w) X.A X.env xe → PSs (X.tr pn xe) body (tb W)) :
    PS X (.Try body [.ExceptHandler (some (.Name x np)) (some n) [.Assign [.Name y py] (.Name n pn') ps] pos'] [] [] pos) (fun D σ H => tb (wKeep X.K c i j Wout D) D σ H) := by
  refine ⟨fun pins s σ H D I h => ?_⟩
  have okX := I.ok
  have frm : X.A.frames = some (X.env :: X.outer) := by rw [okX.frames, hs]
  have locN : Loc X.env.scope n := .inl hln
  have locY : Loc X.env.scope y := .inl hly
  refine wpAny_Try_except ?_
  refine wpAny_mono ((hb (wKeep X.K c i j Wout D) (X.pn ++ pins) (fun u t1 => wpAny (model X.prog X.w) X.A (noteFrame u X.env) (fun _ t2 => wpAny (model X.prog X.w) X.A (setFlight u none) (fun _ t3 =>
    wpAny (model X.prog X.w) X.A (handleBy u X.env [.ExceptHandler (some (.Name x np)) (some n) [.Assign [.Name y py] (.Name n pn') ps] pos']) (SP X pins D) X.xe t3) X.xe t2) X.xe t1) (fun u t xx => ?_) PassesOwn.looking).run [] s σ H D (I.toTry _) h) (fun f t hsp => ?_) (fun _ _ z => z)
  · obtain ⟨a, B, tI, pins', σ1, H1, cls, d, rfl, J0, nb, up, sky, na, os, ag, b, b1, yes, no⟩ := xx
    have J : Inv X pins σ1 H1 tI := J0.ofTry okX
    have sky1 : Sky B (X.env :: X.outer) a (Zc cls d) X.env.locals t.heap := by rw [← hs]; exact sky
    show wpAny (model X.prog X.w) X.A (noteFrame (.ref a) X.env) _ _ _
    refine Sky.land Zc.steady frm hf sky1 fun h3 fl3 up3 => ?_
    have J3 : Inv X pins σ1 H1 { t with heap := h3 } := J.landed nb fl3.1 (up.trans up3) os ag
    obtain ⟨o3, w3, g3, z3, d3⟩ := fl3.there
    have offFr : ∀ {hh : Heap} {o : Obj} {vs : Array Value}, hh.FunFrames B (X.env :: X.outer) → hh.get? a = some o → o.data = .fields vs → a ∉ frs (X.env :: X.outer) := fun {hh o vs} ff e dd hm => by
      obtain ⟨_, o', e', nf⟩ := ff.mem hm
      rw [e] at e'; cases e'
      exact nf _ dd
    have nfr := offFr fl3.2.2.1 g3 d3
    have nL : a ≠ X.env.locals := fun z => nfr (List.mem_filterMap.mpr ⟨X.env, List.mem_cons_self, by rw [hf, z]⟩)
    have nF : a ∉ X.fs := fun hm => by
      obtain ⟨e, he, q⟩ := List.mem_filterMap.mp hm
      exact nfr (List.mem_filterMap.mpr ⟨e, List.mem_cons_of_mem _ he, q⟩)
    have nI : tI.heap.get? a = none := by
      cases q : tI.heap.get? a with
      | none => rfl
      | some o =>
        have := nb a o q (by rw [hs]; exact nfr)
        rw [fl3.2.1] at this
        cases this
    have n0 : X.s_0.heap.get? a = none := by
      cases q : X.s_0.heap.get? a with
      | none => rfl
      | some o =>
        obtain ⟨o', e'⟩ := J.base.there a o q (by rw [hx]; exact List.not_mem_nil)
        rw [nI] at e'
        cases e'
    have nP : ∀ p ∈ X.pn ++ pins, p.1 ≠ a := fun p hp z => by
      have := (J.pin p hp).1
      rw [z, nI] at this
      cases this
    have S3 := J3.suite g3 d3 na nL nF
    refine wpAny_handleBy_cons (codeAny_handlers_test ?_) (by intro q; cases q)
    have LT : PySem.W.Looks (model X.prog X.w) h3 (typeOf (.ref a)) cls := fun A Q E s k q => wpAny_typeOf_ref (k _ _ g3) (by rw [z3.1]; exact q)
    have LM := PySem.W.exm_one (M := model X.prog X.w) (J3.kIn) LT b1
    have tst : ∀ {Q : Value → Shared → Prop} {E : Value → Shared → Prop}, Q c { t with heap := h3 } → wpAny (model X.prog X.w) (X.A.mark (some (.ref a))) (eval (.Name x np) X.env) Q E { t with heap := h3 } := fun {Q E} q => by
      obtain ⟨hg, hdbg, hm | ⟨hm, hv, hnn⟩⟩ := hc
      · exact ld_glob (X := X.suite a ((a, o3) :: (X.pn ++ pins))) S3 hg hm q hdbg
      · exact ld_blt (X := X.suite a ((a, o3) :: (X.pn ++ pins))) S3 hg hm hv q hnn hdbg
    refine tst (LM.here ?_)
    cases b with
    | true =>
      refine codeAny_handlers_suite_as ?_
      refine HandSPX.lands_againZ fl3 fun h4 fl4 up4 => ?_
      have J4 : Inv X pins σ1 H1 { t with heap := h4 } := J.landed nb fl4.1 ((up.trans up3).trans up4) os ag
      obtain ⟨o4, w4, g4, z4, d4⟩ := fl4.there
      have S4 := J4.suite g4 d4 na nL nF
      refine store_ok (X := X.suite a ((a, o4) :: (X.pn ++ pins))) (v := .ref a) S4 hN hi locN rfl (fun t5 S5 => ?_) (.inr hln)
      have suite : PSs (X.suite a ((a, o4) :: (X.pn ++ pins))) [.Assign [.Name y py] (.Name n pn') ps] (tAsg (tVar i) (gName j)) :=
        pss_one (ps_set (X := X.suite a ((a, o4) :: (X.pn ++ pins))) hN hj locY (pe_var hi (.inl hln) hnd hnc) rfl (.inr hly))
      have lenI : i < σ1.length := by rw [J.len]; exact (List.getElem?_eq_some_iff.mp hi).1
      refine wpAny_mono (suite.run [] t5 _ H1 { nx := fun σ' H' => σ' = (σ1.set i (some (.ref a))).set j (some (.ref a)) ∧ H' = H1, rt := fun _ _ => False, bk := fun _ _ => False, ct := fun _ _ => False } S5 ⟨.ref a, List.getElem?_set_self lenI, rfl, rfl⟩) (fun f s6 hsp => ?_) (fun _ _ z => False.elim z)
      cases f with
      | next =>
        obtain ⟨σ6, H6, S6, rfl, rfl⟩ := hsp
        obtain ⟨p1, p2, p3, p4, p5⟩ := S6.pin (a, o4) (List.mem_append_left _ List.mem_cons_self)
        have J6 : Inv X pins _ _ s6 := S6.unsuite okX
        have J7 := Inv.take (o := ExH cls d a) J6 p2 n0 nL nP (fun v hv => by
          obtain ⟨oc, e1, e2⟩ := hv
          have e3 : o4 = oc := Option.some.inj (p1.symm.trans e1)
          subst e3
          rw [d4] at e2
          cases e2) (exH_ok p1 z4 d4)
        exact gone_ok J7 hN hi hln fun s7 J8 => ⟨_, _, J8, yes rfl a na⟩
      | brk => obtain ⟨_, _, _, z⟩ := hsp; exact False.elim z
      | cont => obtain ⟨_, _, _, z⟩ := hsp; exact False.elim z
      | ret u => obtain ⟨_, _, _, _, _, z⟩ := hsp; exact False.elim z
    | false =>
      show wpAny _ X.A (handleBy (.ref a) X.env []) _ _ _
      refine wpAny_handleBy_nil ?_
      obtain ⟨k1, k2, k3, oe, vs, T, oT, ts', he, hz, hd, h1, hr⟩ := id fl3
      unfold PySem.passOn
      refine wpAny_bind (wpAny_field he hd h1 ?_)
      rw [if_neg (show ¬ ((Value.ref T == Value.none) = true) from by simp)]
      have fin : wpAny (model X.prog X.w) X.A (setFlight (.ref a) X.env.frame) (fun _ t4 => wpAny (model X.prog X.w) X.A (throw (.ref a) : Sem Flow) (SP X pins D) X.xe t4) X.xe { t with heap := h3 } := by
        rw [hf]
        refine HandSPX.setFlight_upZ fl3 fun h4 hh4 up4 => wpAny_throw (tk _ _ ?_)
        exact ⟨a, B, tI, pins, σ1, H1, cls, d, rfl, J, nb, (up.trans up3).trans up4, .inr (.inr (by rw [hs]; exact hh4)), na, os, ag, no rfl⟩
      first
        | exact wpAny_bind (wpAny_pure (wpAny_bind fin))
        | exact wpAny_bind fin
  · cases f with
    | next =>
      obtain ⟨σ2, H2, J2, q⟩ := hsp
      exact wpAny_execs_nil ⟨σ2, H2, J2.ofTry okX, q⟩
    | brk =>
      obtain ⟨σ2, H2, J2, q⟩ := hsp
      exact ⟨σ2, H2, J2.ofTry okX, q⟩
    | cont =>
      obtain ⟨σ2, H2, J2, q⟩ := hsp
      exact ⟨σ2, H2, J2.ofTry okX, q⟩
    | ret u =>
      obtain ⟨v, σ2, H2, J2, rr, q⟩ := hsp
      exact ⟨v, σ2, H2, J2.ofTry okX, rr, q⟩
end
end Tl
end
section
set_option Elab.async false
set_option linter.all false
set_option autoImplicit false
set_option maxRecDepth 100000
namespace Tl
open PySem PySem.Spec PyProof.Rows L2
/-! ### isinstance of an exception that is kept; l.count(x) of data -/
def rIsX (K : PySem.W.Frag) : List V → Hp → VK → Prop := fun xs H Q => ∃ (a D : Addr) (c : V) (u : Value) (b : Bool), xs = [.ref a, c] ∧ H a = some (ExH (.ref D) none a) ∧ ExcC K D ∧ ClsV c u ∧ PySem.W.kitOne K (.ref D) u = some b ∧ Q (.bl b) H
def rCountD (K : PySem.W.Frag) : V → List V → Hp → VK → Prop := fun x xs H Q => ∃ (a : Addr) (y : V) (d : PyData) (ds : List PyData), x = V.ref a ∧ xs = [y] ∧ Dp K H (V.ref a) (.list ds) ∧ Dp K H y d ∧
  SeqAt.shaped (.list ds) = true ∧ SeqAt.shaped d = true ∧ Q (.int (ds.countP fun z => PyData.eqv z d : Nat)) H
section
variable {X : Cx}
theorem call_isX : CallR X (.builtin "isinstance") (rIsX X.K) := by
  intro pins s σ H xs us Q I r h
  obtain ⟨a, D, c, u, b, rfl, hH, C, k, e, q⟩ := h
  obtain ⟨u1, u2, rfl, r1, r2⟩ := vals2 r
  cases (show u1 = Value.ref a from r1)
  have e2 := k.eq r2
  subst e2
  obtain ⟨⟨oe, vs, hget, hz, hv⟩, _⟩ := (show ObjOk X.prog X.w H s.heap a (ExH (.ref D) none a) from I.hok a _ hH)
  have J : PySem.W.InstAt s.heap a oe D none := by
    obtain ⟨oc, od, oda, osl⟩ := oe
    obtain ⟨h1, h2⟩ := hz
    dsimp only at h1 h2 hv
    subst h1 h2 hv
    exact ⟨hget, rfl, rfl, trivial⟩
  exact PySem.W.kia_one (PySem.W.handS_kitx_exc C.hg C.hk C.hs C.hd C.ha C.hn C.ht C.hm) I.kIn J e (fun z => nomatch z) fun tk => ⟨.bl b, H, I.tok tk, rfl, q⟩
theorem mt_countD (hu : X.A.units + 65 < cLine) : MtR X "list.count" (rCountD X.K) := by
  intro pins s σ H x xs v us Q I rx rxs h
  obtain ⟨a, y, d, ds, rfl, rfl, hl, hy, sl, sd, q⟩ := h
  cases rx
  cases rxs with
  | cons ry rt =>
    rename_i uy ut
    cases rt
    obtain ⟨bs, r1⟩ := Dp.reads I d y uy hy ry
    have hxs : PyData.canLayAll0 ds = true := SeqAt.canLay_of_shaped sl
    have hroom : X.A.units + 1 + min (PyData.depthAll ds) d.depth < cLine := room_in_shaped sd hu
    cases hl with
    | lst hs ha =>
      obtain ⟨its, rv, ⟨⟨cls, dd, data, sls⟩, n, ho, hc, hdn, hdt⟩, hlen⟩ := I.list hs
      simp only at hc hdt
      subst hc hdt
      obtain ⟨as, h4⟩ := Dp.readsAll I ds _ its ha rv
      have hmap : its.map (SeqAt.readOf s.heap) = ds := SeqAt.readsAll_map ds its as hxs h4
      refine call_meets PySem.F.slot_list_count ⟨_, ho, rfl⟩ PySem.F.entry_list_count (PySem.F.args_list_count_2 _ _)
        (SeqAt.list_countAt a its.toArray n dd sls uy (fun u => PyData.eqv (SeqAt.readOf s.heap u) d)) ⟨ho, SeqAt.items_eqAt (vs := its.toArray) (show ReadsAll s.heap its.toArray.toList ds as from h4) r1 hxs (SeqAt.canLay_of_shaped sd) hroom, ?_⟩
      have ec : its.toArray.toList.countP (fun u => PyData.eqv (SeqAt.readOf s.heap u) d) = ds.countP fun z => PyData.eqv z d := by
        rw [← hmap, List.countP_map]
        rfl
      refine ⟨.int (ds.countP (fun z => PyData.eqv z d) : Nat), H, I.tok _, ⟨s.toks, ?_⟩, q⟩
      show Value.int ((its.toArray.toList.countP (fun u => PyData.eqv (SeqAt.readOf s.heap u) d) : Nat) : Int) s.toks = _
      rw [ec]
end
end Tl
end
section
set_option Elab.async false
set_option linter.all false
set_option autoImplicit false
set_option maxRecDepth 100000
namespace Tl
open PySem PySem.Spec PyProof.Rows L2
abbrev St := L2.St
abbrev Cls := Nat → Addr
variable {cl : Cls}
/-! ### slots -/
/-- a dict's things -/
def encT (kvs : List (List Int × Int)) : List (List Key × V) := kvs.map fun p => (p.1.map Sum.inl, V.int p.2)
theorem TupI.noD {kvs : List (List Key × V)} : ¬ TupI (.dT kvs) := fun ⟨_, z⟩ => by cases z
/-- a reader: its instance and its lists are known, its depths and what was made of it change -/
def RdrAt (cl : Cls) (F : Hp) (da : DA) (v : V) (j : Nat) (A B : List D) : Prop := ∃ x dx lv q s a n zs, v = .ref x ∧ F x = some (.ins (cl 9) dx [("lists", lv), ("depths", .ref q), ("made", .ref s)]) ∧ Rp F lv (.tuple [.list A, .list B]) ∧ da = some (a, n, zs) ∧ zs[j]? = some (q, s)
theorem RdrAt.mono {cl : Cls} {F F' : Hp} {da : DA} {v : V} {j : Nat} {A B : List D} (s : Same F F') (h : RdrAt cl F da v j A B) : RdrAt cl F' da v j A B := by
  obtain ⟨x, dx, lv, q, t, a, n, zs, h1, h2, h3, h4⟩ := h
  exact ⟨x, dx, lv, q, t, a, n, zs, h1, s _ _ h2, h3.mono s, h4⟩
def SlotOk (K : PySem.W.Frag) (cl : Cls) (F H : Hp) (da : DA) (sv : Option (Option V)) : Cell → Prop
  | .und => True
  | .val d => ∃ v, sv = some (some v) ∧ Rp F v d
  | .own ds => ∃ a, sv = some (some (.ref a)) ∧ Ow F H da a ds
  | .drw => ∃ p, da = some p ∧ sv = some (some (.ref p.1))
  | .exn c => ∃ a, sv = some (some (.ref a)) ∧ F a = some (ExH (.ref (cl c)) none a)
  | .scr ns => ∃ a, sv = some (some (.ref a)) ∧ SqL K F a (ns.map V.int) ∧ ns.length ≤ 1000
  | .ot x y z => ∃ t p q s, sv = some (some (.ref t)) ∧ H t = some (.tup [.ref p, .ref q, .ref s]) ∧ F t = none ∧ ¬ isDr da t ∧ Ow F H da p x ∧ Ow F H da q y ∧ Ow F H da s z ∧ p ≠ q ∧ p ≠ s ∧ q ≠ s
  | .dct kvs => ∃ a, sv = some (some (.ref a)) ∧ H a = some (.dT (encT kvs)) ∧ F a = none ∧ ¬ isDr da a
  | .rdr j A B => ∃ v, sv = some (some v) ∧ RdrAt cl F da v j A B
/-- three lists of one's own in a tuple: apart from the others -/
def ApT (H : Hp) (σ : St) (r : Env) : Prop := ∀ (i : Nat) (a b c : List D) (t p q s : Addr), r[i]? = some (.ot a b c) → σ[i]? = some (some (.ref t)) → H t = some (.tup [.ref p, .ref q, .ref s]) →
  (∀ (j : Nat) (ds : List D) (x : Addr), r[j]? = some (.own ds) → σ[j]? = some (some (.ref x)) → x ≠ p ∧ x ≠ q ∧ x ≠ s) ∧ ∀ (j : Nat) (a' b' c' : List D), r[j]? = some (.ot a' b' c') → j = i
/-- one dict at most -/
def ApD (r : Env) : Prop := ∀ (i j : Nat) (x y : List (List Int × Int)), r[i]? = some (.dct x) → r[j]? = some (.dct y) → i = j
theorem set_at {α : Type} {l : List α} {i j : Nat} {x y : α} (h : (l.set i x)[j]? = some y) : (i = j ∧ y = x) ∨ (i ≠ j ∧ l[j]? = some y) := by
  by_cases hj : i = j
  · subst hj
    by_cases hl : i < l.length
    · rw [List.getElem?_set_self hl] at h
      cases h
      exact .inl ⟨rfl, rfl⟩
    · rw [List.getElem?_eq_none (by simpa using hl)] at h
      cases h
  · rw [List.getElem?_set_ne hj] at h
    exact .inr ⟨hj, h⟩
theorem ApT.set {H : Hp} {σ : St} {r : Env} (h : ApT H σ r) {i : Nat} {x : Option V} {c : Cell} (h1 : ∀ ds, c ≠ .own ds) (h2 : ∀ a b d, c ≠ .ot a b d) : ApT H (σ.set i x) (r.set i c) := by
  intro j a b d t p q s e1 e2 e3
  rcases set_at e1 with ⟨_, z⟩ | ⟨hj, e1⟩
  · exact absurd z.symm (h2 a b d)
  · rw [List.getElem?_set_ne hj] at e2
    obtain ⟨k1, k2⟩ := h j a b d t p q s e1 e2 e3
    refine ⟨fun m ds y f1 f2 => ?_, fun m a' b' c' f1 => ?_⟩
    · rcases set_at f1 with ⟨_, z⟩ | ⟨hm, f1⟩
      · exact absurd z.symm (h1 ds)
      · rw [List.getElem?_set_ne hm] at f2
        exact k1 m ds y f1 f2
    · rcases set_at f1 with ⟨_, z⟩ | ⟨hm, f1⟩
      · exact absurd z.symm (h2 a' b' c')
      · exact k2 m a' b' c' f1
theorem ApT.cell {H : Hp} {σ : St} {r : Env} (h : ApT H σ r) {i : Nat} {c : Cell} (h1 : ∀ ds, c ≠ .own ds) (h2 : ∀ a b d, c ≠ .ot a b d) : ApT H σ (r.set i c) := by
  intro j a b d t p q s e1 e2 e3
  rcases set_at e1 with ⟨_, z⟩ | ⟨hj, e1⟩
  · exact absurd z.symm (h2 a b d)
  · obtain ⟨k1, k2⟩ := h j a b d t p q s e1 e2 e3
    refine ⟨fun m ds y f1 f2 => ?_, fun m a' b' c' f1 => ?_⟩
    · rcases set_at f1 with ⟨_, z⟩ | ⟨hm, f1⟩
      · exact absurd z.symm (h1 ds)
      · exact k1 m ds y f1 f2
    · rcases set_at f1 with ⟨_, z⟩ | ⟨hm, f1⟩
      · exact absurd z.symm (h2 a' b' c')
      · exact k2 m a' b' c' f1
theorem ApD.set {r : Env} (h : ApD r) {i : Nat} {c : Cell} (hc : ∀ x, c ≠ .dct x) : ApD (r.set i c) := fun j k x y e1 e2 => by
  rcases set_at e1 with ⟨_, z⟩ | ⟨_, e1⟩
  · exact absurd z.symm (hc x)
  · rcases set_at e2 with ⟨_, z⟩ | ⟨_, e2⟩
    · exact absurd z.symm (hc y)
    · exact h j k x y e1 e2
theorem ApD.put {r : Env} (h : ApD r) {i : Nat} {x y : List (List Int × Int)} (e : r[i]? = some (.dct x)) : ApD (r.set i (.dct y)) := fun j k x' y' e1 e2 => by
  have w : ∀ m z, (r.set i (.dct y))[m]? = some (.dct z) → m = i := fun m z f => by
    rcases set_at f with ⟨z, _⟩ | ⟨_, f⟩
    · exact z.symm
    · exact h m i _ _ f e
  rw [w j x' e1, w k y' e2]
theorem ApD.no {r : Env} (h : ∀ (i : Nat) (x : List (List Int × Int)), r[i]? ≠ some (.dct x)) : ApD r := fun i j x y e => absurd e (h i x)
theorem ApT.no {H : Hp} {σ : St} {r : Env} (h : ∀ (i : Nat) (a b c : List D), r[i]? ≠ some (.ot a b c)) : ApT H σ r := fun i a b c t p q s e => absurd e (h i a b c)
/-- a list is laid or changed -/
theorem ApT.lst {H : Hp} {σ : St} {r : Env} (h : ApT H σ r) {x : Addr} {ys : List V} : ApT (upd H x (.lst ys)) σ r := by
  intro i a b c t p q s e1 e2 e3
  refine h i a b c t p q s e1 e2 ?_
  by_cases z : t = x
  · subst z
    rw [upd_same] at e3
    cases e3
  · rw [upd_ne z] at e3
    exact e3
theorem GOk.has {H : Hp} {g : G} {da : DA} {b : Addr} (h : GOk H g da) (d : isDr da b) : ∃ o, H b = some o := by
  obtain ⟨xs, e⟩ := h.lst d
  exact ⟨_, e⟩
structure Rep (K : PySem.W.Frag) (cl : Cls) (F H : Hp) (da : DA) (σ : St) (r : Env) (g : G) : Prop where
  sub : Same F H
  gok : GOk H g da
  slot : ∀ (i : Nat) (c : Cell), r[i]? = some c → SlotOk K cl F H da σ[i]? c
  len : r.length = σ.length
  apart : ∀ (i j : Nat) (a : Addr) (ds es : List D), r[i]? = some (.own ds) → r[j]? = some (.own es) → σ[i]? = some (some (.ref a)) → σ[j]? = some (some (.ref a)) → i = j
  nod : ∀ b, isDr da b → F b = none
  apt : ApT H σ r
  apd : ApD r
theorem SqL.same {K : PySem.W.Frag} {F F' : Hp} {a : Addr} {xs : List V} (s : Same F F') (h : SqL K F a xs) : SqL K F' a xs := s.seq h
theorem SlotOk.nx {K : PySem.W.Frag} {F H F' H' : Hp} {da : DA} {g : G} {sv : Option (Option V)} {c : Cell} (n : Nx da F H F' H' g) (h : SlotOk K cl F H da sv c) : SlotOk K cl F' H' da sv c := by
  cases c with
  | und => trivial
  | val d => obtain ⟨v, e, h⟩ := h; exact ⟨v, e, h.mono n.fr⟩
  | own ds => obtain ⟨a, e, h⟩ := h; exact ⟨a, e, h.nx n⟩
  | drw => exact h
  | exn c => obtain ⟨a, e, h⟩ := h; exact ⟨a, e, n.fr _ _ h⟩
  | scr ns => obtain ⟨a, e, h, l⟩ := h; exact ⟨a, e, n.fr.seq h, l⟩
  | ot x y z => obtain ⟨t, p, q, s, e, h1, h2, h3, h4, h5, h6, h7⟩ := h; exact ⟨t, p, q, s, e, n.keep _ _ h1 h3, (n.new _ _ h1 h2).resolve_right TupI.noR, h3, h4.nx n, h5.nx n, h6.nx n, h7⟩
  | dct kvs => obtain ⟨a, e, h1, h2, h3⟩ := h; exact ⟨a, e, n.keep _ _ h1 h3, (n.new _ _ h1 h2).resolve_right TupI.noD, h3⟩
  | rdr j A B => obtain ⟨v, e, h⟩ := h; exact ⟨v, e, h.mono n.fr⟩
theorem Rep.nx {K : PySem.W.Frag} {F H F' H' : Hp} {da : DA} {g g' : G} {σ : St} {r : Env} (h : Rep K cl F H da σ r g) (n : Nx da F H F' H' g') : Rep K cl F' H' da σ r g' :=
  ⟨n.sub, n.gok, fun i c e => (h.slot i c e).nx n, h.len, h.apart, fun b d => by
    obtain ⟨o, e⟩ := h.gok.lst d
    exact (n.new b _ e (h.nod b d)).resolve_right TupI.noL, fun i a b c t p q s e1 e2 e3 => by
    obtain ⟨t', p', q', s', f1, f2, _, f4, _⟩ := h.slot i _ e1
    rw [f1] at e2
    cases e2
    rw [n.keep _ _ f2 f4] at e3
    cases e3
    exact h.apt i a b c t p q s e1 f1 f2, h.apd⟩
/-- a value is stored -/
theorem Rep.set {K : PySem.W.Frag} {F H : Hp} {da : DA} {g : G} {σ : St} {r : Env} {i : Nat} {v : V} {d : D} (h : Rep K cl F H da σ r g) (q : Rp F v d) : Rep K cl F H da (σ.set i (some v)) (r.set i (.val d)) g := by
  refine ⟨h.sub, h.gok, fun j c e => ?_, by rw [List.length_set, List.length_set]; exact h.len, fun j k a ds es e1 e2 e3 e4 => ?_, h.nod, h.apt.set (fun _ z => by cases z) (fun _ _ _ z => by cases z), h.apd.set fun _ z => by cases z⟩
  · by_cases hj : i = j
    · subst hj
      have hr : i < r.length := by
        by_cases hr : i < r.length
        · exact hr
        · rw [List.getElem?_eq_none (by simpa using hr)] at e; cases e
      rw [List.getElem?_set_self (by rw [← h.len]; exact hr)]
      rw [List.getElem?_set_self hr] at e
      cases e
      exact ⟨v, rfl, q⟩
    · rw [List.getElem?_set_ne hj] at e ⊢
      exact h.slot j c e
  · have hj : i ≠ j := fun z => by
      subst z
      have hr : i < r.length := by
        by_cases hr : i < r.length
        · exact hr
        · rw [List.getElem?_eq_none (by simpa using hr)] at e1; cases e1
      rw [List.getElem?_set_self hr] at e1
      cases e1
    have hk : i ≠ k := fun z => by
      subst z
      have hr : i < r.length := by
        by_cases hr : i < r.length
        · exact hr
        · rw [List.getElem?_eq_none (by simpa using hr)] at e2; cases e2
      rw [List.getElem?_set_self hr] at e2
      cases e2
    rw [List.getElem?_set_ne hj] at e1 e3
    rw [List.getElem?_set_ne hk] at e2 e4
    exact h.apart j k a ds es e1 e2 e3 e4
/-- a slot is forgotten -/
theorem Rep.wipe {K : PySem.W.Frag} {F H : Hp} {da : DA} {g : G} {σ : St} {r : Env} (h : Rep K cl F H da σ r g) (i : Nat) (o : Option V) : Rep K cl F H da (σ.set i o) (r.set i .und) g := by
  refine ⟨h.sub, h.gok, fun j c e => ?_, by rw [List.length_set, List.length_set]; exact h.len, fun j k a ds es e1 e2 e3 e4 => ?_, h.nod, h.apt.set (fun _ z => by cases z) (fun _ _ _ z => by cases z), h.apd.set fun _ z => by cases z⟩
  · by_cases hj : i = j
    · subst hj
      have hr : i < r.length := by
        by_cases hr : i < r.length
        · exact hr
        · rw [List.getElem?_eq_none (by simpa using hr)] at e; cases e
      rw [List.getElem?_set_self hr] at e
      cases e
      trivial
    · rw [List.getElem?_set_ne hj] at e ⊢
      exact h.slot j c e
  · have hj : i ≠ j := fun z => by
      subst z
      have hr : i < r.length := by
        by_cases hr : i < r.length
        · exact hr
        · rw [List.getElem?_eq_none (by simpa using hr)] at e1; cases e1
      rw [List.getElem?_set_self hr] at e1
      cases e1
    have hk : i ≠ k := fun z => by
      subst z
      have hr : i < r.length := by
        by_cases hr : i < r.length
        · exact hr
        · rw [List.getElem?_eq_none (by simpa using hr)] at e2; cases e2
      rw [List.getElem?_set_self hr] at e2
      cases e2
    rw [List.getElem?_set_ne hj] at e1 e3
    rw [List.getElem?_set_ne hk] at e2 e4
    exact h.apart j k a ds es e1 e2 e3 e4
/-! ### a reading from an evaluation -/
/-- what is wanted behind an evaluation -/
def Post {α β : Type} (cl : Cls) (W : WX) (σ : St) (rel : Hp → Hp → DA → β → α → Prop) (da : DA) (F H : Hp) (Q : β → Hp → Prop) : R α → Prop
  | .ok d g' => ∀ v F' H', Nx da F H F' H' g' → rel F' H' da v d → Q v H'
  | .exc c g' => ∀ F' H', Nx da F H F' H' g' → W (.ref (cl c)) none σ H'
  | .bad => False
def tM {α β : Type} (K : PySem.W.Frag) (cl : Cls) (W : WX) (rel : Hp → Hp → DA → β → α → Prop) (m : Env → G → R α) : St → Hp → (β → Hp → Prop) → Prop := fun σ H Q =>
  ∃ F da r g, Rep K cl F H da σ r g ∧ Post cl W σ rel da F H Q (m r g)
abbrev relE : Hp → Hp → DA → V → D → Prop := fun F _ _ v d => Rp F v d
abbrev relC : Hp → Hp → DA → V → D → Prop := fun F H da v d => Cp F H da v d
abbrev relT : Hp → Hp → DA → Bool → Bool → Prop := fun _ _ _ b d => b = d
def ArgOk (cl : Cls) (F : Hp) (da : DA) (v : V) : Cell → Prop
  | .val d => Rp F v d
  | .drw => ∃ p, da = some p ∧ v = .ref p.1
  | .exn c => ∃ a, v = .ref a ∧ F a = some (ExH (.ref (cl c)) none a)
  | .rdr j A B => RdrAt cl F da v j A B
  | _ => False
inductive ArgsOk (cl : Cls) (F : Hp) (da : DA) : List V → List Cell → Prop
  | nil : ArgsOk cl F da [] []
  | cons {v : V} {vs : List V} {c : Cell} {cs : List Cell} : ArgOk cl F da v c → ArgsOk cl F da vs cs → ArgsOk cl F da (v :: vs) (c :: cs)
theorem ArgOk.mono {F F' : Hp} {da : DA} {v : V} {c : Cell} (s : Same F F') (h : ArgOk cl F da v c) : ArgOk cl F' da v c := by
  cases c with
  | val d => exact Rp.mono s h
  | drw => exact h
  | exn c => obtain ⟨a, e, h⟩ := h; exact ⟨a, e, s _ _ h⟩
  | rdr j A B => exact RdrAt.mono s h
  | _ => exact h
theorem ArgsOk.mono {F F' : Hp} {da : DA} (s : Same F F') : ∀ {vs : List V} {cs : List Cell}, ArgsOk cl F da vs cs → ArgsOk cl F' da vs cs
  | _, _, .nil => .nil
  | _, _, .cons h t => .cons (h.mono s) (ArgsOk.mono s t)
abbrev relA (cl : Cls) : Hp → Hp → DA → List V → List Cell → Prop := fun F _ da vs cs => ArgsOk cl F da vs cs
section
variable {K : PySem.W.Frag} {cl : Cls} {W : WX} {σ : St} {da : DA}
theorem Post.nx {α β : Type} {rel : Hp → Hp → DA → β → α → Prop} {F H F1 H1 : Hp} {g1 : G} {Q : β → Hp → Prop} {x : R α} (n : Nx da F H F1 H1 g1) (h : Post cl W σ rel da F H Q x) : Post cl W σ rel da F1 H1 Q x := by
  cases x with
  | ok d g' => exact fun v F' H' n2 => h v F' H' (n.trans n2)
  | exc c g' => exact fun F' H' n2 => h F' H' (n.trans n2)
  | bad => exact h
/-- go on behind a part of an evaluation -/
theorem Post.bind {α β α' β' : Type} {rel : Hp → Hp → DA → β → α → Prop} {rel' : Hp → Hp → DA → β' → α' → Prop} {x : R α} {f : α → G → R α'} {F H : Hp} {Q : β' → Hp → Prop} {Q' : β → Hp → Prop}
    (h : Post cl W σ rel' da F H Q (x.bind f))
    (k : ∀ (a : α) (g1 : G) (v : β) (F1 H1 : Hp), Nx da F H F1 H1 g1 → rel F1 H1 da v a → Post cl W σ rel' da F1 H1 Q (f a g1) → Q' v H1) : Post cl W σ rel da F H Q' x := by
  cases x with
  | ok a g1 => exact fun v F1 H1 n rl => k a g1 v F1 H1 n rl (Post.nx n h)
  | exc c g' => exact h
  | bad => exact h
theorem Post.imp {α β : Type} {rel : Hp → Hp → DA → β → α → Prop} {F H : Hp} {Q Q' : β → Hp → Prop} {x : R α} (h : Post cl W σ rel da F H Q x) (k : ∀ v H1, Q v H1 → Q' v H1) : Post cl W σ rel da F H Q' x := by
  cases x with
  | ok d g' => exact fun v F' H' n2 r => k v H' (h v F' H' n2 r)
  | exc c g' => exact h
  | bad => exact h
/-- the last step is an operation that lays at most something new -/
theorem Post.al {F H : Hp} {g : G} {o : Option D} {Q : VK} (gk : GOk H g da) (h : Post cl W σ (fun F _ _ v d => Rp F v d) da F H Q (R.of g o)) : ∃ dz, o = some dz ∧ ∀ v F' H', Al F H F' H' → Rp F' v dz → Q v H' := by
  cases o with
  | none => exact h.elim
  | some dz => exact ⟨dz, rfl, fun v F' H' a r => h v F' H' (Nx.of_al gk a) r⟩
end
theorem impE {X : Cx} {e : Expr} {t t' : TE} (h : PE X e t) (k : ∀ σ H Q, t' σ H Q → t σ H Q) : PE X e t' := ⟨fun pins s σ H Q I q => h.run pins s σ H Q I (k σ H Q q)⟩
theorem impT {X : Cx} {e : Expr} {t t' : TT} (h : PT X e t) (k : ∀ σ H Q, t' σ H Q → t σ H Q) : PT X e t' := ⟨fun pins s σ H Q I q => h.run pins s σ H Q I (k σ H Q q)⟩
theorem impA {X : Cx} {e : List Expr} {t t' : TA} (h : PA X e t) (k : ∀ σ H Q, t' σ H Q → t σ H Q) : PA X e t' := ⟨fun pos pins s σ H Q I q => h.run pos pins s σ H Q I (k σ H Q q)⟩
theorem impI {X : Cx} {tg e : Expr} {t t' : TI} (h : PI X tg e t) (k : ∀ σ H Q, t' σ H Q → t σ H Q) : PI X tg e t' := ⟨fun pins s σ H Q I q => h.run pins s σ H Q I (k σ H Q q)⟩
theorem impS {X : Cx} {e : Stmt} {t t' : TS} (h : PS X e t) (k : ∀ D σ H, t' D σ H → t D σ H) : PS X e t' := ⟨fun pins s σ H D I q => h.run pins s σ H D I (k D σ H q)⟩
theorem impSs {X : Cx} {e : List Stmt} {t t' : TS} (h : PSs X e t) (k : ∀ D σ H, t' D σ H → t D σ H) : PSs X e t' := ⟨fun pins s σ H D I q => h.run pins s σ H D I (k D σ H q)⟩
section
variable {K : PySem.W.Frag} {cl : Cls} {W : WX} {Φ : Nat → Fn}
abbrev tE (K : PySem.W.Frag) (cl : Cls) (W : WX) (Φ : Nat → Fn) (e : E) : TE := tM K cl W relE (evE Φ e)
abbrev tC (K : PySem.W.Frag) (cl : Cls) (W : WX) (Φ : Nat → Fn) (e : E) : TE := tM K cl W relC (evC Φ e)
abbrev tT (K : PySem.W.Frag) (cl : Cls) (W : WX) (Φ : Nat → Fn) (e : E) : TT := tM K cl W relT (evT Φ e)
abbrev tA (K : PySem.W.Frag) (cl : Cls) (W : WX) (Φ : Nat → Fn) (e : E) : TA := tM K cl W (relA cl) (evA Φ e)
theorem rd_un {o : Un} {a : E} {r1 : V → Hp → VK → Prop} (s1 : S1 o r1) {σ : St} {H : Hp} {Q : VK} (h : tE K cl W Φ (.un o a) σ H Q) : tC K cl W Φ a σ H (fun x H1 => r1 x H1 Q) := by
  obtain ⟨F, da, r, g, Rr, h⟩ := h
  have h : Post cl W σ relE da F H Q ((evC Φ a r g).bind fun d g => R.of g (uop o d)) := h
  refine ⟨F, da, r, g, Rr, Post.bind h fun d g1 v F1 H1 n c q => ?_⟩
  obtain ⟨dz, e, k⟩ := Post.al n.gok q
  exact s1 F1 H1 da v d dz Q n.sub c e k
theorem rd_bi {o : Bi} {a b : E} {r2 : R2} (s2 : S2 o r2) {σ : St} {H : Hp} {Q : VK} (h : tE K cl W Φ (.bi o a b) σ H Q) : tC K cl W Φ a σ H (fun x H1 => tC K cl W Φ b σ H1 fun y H2 => r2 x y H2 Q) := by
  obtain ⟨F, da, r, g, Rr, h⟩ := h
  have h : Post cl W σ relE da F H Q ((evC Φ a r g).bind fun x g => match preB o x with
    | true => (evC Φ b r g).bind fun y g => R.of g (bop o x y)
    | false => .bad) := h
  refine ⟨F, da, r, g, Rr, Post.bind h fun d g1 v F1 H1 n c q => ?_⟩
  cases pb : preB o d with
  | false => simp only [pb] at q; exact q.elim
  | true =>
  simp only [pb] at q
  refine ⟨F1, da, r, g1, Rr.nx n, Post.bind q fun e g2 u F2 H2 n2 c2 q2 => ?_⟩
  obtain ⟨dz, e3, k⟩ := Post.al n2.gok q2
  exact s2 F2 H2 da v u d e dz Q n2.sub (c.nx n2) c2 e3 k
end
end Tl
end
section
set_option Elab.async false
set_option linter.all false
set_option autoImplicit false
set_option maxRecDepth 100000
namespace Tl
open PySem PySem.Spec PyProof.Rows
/-! ### set(xs) of keys of any kind -/
theorem dd_snoc {α : Type} [BEq α] (l : List α) (x : α) : dd (l ++ [x]) = if (dd l).any (· == x) then dd l else dd l ++ [x] := by
  unfold dd
  rw [List.foldl_append]
  rfl
theorem dd_le {α : Type} [BEq α] (l : List α) : (dd l).length ≤ l.length := by
  have h : ∀ (l s : List α), (l.foldl (fun s k => if s.any (· == k) then s else s ++ [k]) s).length ≤ s.length + l.length := by
    intro l
    induction l with
    | nil => intro s; simp
    | cons x r ih =>
      intro s
      rw [List.foldl_cons]
      refine Nat.le_trans (ih _) ?_
      split <;> simp <;> omega
  have q := h l []
  simpa [dd] using q
theorem dd_any_snoc {α : Type} [DecidableEq α] [BEq α] [LawfulBEq α] (l : List α) (x k : α) : (dd (l ++ [x])).any (· == k) = ((dd l).any (· == k) || decide (k = x)) := by
  rw [dd_snoc]
  by_cases h : (dd l).any (· == x) = true
  · rw [if_pos h]
    by_cases e : k = x
    · subst e; rw [h]; simp
    · simp [e]
  · rw [if_neg h, List.any_append]
    by_cases e : k = x
    · subst e; simp
    · have z : (x == k) = false := by simpa [beq_iff_eq] using (fun q : x = k => e q.symm)
      simp [z, e]
section
variable {prog : Program} {w : World} {κ : Type} [DecidableEq κ] [BEq κ] [LawfulBEq κ] {A : Around} {I : Addr} {n : Nat} {fp wr : List Addr} {G : Array GenState → Array GenState → Prop} {P : Nat → Value → Prop} {St : Nat → Shared → Prop} {R : Result → Shared → Prop}
theorem up_loop (kd : KeyKind prog w κ) (Wk : WalksS prog w A.in1 I fp wr G n P St) (c : Addr) (nc : c ∉ fp) (xs : List κ) (ln : xs.length = n) (small : n ≤ 1000)
    (at_ : ∀ i v, P i v → ∃ x, xs[i]? = some x ∧ kd.is x v = true ∧ v.scannable = true) :
    ∀ (k i : Nat) (s : Shared), n - i = k → i ≤ n → St i s → s.heap.SetOf kd c (fun q => (dd (xs.take i)).any (· == q)) (dd (xs.take i)).length →
      (∀ s', Moved (c :: wr) G s s' → s'.heap.SetOf kd c (fun q => (dd xs).any (· == q)) (dd xs).length → R (.ok (.ret .none)) s') →
      codeAny (model prog w) A (.builtin "set.update.loop" ⟨[.ref c, .ref I], []⟩) R s := by
  have cw : c ∉ wr := fun z => nc (Wk.sub _ z)
  have sb : ∀ b ∈ wr, b ∈ c :: wr := fun b z => List.mem_cons_of_mem _ z
  intro k
  induction k with
  | zero =>
    intro i s e1 e2 st hs hR
    obtain rfl : i = n := by omega
    refine codeAny_builtin F.entry_set_update_loop ?_
    rw [Around.under_plainId F.plain_set_update_loop _]
    show wpAny _ A.in1 (pyNext (.ref I) >>= _) _ _ s
    refine wpAny_bind (Wk.done s _ _ st fun s' mv => ?_)
    show wpAny _ A.in1 (ret Value.none) _ _ s'
    have tk : xs.take i = xs := List.take_of_length_le (by omega)
    rw [tk] at hs
    obtain ⟨o, es, ep, t, ho, rest⟩ := hs
    exact wpAny_pure (hR s' (mv.mono sb) ⟨o, es, ep, t, mv.heap c _ cw ho, rest⟩)
  | succ k ih =>
    intro i s e1 e2 st hs hR
    have lt : i < n := by omega
    refine codeAny_builtin F.entry_set_update_loop ?_
    rw [Around.under_plainId F.plain_set_update_loop _]
    show wpAny _ A.in1 (pyNext (.ref I) >>= _) _ _ s
    refine wpAny_bind (Wk.item i s _ _ lt st fun v s' pv st' mv => ?_)
    obtain ⟨x, hx, isx, isc⟩ := at_ i v pv
    have hs2 : s'.heap.SetOf kd c (fun q => (dd (xs.take i)).any (· == q)) (dd (xs.take i)).length := by
      obtain ⟨o, es, ep, t, ho, rest⟩ := hs
      exact ⟨o, es, ep, t, mv.heap c _ cw ho, rest⟩
    show wpAny _ A.in1 (holding [v] (setAdd c v) >>= _) _ _ s'
    refine wpAny_bind (wpAny_holding ?_)
    unfold setAdd
    refine wpAny_holding (wpAny_bind (kd.pyHash (k := x) isx ?_))
    have room : (dd (xs.take i)).length + 1 < scanBound := by
      have := dd_le (xs.take i)
      rw [List.length_take] at this
      unfold scanBound
      omega
    have tk : xs.take (i + 1) = xs.take i ++ [x] := by
      rw [List.take_add_one, hx]
      rfl
    refine wpAny_setAddHashed_of (knd := kd) (s := { s' with toks := s'.toks + 1 }) isx isc hs2 room fun h' hk hs3 => ?_
    have hs4 : h'.SetOf kd c (fun q => (dd (xs.take (i + 1))).any (· == q)) (dd (xs.take (i + 1))).length :=
      SetOf_congr hs3 (fun q => by rw [tk, dd_any_snoc]) (by rw [tk, dd_snoc]; split <;> simp_all)
    refine wpAny_pure ⟨plainId_quiet F.plain_set_update_loop _, ih (i + 1) _ (by omega) lt (Wk.frame _ s' _ _ st' (Nat.le_succ _) fun b hb o e => ?_) hs4 fun s2 mv2 hs5 => ?_⟩
    · rw [hk.2 b (fun z : b = c => nc (z ▸ hb))]; exact e
    · refine hR s2 (Moved.trans Wk.gtrans ((mv.mono sb).then_heap (Nat.le_succ _) fun b o hb e => ?_) mv2) hs5
      rw [hk.2 b (fun z : b = c => hb (z ▸ List.mem_cons_self))]; exact e
end
abbrev eSet (led : Bool) : Obj := { cls := .type "set", dict := none, data := .set #[] 0 (.fresh 0 0 led) }
set_option maxHeartbeats 3200000 in
theorem call_set_keys {prog : Program} {w : World} {κ : Type} [DecidableEq κ] [BEq κ] [LawfulBEq κ] (kd : KeyKind prog w κ) {A : Around} {E : Value → Shared → Prop} {s : Shared} {l : Addr} {its : Array Value} {xs : List κ} {Q : Value → Shared → Prop} (hh : A.handled = none) (hl : s.heap.IsList l its)
    (ln : xs.length = its.size) (at_ : ∀ (i : Nat) (v : Value), its[i]? = some v → ∃ x, xs[i]? = some x ∧ kd.is x v = true ∧ v.scannable = true) (small : xs.length ≤ 1000)
    (h : ∀ (h' : Heap) (tk : Nat), h'.SetOf kd s.heap.objs.size (fun k => (dd xs).any (· == k)) (dd xs).length → (∀ b o, b < s.heap.objs.size → s.heap.get? b = some o → h'.get? b = some o) → Q (.ref s.heap.objs.size) { s with heap := h', toks := tk }) :
    wpAny (model prog w) A (call (.type "set") [.ref l]) Q E s := by
  obtain ⟨c1, tl, hmro⟩ := PySem.F.called_set.mro
  have q1 := PySem.F.called_set.made
  have q2 := PySem.F.called_set.sub
  refine wpAny_call (codeAny_of_tree ?_)
  show wpAny _ _ (callAny (.type "set") _) _ _ _
  refine wpAny_pure ⟨Code.quiet_builtin _ (by decide +kernel), codeAny_builtin PySem.F.entry_type_call ?_⟩
  rw [Around.under_plain (weight_type_call_type "set" [.ref l] []) rfl]
  have q3 := PySem.F.called_set.notType
  have q4 := PySem.F.called_set.canCreate
  have q5 := PySem.F.typeCall_set_1 (.ref l)
  repeat (first | with_reducible assumption | (first
      | with_reducible (first | refine wpAny_pure ?_ | refine wpAny_bind ?_ | refine wpAny_of_eq (by assumption) ?_ | refine wpAny_holding ?_ | refine wpAny_typeOf (by assumption) ?_ | refine wpAny_run ?_ | refine wpAny_runValue ?_ | refine wpAny_call ?_)
      | with_reducible (first | refine wpAny_standAt ?_ | refine wpAny_point ?_ | refine wpAny_rule ?_ | refine wpAny_letGo ?_ | refine wpAny_attempt ?_ | refine wpAny_throw ?_)
      | with_reducible (first | refine wpAny_specialOf_val (by assumption) (by assumption) ?_ | refine wpAny_specialOf (by assumption) (by assumption) ?_ | refine wpAny_isInstance_val (by assumption) (by assumption) ?_ | refine wpAny_isInstance (by assumption) (by assumption) ?_)
      | wp_delta
      | ((with_reducible apply wpAny_ite_false); focus (first | rfl | (simp [*]; done)))
      | ((with_reducible apply wpAny_ite_true); focus (first | rfl | (simp [*]; done)))
      | ((with_reducible apply wpAny_load'); focus (heap_get; done))
      | ((with_reducible apply wpAny_loadPart'); focus (heap_get; done))
      | ((with_reducible apply wpAny_update'); focus (heap_get; done))
      | ((with_reducible apply wpAny_updatePart'); focus (heap_get; done))
      | ((with_reducible apply wpAny_handled_none); focus (assumption; done))))
  refine codeAny_mono (code_set_new_1 (.ref l) (E := E) (Q₁ := fun obj s1 => ∃ led : Bool, obj = .ref s.heap.objs.size ∧ s1 = { s with heap := s.heap.push (eSet led) }) fun led => ⟨led, rfl, rfl⟩) fun r s1 hr => ?_
  match r, hr with
  | .error e, hr => exact hr
  | .ok (.ret obj), hr =>
    obtain ⟨led, rfl, rfl⟩ := hr
    have gS : (s.heap.push (eSet led)).get? s.heap.objs.size = some (eSet led) := Heap.get?_push_size _ rfl
    have tS : Shared.TypeIs { s with heap := s.heap.push (eSet led) } (.ref s.heap.objs.size) "set" := ⟨_, gS, rfl⟩
    have q6 := PySem.F.called_set.init.lookup
    have q7 := PySem.F.called_set.init.bind (.ref s.heap.objs.size)
    repeat (first | with_reducible assumption | (first
        | with_reducible (first | refine wpAny_pure ?_ | refine wpAny_bind ?_ | refine wpAny_of_eq (by assumption) ?_ | refine wpAny_holding ?_ | refine wpAny_typeOf (by assumption) ?_ | refine wpAny_run ?_ | refine wpAny_runValue ?_ | refine wpAny_call ?_)
        | with_reducible (first | refine wpAny_standAt ?_ | refine wpAny_point ?_ | refine wpAny_rule ?_ | refine wpAny_letGo ?_ | refine wpAny_attempt ?_ | refine wpAny_throw ?_)
        | with_reducible (first | refine wpAny_specialOf_val (by assumption) (by assumption) ?_ | refine wpAny_specialOf (by assumption) (by assumption) ?_ | refine wpAny_isInstance_val (by assumption) (by assumption) ?_ | refine wpAny_isInstance (by assumption) (by assumption) ?_)
        | wp_delta
        | ((with_reducible apply wpAny_ite_false); focus (first | rfl | (simp [*]; done)))
        | ((with_reducible apply wpAny_ite_true); focus (first | rfl | (simp [*]; done)))
        | ((with_reducible apply wpAny_load'); focus (heap_get; done))
        | ((with_reducible apply wpAny_loadPart'); focus (heap_get; done))
        | ((with_reducible apply wpAny_update'); focus (heap_get; done))
        | ((with_reducible apply wpAny_updatePart'); focus (heap_get; done))
        | ((with_reducible apply wpAny_handled_none); focus (assumption; done))))
    refine codeAny_mono (codeAny_call_builtin (R := wants (fun r s2 => r = .none ∧ ∃ h' tk, s2 = { s with heap := h', toks := tk } ∧
        h'.SetOf kd s.heap.objs.size (fun k => (dd xs).any (· == k)) (dd xs).length ∧ (∀ b o, b < s.heap.objs.size → s.heap.get? b = some o → h'.get? b = some o)) E) PySem.F.called_set.init.plain PySem.F.entry_set_init (check_set_init_1 tS ?_)) fun r2 s2 hr2 => ?_
    · obtain ⟨⟨ocls, odict, odata, oslots⟩, g1, g2, nl, g3⟩ := hl
      simp only at g2 g3
      subst g2; subst g3
      have g4 : (s.heap.push (eSet led)).get? l = some { cls := .type "list", dict := odict, data := .seq its nl, slots := oslots } := Heap.get?_push_of_some _ g1
      have u1 := PySem.F.sub_list_set
      have u2 := PySem.F.sub_list_frozenset
      have u3 : (Value.type "list" == Value.type "dict") = false := by decide
      have g5 : (s.heap.push (eSet led)).IsList l its := ⟨_, g4, rfl, nl, rfl⟩
      unfold Builtin.«set.__init__» noKeywords Builtin.Frozenset.updateFrom
      generalize hPI : pyIter = PI
      repeat (first
          | with_reducible (first | refine wpAny_pure ?_ | refine wpAny_bind ?_ | refine wpAny_of_eq (by assumption) ?_ | refine wpAny_holding ?_ | refine wpAny_typeOf (by assumption) ?_ | refine wpAny_run ?_ | refine wpAny_runValue ?_ | refine wpAny_call ?_)
          | with_reducible (first | refine wpAny_standAt ?_ | refine wpAny_point ?_ | refine wpAny_rule ?_ | refine wpAny_letGo ?_ | refine wpAny_attempt ?_ | refine wpAny_throw ?_)
          | with_reducible (first | refine wpAny_specialOf_val (by assumption) (by assumption) ?_ | refine wpAny_specialOf (by assumption) (by assumption) ?_ | refine wpAny_isInstance_val (by assumption) (by assumption) ?_ | refine wpAny_isInstance (by assumption) (by assumption) ?_)
          | wp_delta
          | ((with_reducible apply wpAny_ite_false); focus (first | rfl | (simp [*]; done)))
          | ((with_reducible apply wpAny_ite_true); focus (first | rfl | (simp [*]; done)))
          | ((with_reducible apply wpAny_load'); focus (heap_get; done))
          | ((with_reducible apply wpAny_loadPart'); focus (heap_get; done))
          | ((with_reducible apply wpAny_update'); focus (heap_get; done))
          | ((with_reducible apply wpAny_updatePart'); focus (heap_get; done))
          | ((with_reducible apply wpAny_handled_none); focus (assumption; done)))
      subst hPI
      refine wpAny_pyIter_list g5 (wpAny_bind (wpAny_runValue ?_))
      have lS : l < s.heap.objs.size := Heap.lt_size g1
      have h3 : A.in1.in1.in1.handled = none := by simp [hh]
      have nI : l ≠ (s.heap.push (eSet led)).objs.size := by
        rw [Heap.size_push]; exact Nat.ne_of_lt (Nat.lt_succ_of_lt lS)
      have nS : s.heap.objs.size ∉ [(s.heap.push (eSet led)).objs.size, l] := by
        rw [Heap.size_push]; simp only [List.mem_cons, List.not_mem_nil, or_false, not_or]; exact ⟨Nat.ne_of_lt (Nat.lt_succ_self _), Nat.ne_of_gt lS⟩
      refine up_loop kd ((Walks.list h3 _ l nI its).toS) s.heap.objs.size nS xs ln (by omega) (fun i v hv => at_ i v hv) (its.size - 0) 0 _ (by omega) (Nat.zero_le _)
        ⟨⟨_, Heap.get?_push_size _ rfl, rfl, rfl⟩, g5.push _⟩ ?_ ?_
      · have hget : ((s.heap.push (eSet led)).push { cls := .type "list_iterator", data := .fields #[.ref l, .int 0 0] }).get? s.heap.objs.size = some (eSet led) := Heap.get?_push_of_some _ gS
        exact SetOf_congr ((setObjOf_fresh (knd := kd) led).setOf hget (by unfold scanBound; omega)) (fun _ => rfl) rfl
      · intro s' hm hS'
        obtain ⟨h', g', d', tk', os'⟩ := s'
        have eg : g' = s.gens := hm.gens
        have ed : d' = s.drawn := hm.drawn
        have eo : os' = s.os := hm.os
        subst eg; subst ed; subst eo
        show wpAny _ _ _ _ _ _
        refine wpAny_pure ?_
        show wpAny _ _ (ret Value.none) _ _ _
        refine wpAny_pure ⟨rfl, h', tk', rfl, hS', fun b o hb e => ?_⟩
        refine hm.heap b o ?_ (Heap.get?_push_of_some _ (Heap.get?_push_of_some _ e))
        simp only [List.mem_cons, List.not_mem_nil, or_false, not_or]
        rw [Heap.size_push]
        exact ⟨Nat.ne_of_lt hb, Nat.ne_of_lt (Nat.lt_succ_of_lt hb)⟩
    · match r2, hr2 with
      | .error e, hr2 => exact hr2
      | .ok (.ret r), hr2 =>
        obtain ⟨rfl, h', tk, rfl, hS', hk'⟩ := hr2
        repeat (first | with_reducible assumption | (first
            | with_reducible (first | refine wpAny_pure ?_ | refine wpAny_bind ?_ | refine wpAny_of_eq (by assumption) ?_ | refine wpAny_holding ?_ | refine wpAny_typeOf (by assumption) ?_ | refine wpAny_run ?_ | refine wpAny_runValue ?_ | refine wpAny_call ?_)
            | with_reducible (first | refine wpAny_standAt ?_ | refine wpAny_point ?_ | refine wpAny_rule ?_ | refine wpAny_letGo ?_ | refine wpAny_attempt ?_ | refine wpAny_throw ?_)
            | with_reducible (first | refine wpAny_specialOf_val (by assumption) (by assumption) ?_ | refine wpAny_specialOf (by assumption) (by assumption) ?_ | refine wpAny_isInstance_val (by assumption) (by assumption) ?_ | refine wpAny_isInstance (by assumption) (by assumption) ?_)
            | wp_delta
            | ((with_reducible apply wpAny_ite_false); focus (first | rfl | (simp [*]; done)))
            | ((with_reducible apply wpAny_ite_true); focus (first | rfl | (simp [*]; done)))
            | ((with_reducible apply wpAny_load'); focus (heap_get; done))
            | ((with_reducible apply wpAny_loadPart'); focus (heap_get; done))
            | ((with_reducible apply wpAny_update'); focus (heap_get; done))
            | ((with_reducible apply wpAny_updatePart'); focus (heap_get; done))
            | ((with_reducible apply wpAny_handled_none); focus (assumption; done))))
        exact h _ _ hS' hk'
      | .ok .next, hr2 => exact hr2.elim
      | .ok .brk, hr2 => exact hr2.elim
      | .ok .cont, hr2 => exact hr2.elim
  | .ok .next, hr => exact hr.elim
  | .ok .brk, hr => exact hr.elim
  | .ok .cont, hr => exact hr.elim
end Tl
end
section
set_option Elab.async false
set_option linter.all false
set_option autoImplicit false
set_option maxRecDepth 100000
namespace Tl
open PySem PySem.Spec PyProof.Rows L2
/-! ### sorted, of data that are alike -/
theorem each_zip {F : Hp} : ∀ {xs : List V} {ds : List D} {us : List Value}, RpAll F xs ds → Vals xs us → PySem.W.EachIs (fun (u : Value) (p : V × D) => RelV p.1 u ∧ Rp F p.1 p.2) us (xs.zip ds)
  | _, _, _, .nil, .nil => .nil
  | _, _, _, .cons h t, .cons r q => .cons ⟨r, h⟩ (each_zip t q)
theorem zip_snd {F : Hp} : ∀ {xs : List V} {ds : List D}, RpAll F xs ds → (xs.zip ds).map Prod.snd = ds
  | _, _, .nil => rfl
  | _, _, .cons h t => by
    rw [List.zip_cons_cons, List.map_cons, zip_snd t]
theorem vals_each {F : Hp} : ∀ {us : List Value} {ps : List (V × D)}, PySem.W.EachIs (fun (u : Value) (p : V × D) => RelV p.1 u ∧ Rp F p.1 p.2) us ps → Vals (ps.map Prod.fst) us ∧ RpAll F (ps.map Prod.fst) (ps.map Prod.snd)
  | _, _, .nil => ⟨.nil, .nil⟩
  | _, _, .cons h t => ⟨.cons h.1 (vals_each t).1, .cons h.2 (vals_each t).2⟩
theorem sortOk_alike {ds : List D} (h : sortOk ds = true) : PySem.W.AllAlike ds := by
  unfold sortOk at h
  simp only [Bool.and_eq_true, List.all_eq_true] at h
  exact fun d hd e he => h.1.1 d hd e he
theorem sortOk_able {ds : List D} (h : sortOk ds = true) : PySem.W.Sortable ds := by
  unfold sortOk at h
  simp only [Bool.and_eq_true, Bool.or_eq_true, List.all_eq_true] at h
  rcases h.1.2 with q | q
  · refine .inl fun d hd => ?_
    have z := q d hd
    split at z
    · exact ⟨_, _, rfl⟩
    · cases z
  · refine .inr fun d hd => ?_
    have z := q d hd
    split at z
    · cases z
    · cases z
    · rename_i h1 h2
      exact ⟨h1, fun xs e => h2 xs e⟩
theorem sortOk_shp {ds : List D} (h : sortOk ds = true) : ∀ d ∈ ds, d.depth ≤ 60 := by
  unfold sortOk at h
  simp only [Bool.and_eq_true, List.all_eq_true] at h
  exact fun d hd => of_decide_eq_true (h.2 d hd)
def rSortD (K : PySem.W.Frag) : V → Hp → VK → Prop := fun x H Q => ∃ (F : Hp) (a : Addr) (xs : List V) (ds : List D), Same F H ∧ x = .ref a ∧ SqL K H a xs ∧ RpAll F xs ds ∧ sortOk ds = true ∧ ds.length ≤ lim ∧
  ∀ p ys, H p = none → RpAll F ys (sortD ds) → Q (.ref p) (upd H p (.lst ys))
theorem cr_sortD {X : Cx} (hu : X.A.units + 64 < cLine) : CallR X (.builtin "sorted") (fun xs H Q => ∃ x, xs = [x] ∧ rSortD X.K x H Q) := by
  intro pins s σ H xs us Q I r h
  obtain ⟨x, rfl, F, a, vs, ds, sF, rfl, hs, ra, ok, hl, q⟩ := h
  obtain ⟨u, rfl, rx⟩ := vals1 r
  cases rx
  obtain ⟨its, rv, pl, hz⟩ := I.list hs
  obtain ⟨as, rds⟩ := Dp.readsAll I ds vs its (ra.dp sF) rv
  have ez := each_zip ra rv
  have em : (vs.zip ds).map Prod.snd = ds := zip_snd ra
  have er : PySem.W.EachIs (fun (v : Value) (b : V × D) => ∃ as, Reads s.heap v (Prod.snd b) as) its (vs.zip ds) := PySem.W.readsAll_each (h := s.heap) (vs := its) (as := as) Prod.snd (by rw [em]; exact rds)
  have hlen : (vs.zip ds).length = ds.length := by rw [← List.length_map (f := Prod.snd), em]
  refine PySem.W.sorted_data (enc := Prod.snd) (bs := vs.zip ds) pl.isList ez er (by rw [em]; exact sortOk_alike ok) (by rw [em]; exact sortOk_able ok) (by rw [hlen]; exact lim_line' hl) (fun b hb => ?_) fun out ho eo => ?_
  · have hb2 : b.2 ∈ ds := by rw [← em]; exact List.mem_map_of_mem hb
    have := sortOk_shp ok _ hb2
    omega
  · obtain ⟨v1, v2⟩ := vals_each eo
    have e2 : ((vs.zip ds).mergeSort (PySem.W.dataLe false Prod.snd)).map Prod.snd = sortD ds := by
      rw [PySem.W.sort_maps (r := PySem.W.dataLe false Prod.snd) (s := PySem.W.dataLe false id) Prod.snd (fun _ _ _ _ => rfl), em, sortD_eq]
    rw [e2] at v2
    obtain ⟨ep, he'⟩ := PyProof.Rows.sortedAll_at s.heap its out.toArray
    have hlen2 : (((vs.zip ds).mergeSort (PySem.W.dataLe false Prod.snd)).map Prod.fst).length ≤ sizeLine := by
      rw [List.length_map, List.length_mergeSort, hlen]
      exact lim_line' hl
    exact ⟨.ref _, upd H (s.heap.objs.size + 1) (.lst _), I.laid (t' := s.toks) (fun _ _ => PyProof.Rows.sortedAll_old) (Nat.le_succ _) ⟨hlen2, out, ep, v1, he'⟩, rfl, q _ _ (I.hok.fresh (Nat.le_succ _)) v2⟩
theorem s1_sorted {K : PySem.W.Frag} : S1 .sorted (rSortD K) := by
  intro F H da x d dz Q s c e k
  cases d with
  | list ds =>
    obtain ⟨a, xs, h1, h2, h3, h4⟩ := c.list s
    simp only [uop] at e
    split at e
    · rename_i ok
      cases e
      exact ⟨F, a, xs, ds, s, h1, .inl (.inl h2), h3, ok, h4, fun p ys hp ry => new_lst s ry (by rw [sortD_eq, List.length_mergeSort]; exact h4) k p hp⟩
    · cases e
  | _ => simp [uop] at e
/-! ### min of texts -/
def rMinS (K : PySem.W.Frag) : V → Hp → VK → Prop := fun x H Q => ∃ (F : Hp) (a : Addr) (xs : List V) (ss : List Str) (z : Str), Same F H ∧ x = .ref a ∧ SqL K H a xs ∧ RpAll F xs (ss.map .str) ∧ minSt ss = some z ∧ Q (.str z) H
theorem minD_strs (x : Str) : ∀ r : List Str, PySem.W.minD (.str x) (r.map .str) = .str (r.foldl (fun a y => if PySem.W.dataLt (.str y) (.str a) then y else a) x) := by
  intro r
  unfold PySem.W.minD
  induction r generalizing x with
  | nil => rfl
  | cons y r ih =>
    rw [List.map_cons, List.foldl_cons, List.foldl_cons]
    by_cases h : PySem.W.dataLt (.str y) (.str x) = true
    · rw [if_pos h, if_pos h]
      exact ih y
    · rw [if_neg h, if_neg h]
      exact ih x
theorem cr_minS {X : Cx} (hc : X.calm = true) (hu : X.A.units + 64 < cLine) : CallR X (.builtin "min") (fun xs H Q => ∃ x, xs = [x] ∧ rMinS X.K x H Q) := by
  intro pins s σ H xs us Q I r h
  obtain ⟨x, rfl, F, a, vs, ss, z, sF, rfl, hs, ra, hm, q⟩ := h
  obtain ⟨u, rfl, rx⟩ := vals1 r
  cases rx
  obtain ⟨its, rv, pl, hz⟩ := I.list hs
  obtain ⟨as, rds⟩ := Dp.readsAll I (ss.map .str) vs its (ra.dp sF) rv
  cases ss with
  | nil => cases hm
  | cons s0 ss =>
    cases hm
    refine PySem.W.min_list_data (I.ok.hd hc) pl.isList (by simpa using rds) ?_ ?_ fun i v h' tk bs hi hr hk => ?_
    · refine ⟨fun d hd e he => ?_, fun d hd => ?_⟩
      · rw [← List.map_cons] at hd he
        obtain ⟨d', _, rfl⟩ := List.mem_map.mp hd
        obtain ⟨e', _, rfl⟩ := List.mem_map.mp he
        simp [PySem.W.alike]
      · rw [← List.map_cons] at hd
        obtain ⟨d', _, rfl⟩ := List.mem_map.mp hd
        exact fun z => by cases z
    · have : ∀ l : List Str, PyData.depthAll (l.map .str) = 0 := by
        intro l
        induction l with
        | nil => simp [PyData.depthAll]
        | cons x r ih => simp [PyData.depthAll, PyData.depth, ih]
      have := this (s0 :: ss)
      rw [List.map_cons] at this
      omega
    · have hi : its[i]? = some v := by simpa using hi
      have hlt : i < vs.length := by rw [rv.length]; exact (List.getElem?_eq_some_iff.mp hi).1
      have hw : vs[i]? = some vs[i] := List.getElem?_eq_getElem hlt
      obtain ⟨v', hv', rw'⟩ := rv.get hw
      have ev : v' = v := Option.some.inj (hv'.symm.trans hi)
      subst ev
      generalize vs[i] = w at *
      obtain ⟨d, hd, rp⟩ := ra.getV hw
      rw [List.getElem?_map] at hd
      cases hq : (s0 :: ss)[i]? with
      | none => rw [hq] at hd; cases hd
      | some t =>
        rw [hq] at hd
        cases hd
        cases rp
        obtain ⟨tk', rfl⟩ := rw'
        rw [minD_strs] at hr
        cases hr
        exact ⟨.str _, H, I.kept hk, ⟨tk', rfl⟩, q⟩
theorem s1_minS {K : PySem.W.Frag} : S1 .minS (rMinS K) := by
  intro F H da x d dz Q s c e k
  cases d with
  | list ds =>
    obtain ⟨a, xs, h1, h2, h3, h4⟩ := c.list s
    simp only [uop] at e
    cases q : toStrs ds with
    | none => rw [q] at e; cases e
    | some ss =>
      rw [q] at e
      cases q2 : minSt ss with
      | none => simp only [Option.bind_some, q2] at e; cases e
      | some z =>
        simp only [Option.bind_some, q2] at e
        cases e
        have eds : ds = ss.map .str := (rp_strs h3 q).2
        subst eds
        refine ⟨F, a, xs, ss, z, s, h1, .inl (.inl h2), h3, q2, k _ _ _ (Al.refl s) ?_⟩
        have hz : z ∈ ss := by
          cases ss with
          | nil => cases q2
          | cons x r =>
            cases q2
            have : ∀ (r : List Str) (x : Str), r.foldl (fun a y => if PySem.W.dataLt (.str y) (.str a) then y else a) x = x ∨ r.foldl (fun a y => if PySem.W.dataLt (.str y) (.str a) then y else a) x ∈ r := by
              intro r
              induction r with
              | nil => intro x; exact .inl rfl
              | cons y r ih =>
                intro x
                rw [List.foldl_cons]
                split
                · rcases ih y with h | h
                  · right; rw [h]; exact .head _
                  · exact .inr (.tail _ h)
                · rcases ih x with h | h
                  · exact .inl h
                  · exact .inr (.tail _ h)
            rcases this r x with h | h
            · rw [h]; exact .head _
            · exact .tail _ h
        obtain ⟨i, hi⟩ := List.mem_iff_getElem?.mp hz
        have hd : (ss.map PyData.str)[i]? = some (.str z) := by rw [List.getElem?_map, hi]; rfl
        obtain ⟨w, _, rp⟩ := h3.get hd
        cases rp with
        | str _ a b => exact .str z a b
  | _ => simp [uop] at e
/-! ### len(set(xs)) -/
theorem firstMet_dd (ns : List Int) : firstMet (fun i => ns.getD i 0) ns.length = dd ns := by
  have e : (List.range ns.length).map (fun i => ns.getD i 0) = ns := by
    refine List.ext_getElem? fun i => ?_
    rw [List.getElem?_map]
    by_cases h : i < ns.length
    · rw [List.getElem?_range h]
      simp [h]
    · rw [List.getElem?_eq_none (by simpa using h), List.getElem?_eq_none (by simpa using h)]
      rfl
  unfold firstMet
  rw [e]
  rfl
theorem dd_len {α : Type} [BEq α] (l : List α) : (dd l).length ≤ l.length := by
  have h : ∀ (l s : List α), (l.foldl (fun s k => if s.any (· == k) then s else s ++ [k]) s).length ≤ s.length + l.length := by
    intro l
    induction l with
    | nil => intro s; simp
    | cons x r ih =>
      intro s
      rw [List.foldl_cons]
      refine Nat.le_trans (ih _) ?_
      split <;> simp <;> omega
  have q := h l []
  simpa [dd] using q
def rLenSet (K : PySem.W.Frag) : V → Hp → VK → Prop := fun x H Q => ∃ l : Addr, x = .ref l ∧ ((∃ ns : List Int, SqL K H l (ns.map V.int) ∧ ns.length ≤ 1000 ∧ Q (.int ((dd ns).length : Nat)) H) ∨ (∃ ss : List Str, SqL K H l (ss.map V.str) ∧ ss.length ≤ 1000 ∧ Q (.int ((dd ss).length : Nat)) H))
/-- set(xs) of texts -/
theorem strs_key {prog : Program} {w : World} {its : List Value} {ss : List Str} (h : StrsAre its ss) (i : Nat) (v : Value) (e : its[i]? = some v) : ∃ x, ss[i]? = some x ∧ (PySem.strKind prog w).is x v = true ∧ v.scannable = true := by
  induction h generalizing i with
  | nil => simp at e
  | cons n t hr ih =>
    cases i with
    | zero =>
      simp at e
      exact ⟨n, rfl, by rw [← e]; exact strKind_is _ _ _ _, by rw [← e]; rfl⟩
    | succ i => exact ih i (by simpa using e)
theorem strs_len {its : List Value} {ss : List Str} (h : StrsAre its ss) : ss.length = its.length := by
  induction h with
  | nil => rfl
  | cons n t hr ih => simp [ih]
theorem call_set_strs {prog : Program} {w : World} {A : Around} {E : Value → Shared → Prop} {s : Shared} {l : Addr} {its : List Value} {ss : List Str} {Q : Value → Shared → Prop} (hh : A.handled = none) (hl : s.heap.IsList l its.toArray) (hi : StrsAre its ss) (hb : ss.length ≤ 1000)
    (h : ∀ (h' : Heap) (tk : Nat), h'.SetOf (PySem.strKind prog w) s.heap.objs.size (fun k => (dd ss).any (· == k)) (dd ss).length → (∀ b o, b < s.heap.objs.size → s.heap.get? b = some o → h'.get? b = some o) → Q (.ref s.heap.objs.size) { s with heap := h', toks := tk }) :
    wpAny (model prog w) A (call (.type "set") [.ref l]) Q E s :=
  call_set_keys (PySem.strKind prog w) hh hl (by rw [strs_len hi, List.size_toArray]) (fun i v e => strs_key hi i v (by simpa using e)) hb h
theorem pe_lenSet1 {X : Cx} {a : Expr} {ta : TE} {p p2 q pos : Pos} (hc : X.calm = true) (hg : Gl X "len") (hm : X.mg "len" = none) (hg2 : Gl X "set") (hm2 : X.mg "set" = none) (ha : PE X a ta)
    (na : starEach [a] X.env = (false, eval a X.env) :: starEach [] X.env) : PE X (.Call (.Name "len" p) [.Call (.Name "set" p2) [a] [] q] [] pos) (fun σ H Q => ta σ H fun x H1 => rLenSet X.K x H1 Q) := by
  refine ⟨fun pins s σ H Q I h => ?_⟩
  refine Call_ (ld_blt I hg hm boot_len ?_)
  refine PyProof.Rows.callWith_builtin1 (PyProof.Rows.args_cons ?_ rfl) rfl rfl
  refine Call_ (ld_blt I hg2 hm2 boot_set ?_)
  refine PyProof.Rows.callWith_type1 (PyProof.Rows.args_cons (thn (ha.run pins s σ H _ I h) fun v s1 hh => PyProof.Rows.args_nil ?_) na) na rfl
  obtain ⟨x, H1, I1, r1, l, rfl, hq⟩ := hh
  cases r1
  rcases hq with ⟨ns, hq, hn, q1⟩ | ⟨ns, hq, hn, q1⟩
  · obtain ⟨its, rv, pl, hz⟩ := I1.list hq
    have hi := intsAre_of rv
    have hlen : its.length = ns.length := hi.length
    have hsz : its.toArray.size = ns.length := by rw [List.size_toArray, hlen]
    refine PySem.call_set_list (ns := ns) (I1.ok.hd hc) pl.isList (by simpa using hi) (by rw [hsz]; unfold scanBound; omega) fun h' tk hS hk => ?_
    rw [hsz, firstMet_dd] at hS
    refine PyProof.Rows.args_nil ?_
    obtain ⟨o, es, ep, t, ho, hex, hd, _, _, _, hf, hnn⟩ := hS
    have I2 : Inv X pins σ H1 { s1 with heap := h', toks := tk } := I1.kept fun b o e => hk b o (Heap.lt_size e) e
    have hdd := dd_len ns
    refine call_len_set ho hex hd hf (by rw [hnn]; omega) ⟨.int ((dd ns).length : Nat), H1, I2.tok _, ⟨_, by rw [hnn]⟩, q1⟩
  · obtain ⟨its, rv, pl, hz⟩ := I1.list hq
    refine call_set_strs (I1.ok.hd hc) pl.isList rv.strs hn fun h' tk hS hk => ?_
    refine PyProof.Rows.args_nil ?_
    obtain ⟨o, es, ep, t, ho, hex, hd, _, _, _, hf, hnn⟩ := hS
    have I2 : Inv X pins σ H1 { s1 with heap := h', toks := tk } := I1.kept fun b o e => hk b o (Heap.lt_size e) e
    have hdd := dd_len ns
    refine call_len_set ho hex hd hf (by rw [hnn]; omega) ⟨.int ((dd ns).length : Nat), H1, I2.tok _, ⟨_, by rw [hnn]⟩, q1⟩
theorem s1_lenset {K : PySem.W.Frag} : S1 .lenset (rLenSet K) := by
  intro F H da x d dz Q s c e k
  cases d with
  | list ds =>
    obtain ⟨a, xs, h1, h2, h3, h4⟩ := c.list s
    subst h1
    simp only [uop] at e
    cases q : toInts ds with
    | some ns =>
      rw [q] at e
      simp only at e
      split at e
      · rename_i hn
        cases e
        obtain ⟨h5, h6⟩ := rp_ints h3 q
        subst h5
        exact ⟨a, rfl, .inl ⟨ns, .inl (.inl h2), hn, k _ _ _ (Al.refl s) (.int _)⟩⟩
      · cases e
    | none =>
      rw [q] at e
      simp only at e
      cases q2 : toStrs ds with
      | some ns =>
        rw [q2] at e
        simp only at e
        split at e
        · rename_i hn
          cases e
          obtain ⟨h5, h6⟩ := rp_strs h3 q2
          subst h5
          exact ⟨a, rfl, .inr ⟨ns, .inl (.inl h2), hn, k _ _ _ (Al.refl s) (.int _)⟩⟩
        · cases e
      | none =>
        rw [q2] at e
        cases e
  | _ => simp [uop] at e
theorem rg_rp {F : Hp} (n : Int) : RpAll F (rgV 0 n) (rangeD 0 n.toNat) := by
  unfold rgV rangeD
  rw [Int.sub_zero]
  have go : ∀ l : List Nat, RpAll F (l.map fun i => V.int (0 + (i : Nat))) (l.map fun i => PyData.int (0 + (i : Nat))) := by
    intro l
    induction l with
    | nil => exact .nil
    | cons i r ih => exact .cons (.int _) ih
  exact go _
theorem rangeD_len (a : Int) (n : Nat) : (rangeD a n).length = n := by
  unfold rangeD
  rw [List.length_map, List.length_range]
theorem s1_lrange : S1 .lrange (fun x H Q => ∃ n, x = .int n ∧ RgOk 0 n ∧ ∀ q, H q = none → Q (.ref q) (upd H q (.lst (rgV 0 n)))) := by
  intro F H da x d dz Q s c e k
  cases d with
  | int n =>
    simp only [uop] at e
    split at e
    · rename_i hn
      cases e
      refine ⟨n, cp_int c, RgOk.of_le (by omega) (by omega) (by omega) hn.1, fun p hp => new_lst s (rg_rp n) ?_ k p hp⟩
      rw [rangeD_len]
      unfold lim
      omega
    · cases e
  | _ => simp [uop] at e
/-! ### list(text) -/
theorem cr_lstr {X : Cx} (hc : X.calm = true) : CallR X (.type "list") (fun xs H Q => ∃ z : Str, xs = [.str z] ∧ z.length ≤ lim ∧ ∀ p, H p = none → Q (.ref p) (upd H p (.lst (z.cps.toList.map fun c => .str ⟨#[c]⟩)))) := by
  intro pins s σ H xs us Q I r h
  obtain ⟨z, rfl, hl, q⟩ := h
  obtain ⟨u, rfl, t, rfl⟩ := vals1 r
  refine PySem.call_list_str (I.ok.hd hc) z t (fun h' tk acc c' kp e it => ?_) (lim_line' hl)
  have hv : Vals (z.cps.toList.map fun c => V.str ⟨#[c]⟩) acc.toList := by
    refine vals_of_at (by rw [List.length_map, Array.length_toList, Array.length_toList, it.1]) fun j x u hx hu => ?_
    rw [Array.getElem?_toList] at hu
    obtain ⟨c, tk, hc1, rfl⟩ := it.2 j u hu
    rw [List.getElem?_map, Array.getElem?_toList, hc1] at hx
    cases hx
    exact ⟨tk, rfl⟩
  refine ⟨.ref s.heap.objs.size, upd H s.heap.objs.size (.lst _), I.laid (t' := tk) kp (Nat.le_refl _) (show ObjOk X.prog X.w _ h' _ (.lst _) from ⟨?_, acc.toList, c', hv, ?_⟩), rfl, q _ (I.hok.fresh (Nat.le_refl _))⟩
  · rw [List.length_map, Array.length_toList]
    exact lim_line' hl
  · rw [Array.toArray_toList]
    exact e
theorem chars_rp {F : Hp} {z : Str} (h : PyData.strOk z = true) : RpAll F (z.cps.toList.map fun c => V.str ⟨#[c]⟩) (chars z) := by
  have go : ∀ l : List Nat, (∀ c ∈ l, c ∈ z.cps.toList) → RpAll F (l.map fun c => V.str ⟨#[c]⟩) (l.map fun c => PyData.str ⟨#[c]⟩) := by
    intro l
    induction l with
    | nil => exact fun _ => .nil
    | cons c r ih => exact fun hh => .cons (.str _ one_lim (strOk_one h (hh c List.mem_cons_self))) (ih fun x hx => hh x (List.mem_cons_of_mem _ hx))
  exact go _ fun _ h => h
theorem s1_lstr : S1 .lstr (fun x H Q => ∃ z : Str, [x] = [V.str z] ∧ z.length ≤ lim ∧ ∀ p, H p = none → Q (.ref p) (upd H p (.lst (z.cps.toList.map fun c => .str ⟨#[c]⟩)))) := by
  intro F H da x d dz Q s c e k
  cases d with
  | str z =>
    cases e
    obtain ⟨h1, h2, h3⟩ := cp_str c
    refine ⟨z, by rw [h1], h2, fun p hp => new_lst s (chars_rp h3) ?_ k p hp⟩
    unfold chars
    rw [List.length_map, Array.length_toList]
    exact h2
  | _ => simp [uop] at e
end Tl
end
section
set_option Elab.async false
set_option linter.all false
set_option autoImplicit false
set_option maxRecDepth 100000
namespace Tl
open PySem PySem.Spec PyProof.Rows L2
/-! ### what is checked of the text -/
/-- where one stands: the slots' names, the scope, which names' cells were made here -/
structure Stat where
  N : List Str
  sc : Scope
  fn : Str → Bool
/-- the program: functions' names, the functions at hand, constants, classes of errors -/
structure Tab where
  nm : List Str
  fs : List Nat
  gs : List (Str × D)
  cn : List Str
  ms : List (Nat × Str)
  os : List Nat
def isVis : Option NameKind → Bool
  | some .local => true
  | some .cell => true
  | some .free => true
  | _ => false
def isGl : Option NameKind → Bool
  | some .globalImplicit => true
  | _ => false
def isLo : Option NameKind → Bool
  | some .local => true
  | _ => false
def isCe : Option NameKind → Bool
  | some .cell => true
  | _ => false
def okV (S : Stat) (i : Nat) (x : Str) : Bool := decide (S.N[i]? = some x) && isVis (S.sc.names.lookup x) && !(x == ("__debug__" : Str)) && !(x == ("__classdict__" : Str))
def okG (S : Stat) (x : Str) : Bool := isGl (S.sc.names.lookup x) && !(x == ("__debug__" : Str))
/-- a built-in's name -/
def okB (S : Stat) (x y : Str) : Bool := decide (x = y) && okG S x
/-- a name that is stored -/
def okL (S : Stat) (i : Nat) (x : Str) : Bool := decide (S.N[i]? = some x) && (isLo (S.sc.names.lookup x) || (isCe (S.sc.names.lookup x) && S.fn x))
def okC : D → Const → Bool
  | .none, .none => true
  | .bool a, .bool b => a == b
  | .int a, .int b => decide (a = b)
  | .str a, .str b => decide (a = b) && decide (a.length ≤ lim) && PyData.strOk a
  | _, _ => false
def sameC : D → D → Bool
  | .int a, .int b => decide (a = b)
  | .str a, .str b => decide (a = b)
  | _, _ => false
def isNB : D → Bool
  | .none => true
  | .bool _ => true
  | _ => false
def noStar : Expr → Bool
  | .Starred _ _ => false
  | _ => true
def noSlice : Expr → Bool
  | .Slice _ _ _ _ => false
  | _ => true
def noSet : Expr → Bool
  | .Set _ _ _ => false
  | _ => true
/-- attribute's base that is no call of super -/
def noCall0 : Expr → Bool
  | .Call (.Name _ _) [] [] _ => false
  | _ => true
/-- a test by its value's truth -/
def plainT : Expr → Bool
  | .UnaryOp .Not _ _ => false
  | .BoolOp _ _ _ => false
  | .IfExp _ _ _ _ => false
  | .Compare _ _ _ _ => false
  | _ => true
theorem star_ok {e : Expr} {es : List Expr} {env : PySem.Env} (h : noStar e = true) : starEach (e :: es) env = (false, eval e env) :: starEach es env := by
  cases e <;> first | rfl | simp [noStar] at h
theorem stars_ok {pos : Pos} {env : PySem.Env} : ∀ {es : List Expr}, es.all noStar = true → (backTo pos (starEach es env)).any (·.1) = false
  | [], _ => rfl
  | e :: es, h => by
    rw [List.all_cons, Bool.and_eq_true] at h
    rw [star_ok h.1]
    have := stars_ok (pos := pos) (env := env) h.2
    simpa [backTo] using this
theorem base_ok {e : Expr} {name : Str} {env : PySem.Env} (h : noCall0 e = true) : attributeBase e name env (eval e env) = eval e env := by
  cases e with
  | Call f as ks pos =>
    cases f with
    | Name x p =>
      cases as with
      | nil =>
        cases ks with
        | nil => simp [noCall0] at h
        | cons _ _ => rfl
      | cons _ _ => rfl
    | _ => rfl
  | _ => rfl
theorem plain_ok {e : Expr} {env : PySem.Env} (h : plainT e = true) (whole : Sem Value) : isTrue e env whole = (do let v ← whole; standAt e.pos; holding [v] (truthy v)) := by
  cases e with
  | UnaryOp op x pos =>
    cases op with
    | Not => simp [plainT] at h
    | _ => rfl
  | BoolOp _ _ _ => simp [plainT] at h
  | IfExp _ _ _ _ => simp [plainT] at h
  | Compare _ _ _ _ => simp [plainT] at h
  | _ => rfl
theorem behind_ok {e : Expr} {op : CmpOp} (h : noSet e = true) : behindInMarks op e = false := by
  cases e <;> first | rfl | simp [noSet] at h
theorem slice_ok {e : Expr} (h : noSlice e = true) : PlainIx e := by
  intro o i
  cases e <;> first | rfl | simp [noSlice] at h
theorem iter_ok {e : Expr} {env : PySem.Env} (h : noSet e = true) (x : Value) : foldedSetIterable e env x = pure x := by
  cases e <;> first | rfl | simp [noSet] at h
/-! ### the checks -/
def okU (o : Un) (k : Expr → Bool) (S : Stat) (x : Expr) : Bool := match o, x with
  | .neg, .UnaryOp .USub y _ => k y
  | .notv, .UnaryOp .Not y _ => k y
  | .len, .Call (.Name f _) [y] [] _ => okB S f "len" && noStar y && k y
  | .lenset, .Call (.Name f _) [.Call (.Name h _) [y] [] _] [] _ => okB S f "len" && okB S h "set" && noStar y && k y
  | .sortedset, .Call (.Name f _) [.Call (.Name h _) [y] [] _] [] _ => okB S f "sorted" && okB S h "set" && noStar y && k y
  | .sum, .Call (.Name f _) [y] [] _ => okB S f "sum" && noStar y && k y
  | .min1, .Call (.Name f _) [y] [] _ => okB S f "min" && noStar y && k y
  | .minS, .Call (.Name f _) [y] [] _ => okB S f "min" && noStar y && k y
  | .max1, .Call (.Name f _) [y] [] _ => okB S f "max" && noStar y && k y
  | .sorted, .Call (.Name f _) [y] [] _ => okB S f "sorted" && noStar y && k y
  | .all, .Call (.Name f _) [y] [] _ => okB S f "all" && noStar y && k y
  | .any, .Call (.Name f _) [y] [] _ => okB S f "any" && noStar y && k y
  | .abs, .Call (.Name f _) [y] [] _ => okB S f "abs" && noStar y && k y
  | .str, .Call (.Name f _) [y] [] _ => okB S f "str" && noStar y && k y
  | .int, .Call (.Name f _) [y] [] _ => okB S f "int" && noStar y && k y
  | .list, .Call (.Name f _) [y] [] _ => okB S f "list" && noStar y && k y
  | .lstr, .Call (.Name f _) [y] [] _ => okB S f "list" && noStar y && k y
  | .tuple, .Call (.Name f _) [y] [] _ => okB S f "tuple" && noStar y && k y
  | .lrange, .Call (.Name f _) [.Call (.Name h _) [y] [] _] [] _ => okB S f "list" && okB S h "range" && noStar y && k y
  | .rev, .Subscript y (.Slice none none (some (.UnaryOp .USub (.Constant (.int i) _ _) _)) _) _ => decide (i = 1) && k y
  | _, _ => false
def okCmp (o : Bi) (op : CmpOp) : Bool := match o, op with
  | .eq, .Eq => true
  | .ne, .NotEq => true
  | .lt, .Lt => true
  | .le, .LtE => true
  | .gt, .Gt => true
  | .ge, .GtE => true
  | .isin, .In => true
  | .instr, .In => true
  | .notin, .NotIn => true
  | _, _ => false
def okOp (o : Bi) (op : Operator) : Bool := match o, op with
  | .add, .Add => true
  | .sub, .Sub => true
  | .mul, .Mult => true
  | .fdiv, .FloorDiv => true
  | .mod, .Mod => true
  | _, _ => false
def okBi (o : Bi) (k l : Expr → Bool) (S : Stat) (x : Expr) : Bool := match x with
  | .BinOp a op b _ => okOp o op && k a && l b
  | .Compare a [op] [b] _ => okCmp o op && noSet b && k a && l b
  | .Subscript a (.Slice none (some b) none _) _ => decide (o = .upto) && k a && l b
  | .Subscript a (.Slice (some b) none none _) _ => decide (o = .from_) && k a && l b
  | .Subscript a b _ => decide (o = .idx) && noSlice b && k a && l b
  | .Call (.Name f _) [a, b] [] _ => ((decide (o = .min2) && okB S f "min") || (decide (o = .max2) && okB S f "max")) && noStar a && noStar b && k a && l b
  | .Call (.Attribute a m p) [b] [] q => ((decide (o = .index) && decide (m = ("index" : Str))) || (decide (o = .count) && decide (m = ("count" : Str))) || (decide (o = .join) && decide (m = ("join" : Str))) || (decide (o = .split) && decide (m = ("split" : Str)))) && (p.endLine == q.line) && noCall0 a && noStar b && k a && l b
  | _ => false
def tyName : Ty → Str
  | .int => "int"
  | .bool => "bool"
  | .list => "list"
  | .str => "str"
/-- a target, and its own slots -/
def okTg (S : Stat) (t : Tg) (x : Expr) : Bool := match t, x with
  | .nm i, .Name a _ => okL S i a
  | .two i j, .Tuple [.Name a _, .Name b _] _ _ => okL S i a && okL S j b && decide (i ≠ j)
  | .three i j k, .Tuple [.Name a _, .Name b _, .Name c _] _ _ => okL S i a && okL S j b && okL S k c && decide (i ≠ j) && decide (i ≠ k) && decide (j ≠ k)
  | _, _ => false
def tgOwn (t : Tg) (x : Expr) : List (Str × Nat) := match t, x with
  | .nm i, .Name a _ => [(a, i)]
  | .two i j, .Tuple [.Name a _, .Name b _] _ _ => [(a, i), (b, j)]
  | .three i j k, .Tuple [.Name a _, .Name b _, .Name c _] _ _ => [(a, i), (b, j), (c, k)]
  | _, _ => []
def blkS (S : Stat) (scope : Scope) : Stat := ⟨S.N, relS scope S.sc, fun x => scope.names.lookup x == some .cell⟩
def noLC : Expr → Bool
  | .ListComp _ _ _ _ => false
  | _ => true
def isTrueC : E → Bool
  | .con (.bool true) => true
  | _ => false
/-- self.f -/
def okF (S : Stat) (i : Nat) (f : Str) (x : Expr) : Bool := match x with
  | .Attribute (.Name a _) h _ => decide (h = f) && okV S i a
  | _ => false
/-- isinstance of what was caught (c: its class; 6, 7: the bases), x is None (8) -/
def okX (T : Tab) (S : Stat) (i c : Nat) (x : Expr) : Bool := decide (T.cn.length = 6) && match x with
  | .Compare (.Name v _) [.Is] [.Constant .none _ _] _ => decide (c = 8) && okV S i v
  | .Call (.Name f _) [.Name v _, .Name u _] [] _ => okB S f "isinstance" && okV S i v && okG S u && (decide (T.cn[c]? = some u) || (decide (c = 6) && decide (u = ("ListError" : Str))) || (decide (c = 7) && decide (u = ("ValueError" : Str))))
  | _ => false
mutual
def okE (T : Tab) : E → Stat → Expr → Bool
  | .var i, S, x => match x with
    | .Name a _ => okV S i a
    | _ => false
  | .con d, _, x => match x with
    | .Constant c _ _ => okC d c
    | _ => false
  | .glo _ d, S, x => match x with
    | .Name a _ => okG S a && T.gs.any fun p => decide (p.1 = a) && sameC d p.2
    | _ => false
  | .un o a, S, x => okU o (fun y => okE T a S y) S x
  | .bi o a b, S, x => okBi o (fun y => okE T a S y) (fun y => okE T b S y) S x
  | .le2 a b c, S, x => match x with
    | .Compare u [.LtE, .LtE] [v, w] _ => noSet w && okE T a S u && okE T b S v && okE T c S w
    | _ => false
  | .le3 a b c d, S, x => match x with
    | .Compare u [.LtE, .LtE, .LtE] [v, w, z] _ => noSet z && okE T a S u && okE T b S v && okE T c S w && okE T d S z
    | _ => false
  | .isc a d, S, x => match x with
    | .Compare u [.Is] [.Constant c _ _] _ => isNB d && okC d c && okE T a S u
    | _ => false
  | .isnc a d, S, x => match x with
    | .Compare u [.IsNot] [.Constant c _ _] _ => isNB d && okC d c && okE T a S u
    | _ => false
  | .and a b, S, x => match x with
    | .BoolOp .And [u, v] _ => okE T a S u && okE T b S v
    | .BoolOp .And (u :: v :: w :: r) p => okE T a S u && okE T b S (.BoolOp .And (v :: w :: r) p)
    | _ => false
  | .or a b, S, x => match x with
    | .BoolOp .Or [u, v] _ => okE T a S u && okE T b S v
    | .BoolOp .Or (u :: v :: w :: r) p => okE T a S u && okE T b S (.BoolOp .Or (v :: w :: r) p)
    | _ => false
  | .ite c a b, S, x => match x with
    | .IfExp u v w _ => okT T c S u && okE T a S v && okE T b S w
    | _ => false
  | .lst as, S, x => match x with
    | .List es _ => okA T as S es
    | _ => false
  | .tup as, S, x => match x with
    | .Tuple es _ _ => okA T as S es
    | _ => false
  | .call f as, S, x => match x with
    | .Call (.Name a _) es [] _ => okG S a && decide (T.nm[f]? = some a) && decide (f ∈ T.fs) && es.all noStar && okA T as S es
    | _ => false
  | .isi a t, S, x => match x with
    | .Call (.Name f _) [y, .Name u _] [] _ => okB S f "isinstance" && okB S u (tyName t) && noStar y && okE T a S y
    | _ => false
  | .isx i c, S, x => okX T S i c x
  | .dsort i, S, x => match x with
    | .Call (.Name f _) [.Name a _] [] _ => okB S f "sorted" && okV S i a
    | _ => false
  | .dget i e, S, x => match x with
    | .Subscript (.Name a _) ix _ => okV S i a && noSlice ix && okE T e S ix
    | _ => false
  | .lzip a b, S, x => match x with
    | .Call (.Name f _) [.Call (.Name h _) [y, z] [] _] [] _ => okB S f "list" && okB S h "zip" && noStar y && noStar z && okE T a S y && okE T b S z
    | _ => false
  | .szip a b, S, x => match x with
    | .Call (.Name f _) [.Call (.Name h _) [y, z] [] _] [] _ => okB S f "sorted" && okB S h "zip" && noStar y && noStar z && okE T a S y && okE T b S z
    | _ => false
  | .szip3 a b c, S, x => match x with
    | .Call (.Name f _) [.Call (.Name h _) [y, z, u] [] _] [] _ => okB S f "sorted" && okB S h "zip" && noStar y && noStar z && noStar u && okE T a S y && okE T b S z && okE T c S u
    | _ => false
  | .lc t it c e, S, x => match x with
    | .ListComp el [⟨tg, iter, ifs, 0⟩] scope _ => okI T it S tg iter && noSet iter && blkC S.N S.sc scope (tgOwn t tg) && okTg (blkS S scope) t tg &&
        (match ifs with
          | [] => isTrueC c
          | [y] => okT T c (blkS S scope) y
          | _ => false) && okE T e (blkS S scope) el
    | _ => false
  | .bor e, S, x => noLC x && okE T e S x
  | .rls i, S, x => okF S i "lists" x
  | .rdep i e, S, x => match x with
    | .Subscript y ix _ => okF S i "depths" y && noSlice ix && okE T e S ix
    | _ => false
  | .rdt i, S, x => match x with
    | .Call (.Name f _) [y] [] _ => okB S f "tuple" && okF S i "depths" y
    | _ => false
  | .mth f i as, S, x => match x with
    | .Call (.Attribute (.Name a _) m ap) es [] cp => okV S i a && decide ((f, m) ∈ T.ms) && (ap.endLine == cp.line) && decide (es.length ≤ 1) && okA T as S es
    | _ => false
  | .mlen i, S, x => match x with
    | .Call (.Name f _) [.Name a _] [] _ => okB S f "len" && okV S i a
    | _ => false
  | _, _, _ => false
def okT (T : Tab) : E → Stat → Expr → Bool
  | .un .notv a, S, x => match x with
    | .UnaryOp .Not y _ => okT T a S y
    | _ => false
  | .bi o a b, S, x => (match x with
    | .Compare u [op] [v] _ => okCmp o op && noSet v && okE T a S u && okE T b S v
    | _ => plainT x && okBi o (fun y => okE T a S y) (fun y => okE T b S y) S x)
  | .le2 a b c, S, x => match x with
    | .Compare u [.LtE, .LtE] [v, w] _ => noSet w && okE T a S u && okE T b S v && okE T c S w
    | _ => false
  | .le3 a b c d, S, x => match x with
    | .Compare u [.LtE, .LtE, .LtE] [v, w, z] _ => noSet z && okE T a S u && okE T b S v && okE T c S w && okE T d S z
    | _ => false
  | .isc a d, S, x => match x with
    | .Compare u [.Is] [.Constant c _ _] _ => isNB d && okC d c && okE T a S u
    | _ => false
  | .isnc a d, S, x => match x with
    | .Compare u [.IsNot] [.Constant c _ _] _ => isNB d && okC d c && okE T a S u
    | _ => false
  | .and a b, S, x => match x with
    | .BoolOp .And [u, v] _ => okT T a S u && okT T b S v
    | .BoolOp .And (u :: v :: w :: r) p => okT T a S u && okT T b S (.BoolOp .And (v :: w :: r) p)
    | _ => false
  | .or a b, S, x => match x with
    | .BoolOp .Or [u, v] _ => okT T a S u && okT T b S v
    | .BoolOp .Or (u :: v :: w :: r) p => okT T a S u && okT T b S (.BoolOp .Or (v :: w :: r) p)
    | _ => false
  | .var i, S, x => match x with
    | .Name a _ => okV S i a
    | _ => false
  | .un o a, S, x => plainT x && okU o (fun y => okE T a S y) S x
  | .call f as, S, x => match x with
    | .Call (.Name a _) es [] _ => okG S a && decide (T.nm[f]? = some a) && decide (f ∈ T.fs) && es.all noStar && okA T as S es
    | _ => false
  | .isi a t, S, x => match x with
    | .Call (.Name f _) [y, .Name u _] [] _ => okB S f "isinstance" && okB S u (tyName t) && noStar y && okE T a S y
    | _ => false
  | .isx i c, S, x => okX T S i c x
  | .bor e, S, x => plainT x && okE T e S x
  | .rme i, S, x => match x with
    | .Compare y [.Eq] [.List [] _] _ => okF S i "made" y
    | _ => false
  | _, _, _ => false
def okA (T : Tab) : E → Stat → List Expr → Bool
  | .nil, _, es => es.isEmpty
  | .cons a as, S, es => match es with
    | x :: xs => noStar x && okE T a S x && okA T as S xs
    | [] => false
  | _, _, _ => false
def okI (T : Tab) : E → Stat → Expr → Expr → Bool
  | .itl a, S, _, x => okE T a S x
  | .itt a, S, _, x => okE T a S x
  | .its a, S, _, x => okE T a S x
  | .rng1 a, S, _, x => match x with
    | .Call (.Name f _) [y] [] _ => okB S f "range" && noStar y && okE T a S y
    | _ => false
  | .rng2 a b, S, _, x => match x with
    | .Call (.Name f _) [y, z] [] _ => okB S f "range" && noStar y && noStar z && okE T a S y && okE T b S z
    | _ => false
  | .enum a, S, tg, x => match tg, x with
    | .Tuple _ _ _, .Call (.Name f _) [y] [] _ => okB S f "enumerate" && noStar y && okE T a S y
    | _, _ => false
  | .zip a b, S, tg, x => match tg, x with
    | .Tuple _ _ _, .Call (.Name f _) [y, z] [] _ => okB S f "zip" && noStar y && noStar z && okE T a S y && okE T b S z
    | _, _ => false
  | _, _, _, _ => false
end
end Tl
end
section
set_option Elab.async false
set_option linter.all false
set_option autoImplicit false
set_option maxRecDepth 100000
namespace Tl
open PySem PySem.Spec PyProof.Rows L2
/-! ### sorted(set(xs)) of numbers -/
section
variable {prog : Program} {w : World} {A : Around} {I : Addr} {n : Nat} {fp wr : List Addr} {G : Array GenState → Array GenState → Prop} {P : Nat → Value → Prop} {St : Nat → Shared → Prop} {R : Result → Shared → Prop}
theorem up_loopR (Wk : WalksS prog w A.in1 I fp wr G n P St) (c : Addr) (nc : c ∉ fp) (xs : List Int) (ln : xs.length = n) (small : n ≤ 1000)
    (at_ : ∀ i v, P i v → ∃ x tk, xs[i]? = some x ∧ v = .int x tk) :
    ∀ (k i : Nat) (s : Shared), n - i = k → i ≤ n → St i s → SetR w s.heap c (fun q => (dd (xs.take i)).any (· == q)) (dd (xs.take i)).length →
      (∀ s', Moved (c :: wr) G s s' → SetR w s'.heap c (fun q => (dd xs).any (· == q)) (dd xs).length → R (.ok (.ret .none)) s') →
      codeAny (model prog w) A (.builtin "set.update.loop" ⟨[.ref c, .ref I], []⟩) R s := by
  have cw : c ∉ wr := fun z => nc (Wk.sub _ z)
  have sb : ∀ b ∈ wr, b ∈ c :: wr := fun b z => List.mem_cons_of_mem _ z
  intro k
  induction k with
  | zero =>
    intro i s e1 e2 st hs hR
    obtain rfl : i = n := by omega
    refine codeAny_builtin F.entry_set_update_loop ?_
    rw [Around.under_plainId F.plain_set_update_loop _]
    show wpAny _ A.in1 (pyNext (.ref I) >>= _) _ _ s
    refine wpAny_bind (Wk.done s _ _ st fun s' mv => ?_)
    show wpAny _ A.in1 (ret Value.none) _ _ s'
    have tk : xs.take i = xs := List.take_of_length_le (by omega)
    rw [tk] at hs
    exact wpAny_pure (hR s' (mv.mono sb) (hs.at fun o ho => mv.heap c _ cw ho))
  | succ k ih =>
    intro i s e1 e2 st hs hR
    have lt : i < n := by omega
    refine codeAny_builtin F.entry_set_update_loop ?_
    rw [Around.under_plainId F.plain_set_update_loop _]
    show wpAny _ A.in1 (pyNext (.ref I) >>= _) _ _ s
    refine wpAny_bind (Wk.item i s _ _ lt st fun v s' pv st' mv => ?_)
    obtain ⟨x, tk0, hx, rfl⟩ := at_ i v pv
    have hs2 : SetR w s'.heap c (fun q => (dd (xs.take i)).any (· == q)) (dd (xs.take i)).length := hs.at fun o ho => mv.heap c _ cw ho
    show wpAny _ A.in1 (holding [Value.int x tk0] (setAdd c (.int x tk0)) >>= _) _ _ s'
    refine wpAny_bind (wpAny_holding ?_)
    unfold setAdd
    refine wpAny_holding (wpAny_bind ((intKind prog w).pyHash (k := x) (intKind_is prog w x tk0) ?_))
    have room : (dd (xs.take i)).length + 1 < scanBound := by
      have := dd_le (xs.take i)
      rw [List.length_take] at this
      unfold scanBound
      omega
    have tk : xs.take (i + 1) = xs.take i ++ [x] := by
      rw [List.take_add_one, hx]
      rfl
    refine setR_add_hashed (s := { s' with toks := s'.toks + 1 }) hs2 room fun h' hk hs3 => ?_
    have hs4 : SetR w h' c (fun q => (dd (xs.take (i + 1))).any (· == q)) (dd (xs.take (i + 1))).length := by
      have e1 : (if (dd (xs.take i)).any (· == x) = true then (dd (xs.take i)).length else (dd (xs.take i)).length + 1) = (dd (xs.take (i + 1))).length := by
        rw [tk, dd_snoc]
        split <;> simp_all
      rw [← e1]
      exact hs3.congr fun q => by rw [tk, dd_any_snoc]
    refine wpAny_pure ⟨plainId_quiet F.plain_set_update_loop _, ih (i + 1) _ (by omega) lt (Wk.frame _ s' _ _ st' (Nat.le_succ _) fun b hb o e => ?_) hs4 fun s2 mv2 hs5 => ?_⟩
    · rw [hk.2 b (fun z : b = c => nc (z ▸ hb))]; exact e
    · refine hR s2 (Moved.trans Wk.gtrans ((mv.mono sb).then_heap (Nat.le_succ _) fun b o hb e => ?_) mv2) hs5
      rw [hk.2 b (fun z : b = c => hb (z ▸ List.mem_cons_self))]; exact e
end
section
variable {prog : Program} {w : World} {A : Around} {E : Value → Shared → Prop} {s : Shared}
theorem code_set_led1 (a : Value) {Q₁ : Value → Shared → Prop}
    (h : Q₁ (.ref s.heap.objs.size) { s with heap := s.heap.push { cls := .type "set", dict := none, data := .set #[] 0 (.fresh 0 0 (!w.params.followText "set-order")) } }) :
    codeAny (model prog w) A (.call (.builtin "set.__new__") ⟨[.type "set", a], []⟩) (wants Q₁ E) s := by
  refine codeAny_of_tree ?_
  show wpAny _ A.in1 (do checkBuiltinCall "set.__new__" ⟨[.type "set", a], []⟩; again (.builtin "set.__new__" ⟨[.type "set", a], []⟩)) _ _ s
  refine wpAny_bind (wpAny_of_eq (F.newCall_set_1 a) (wpAny_pure ⟨plainId_quiet F.plain_set_new _, codeAny_builtin F.entry_set_new ?_⟩))
  rw [Around.under_plainId F.plain_set_new _]
  unfold Builtin.«set.__new__» Builtin.Frozenset.newClass
  have hsub := sub_set_self
  obtain ⟨hp, g, d, tk, os⟩ := s
  dsimp only
  repeat (first
      | with_reducible (first | refine wpAny_pure ?_ | refine wpAny_bind ?_ | refine wpAny_of_eq (by assumption) ?_ | refine wpAny_holding ?_ | refine wpAny_typeOf (by assumption) ?_ | refine wpAny_run ?_ | refine wpAny_runValue ?_ | refine wpAny_call ?_)
      | with_reducible (first | refine wpAny_standAt ?_ | refine wpAny_point ?_ | refine wpAny_rule ?_ | refine wpAny_letGo ?_ | refine wpAny_attempt ?_ | refine wpAny_throw ?_)
      | with_reducible (first | refine wpAny_specialOf_val (by assumption) (by assumption) ?_ | refine wpAny_specialOf (by assumption) (by assumption) ?_ | refine wpAny_isInstance_val (by assumption) (by assumption) ?_ | refine wpAny_isInstance (by assumption) (by assumption) ?_)
      | wp_delta
      | ((with_reducible apply wpAny_ite_false); focus (first | rfl | (simp [*]; done)))
      | ((with_reducible apply wpAny_ite_true); focus (first | rfl | (simp [*]; done)))
      | ((with_reducible apply wpAny_load'); focus (heap_get; done))
      | ((with_reducible apply wpAny_loadPart'); focus (heap_get; done))
      | ((with_reducible apply wpAny_update'); focus (heap_get; done))
      | ((with_reducible apply wpAny_updatePart'); focus (heap_get; done))
      | ((with_reducible apply wpAny_handled_none); focus (assumption; done)))
  refine wpAny_askSetting (wpAny_pure ?_)
  dsimp only
  simp only [newObj]
  refine wpAny_bind (wpAny_alloc (wpAny_pure ?_))
  exact wpAny_pure h
set_option maxHeartbeats 3200000 in
theorem call_set_ints {l : Addr} {its : Array Value} {xs : List Int} {Q : Value → Shared → Prop} (hh : A.handled = none) (hl : s.heap.IsList l its)
    (ln : xs.length = its.size) (at_ : ∀ (i : Nat) (v : Value), its[i]? = some v → ∃ x tk, xs[i]? = some x ∧ v = .int x tk) (small : xs.length ≤ 1000)
    (h : ∀ (h' : Heap) (tk : Nat), SetR w h' s.heap.objs.size (fun k => (dd xs).any (· == k)) (dd xs).length → (∀ b o, b < s.heap.objs.size → s.heap.get? b = some o → h'.get? b = some o) → Q (.ref s.heap.objs.size) { s with heap := h', toks := tk }) :
    wpAny (model prog w) A (call (.type "set") [.ref l]) Q E s := by
  obtain ⟨c1, tl, hmro⟩ := PySem.F.called_set.mro
  have q1 := PySem.F.called_set.made
  have q2 := PySem.F.called_set.sub
  refine wpAny_call (codeAny_of_tree ?_)
  show wpAny _ _ (callAny (.type "set") _) _ _ _
  refine wpAny_pure ⟨Code.quiet_builtin _ (by decide +kernel), codeAny_builtin PySem.F.entry_type_call ?_⟩
  rw [Around.under_plain (weight_type_call_type "set" [.ref l] []) rfl]
  have q3 := PySem.F.called_set.notType
  have q4 := PySem.F.called_set.canCreate
  have q5 := PySem.F.typeCall_set_1 (.ref l)
  repeat (first | with_reducible assumption | (first
      | with_reducible (first | refine wpAny_pure ?_ | refine wpAny_bind ?_ | refine wpAny_of_eq (by assumption) ?_ | refine wpAny_holding ?_ | refine wpAny_typeOf (by assumption) ?_ | refine wpAny_run ?_ | refine wpAny_runValue ?_ | refine wpAny_call ?_)
      | with_reducible (first | refine wpAny_standAt ?_ | refine wpAny_point ?_ | refine wpAny_rule ?_ | refine wpAny_letGo ?_ | refine wpAny_attempt ?_ | refine wpAny_throw ?_)
      | with_reducible (first | refine wpAny_specialOf_val (by assumption) (by assumption) ?_ | refine wpAny_specialOf (by assumption) (by assumption) ?_ | refine wpAny_isInstance_val (by assumption) (by assumption) ?_ | refine wpAny_isInstance (by assumption) (by assumption) ?_)
      | wp_delta
      | ((with_reducible apply wpAny_ite_false); focus (first | rfl | (simp [*]; done)))
      | ((with_reducible apply wpAny_ite_true); focus (first | rfl | (simp [*]; done)))
      | ((with_reducible apply wpAny_load'); focus (heap_get; done))
      | ((with_reducible apply wpAny_loadPart'); focus (heap_get; done))
      | ((with_reducible apply wpAny_update'); focus (heap_get; done))
      | ((with_reducible apply wpAny_updatePart'); focus (heap_get; done))
      | ((with_reducible apply wpAny_handled_none); focus (assumption; done))))
  refine codeAny_mono (code_set_led1 (.ref l) (E := E) (Q₁ := fun obj s1 => obj = .ref s.heap.objs.size ∧ s1 = { s with heap := s.heap.push (eSet (!w.params.followText "set-order")) }) ⟨rfl, rfl⟩) fun r s1 hr => ?_
  have hF : SetR w (s.heap.push (eSet (!w.params.followText "set-order"))) s.heap.objs.size (fun _ => false) 0 := setR_fresh w
  generalize (!w.params.followText "set-order") = led at hr hF
  match r, hr with
  | .error e, hr => exact hr
  | .ok (.ret obj), hr =>
    obtain ⟨rfl, rfl⟩ := hr
    have gS : (s.heap.push (eSet led)).get? s.heap.objs.size = some (eSet led) := Heap.get?_push_size _ rfl
    have tS : Shared.TypeIs { s with heap := s.heap.push (eSet led) } (.ref s.heap.objs.size) "set" := ⟨_, gS, rfl⟩
    have q6 := PySem.F.called_set.init.lookup
    have q7 := PySem.F.called_set.init.bind (.ref s.heap.objs.size)
    repeat (first | with_reducible assumption | (first
        | with_reducible (first | refine wpAny_pure ?_ | refine wpAny_bind ?_ | refine wpAny_of_eq (by assumption) ?_ | refine wpAny_holding ?_ | refine wpAny_typeOf (by assumption) ?_ | refine wpAny_run ?_ | refine wpAny_runValue ?_ | refine wpAny_call ?_)
        | with_reducible (first | refine wpAny_standAt ?_ | refine wpAny_point ?_ | refine wpAny_rule ?_ | refine wpAny_letGo ?_ | refine wpAny_attempt ?_ | refine wpAny_throw ?_)
        | with_reducible (first | refine wpAny_specialOf_val (by assumption) (by assumption) ?_ | refine wpAny_specialOf (by assumption) (by assumption) ?_ | refine wpAny_isInstance_val (by assumption) (by assumption) ?_ | refine wpAny_isInstance (by assumption) (by assumption) ?_)
        | wp_delta
        | ((with_reducible apply wpAny_ite_false); focus (first | rfl | (simp [*]; done)))
        | ((with_reducible apply wpAny_ite_true); focus (first | rfl | (simp [*]; done)))
        | ((with_reducible apply wpAny_load'); focus (heap_get; done))
        | ((with_reducible apply wpAny_loadPart'); focus (heap_get; done))
        | ((with_reducible apply wpAny_update'); focus (heap_get; done))
        | ((with_reducible apply wpAny_updatePart'); focus (heap_get; done))
        | ((with_reducible apply wpAny_handled_none); focus (assumption; done))))
    refine codeAny_mono (codeAny_call_builtin (R := wants (fun r s2 => r = .none ∧ ∃ h' tk, s2 = { s with heap := h', toks := tk } ∧
        SetR w h' s.heap.objs.size (fun k => (dd xs).any (· == k)) (dd xs).length ∧ (∀ b o, b < s.heap.objs.size → s.heap.get? b = some o → h'.get? b = some o)) E) PySem.F.called_set.init.plain PySem.F.entry_set_init (check_set_init_1 tS ?_)) fun r2 s2 hr2 => ?_
    · obtain ⟨⟨ocls, odict, odata, oslots⟩, g1, g2, nl, g3⟩ := hl
      simp only at g2 g3
      subst g2; subst g3
      have g4 : (s.heap.push (eSet led)).get? l = some { cls := .type "list", dict := odict, data := .seq its nl, slots := oslots } := Heap.get?_push_of_some _ g1
      have u1 := PySem.F.sub_list_set
      have u2 := PySem.F.sub_list_frozenset
      have u3 : (Value.type "list" == Value.type "dict") = false := by decide
      have g5 : (s.heap.push (eSet led)).IsList l its := ⟨_, g4, rfl, nl, rfl⟩
      unfold Builtin.«set.__init__» noKeywords Builtin.Frozenset.updateFrom
      generalize hPI : pyIter = PI
      repeat (first
          | with_reducible (first | refine wpAny_pure ?_ | refine wpAny_bind ?_ | refine wpAny_of_eq (by assumption) ?_ | refine wpAny_holding ?_ | refine wpAny_typeOf (by assumption) ?_ | refine wpAny_run ?_ | refine wpAny_runValue ?_ | refine wpAny_call ?_)
          | with_reducible (first | refine wpAny_standAt ?_ | refine wpAny_point ?_ | refine wpAny_rule ?_ | refine wpAny_letGo ?_ | refine wpAny_attempt ?_ | refine wpAny_throw ?_)
          | with_reducible (first | refine wpAny_specialOf_val (by assumption) (by assumption) ?_ | refine wpAny_specialOf (by assumption) (by assumption) ?_ | refine wpAny_isInstance_val (by assumption) (by assumption) ?_ | refine wpAny_isInstance (by assumption) (by assumption) ?_)
          | wp_delta
          | ((with_reducible apply wpAny_ite_false); focus (first | rfl | (simp [*]; done)))
          | ((with_reducible apply wpAny_ite_true); focus (first | rfl | (simp [*]; done)))
          | ((with_reducible apply wpAny_load'); focus (heap_get; done))
          | ((with_reducible apply wpAny_loadPart'); focus (heap_get; done))
          | ((with_reducible apply wpAny_update'); focus (heap_get; done))
          | ((with_reducible apply wpAny_updatePart'); focus (heap_get; done))
          | ((with_reducible apply wpAny_handled_none); focus (assumption; done)))
      subst hPI
      refine wpAny_pyIter_list g5 (wpAny_bind (wpAny_runValue ?_))
      have lS : l < s.heap.objs.size := Heap.lt_size g1
      have h3 : A.in1.in1.in1.handled = none := by simp [hh]
      have nI : l ≠ (s.heap.push (eSet led)).objs.size := by
        rw [Heap.size_push]; exact Nat.ne_of_lt (Nat.lt_succ_of_lt lS)
      have nS : s.heap.objs.size ∉ [(s.heap.push (eSet led)).objs.size, l] := by
        rw [Heap.size_push]; simp only [List.mem_cons, List.not_mem_nil, or_false, not_or]; exact ⟨Nat.ne_of_lt (Nat.lt_succ_self _), Nat.ne_of_gt lS⟩
      refine up_loopR ((Walks.list h3 _ l nI its).toS) s.heap.objs.size nS xs ln (by omega) (fun i v hv => at_ i v hv) (its.size - 0) 0 _ (by omega) (Nat.zero_le _)
        ⟨⟨_, Heap.get?_push_size _ rfl, rfl, rfl⟩, g5.push _⟩ ?_ ?_
      · exact (hF.at fun o ho => Heap.get?_push_of_some _ ho).congr fun _ => rfl
      · intro s' hm hS'
        obtain ⟨h', g', d', tk', os'⟩ := s'
        have eg : g' = s.gens := hm.gens
        have ed : d' = s.drawn := hm.drawn
        have eo : os' = s.os := hm.os
        subst eg; subst ed; subst eo
        show wpAny _ _ _ _ _ _
        refine wpAny_pure ?_
        show wpAny _ _ (ret Value.none) _ _ _
        refine wpAny_pure ⟨rfl, h', tk', rfl, hS', fun b o hb e => ?_⟩
        refine hm.heap b o ?_ (Heap.get?_push_of_some _ (Heap.get?_push_of_some _ e))
        simp only [List.mem_cons, List.not_mem_nil, or_false, not_or]
        rw [Heap.size_push]
        exact ⟨Nat.ne_of_lt hb, Nat.ne_of_lt (Nat.lt_succ_of_lt hb)⟩
    · match r2, hr2 with
      | .error e, hr2 => exact hr2
      | .ok (.ret r), hr2 =>
        obtain ⟨rfl, h', tk, rfl, hS', hk'⟩ := hr2
        repeat (first | with_reducible assumption | (first
            | with_reducible (first | refine wpAny_pure ?_ | refine wpAny_bind ?_ | refine wpAny_of_eq (by assumption) ?_ | refine wpAny_holding ?_ | refine wpAny_typeOf (by assumption) ?_ | refine wpAny_run ?_ | refine wpAny_runValue ?_ | refine wpAny_call ?_)
            | with_reducible (first | refine wpAny_standAt ?_ | refine wpAny_point ?_ | refine wpAny_rule ?_ | refine wpAny_letGo ?_ | refine wpAny_attempt ?_ | refine wpAny_throw ?_)
            | with_reducible (first | refine wpAny_specialOf_val (by assumption) (by assumption) ?_ | refine wpAny_specialOf (by assumption) (by assumption) ?_ | refine wpAny_isInstance_val (by assumption) (by assumption) ?_ | refine wpAny_isInstance (by assumption) (by assumption) ?_)
            | wp_delta
            | ((with_reducible apply wpAny_ite_false); focus (first | rfl | (simp [*]; done)))
            | ((with_reducible apply wpAny_ite_true); focus (first | rfl | (simp [*]; done)))
            | ((with_reducible apply wpAny_load'); focus (heap_get; done))
            | ((with_reducible apply wpAny_loadPart'); focus (heap_get; done))
            | ((with_reducible apply wpAny_update'); focus (heap_get; done))
            | ((with_reducible apply wpAny_updatePart'); focus (heap_get; done))
            | ((with_reducible apply wpAny_handled_none); focus (assumption; done))))
        exact h _ _ hS' hk'
      | .ok .next, hr2 => exact hr2.elim
      | .ok .brk, hr2 => exact hr2.elim
      | .ok .cont, hr2 => exact hr2.elim
  | .ok .next, hr => exact hr.elim
  | .ok .brk, hr => exact hr.elim
  | .ok .cont, hr => exact hr.elim
end
end Tl
end
section
set_option Elab.async false
set_option linter.all false
set_option autoImplicit false
set_option maxRecDepth 100000
namespace Tl
open PySem PySem.Spec PyProof.Rows L2
/-! ### xs < ys, lists of numbers -/
theorem toInts_is : ∀ {ds : List D} {ns : List Int}, toInts ds = some ns → ds = ns.map .int
  | [], ns, h => by cases h; rfl
  | d :: ds, ns, h => by
    cases d with
    | int i =>
      simp only [toInts] at h
      cases q : toInts ds with
      | none => rw [q] at h; cases h
      | some ms =>
        rw [q] at h
        cases h
        rw [List.map_cons, ← toInts_is q]
    | _ => simp [toInts] at h
theorem listLt_ltI : ∀ ns ms : List Int, PySem.W.listLt ns ms = ltI ns ms
  | [], [] => rfl
  | [], _ :: _ => rfl
  | _ :: _, [] => rfl
  | x :: xs, y :: ys => by
    simp only [PySem.W.listLt, ltI]
    rw [listLt_ltI xs ys]
    rfl
def rLtD (K : PySem.W.Frag) : R2 := fun x y H Q => rI0 (fun i j => .bl (decide (i < j))) x y H Q ∨ ∃ ns ms : List Int, Dp K H x (.list (ns.map .int)) ∧ Dp K H y (.list (ms.map .int)) ∧ Q (.bl (ltI ns ms)) H
theorem op_ltD {X : Cx} (hu : X.A.units + 64 < cLine) : OpR X (compareOp .Lt) (rLtD X.K) := by
  intro pins s σ H x y v u Q I rx ry h
  rcases h with h | ⟨ns, ms, hd, he, q⟩
  · exact op_lt pins s σ H x y v u Q I rx ry h
  · obtain ⟨as, r1⟩ := Dp.reads I _ x v hd rx
    obtain ⟨bs, r2⟩ := Dp.reads I _ y u he ry
    refine PySem.W.lt_datum (x := ns) (y := ms) ⟨as, r1⟩ ⟨bs, r2⟩ ?_ ?_
    · show X.A.units + (0 + 1) < cLine
      omega
    · have : PySem.W.DatumOrd.lt ns ms = ltI ns ms := listLt_ltI ns ms
      rw [this]
      exact ⟨.bl _, H, I, rfl, q⟩
theorem s2_ltD {K : PySem.W.Frag} : S2 .lt (rLtD K) := by
  intro F H da x y d e dz Q s c1 c2 q k
  cases d with
  | int i =>
    cases e with
    | int j =>
      cases q
      exact .inl ⟨i, j, cp_int c1, cp_int c2, k _ _ _ (Al.refl s) (.bl _)⟩
    | _ => simp [bop] at q
  | list xs =>
    cases e with
    | list ys =>
      simp only [bop] at q
      cases q1 : toInts xs with
      | none => rw [q1] at q; simp at q
      | some ns =>
        cases q2 : toInts ys with
        | none => rw [q1, q2] at q; simp at q
        | some ms =>
          rw [q1, q2] at q
          cases q
          have h1 := toInts_is q1
          have h2 := toInts_is q2
          subst h1 h2
          exact .inr ⟨ns, ms, c1.dp s, c2.dp s, k _ _ _ (Al.refl s) (.bl _)⟩
    | _ => simp [bop] at q
  | _ => cases e <;> simp [bop] at q
/-! ### sorted(set(xs)) -/
def srtS (ns : List Int) : List Int := (dd ns).mergeSort fun a b => decide (a ≤ b)
def rSortSet (K : PySem.W.Frag) : V → Hp → VK → Prop := fun x H Q => ∃ (l : Addr) (ns : List Int), x = .ref l ∧ SqL K H l (ns.map V.int) ∧ ns.length < 64 ∧ ∀ p, H p = none → Q (.ref p) (upd H p (.lst ((srtS ns).map V.int)))
theorem ints_key {its : List Value} {ns : List Int} (h : IntsAre its ns) (i : Nat) (v : Value) (e : its[i]? = some v) : ∃ x tk, ns[i]? = some x ∧ v = .int x tk := by
  induction h generalizing i with
  | nil => simp at e
  | cons n t hr ih =>
    cases i with
    | zero =>
      simp at e
      exact ⟨n, t, rfl, e.symm⟩
    | succ i => exact ih i (by simpa using e)
theorem dd_nodI (l : List Int) : (dd l).Nodup := by
  have h : ∀ (l s : List Int), s.Nodup → (l.foldl (fun s k => if s.any (· == k) then s else s ++ [k]) s).Nodup := by
    intro l
    induction l with
    | nil => intro s hs; exact hs
    | cons x r ih =>
      intro s hs
      rw [List.foldl_cons]
      apply ih
      split
      · exact hs
      · rename_i hx
        rw [List.nodup_append]
        refine ⟨hs, by simp, fun a ha b hb => ?_⟩
        rw [List.mem_singleton] at hb
        subst hb
        intro z
        subst z
        apply hx
        rw [List.any_eq_true]
        exact ⟨a, ha, by simp⟩
  exact h l [] .nil
theorem srtS_eq {ns ms : List Int} (h1 : ms.Pairwise (· < ·)) (h2 : ∀ k : Int, k ∈ ms ↔ (dd ns).any (· == k) = true) : ms = srtS ns := by
  have nd : ms.Nodup := h1.imp fun h => by omega
  have pm : ms.Perm (dd ns) := (List.perm_ext_iff_of_nodup nd (dd_nodI ns)).mpr fun k => by
    rw [h2 k, List.any_eq_true]
    constructor
    · rintro ⟨x, hx, e⟩
      have : x = k := by simpa using e
      rw [← this]
      exact hx
    · exact fun h => ⟨k, h, by simp⟩
  have hs : (srtS ns).Pairwise (· ≤ ·) := by
    have := List.pairwise_mergeSort (le := fun a b : Int => decide (a ≤ b)) (fun a b c h1 h2 => by
      simp only [decide_eq_true_iff] at *
      omega) (fun a b => by
      simp only [Bool.or_eq_true, decide_eq_true_iff]
      omega) (dd ns)
    exact this.imp fun h => of_decide_eq_true h
  exact List.Perm.eq_of_pairwise (le := (· ≤ ·)) (fun a b _ _ h1 h2 => Int.le_antisymm h1 h2) (h1.imp fun h => by omega) hs (pm.trans (List.mergeSort_perm _ _).symm)
theorem pe_sortedSet1 {X : Cx} {a : Expr} {ta : TE} {p p2 q pos : Pos} (hc : X.calm = true) (hg : Gl X "sorted") (hm : X.mg "sorted" = none) (hg2 : Gl X "set") (hm2 : X.mg "set" = none) (ha : PE X a ta)
    (na : starEach [a] X.env = (false, eval a X.env) :: starEach [] X.env) : PE X (.Call (.Name "sorted" p) [.Call (.Name "set" p2) [a] [] q] [] pos) (fun σ H Q => ta σ H fun x H1 => rSortSet X.K x H1 Q) := by
  refine ⟨fun pins s σ H Q I h => ?_⟩
  refine Call_ (ld_blt I hg hm boot_sorted ?_)
  refine PyProof.Rows.callWith_builtin1 (PyProof.Rows.args_cons ?_ rfl) rfl rfl
  refine Call_ (ld_blt I hg2 hm2 boot_set ?_)
  refine PyProof.Rows.callWith_type1 (PyProof.Rows.args_cons (thn (ha.run pins s σ H _ I h) fun v s1 hh => PyProof.Rows.args_nil ?_) na) na rfl
  obtain ⟨x, H1, I1, r1, l, ns, rfl, hq, hn, q1⟩ := hh
  cases r1
  obtain ⟨its, rv, pl, hz⟩ := I1.list hq
  have hi := intsAre_of rv
  have hlen : its.length = ns.length := hi.length
  refine call_set_ints (xs := ns) (I1.ok.hd hc) pl.isList (by rw [List.size_toArray, hlen]) (fun i v e => ints_key hi i v (by simpa using e)) (by omega) fun h' tk hS hk => ?_
  refine PyProof.Rows.args_nil ?_
  have I2 : Inv X pins σ H1 { s1 with heap := h', toks := tk } := I1.kept fun b o e => hk b o (Heap.lt_size e) e
  have hdd := dd_len ns
  generalize hs2 : ({ s1 with heap := h', toks := tk } : Shared) = s2 at I2 ⊢
  have hS : SetR X.w s2.heap s1.heap.objs.size (fun k => (dd ns).any (· == k)) (dd ns).length := by rw [← hs2]; exact hS
  refine sorted_set hS (I2.ok.hd hc) (by omega) fun s' p out c ms k g o hp hgt hi2 hs hmm hl => ?_
  have ems : ms = srtS ns := srtS_eq hs hmm
  subst ems
  have hlen : ((srtS ns).map V.int).length ≤ sizeLine := by rw [List.length_map, hl, sizeLine_eq]; omega
  have hN : H1 p = none := I2.hok.fresh hp
  have J : Inv X pins σ (upd H1 p (.lst ((srtS ns).map V.int))) { s2 with heap := s'.heap, gens := s'.gens, drawn := s'.drawn, toks := s'.toks } :=
    I2.call (ch := []) (Un.laid k hp hN) (I2.hok.laid k hp ⟨hlen, out.toList, c, vals_of_ints hi2, hgt⟩) (by rw [g]; exact I2.bare) (fun _ z => nomatch z)
  have e : s' = { s2 with heap := s'.heap, gens := s'.gens, drawn := s'.drawn, toks := s'.toks } := by
    cases s'
    cases s2
    cases o
    rfl
  rw [e]
  exact ⟨.ref p, _, J, rfl, q1 p hN⟩
theorem rp_ints_all {F : Hp} : ∀ ns : List Int, RpAll F (ns.map V.int) (ns.map .int)
  | [] => .nil
  | n :: ns => .cons (.int n) (rp_ints_all ns)
end Tl
end
section
set_option Elab.async false
set_option linter.all false
set_option autoImplicit false
set_option maxRecDepth 100000
namespace Tl
open PySem PySem.Spec PyProof.Rows L2
/-! ### texts: str(i), int(z), join, split -/
theorem str_dig : ∀ n : Nat, n ≤ 9 → ((n : Int).natAbs.log2 < 1920) ∧ (Str.ofString (toString (n : Int)) : Str) = ⟨#[48 + n]⟩
  | 0, _ => ⟨by decide, by decide +kernel⟩
  | 1, _ => ⟨by decide, by decide +kernel⟩
  | 2, _ => ⟨by decide, by decide +kernel⟩
  | 3, _ => ⟨by decide, by decide +kernel⟩
  | 4, _ => ⟨by decide, by decide +kernel⟩
  | 5, _ => ⟨by decide, by decide +kernel⟩
  | 6, _ => ⟨by decide, by decide +kernel⟩
  | 7, _ => ⟨by decide, by decide +kernel⟩
  | 8, _ => ⟨by decide, by decide +kernel⟩
  | 9, _ => ⟨by decide, by decide +kernel⟩
  | n + 10, h => by omega
theorem s1_str : S1 .str (fun x H Q => ∃ i, [x] = [.int i] ∧ i.natAbs.log2 < 1920 ∧ Q (.str (toString i)) H) := by
  intro F H da x d dz Q s c e k
  cases d with
  | int i =>
    simp only [uop] at e
    split at e
    · rename_i hi
      cases e
      obtain ⟨n, rfl⟩ := Int.eq_ofNat_of_zero_le hi.1
      obtain ⟨h1, h2⟩ := str_dig n (by omega)
      refine ⟨n, by rw [cp_int c], h1, ?_⟩
      have h2 : (toString (n : Int) : Str) = ⟨#[48 + n]⟩ := h2
      rw [h2]
      have h3 : ((n : Int).toNat) = n := by omega
      rw [h3] at k
      refine k _ _ _ (Al.refl s) (.str _ (by show 1 ≤ lim; unfold lim; omega) ?_)
      simp [PyData.strOk]
      omega
    · cases e
  | _ => simp [uop] at e
theorem int_dig : ∀ n : Nat, n ≤ 9 → intText? (⟨#[48 + n]⟩ : Str) = some (n : Int)
  | 0, _ => by decide +kernel
  | 1, _ => by decide +kernel
  | 2, _ => by decide +kernel
  | 3, _ => by decide +kernel
  | 4, _ => by decide +kernel
  | 5, _ => by decide +kernel
  | 6, _ => by decide +kernel
  | 7, _ => by decide +kernel
  | 8, _ => by decide +kernel
  | 9, _ => by decide +kernel
  | n + 10, h => by omega
theorem s1_int : S1 .int (fun x H Q => ∃ a n, [x] = [.str a] ∧ PySem.intText? a = some n ∧ a.length ≤ 640 ∧ Q (.int n) H) := by
  intro F H da x d dz Q s c e k
  cases d with
  | str z =>
    simp only [uop] at e
    split at e
    · rename_i c0 hc
      split at e
      · rename_i hb
        cases e
        obtain ⟨h1, h2, h3⟩ := cp_str c
        have hz : z = ⟨#[48 + (c0 - 48)]⟩ := by
          obtain ⟨cps⟩ := z
          obtain ⟨l⟩ := cps
          simp only at hc
          subst hc
          congr 2
          simp
          omega
        refine ⟨z, ((c0 - 48 : Nat) : Int), by rw [h1], ?_, ?_, k _ _ _ (Al.refl s) (.int _)⟩
        · rw [hz]
          exact int_dig (c0 - 48) (by omega)
        · rw [hz]
          show 1 ≤ 640
          omega
      · cases e
    · cases e
  | _ => simp [uop] at e
theorem s2_join {K : PySem.W.Frag} : S2 .join (fun x y H Q => ∃ a p, ∃ ys : List Str, x = .str a ∧ [y] = [.ref p] ∧ (SqL K H p (ys.map V.str) ∨ SqT K H p (ys.map V.str)) ∧ (ys.map (·.length)).sum + ys.length * a.length ≤ 16777216 ∧ Q (.str (Txt.join a ys)) H) := by
  intro F H da x y d e dz Q s c1 c2 q k
  cases d with
  | str a =>
    cases e with
    | list ds =>
      simp only [bop] at q
      cases q1 : toStrs ds with
      | none => rw [q1] at q; simp at q
      | some ys =>
        rw [q1] at q
        simp only [Option.bind_some] at q
        split at q
        · rename_i hb
          cases q
          obtain ⟨p, xs, h1, h2, h3, h4⟩ := c2.list s
          obtain ⟨h5, h6⟩ := rp_strs h3 q1
          subst h5
          obtain ⟨b1, b2, b3⟩ := hb
          refine ⟨a, p, ys, (cp_str c1).1, by rw [h1], .inl (.inl (.inl h2)), by omega, ?_⟩
          have ej : Txt.join a ys = Str.join a ys := StrLaws.glued_eq_join a ys
          rw [ej]
          exact k _ _ _ (Al.refl s) (.str _ b2 b3)
        · cases q
    | _ => simp [bop] at q
  | _ => cases e <;> simp [bop] at q
theorem rp_strs_all {F : Hp} : ∀ {ys : List Str}, (∀ y ∈ ys, y.length ≤ lim ∧ PyData.strOk y = true) → RpAll F (ys.map V.str) (ys.map .str)
  | [], _ => .nil
  | y :: ys, h => .cons (.str y (h y (.head _)).1 (h y (.head _)).2) (rp_strs_all fun z hz => h z (.tail _ hz))
theorem s2_split : S2 .split (fun x y H Q => ∃ a b, x = .str a ∧ [y] = [.str b] ∧ (b.length == 0) = false ∧ a.length + 2 ≤ sizeLine ∧ rNewStrs (Txt.split a b) H Q) := by
  intro F H da x y d e dz Q s c1 c2 q k
  cases d with
  | str a =>
    cases e with
    | str b =>
      simp only [bop] at q
      split at q
      · rename_i hb
        cases q
        obtain ⟨b1, b2, b3⟩ := hb
        have hl : a.length + 2 ≤ lim := b2
        refine ⟨a, b, (cp_str c1).1, by rw [(cp_str c2).1], by simpa using b1, lim_line' hl, fun p hp => new_lst s (rp_strs_all fun z hz => ?_) ?_ k p hp⟩
        · have := List.all_eq_true.mp b3 z hz
          simpa using this
        · rw [List.length_map]
          exact Nat.le_trans (PyProof.Rows.split_le a b) hl
      · cases q
    | _ => simp [bop] at q
  | _ => cases e <;> simp [bop] at q
end Tl
end
section
set_option Elab.async false
set_option linter.all false
set_option autoImplicit false
set_option maxRecDepth 100000
namespace Tl
open PySem PySem.Spec PyProof.Rows L2
open PpSet
/-! ### sorted(set(xs)) of truth values -/
section
variable {prog : Program} {w : World} {A : Around} {I : Addr} {n : Nat} {fp wr : List Addr} {G : Array GenState → Array GenState → Prop} {P : Nat → Value → Prop} {St : Nat → Shared → Prop} {R : Result → Shared → Prop}
theorem up_loopB (Wk : WalksS prog w A.in1 I fp wr G n P St) (c : Addr) (nc : c ∉ fp) (xs : List Bool) (ln : xs.length = n) (small : n ≤ 1000)
    (at_ : ∀ i v, P i v → ∃ x, xs[i]? = some x ∧ v = .bool x) :
    ∀ (k i : Nat) (s : Shared), n - i = k → i ≤ n → St i s → SetB w s.heap c (fun q => (dd (xs.take i)).any (· == q)) (dd (xs.take i)).length →
      (∀ s', Moved (c :: wr) G s s' → SetB w s'.heap c (fun q => (dd xs).any (· == q)) (dd xs).length → R (.ok (.ret .none)) s') →
      codeAny (model prog w) A (.builtin "set.update.loop" ⟨[.ref c, .ref I], []⟩) R s := by
  have cw : c ∉ wr := fun z => nc (Wk.sub _ z)
  have sb : ∀ b ∈ wr, b ∈ c :: wr := fun b z => List.mem_cons_of_mem _ z
  intro k
  induction k with
  | zero =>
    intro i s e1 e2 st hs hR
    obtain rfl : i = n := by omega
    refine codeAny_builtin F.entry_set_update_loop ?_
    rw [Around.under_plainId F.plain_set_update_loop _]
    show wpAny _ A.in1 (pyNext (.ref I) >>= _) _ _ s
    refine wpAny_bind (Wk.done s _ _ st fun s' mv => ?_)
    show wpAny _ A.in1 (ret Value.none) _ _ s'
    have tk : xs.take i = xs := List.take_of_length_le (by omega)
    rw [tk] at hs
    exact wpAny_pure (hR s' (mv.mono sb) (hs.at fun o ho => mv.heap c _ cw ho))
  | succ k ih =>
    intro i s e1 e2 st hs hR
    have lt : i < n := by omega
    refine codeAny_builtin F.entry_set_update_loop ?_
    rw [Around.under_plainId F.plain_set_update_loop _]
    show wpAny _ A.in1 (pyNext (.ref I) >>= _) _ _ s
    refine wpAny_bind (Wk.item i s _ _ lt st fun v s' pv st' mv => ?_)
    obtain ⟨x, hx, rfl⟩ := at_ i v pv
    have hs2 : SetB w s'.heap c (fun q => (dd (xs.take i)).any (· == q)) (dd (xs.take i)).length := hs.at fun o ho => mv.heap c _ cw ho
    show wpAny _ A.in1 (holding [Value.bool x] (setAdd c (.bool x)) >>= _) _ _ s'
    refine wpAny_bind (wpAny_holding ?_)
    unfold setAdd
    refine wpAny_holding (wpAny_bind ((boolK prog w).pyHash (k := x) (boolK_is prog w x) ?_))
    have room : (dd (xs.take i)).length + 1 < scanBound := by
      have := dd_le (xs.take i)
      rw [List.length_take] at this
      unfold scanBound
      omega
    have tk : xs.take (i + 1) = xs.take i ++ [x] := by
      rw [List.take_add_one, hx]
      rfl
    refine setB_add_hashed (s := { s' with toks := s'.toks + 1 }) hs2 room fun h' hk hs3 => ?_
    have hs4 : SetB w h' c (fun q => (dd (xs.take (i + 1))).any (· == q)) (dd (xs.take (i + 1))).length := by
      have e1 : (if (dd (xs.take i)).any (· == x) = true then (dd (xs.take i)).length else (dd (xs.take i)).length + 1) = (dd (xs.take (i + 1))).length := by
        rw [tk, dd_snoc]
        split <;> simp_all
      rw [← e1]
      exact hs3.congr fun q => by rw [tk, dd_any_snoc]
    refine wpAny_pure ⟨plainId_quiet F.plain_set_update_loop _, ih (i + 1) _ (by omega) lt (Wk.frame _ s' _ _ st' (Nat.le_succ _) fun b hb o e => ?_) hs4 fun s2 mv2 hs5 => ?_⟩
    · rw [hk.2 b (fun z : b = c => nc (z ▸ hb))]; exact e
    · refine hR s2 (Moved.trans Wk.gtrans ((mv.mono sb).then_heap (Nat.le_succ _) fun b o hb e => ?_) mv2) hs5
      rw [hk.2 b (fun z : b = c => hb (z ▸ List.mem_cons_self))]; exact e
end
section
variable {prog : Program} {w : World} {A : Around} {E : Value → Shared → Prop} {s : Shared}
set_option maxHeartbeats 3200000 in
theorem call_set_bools {l : Addr} {its : Array Value} {xs : List Bool} {Q : Value → Shared → Prop} (hh : A.handled = none) (hl : s.heap.IsList l its)
    (ln : xs.length = its.size) (at_ : ∀ (i : Nat) (v : Value), its[i]? = some v → ∃ x, xs[i]? = some x ∧ v = .bool x) (small : xs.length ≤ 1000)
    (h : ∀ (h' : Heap) (tk : Nat), SetB w h' s.heap.objs.size (fun k => (dd xs).any (· == k)) (dd xs).length → (∀ b o, b < s.heap.objs.size → s.heap.get? b = some o → h'.get? b = some o) → Q (.ref s.heap.objs.size) { s with heap := h', toks := tk }) :
    wpAny (model prog w) A (call (.type "set") [.ref l]) Q E s := by
  obtain ⟨c1, tl, hmro⟩ := PySem.F.called_set.mro
  have q1 := PySem.F.called_set.made
  have q2 := PySem.F.called_set.sub
  refine wpAny_call (codeAny_of_tree ?_)
  show wpAny _ _ (callAny (.type "set") _) _ _ _
  refine wpAny_pure ⟨Code.quiet_builtin _ (by decide +kernel), codeAny_builtin PySem.F.entry_type_call ?_⟩
  rw [Around.under_plain (weight_type_call_type "set" [.ref l] []) rfl]
  have q3 := PySem.F.called_set.notType
  have q4 := PySem.F.called_set.canCreate
  have q5 := PySem.F.typeCall_set_1 (.ref l)
  repeat (first | with_reducible assumption | (first
      | with_reducible (first | refine wpAny_pure ?_ | refine wpAny_bind ?_ | refine wpAny_of_eq (by assumption) ?_ | refine wpAny_holding ?_ | refine wpAny_typeOf (by assumption) ?_ | refine wpAny_run ?_ | refine wpAny_runValue ?_ | refine wpAny_call ?_)
      | with_reducible (first | refine wpAny_standAt ?_ | refine wpAny_point ?_ | refine wpAny_rule ?_ | refine wpAny_letGo ?_ | refine wpAny_attempt ?_ | refine wpAny_throw ?_)
      | with_reducible (first | refine wpAny_specialOf_val (by assumption) (by assumption) ?_ | refine wpAny_specialOf (by assumption) (by assumption) ?_ | refine wpAny_isInstance_val (by assumption) (by assumption) ?_ | refine wpAny_isInstance (by assumption) (by assumption) ?_)
      | wp_delta
      | ((with_reducible apply wpAny_ite_false); focus (first | rfl | (simp [*]; done)))
      | ((with_reducible apply wpAny_ite_true); focus (first | rfl | (simp [*]; done)))
      | ((with_reducible apply wpAny_load'); focus (heap_get; done))
      | ((with_reducible apply wpAny_loadPart'); focus (heap_get; done))
      | ((with_reducible apply wpAny_update'); focus (heap_get; done))
      | ((with_reducible apply wpAny_updatePart'); focus (heap_get; done))
      | ((with_reducible apply wpAny_handled_none); focus (assumption; done))))
  refine codeAny_mono (code_set_led1 (.ref l) (E := E) (Q₁ := fun obj s1 => obj = .ref s.heap.objs.size ∧ s1 = { s with heap := s.heap.push (eSet (!w.params.followText "set-order")) }) ⟨rfl, rfl⟩) fun r s1 hr => ?_
  have hF : SetB w (s.heap.push (eSet (!w.params.followText "set-order"))) s.heap.objs.size (fun _ => false) 0 := setB_fresh w
  generalize (!w.params.followText "set-order") = led at hr hF
  match r, hr with
  | .error e, hr => exact hr
  | .ok (.ret obj), hr =>
    obtain ⟨rfl, rfl⟩ := hr
    have gS : (s.heap.push (eSet led)).get? s.heap.objs.size = some (eSet led) := Heap.get?_push_size _ rfl
    have tS : Shared.TypeIs { s with heap := s.heap.push (eSet led) } (.ref s.heap.objs.size) "set" := ⟨_, gS, rfl⟩
    have q6 := PySem.F.called_set.init.lookup
    have q7 := PySem.F.called_set.init.bind (.ref s.heap.objs.size)
    repeat (first | with_reducible assumption | (first
        | with_reducible (first | refine wpAny_pure ?_ | refine wpAny_bind ?_ | refine wpAny_of_eq (by assumption) ?_ | refine wpAny_holding ?_ | refine wpAny_typeOf (by assumption) ?_ | refine wpAny_run ?_ | refine wpAny_runValue ?_ | refine wpAny_call ?_)
        | with_reducible (first | refine wpAny_standAt ?_ | refine wpAny_point ?_ | refine wpAny_rule ?_ | refine wpAny_letGo ?_ | refine wpAny_attempt ?_ | refine wpAny_throw ?_)
        | with_reducible (first | refine wpAny_specialOf_val (by assumption) (by assumption) ?_ | refine wpAny_specialOf (by assumption) (by assumption) ?_ | refine wpAny_isInstance_val (by assumption) (by assumption) ?_ | refine wpAny_isInstance (by assumption) (by assumption) ?_)
        | wp_delta
        | ((with_reducible apply wpAny_ite_false); focus (first | rfl | (simp [*]; done)))
        | ((with_reducible apply wpAny_ite_true); focus (first | rfl | (simp [*]; done)))
        | ((with_reducible apply wpAny_load'); focus (heap_get; done))
        | ((with_reducible apply wpAny_loadPart'); focus (heap_get; done))
        | ((with_reducible apply wpAny_update'); focus (heap_get; done))
        | ((with_reducible apply wpAny_updatePart'); focus (heap_get; done))
        | ((with_reducible apply wpAny_handled_none); focus (assumption; done))))
    refine codeAny_mono (codeAny_call_builtin (R := wants (fun r s2 => r = .none ∧ ∃ h' tk, s2 = { s with heap := h', toks := tk } ∧
        SetB w h' s.heap.objs.size (fun k => (dd xs).any (· == k)) (dd xs).length ∧ (∀ b o, b < s.heap.objs.size → s.heap.get? b = some o → h'.get? b = some o)) E) PySem.F.called_set.init.plain PySem.F.entry_set_init (check_set_init_1 tS ?_)) fun r2 s2 hr2 => ?_
    · obtain ⟨⟨ocls, odict, odata, oslots⟩, g1, g2, nl, g3⟩ := hl
      simp only at g2 g3
      subst g2; subst g3
      have g4 : (s.heap.push (eSet led)).get? l = some { cls := .type "list", dict := odict, data := .seq its nl, slots := oslots } := Heap.get?_push_of_some _ g1
      have u1 := PySem.F.sub_list_set
      have u2 := PySem.F.sub_list_frozenset
      have u3 : (Value.type "list" == Value.type "dict") = false := by decide
      have g5 : (s.heap.push (eSet led)).IsList l its := ⟨_, g4, rfl, nl, rfl⟩
      unfold Builtin.«set.__init__» noKeywords Builtin.Frozenset.updateFrom
      generalize hPI : pyIter = PI
      repeat (first
          | with_reducible (first | refine wpAny_pure ?_ | refine wpAny_bind ?_ | refine wpAny_of_eq (by assumption) ?_ | refine wpAny_holding ?_ | refine wpAny_typeOf (by assumption) ?_ | refine wpAny_run ?_ | refine wpAny_runValue ?_ | refine wpAny_call ?_)
          | with_reducible (first | refine wpAny_standAt ?_ | refine wpAny_point ?_ | refine wpAny_rule ?_ | refine wpAny_letGo ?_ | refine wpAny_attempt ?_ | refine wpAny_throw ?_)
          | with_reducible (first | refine wpAny_specialOf_val (by assumption) (by assumption) ?_ | refine wpAny_specialOf (by assumption) (by assumption) ?_ | refine wpAny_isInstance_val (by assumption) (by assumption) ?_ | refine wpAny_isInstance (by assumption) (by assumption) ?_)
          | wp_delta
          | ((with_reducible apply wpAny_ite_false); focus (first | rfl | (simp [*]; done)))
          | ((with_reducible apply wpAny_ite_true); focus (first | rfl | (simp [*]; done)))
          | ((with_reducible apply wpAny_load'); focus (heap_get; done))
          | ((with_reducible apply wpAny_loadPart'); focus (heap_get; done))
          | ((with_reducible apply wpAny_update'); focus (heap_get; done))
          | ((with_reducible apply wpAny_updatePart'); focus (heap_get; done))
          | ((with_reducible apply wpAny_handled_none); focus (assumption; done)))
      subst hPI
      refine wpAny_pyIter_list g5 (wpAny_bind (wpAny_runValue ?_))
      have lS : l < s.heap.objs.size := Heap.lt_size g1
      have h3 : A.in1.in1.in1.handled = none := by simp [hh]
      have nI : l ≠ (s.heap.push (eSet led)).objs.size := by
        rw [Heap.size_push]; exact Nat.ne_of_lt (Nat.lt_succ_of_lt lS)
      have nS : s.heap.objs.size ∉ [(s.heap.push (eSet led)).objs.size, l] := by
        rw [Heap.size_push]; simp only [List.mem_cons, List.not_mem_nil, or_false, not_or]; exact ⟨Nat.ne_of_lt (Nat.lt_succ_self _), Nat.ne_of_gt lS⟩
      refine up_loopB ((Walks.list h3 _ l nI its).toS) s.heap.objs.size nS xs ln (by omega) (fun i v hv => at_ i v hv) (its.size - 0) 0 _ (by omega) (Nat.zero_le _)
        ⟨⟨_, Heap.get?_push_size _ rfl, rfl, rfl⟩, g5.push _⟩ ?_ ?_
      · exact (hF.at fun o ho => Heap.get?_push_of_some _ ho).congr fun _ => rfl
      · intro s' hm hS'
        obtain ⟨h', g', d', tk', os'⟩ := s'
        have eg : g' = s.gens := hm.gens
        have ed : d' = s.drawn := hm.drawn
        have eo : os' = s.os := hm.os
        subst eg; subst ed; subst eo
        show wpAny _ _ _ _ _ _
        refine wpAny_pure ?_
        show wpAny _ _ (ret Value.none) _ _ _
        refine wpAny_pure ⟨rfl, h', tk', rfl, hS', fun b o hb e => ?_⟩
        refine hm.heap b o ?_ (Heap.get?_push_of_some _ (Heap.get?_push_of_some _ e))
        simp only [List.mem_cons, List.not_mem_nil, or_false, not_or]
        rw [Heap.size_push]
        exact ⟨Nat.ne_of_lt hb, Nat.ne_of_lt (Nat.lt_succ_of_lt hb)⟩
    · match r2, hr2 with
      | .error e, hr2 => exact hr2
      | .ok (.ret r), hr2 =>
        obtain ⟨rfl, h', tk, rfl, hS', hk'⟩ := hr2
        repeat (first | with_reducible assumption | (first
            | with_reducible (first | refine wpAny_pure ?_ | refine wpAny_bind ?_ | refine wpAny_of_eq (by assumption) ?_ | refine wpAny_holding ?_ | refine wpAny_typeOf (by assumption) ?_ | refine wpAny_run ?_ | refine wpAny_runValue ?_ | refine wpAny_call ?_)
            | with_reducible (first | refine wpAny_standAt ?_ | refine wpAny_point ?_ | refine wpAny_rule ?_ | refine wpAny_letGo ?_ | refine wpAny_attempt ?_ | refine wpAny_throw ?_)
            | with_reducible (first | refine wpAny_specialOf_val (by assumption) (by assumption) ?_ | refine wpAny_specialOf (by assumption) (by assumption) ?_ | refine wpAny_isInstance_val (by assumption) (by assumption) ?_ | refine wpAny_isInstance (by assumption) (by assumption) ?_)
            | wp_delta
            | ((with_reducible apply wpAny_ite_false); focus (first | rfl | (simp [*]; done)))
            | ((with_reducible apply wpAny_ite_true); focus (first | rfl | (simp [*]; done)))
            | ((with_reducible apply wpAny_load'); focus (heap_get; done))
            | ((with_reducible apply wpAny_loadPart'); focus (heap_get; done))
            | ((with_reducible apply wpAny_update'); focus (heap_get; done))
            | ((with_reducible apply wpAny_updatePart'); focus (heap_get; done))
            | ((with_reducible apply wpAny_handled_none); focus (assumption; done))))
        exact h _ _ hS' hk'
      | .ok .next, hr2 => exact hr2.elim
      | .ok .brk, hr2 => exact hr2.elim
      | .ok .cont, hr2 => exact hr2.elim
  | .ok .next, hr => exact hr.elim
  | .ok .brk, hr => exact hr.elim
  | .ok .cont, hr => exact hr.elim
end
end Tl
end
section
set_option Elab.async false
set_option linter.all false
set_option autoImplicit false
set_option maxRecDepth 100000
namespace Tl
open PySem PySem.Spec PyProof.Rows L2
open PpSet
abbrev IsB : Value → Bool → Prop := fun v b => v = .bool b
theorem isB_of : ∀ (l : List Value), (∀ v ∈ l, ∃ k, v = Value.bool k) → ∃ bs, PySem.W.EachIs IsB l bs
  | [], _ => ⟨[], .nil⟩
  | v :: l, h => by
    obtain ⟨k, rfl⟩ := h v List.mem_cons_self
    obtain ⟨bs, e⟩ := isB_of l fun u hu => h u (List.mem_cons_of_mem _ hu)
    exact ⟨k :: bs, .cons rfl e⟩
theorem isB_map : ∀ {l : List Value} {bs : List Bool}, PySem.W.EachIs IsB l bs → l = bs.map Value.bool
  | _, _, .nil => rfl
  | _, _, .cons h t => by rw [List.map_cons, ← isB_map t, h]
theorem nodup_bools : ∀ bs : List Bool, bs.Nodup → bs = [] ∨ bs = [false] ∨ bs = [true] ∨ bs = [false, true] ∨ bs = [true, false]
  | [], _ => .inl rfl
  | [false], _ => .inr (.inl rfl)
  | [true], _ => .inr (.inr (.inl rfl))
  | [false, true], _ => .inr (.inr (.inr (.inl rfl)))
  | [true, false], _ => .inr (.inr (.inr (.inr rfl)))
  | [false, false], h => by simp at h
  | [true, true], h => by simp at h
  | a :: b :: c :: r, h => by
    exfalso
    obtain ⟨h1, h2⟩ := List.nodup_cons.mp h
    obtain ⟨h3, _⟩ := List.nodup_cons.mp h2
    cases a <;> cases b <;> cases c <;> simp_all
theorem dd_any_iff {α : Type} [BEq α] [LawfulBEq α] (l : List α) (k : α) : (dd l).any (· == k) = true ↔ k ∈ l := by
  have h : ∀ (l s : List α), (l.foldl (fun s k => if s.any (· == k) then s else s ++ [k]) s).any (· == k) = true ↔ s.any (· == k) = true ∨ k ∈ l := by
    intro l
    induction l with
    | nil => intro s; simp
    | cons x r ih =>
      intro s
      rw [List.foldl_cons, ih]
      by_cases c : s.any (· == x) = true
      · rw [if_pos c]
        constructor
        · rintro (z | z)
          · exact .inl z
          · exact .inr (.tail _ z)
        · rintro (z | z)
          · exact .inl z
          · rcases List.mem_cons.mp z with e | e
            · subst e; exact .inl c
            · exact .inr e
      · rw [if_neg c, List.any_append, Bool.or_eq_true]
        constructor
        · rintro ((z | z) | z)
          · exact .inl z
          · simp at z
            exact .inr (by rw [z]; exact .head _)
          · exact .inr (.tail _ z)
        · rintro (z | z)
          · exact .inl (.inl z)
          · rcases List.mem_cons.mp z with e | e
            · subst e; exact .inl (.inr (by simp))
            · exact .inr e
  have := h l []
  simpa [dd] using this
/-- in order -/
theorem sort_bools (bs : List Bool) (hn : bs.Nodup) (xs : List Bool) (hm : ∀ k, k ∈ bs ↔ (dd xs).any (· == k) = true) : bs.mergeSort (PySem.W.dataLe false PyData.bool) = srtB xs := by
  have hx : ∀ k, k ∈ bs ↔ k ∈ xs := fun k => by
    rw [hm k]
    have := dd_any_iff xs k
    exact this
  unfold srtB
  have e1 : (false ∈ xs) = (false ∈ bs) := propext (hx false).symm
  have e2 : (true ∈ xs) = (true ∈ bs) := propext (hx true).symm
  simp only [e1, e2]
  have l1 : PySem.W.dataLe false PyData.bool false true = true := by decide +kernel
  have l2 : PySem.W.dataLe false PyData.bool true false = false := by decide +kernel
  rcases nodup_bools bs hn with rfl | rfl | rfl | rfl | rfl
  · simp
  · simp
  · simp
  · rw [List.mergeSort_of_pairwise (by simp [l1])]
    simp
  · simp [List.mergeSort, List.MergeSort.Internal.splitInTwo, List.merge, l2]
section
variable {P : Program} {w : World} {A : Around} {E : Value → Shared → Prop} {s : Shared} {a : Addr}
theorem sorted_setB {xs : List Bool} {Q : Value → Shared → Prop} (R : SetB w s.heap a (fun k => (dd xs).any (· == k)) (dd xs).length) (hh : A.handled = none) (hl0 : xs.length ≤ 1000) (hu : A.units + 8 < cLine)
    (hQ : ∀ s' p (out : Array Value) (c : Nat), (∀ b o, s.heap.get? b = some o → s'.heap.get? b = some o) → s'.gens = s.gens → s'.os = s.os → s.heap.objs.size ≤ p →
      s'.heap.get? p = some (seqObj "list" out c) → out.toList = (srtB xs).map Value.bool → Q (.ref p) s') :
    wpAny (model P w) A (call (.builtin "sorted") [.ref a]) Q E s := by
  obtain ⟨o, es, ep, t, ho, hex, hd, g, nd, hm, hb, hf, hn, hr, hl⟩ := R
  refine Calls.call_function_entry kind_sorted plain_sorted entry_sorted (args_sorted1 _) ?_
  unfold Builtin.«sorted»
  refine wpAny_bind (m := checkCount "sorted" 1 1 _) (wpAny_pure ?_)
  refine wpAny_bind (collect_set (A := A.in1) hh ⟨o, ho, hex.1, hd⟩ hf hb hr hl fun s1 vs k1 hz g1 o1 pm => ?_)
  have hvl : vs.length = (dd xs).length := by rw [pm.length_eq, List.length_map, Array.length_toList]; exact hn
  have hdd := dd_len xs
  obtain ⟨bs, eB⟩ := isB_of vs fun v hv => by
    obtain ⟨e, he, q⟩ := List.mem_map.mp (pm.mem_iff.mp hv)
    obtain ⟨k, h1, _⟩ := g e he
    exact ⟨k, by rw [← q]; exact h1⟩
  have hvs := isB_map eB
  have pk : bs.Perm (es.toList.map keyB) := by
    have q := pm.map (fun v => match v with | Value.bool k => k | _ => false)
    rw [hvs, List.map_map, List.map_map] at q
    have e1 : ((fun v => match v with | Value.bool k => k | _ => false) ∘ Value.bool) = (id : Bool → Bool) := funext fun b => rfl
    rw [e1, List.map_id] at q
    exact q
  have hbl : bs.length = (dd xs).length := by
    rw [hvs, List.length_map] at hvl
    exact hvl
  refine wpAny_bind (wpAny_newList ?_ (by rw [hvl, sizeLine_eq]; omega))
  have hoL : (s1.heap.push (seqObj "list" vs.toArray 0)).get? s1.heap.objs.size = some (seqObj "list" vs.toArray 0) := Heap.get?_push_size _ rfl
  have al : PySem.W.AllAlike (bs.map PyData.bool) := fun d hd d' hd' => by
    obtain ⟨x, _, rfl⟩ := List.mem_map.mp hd
    obtain ⟨y, _, rfl⟩ := List.mem_map.mp hd'
    rfl
  have sk : PySem.W.Sortable (bs.map PyData.bool) := .inr fun d hd => by
    obtain ⟨x, _, rfl⟩ := List.mem_map.mp hd
    exact ⟨fun e => (by cases e), fun _ e => (by cases e)⟩
  have er : PySem.W.EachIs (fun v b => ∃ as, Reads (s1.heap.push (seqObj "list" vs.toArray 0)) v (PyData.bool b) as ∧ s1.heap.objs.size ∉ as) vs bs := eB.mono fun v b hv => by
    subst hv
    exact ⟨[], .bool b, by simp⟩
  refine wpAny_bind (wpAny_holding (PySem.W.list_sort_data (enc := PyData.bool) hoL eB er al sk (by rw [hbl, sizeLine_eq]; omega) (fun b _ => ?_) fun out hlen hout => ?_))
  · show A.units + 1 + 1 + 0 < cLine
    omega
  obtain ⟨c, hc⟩ := sortedHeap_at (vs := vs) (out := out.toArray) hoL
  have hs := sort_bools bs (pk.nodup_iff.mpr nd) xs fun k => by rw [pk.mem_iff, ← hm k]
  rw [hs] at hout
  refine wpAny_pure ⟨_, rfl, hQ _ s1.heap.objs.size out.toArray c (fun b u e => ?_) g1 o1 hz hc (isB_map (by simpa using hout))⟩
  have q := k1 b u e
  have hlt := Heap.lt_size q
  show (sortedHeap (s1.heap.push (seqObj "list" vs.toArray 0)) s1.heap.objs.size vs out.toArray).get? b = some u
  rw [sortedHeap_old (Nat.ne_of_lt hlt) (by rw [size_push']; exact Nat.lt_succ_of_lt hlt)]
  exact Heap.get?_push_of_some _ q
end

def rSortSetB (K : PySem.W.Frag) : V → Hp → VK → Prop := fun x H Q => ∃ (l : Addr) (bs : List Bool), x = .ref l ∧ SqL K H l (bs.map V.bl) ∧ bs.length ≤ 1000 ∧ ∀ p, H p = none → Q (.ref p) (upd H p (.lst ((srtB bs).map V.bl)))
theorem bls_key : ∀ {bs : List Bool} {its : List Value}, Vals (bs.map V.bl) its → its = bs.map Value.bool
  | [], its, h => by cases h; rfl
  | b :: bs, its, h => by
    cases h with
    | cons h t =>
      rw [List.map_cons, ← bls_key t]
      congr 1
theorem vals_bls : ∀ bs : List Bool, Vals (bs.map V.bl) (bs.map Value.bool)
  | [] => .nil
  | b :: bs => .cons rfl (vals_bls bs)
theorem pe_sortedSet2 {X : Cx} {a : Expr} {ta : TE} {p p2 q pos : Pos} (hc : X.calm = true) (hu : X.A.units + 64 < cLine) (hg : Gl X "sorted") (hm : X.mg "sorted" = none) (hg2 : Gl X "set") (hm2 : X.mg "set" = none) (ha : PE X a ta)
    (na : starEach [a] X.env = (false, eval a X.env) :: starEach [] X.env) : PE X (.Call (.Name "sorted" p) [.Call (.Name "set" p2) [a] [] q] [] pos) (fun σ H Q => ta σ H fun x H1 => rSortSet X.K x H1 Q ∨ rSortSetB X.K x H1 Q) := by
  refine ⟨fun pins s σ H Q I h => ?_⟩
  refine Call_ (ld_blt I hg hm boot_sorted ?_)
  refine PyProof.Rows.callWith_builtin1 (PyProof.Rows.args_cons ?_ rfl) rfl rfl
  refine Call_ (ld_blt I hg2 hm2 boot_set ?_)
  refine PyProof.Rows.callWith_type1 (PyProof.Rows.args_cons (thn (ha.run pins s σ H _ I h) fun v s1 hh => PyProof.Rows.args_nil ?_) na) na rfl
  obtain ⟨x, H1, I1, r1, hq⟩ := hh
  rcases hq with ⟨l, ns, rfl, hq, hn, q1⟩ | ⟨l, ns, rfl, hq, hn, q1⟩
  · cases r1
    obtain ⟨its, rv, pl, hz⟩ := I1.list hq
    have hi := intsAre_of rv
    have hlen : its.length = ns.length := hi.length
    refine call_set_ints (xs := ns) (I1.ok.hd hc) pl.isList (by rw [List.size_toArray, hlen]) (fun i v e => ints_key hi i v (by simpa using e)) (by omega) fun h' tk hS hk => ?_
    refine PyProof.Rows.args_nil ?_
    have I2 : Inv X pins σ H1 { s1 with heap := h', toks := tk } := I1.kept fun b o e => hk b o (Heap.lt_size e) e
    have hdd := dd_len ns
    generalize hs2 : ({ s1 with heap := h', toks := tk } : Shared) = s2 at I2 ⊢
    have hS : SetR X.w s2.heap s1.heap.objs.size (fun k => (dd ns).any (· == k)) (dd ns).length := by rw [← hs2]; exact hS
    refine sorted_set hS (I2.ok.hd hc) (by omega) fun s' p out c ms k g o hp hgt hi2 hs hmm hl => ?_
    have ems : ms = srtS ns := srtS_eq hs hmm
    subst ems
    have hlen : ((srtS ns).map V.int).length ≤ sizeLine := by rw [List.length_map, hl, sizeLine_eq]; omega
    have hN : H1 p = none := I2.hok.fresh hp
    have J : Inv X pins σ (upd H1 p (.lst ((srtS ns).map V.int))) { s2 with heap := s'.heap, gens := s'.gens, drawn := s'.drawn, toks := s'.toks } :=
      I2.call (ch := []) (Un.laid k hp hN) (I2.hok.laid k hp ⟨hlen, out.toList, c, vals_of_ints hi2, hgt⟩) (by rw [g]; exact I2.bare) (fun _ z => nomatch z)
    have e : s' = { s2 with heap := s'.heap, gens := s'.gens, drawn := s'.drawn, toks := s'.toks } := by
      cases s'
      cases s2
      cases o
      rfl
    rw [e]
    exact ⟨.ref p, _, J, rfl, q1 p hN⟩
  · cases r1
    obtain ⟨its, rv, pl, hz⟩ := I1.list hq
    have hi := bls_key rv
    have hlen : its.length = ns.length := by rw [hi, List.length_map]
    refine call_set_bools (xs := ns) (I1.ok.hd hc) pl.isList (by rw [List.size_toArray, hlen]) (fun i v e => by
      rw [hi] at e
      have e : (ns.map Value.bool)[i]? = some v := by simpa using e
      rw [List.getElem?_map] at e
      cases q : ns[i]? with
      | none => rw [q] at e; cases e
      | some x => rw [q] at e; cases e; exact ⟨x, rfl, rfl⟩) hn fun h' tk hS hk => ?_
    refine PyProof.Rows.args_nil ?_
    have I2 : Inv X pins σ H1 { s1 with heap := h', toks := tk } := I1.kept fun b o e => hk b o (Heap.lt_size e) e
    generalize hs2 : ({ s1 with heap := h', toks := tk } : Shared) = s2 at I2 ⊢
    have hS : SetB X.w s2.heap s1.heap.objs.size (fun k => (dd ns).any (· == k)) (dd ns).length := by rw [← hs2]; exact hS
    refine sorted_setB hS (I2.ok.hd hc) hn (by omega) fun s' p out c k g o hp hgt hout => ?_
    have hlen : ((srtB ns).map V.bl).length ≤ sizeLine := by
      rw [List.length_map, sizeLine_eq]
      unfold srtB
      split <;> split <;> simp
    have hN : H1 p = none := I2.hok.fresh hp
    have J : Inv X pins σ (upd H1 p (.lst ((srtB ns).map V.bl))) { s2 with heap := s'.heap, gens := s'.gens, drawn := s'.drawn, toks := s'.toks } :=
      I2.call (ch := []) (Un.laid k hp hN) (I2.hok.laid k hp ⟨hlen, out.toList, c, by rw [hout]; exact vals_bls _, hgt⟩) (by rw [g]; exact I2.bare) (fun _ z => nomatch z)
    have e : s' = { s2 with heap := s'.heap, gens := s'.gens, drawn := s'.drawn, toks := s'.toks } := by
      cases s'
      cases s2
      cases o
      rfl
    rw [e]
    exact ⟨.ref p, _, J, rfl, q1 p hN⟩
theorem rp_bls_all {F : Hp} : ∀ ns : List Bool, RpAll F (ns.map V.bl) (ns.map .bool)
  | [] => .nil
  | n :: ns => .cons (.bl n) (rp_bls_all ns)
theorem s1_sortedset {K : PySem.W.Frag} : S1 .sortedset (fun x H Q => rSortSet K x H Q ∨ rSortSetB K x H Q) := by
  intro F H da x d dz Q s c e k
  cases d with
  | list ds =>
    obtain ⟨a, xs, h1, h2, h3, h4⟩ := c.list s
    subst h1
    simp only [uop] at e
    cases q : toInts ds with
    | some ns =>
      rw [q] at e
      simp only at e
      split at e
      · rename_i hn
        cases e
        obtain ⟨h5, h6⟩ := rp_ints h3 q
        subst h5
        refine .inl ⟨a, ns, rfl, .inl (.inl h2), hn, fun p hp => new_lst s (rp_ints_all (srtS ns)) ?_ k p hp⟩
        have := dd_len ns
        rw [List.length_map]
        unfold srtS
        rw [List.length_mergeSort]
        unfold lim
        omega
      · cases e
    | none =>
      rw [q] at e
      simp only at e
      cases q2 : toBls ds with
      | some bs =>
        rw [q2] at e
        simp only at e
        split at e
        · rename_i hn
          cases e
          obtain ⟨h5, h6⟩ := rp_bls h3 q2
          subst h5
          refine .inr ⟨a, bs, rfl, .inl (.inl h2), hn, fun p hp => new_lst s (rp_bls_all (srtB bs)) ?_ k p hp⟩
          rw [List.length_map]
          unfold srtB lim
          split <;> split <;> simp
        · cases e
      | none =>
        rw [q2] at e
        cases e
  | _ => simp [uop] at e
end Tl
end
section
set_option Elab.async false
set_option linter.all false
set_option autoImplicit false
set_option maxRecDepth 100000
namespace Tl
open PySem PySem.Spec PyProof.Rows L2
def blts : List Str := ["len", "set", "sum", "min", "max", "sorted", "all", "any", "abs", "list", "tuple", "str", "int", "bool", "range", "enumerate", "zip", "isinstance"]
/-- a def's promise: it does what its evaluation says -/
def spF (cl : Cls) (m : Fn) : Sp := fun vs H Q E => ∃ (F : Hp) (da : DA) (g : G) (cs : List Cell), Same F H ∧ GOk H g da ∧ (∀ b, isDr da b → F b = none) ∧ ArgsOk cl F da vs cs ∧ Post cl (fun c d _ H => E c d H) [] relE da F H Q (m cs g)
/-- what isinstance and except must know of the errors' classes -/
def ExF (K : PySem.W.Frag) (mg : Str → Option Value) (cl : Cls) (T : Tab) : Prop := T.cn.length = 6 → ∃ L, mg "ListError" = some (.ref L) ∧ mg "ValueError" = none ∧ (∀ (c : Nat) (x : Str), T.cn[c]? = some x → mg x = some (.ref (cl c))) ∧ ∀ c, c < 6 →
  ExcC K (cl c) ∧ PySem.W.kitOne K (.ref (cl c)) (.type "ValueError") = some true ∧ PySem.W.kitOne K (.ref (cl c)) (.ref L) = some true ∧ PySem.W.exmOne K (.ref (cl c)) (.ref L) = some true ∧ ∀ d, d < 6 → PySem.W.kitOne K (.ref (cl c)) (.ref (cl d)) = some (c == d)
/-- a def's promise whose value is not looked at -/
abbrev relN : Hp → Hp → DA → V → D → Prop := fun _ _ _ _ _ => True
def spO (cl : Cls) (m : Fn) : Sp := fun vs H Q E => ∃ (F : Hp) (da : DA) (g : G) (cs : List Cell), Same F H ∧ GOk H g da ∧ (∀ b, isDr da b → F b = none) ∧ ArgsOk cl F da vs cs ∧ Post cl (fun c d _ H => E c d H) [] relN da F H Q (m cs g)
/-- what a reader's making leaves -/
structure NewR (cl : Cls) (da : DA) (F H F' H' : Hp) (g' : G) (x dx p q : Addr) (lv : V) (A B : List D) : Prop where
  fr : Same F F'
  sub : Same F' H'
  fx : F' x = none
  keep : ∀ b o, H b = some o → b ≠ x → ¬ isDr da b → H' b = some o
  new : ∀ b o, H b = some o → F b = none → F' b = none ∨ TupI o
  gok : GOk H' g' da
  tho : ∀ b o, H b = some o → ∃ o', H' b = some o'
  hx : H' x = some (.ins (cl 9) dx [("lists", lv), ("depths", .ref p), ("made", .ref q)])
  rp : Rp F' lv (.tuple [.list A, .list B])
  hp : H' p = some (.lst [.int 0, .int 0])
  hq : H' q = some (.lst [])
  np : H p = none
  nq : H q = none
  fp : F' p = none
  fq : F' q = none
  pq : p ≠ q
/-- __init__'s promise: the check, then the fields -/
def spI (cl : Cls) (m : Fn) : Sp := fun vs H Q E => ∃ (F : Hp) (da : DA) (g : G) (x dx : Addr) (v1 v2 : V) (d1 d2 : D), vs = [.ref x, v1, v2] ∧ H x = some (.ins (cl 9) dx []) ∧ F x = none ∧ Same F H ∧ GOk H g da ∧ (∀ b, isDr da b → F b = none) ∧ Rp F v1 d1 ∧ Rp F v2 d2 ∧
  match m [.val d1, .val d2] g with
  | .ok _ g' => ∃ A B, d1 = .list A ∧ d2 = .list B ∧ ∀ F' H' p q lv, NewR cl da F H F' H' g' x dx p q lv A B → Q .non H'
  | .exc c g' => ∀ F' H', Nx da F H F' H' g' → E (.ref (cl c)) none H'
  | .bad => False
/-- what is known of the class of readers, and of defs whose value is not looked at -/
structure RdX (P : Program) (w : World) (K : PySem.W.Frag) (mg : Str → Option Value) (base : Heap) (cl : Cls) (T : Tab) (k : Nat) (Φ : Nat → Fn) : Prop where
  rc : L2.Cls K (cl 9)
  n1 : NoAttr K (cl 9) "lists"
  n2 : NoAttr K (cl 9) "depths"
  n3 : NoAttr K (cl 9) "made"
  mth : ∀ i m, (i, m) ∈ T.ms → ∃ f fd ps, Meth K (cl 9) m f ∧ (m = "lists" ∨ m = "depths" ∨ m = "made" → False) ∧ Binds K fd ps [] ∧ FnOk P w K mg base (L2.CX P w) k f fd ps (spF cl (Φ i))
  ini : ∃ f, mg "Reader" = some (.ref (cl 9)) ∧ Mk K (cl 9) f ∧ ((∀ cs g, Φ 900 cs g = .bad) ∨ ∃ fd ps j, j + 1 ≤ k ∧ Binds K fd ps [] ∧ FnOk P w K mg base (L2.CX P w) j f fd ps (spI cl (Φ 900)))
  lng : (∀ cs g, Φ 901 cs g = .bad) ∨ ∃ f fd ps j, j + 1 ≤ k ∧ Meth K (cl 9) "__len__" f ∧ Binds K fd ps [] ∧ FnOk P w K mg base (L2.CX P w) j f fd ps (spF cl (Φ 901))
  opq : ∀ i ∈ T.os, ∃ x f fd ps, T.nm[i]? = some x ∧ mg x = some (.ref f) ∧ PySem.W.keepIn K (.ref f) = true ∧ Binds K fd ps [] ∧ FnOk P w K mg base (L2.CX P w) k f fd ps (spO cl (Φ i))
structure XOk (T : Tab) (cl : Cls) (Φ : Nat → Fn) (k : Nat) (W : WX) (S : Stat) (X : Cx) : Prop where
  hN : X.N = S.N
  hsc : X.env.scope = S.sc
  hfn : X.fn = S.fn
  nd : S.N.Nodup
  calm : X.calm = true
  room : Room k X.A
  blt : ∀ x ∈ blts, X.mg x = none
  glo : ∀ p ∈ T.gs, ∃ v u, X.mg p.1 = some u ∧ RelV v u ∧ ∀ F, Rp F v p.2
  pass : ∀ σ, PassesAt (L2.CX X.prog X.w) X σ (WE W σ)
  fun_ : ∀ i ∈ T.fs, ∃ x f fd ps, T.nm[i]? = some x ∧ X.mg x = some (.ref f) ∧ PySem.W.keepIn X.K (.ref f) = true ∧ Binds X.K fd ps [] ∧ FnOk X.prog X.w X.K X.mg X.base (L2.CX X.prog X.w) k f fd ps (spF cl (Φ i))
  exf : ExF X.K X.mg cl T
  rdx : RdX X.prog X.w X.K X.mg X.base cl T k Φ
abbrev W0 : WX := fun _ _ _ _ => False
theorem passW0 {X : Cx} (σ : St) : PassesAt (L2.CX X.prog X.w) X σ (WE W0 σ) := fun pins H s e s' I h => passL pins σ H s e s' I h
section
variable {T : Tab} {cl : Cls} {Φ : Nat → Fn} {k : Nat} {W : WX} {S : Stat} {X : Cx}
theorem and2 {a b : Bool} (h : (a && b) = true) : a = true ∧ b = true := by
  rw [Bool.and_eq_true] at h
  exact h
theorem XOk.gl (h : XOk T cl Φ k W S X) {x : Str} (q : okG S x = true) : Gl X x ∧ (x == ("__debug__" : Str)) = false := by
  obtain ⟨h1, h2⟩ := and2 q
  constructor
  · show X.env.scope.names.lookup x = some .globalImplicit
    rw [h.hsc]
    unfold isGl at h1
    split at h1
    · assumption
    · cases h1
  · simpa using h2
theorem XOk.bl (h : XOk T cl Φ k W S X) {x y : Str} (q : okB S x y = true) (hy : y ∈ blts) : x = y ∧ Gl X y ∧ X.mg y = none := by
  obtain ⟨h1, h2⟩ := and2 q
  have e : x = y := of_decide_eq_true h1
  subst e
  exact ⟨rfl, (h.gl h2).1, h.blt _ hy⟩
theorem XOk.var (h : XOk T cl Φ k W S X) {i : Nat} {x : Str} {pos : Pos} (q : okV S i x = true) : PE X (.Name x pos) (tVar i) := by
  obtain ⟨q1, h4⟩ := and2 q
  obtain ⟨q2, h3⟩ := and2 q1
  obtain ⟨h1, h2⟩ := and2 q2
  refine pe_var (by rw [h.hN]; exact of_decide_eq_true h1) ?_ (by simpa using h3) (by simpa using h4)
  unfold Vis
  rw [h.hsc]
  unfold isVis at h2
  split at h2
  · exact .inl (by assumption)
  · exact .inr (.inl (by assumption))
  · exact .inr (.inr (by assumption))
  · cases h2
theorem XOk.loc (h : XOk T cl Φ k W S X) {i : Nat} {x : Str} (q : okL S i x = true) : X.N[i]? = some x ∧ L2.Loc X.env.scope x ∧ (X.fn x = true ∨ X.env.scope.names.lookup x = some .local) := by
  obtain ⟨h1, h2⟩ := and2 q
  refine ⟨by rw [h.hN]; exact of_decide_eq_true h1, ?_⟩
  unfold L2.Loc
  rw [h.hsc, h.hfn]
  rw [Bool.or_eq_true] at h2
  rcases h2 with h2 | h2
  · unfold isLo at h2
    split at h2
    · exact ⟨.inl (by assumption), .inr (by assumption)⟩
    · cases h2
  · obtain ⟨h3, h4⟩ := and2 h2
    unfold isCe at h3
    split at h3
    · exact ⟨.inr (by assumption), .inl h4⟩
    · cases h3
theorem XOk.ndX (h : XOk T cl Φ k W S X) : X.N.Nodup := by
  rw [h.hN]
  exact h.nd
theorem XOk.units (h : XOk T cl Φ k W S X) : X.A.units + 65 < cLine := by
  have := h.room.un
  omega
/-! ### names and constants -/
theorem snd_var (h : XOk T cl Φ k W S X) {i : Nat} {x : Str} {pos : Pos} (q : okV S i x = true) : PE X (.Name x pos) (tE X.K cl W Φ (.var i)) := by
  refine impE (h.var q) fun σ H Q hq => ?_
  obtain ⟨F, da, r, g, Rr, p⟩ := hq
  cases e : r[i]? with
  | none => simp only [evE, e] at p; exact p.elim
  | some c =>
    have sl := Rr.slot i c e
    cases c with
    | val d =>
      simp only [evE, e] at p
      obtain ⟨v, e1, rp⟩ := sl
      exact ⟨v, e1, p v F H (Nx.refl Rr.sub Rr.gok) rp⟩
    | _ => simp only [evE, e] at p; exact p.elim
theorem snd_varC (h : XOk T cl Φ k W S X) {i : Nat} {x : Str} {pos : Pos} (q : okV S i x = true) : PE X (.Name x pos) (tC X.K cl W Φ (.var i)) := by
  refine impE (h.var q) fun σ H Q hq => ?_
  obtain ⟨F, da, r, g, Rr, p⟩ := hq
  cases e : r[i]? with
  | none => simp only [evC, own?, evE, e] at p; exact p.elim
  | some c =>
    have sl := Rr.slot i c e
    cases c with
    | val d =>
      simp only [evC, own?, evE, e] at p
      obtain ⟨v, e1, rp⟩ := sl
      exact ⟨v, e1, p v F H (Nx.refl Rr.sub Rr.gok) (.inl rp)⟩
    | own ds =>
      simp only [evC, own?, evE, e] at p
      obtain ⟨a, e1, ow⟩ := sl
      exact ⟨.ref a, e1, p _ F H (Nx.refl Rr.sub Rr.gok) (.inr ⟨a, ds, rfl, rfl, ow⟩)⟩
    | _ => simp only [evC, own?, evE, e] at p; exact p.elim
theorem post_weak {σ : St} {da : DA} {F H : Hp} {Q : VK} {x : R D} (h : Post cl W σ relC da F H Q x) : Post cl W σ relE da F H Q x := by
  cases x with
  | ok d g => exact fun v F' H' n r => h v F' H' n (.inl r)
  | exc c g => exact h
  | bad => exact h
/-- what may be a datum may be read -/
theorem to_C (h : XOk T cl Φ k W S X) {a : E} {x : Expr} (q : okE T a S x = true) (p : PE X x (tE X.K cl W Φ a)) : PE X x (tC X.K cl W Φ a) := by
  cases a with
  | var i =>
    simp only [okE] at q
    split at q
    · exact snd_varC h q
    · cases q
  | _ =>
    refine impE p fun σ H Q hq => ?_
    obtain ⟨F, da, r, g, Rr, z⟩ := hq
    exact ⟨F, da, r, g, Rr, post_weak z⟩
theorem const_ok {d : D} {c : Const} {j : Nat} {pos : Pos} (q : okC d c = true) : ∃ v, PE X (.Constant c j pos) (L2.tC v) ∧ ∀ F, Rp F v d := by
  cases d with
  | none => cases c <;> first | exact ⟨.non, pe_non, fun _ => .non⟩ | simp [okC] at q
  | bool b =>
    cases c with
    | bool b' =>
      have e : b = b' := by simpa [okC] using q
      subst e
      exact ⟨.bl b, pe_bl, fun _ => .bl b⟩
    | _ => simp [okC] at q
  | int b =>
    cases c with
    | int b' =>
      have e : b = b' := by simpa [okC] using q
      subst e
      exact ⟨.int b, pe_int, fun _ => .int b⟩
    | _ => simp [okC] at q
  | str b =>
    cases c with
    | str b' =>
      simp only [okC, Bool.and_eq_true, decide_eq_true_eq] at q
      obtain ⟨⟨e, h1⟩, h2⟩ := q
      subst e
      exact ⟨.str b, pe_str, fun _ => .str b h1 h2⟩
    | _ => simp [okC] at q
  | _ => cases c <;> simp [okC] at q
theorem snd_con {d : D} {c : Const} {j : Nat} {pos : Pos} (q : okC d c = true) : PE X (.Constant c j pos) (tE X.K cl W Φ (.con d)) := by
  obtain ⟨v, p, rp⟩ := const_ok (X := X) (j := j) (pos := pos) q
  refine impE p fun σ H Q hq => ?_
  obtain ⟨F, da, r, g, Rr, p⟩ := hq
  exact p v F H (Nx.refl Rr.sub Rr.gok) (rp F)
theorem snd_glo (h : XOk T cl Φ k W S X) {n : Nat} {d : D} {x : Str} {pos : Pos} (q : (okG S x && T.gs.any fun p => decide (p.1 = x) && sameC d p.2) = true) : PE X (.Name x pos) (tE X.K cl W Φ (.glo n d)) := by
  obtain ⟨q1, q2⟩ := and2 q
  obtain ⟨p, hp, q2⟩ := List.any_eq_true.mp q2
  obtain ⟨q3, q4⟩ := and2 q2
  have e1 : p.1 = x := of_decide_eq_true q3
  obtain ⟨v, u, h1, h2, h3⟩ := h.glo p hp
  rw [e1] at h1
  have ed : d = p.2 := by
    obtain ⟨p1, p2⟩ := p
    cases d <;> cases p2 <;> simp [sameC] at q4 <;> simp [q4]
  obtain ⟨g1, g2⟩ := h.gl q1
  refine impE (pe_glob g1 h1 h2 g2) fun σ H Q hq => ?_
  obtain ⟨F, da, r, g, Rr, p⟩ := hq
  have p : Post cl W σ relE da F H Q (.ok d g) := p
  rw [ed] at p
  exact p v F H (Nx.refl Rr.sub Rr.gok) (h3 F)
/-! ### one operand -/
theorem snd_un (h : XOk T cl Φ k W S X) {o : Un} {a : E} {x : Expr} (ih : ∀ y, okE T a S y = true → PE X y (tC X.K cl W Φ a)) (q : okU o (fun y => okE T a S y) S x = true) : PE X x (tE X.K cl W Φ (.un o a)) := by
  unfold okU at q
  split at q
  · exact impE (pe_un un_neg (ih _ q)) fun σ H Q hq => rd_un s1_neg hq
  · exact impE (pe_not (ih _ q)) fun σ H Q hq => rd_un s1_not hq
  · obtain ⟨q1, q3⟩ := and2 q
    obtain ⟨q1, q2⟩ := and2 q1
    obtain ⟨rfl, g, m⟩ := h.bl q1 (by decide +kernel)
    exact impE (pe_callB call_len g m boot_len (pa_cons (ih _ q3) pa_nil (star_ok q2)) (he := star_ok q2)) fun σ H Q hq => rd_un (s1_len (K := X.K)) hq
  · obtain ⟨q1, q4⟩ := and2 q
    obtain ⟨q1, q3⟩ := and2 q1
    obtain ⟨q1, q2⟩ := and2 q1
    obtain ⟨rfl, g, m⟩ := h.bl q1 (by decide +kernel)
    obtain ⟨rfl, g', m'⟩ := h.bl q2 (by decide +kernel)
    exact impE (pe_lenSet1 h.calm g m g' m' (ih _ q4) (star_ok q3)) fun σ H Q hq => rd_un (s1_lenset (K := X.K)) hq
  · obtain ⟨q1, q4⟩ := and2 q
    obtain ⟨q1, q3⟩ := and2 q1
    obtain ⟨q1, q2⟩ := and2 q1
    obtain ⟨rfl, g, m⟩ := h.bl q1 (by decide +kernel)
    obtain ⟨rfl, g', m'⟩ := h.bl q2 (by decide +kernel)
    exact impE (pe_sortedSet2 h.calm (by have := h.units; omega) g m g' m' (ih _ q4) (star_ok q3)) fun σ H Q hq => rd_un (s1_sortedset (K := X.K)) hq
  · obtain ⟨q1, q3⟩ := and2 q
    obtain ⟨q1, q2⟩ := and2 q1
    obtain ⟨rfl, g, m⟩ := h.bl q1 (by decide +kernel)
    exact impE (pe_callB (cr_sum h.calm) g m boot_sum (pa_cons (ih _ q3) pa_nil (star_ok q2)) (he := star_ok q2)) fun σ H Q hq => rd_un (s1_sum (K := X.K)) hq
  · obtain ⟨q1, q3⟩ := and2 q
    obtain ⟨q1, q2⟩ := and2 q1
    obtain ⟨rfl, g, m⟩ := h.bl q1 (by decide +kernel)
    exact impE (pe_callB (cr_min h.calm) g m boot_min (pa_cons (ih _ q3) pa_nil (star_ok q2)) (he := star_ok q2)) fun σ H Q hq => rd_un (s1_min (K := X.K)) hq
  · obtain ⟨q1, q3⟩ := and2 q
    obtain ⟨q1, q2⟩ := and2 q1
    obtain ⟨rfl, g, m⟩ := h.bl q1 (by decide +kernel)
    refine impE (pe_callB (cr_minS h.calm (by have := h.units; omega)) g m boot_min (pa_cons (ih _ q3) pa_nil (star_ok q2)) (he := star_ok q2)) fun σ H Q hq => ?_
    have z := rd_un (s1_minS (K := X.K)) hq
    obtain ⟨F, da, r, g, Rr, z⟩ := z
    refine ⟨F, da, r, g, Rr, Post.imp z fun v H1 z => ⟨v, rfl, z⟩⟩
  · obtain ⟨q1, q3⟩ := and2 q
    obtain ⟨q1, q2⟩ := and2 q1
    obtain ⟨rfl, g, m⟩ := h.bl q1 (by decide +kernel)
    exact impE (pe_callB (cr_max h.calm) g m boot_max (pa_cons (ih _ q3) pa_nil (star_ok q2)) (he := star_ok q2)) fun σ H Q hq => rd_un (s1_max (K := X.K)) hq
  · obtain ⟨q1, q3⟩ := and2 q
    obtain ⟨q1, q2⟩ := and2 q1
    obtain ⟨rfl, g, m⟩ := h.bl q1 (by decide +kernel)
    refine impE (pe_callB (cr_sortD (by have := h.units; omega)) g m boot_sorted (pa_cons (ih _ q3) pa_nil (star_ok q2)) (he := star_ok q2)) fun σ H Q hq => ?_
    have z := rd_un (s1_sorted (K := X.K)) hq
    obtain ⟨F, da, r, g, Rr, z⟩ := z
    refine ⟨F, da, r, g, Rr, Post.imp z fun v H1 z => ⟨v, rfl, z⟩⟩
  · obtain ⟨q1, q3⟩ := and2 q
    obtain ⟨q1, q2⟩ := and2 q1
    obtain ⟨rfl, g, m⟩ := h.bl q1 (by decide +kernel)
    exact impE (pe_callB (cr_all h.calm) g m boot_all (pa_cons (ih _ q3) pa_nil (star_ok q2)) (he := star_ok q2)) fun σ H Q hq => rd_un (s1_all (K := X.K)) hq
  · obtain ⟨q1, q3⟩ := and2 q
    obtain ⟨q1, q2⟩ := and2 q1
    obtain ⟨rfl, g, m⟩ := h.bl q1 (by decide +kernel)
    exact impE (pe_callB (cr_any h.calm) g m boot_any (pa_cons (ih _ q3) pa_nil (star_ok q2)) (he := star_ok q2)) fun σ H Q hq => rd_un (s1_any (K := X.K)) hq
  · obtain ⟨q1, q3⟩ := and2 q
    obtain ⟨q1, q2⟩ := and2 q1
    obtain ⟨rfl, g, m⟩ := h.bl q1 (by decide +kernel)
    exact impE (pe_callB call_abs g m boot_abs (pa_cons (ih _ q3) pa_nil (star_ok q2)) (he := star_ok q2)) fun σ H Q hq => rd_un s1_abs hq
  · obtain ⟨q1, q3⟩ := and2 q
    obtain ⟨q1, q2⟩ := and2 q1
    obtain ⟨rfl, g, m⟩ := h.bl q1 (by decide +kernel)
    exact impE (pe_callTy call_str_int g m boot_str (pa_cons (ih _ q3) pa_nil (star_ok q2)) (he := star_ok q2)) fun σ H Q hq => rd_un s1_str hq
  · obtain ⟨q1, q3⟩ := and2 q
    obtain ⟨q1, q2⟩ := and2 q1
    obtain ⟨rfl, g, m⟩ := h.bl q1 (by decide +kernel)
    exact impE (pe_callTy call_int_str g m boot_int (pa_cons (ih _ q3) pa_nil (star_ok q2)) (he := star_ok q2)) fun σ H Q hq => rd_un s1_int hq
  · obtain ⟨q1, q3⟩ := and2 q
    obtain ⟨q1, q2⟩ := and2 q1
    obtain ⟨rfl, g, m⟩ := h.bl q1 (by decide +kernel)
    exact impE (pe_callTy call_list_of g m boot_list (pa_cons (ih _ q3) pa_nil (star_ok q2)) (he := star_ok q2)) fun σ H Q hq => rd_un (s1_list (K := X.K)) hq
  · obtain ⟨q1, q3⟩ := and2 q
    obtain ⟨q1, q2⟩ := and2 q1
    obtain ⟨rfl, g, m⟩ := h.bl q1 (by decide +kernel)
    exact impE (pe_callTy (cr_lstr h.calm) g m boot_list (pa_cons (ih _ q3) pa_nil (star_ok q2)) (he := star_ok q2)) fun σ H Q hq => rd_un s1_lstr hq
  · obtain ⟨q1, q3⟩ := and2 q
    obtain ⟨q1, q2⟩ := and2 q1
    obtain ⟨rfl, g, m⟩ := h.bl q1 (by decide +kernel)
    exact impE (pe_callTy call_tuple_of g m boot_tuple (pa_cons (ih _ q3) pa_nil (star_ok q2)) (he := star_ok q2)) fun σ H Q hq => rd_un (s1_tuple (K := X.K)) hq
  · obtain ⟨q1, q4⟩ := and2 q
    obtain ⟨q1, q3⟩ := and2 q1
    obtain ⟨q1, q2⟩ := and2 q1
    obtain ⟨rfl, g, m⟩ := h.bl q1 (by decide +kernel)
    obtain ⟨rfl, g', m'⟩ := h.bl q2 (by decide +kernel)
    exact impE (pe_listRg h.calm g m (prg_1 g' m' (ih _ q4) (star_ok q3))) fun σ H Q hq => rd_un s1_lrange hq
  · obtain ⟨q1, q2⟩ := and2 q
    have e := of_decide_eq_true q1
    subst e
    exact impE (pe_revL (ih _ q2)) fun σ H Q hq => rd_un (s1_rev (K := X.K)) hq
  · cases q
end
end Tl
end
section
set_option Elab.async false
set_option linter.all false
set_option autoImplicit false
set_option maxRecDepth 100000
namespace Tl
open PySem PySem.Spec PyProof.Rows L2
section
variable {T : Tab} {cl : Cls} {Φ : Nat → Fn} {k : Nat} {W : WX} {S : Stat} {X : Cx}
/-! ### index -/
theorem findIdx_spec {α : Type} {p : α → Bool} : ∀ {l : List α} {j : Nat}, l.findIdx? p = some j → (∃ z, l[j]? = some z ∧ p z = true) ∧ ∀ (m : Nat) (z : α), m < j → l[m]? = some z → p z = false := by
  intro l j h
  obtain ⟨hj, h1, h2⟩ := List.findIdx?_eq_some_iff_getElem.mp h
  refine ⟨⟨l[j], List.getElem?_eq_getElem hj, h1⟩, fun m z hm e => ?_⟩
  have := h2 m hm
  have hml : m < l.length := Nat.lt_trans hm hj
  rw [List.getElem?_eq_getElem hml] at e
  cases e
  simpa using this
theorem s2_index {K : PySem.W.Frag} : S2 .index (fun x y H Q => rIndexD K x [y] H Q) := by
  intro F H da x y d e dz Q s c1 c2 q kk
  cases d with
  | list ds =>
    have q' : (indexD ds e).map (fun j => PyData.int (j : Nat)) = some dz := by cases e <;> exact q
    unfold indexD at q'
    split at q'
    · rename_i hs
      rw [Bool.and_eq_true] at hs
      cases qq : ds.findIdx? (fun z => PyData.eqv z e) with
      | none => rw [qq] at q'; cases q'
      | some j =>
        rw [qq] at q'
        cases q'
        obtain ⟨⟨z, h1, h2⟩, h3⟩ := findIdx_spec qq
        obtain ⟨a, us, g1, g2, g3, g4⟩ := c1.list s
        subst g1
        exact ⟨a, y, e, ds, j, z, rfl, rfl, c1.dp s, c2.dp s, shp_shaped c1.lay hs.2, shp_shaped c2.lay hs.1, h1, h2, h3, kk _ _ _ (Al.refl s) (.int _)⟩
    · cases q'
  | _ => cases e <;> simp [bop] at q
theorem s2_count {K : PySem.W.Frag} : S2 .count (fun x y H Q => rCountD K x [y] H Q) := by
  intro F H da x y d e dz Q s c1 c2 q kk
  cases d with
  | list ds =>
    have q' : (if shp e && shp (.list ds) then some (PyData.int (ds.countP fun z => PyData.eqv z e : Nat)) else none) = some dz := by cases e <;> exact q
    split at q'
    · rename_i hs
      rw [Bool.and_eq_true] at hs
      cases q'
      obtain ⟨a, us, g1, g2, g3, g4⟩ := c1.list s
      subst g1
      exact ⟨a, y, e, ds, rfl, rfl, c1.dp s, c2.dp s, shp_shaped c1.lay hs.2, shp_shaped c2.lay hs.1, kk _ _ _ (Al.refl s) (.int _)⟩
    · cases q'
  | _ => cases e <;> simp [bop] at q
/-! ### two operands -/
theorem opR_cmp (h : XOk T cl Φ k W S X) {o : Bi} {op : CmpOp} (q : okCmp o op = true) : ∃ r, OpR X (compareOp op) r ∧ S2 o r := by
  have hu := h.units
  unfold okCmp at q
  split at q
  · exact ⟨_, op_eqD (by omega), s2_eq⟩
  · exact ⟨_, op_neD (by omega), s2_ne⟩
  · exact ⟨_, op_ltD (by omega), s2_ltD⟩
  · exact ⟨_, op_le, s2_le⟩
  · exact ⟨_, op_gt, s2_gt⟩
  · exact ⟨_, op_ge, s2_ge⟩
  · exact ⟨_, op_inD hu, s2_in⟩
  · exact ⟨_, op_in_sign, s2_instr⟩
  · exact ⟨_, op_notInD hu, s2_notin⟩
  · cases q
theorem opR_bin {o : Bi} {op : Operator} (q : okOp o op = true) : ∃ r, OpR X (binaryOp op) r ∧ S2 o r := by
  unfold okOp at q
  split at q
  · exact ⟨_, op_addA, s2_add⟩
  · exact ⟨_, op_sub, s2_sub⟩
  · exact ⟨_, op_mulA, s2_mul⟩
  · exact ⟨_, op_fdiv, s2_fdiv⟩
  · exact ⟨_, op_mod, s2_mod⟩
  · cases q
theorem rd_sl {o : Bi} {f : Int → Option Int × Option Int} {r3 : V → Option Int → Option Int → Hp → VK → Prop} (s3 : S3 o f r3) {a b : E} {σ : St} {H : Hp} {Q : VK} (h : tE X.K cl W Φ (.bi o a b) σ H Q) :
    tC X.K cl W Φ a σ H (fun x H1 => tC X.K cl W Φ b σ H1 fun y H2 => ∃ i, y = .int i ∧ r3 x (f i).1 (f i).2 H2 Q) := by
  have s2 : S2 o (fun x y H Q => ∃ i, y = .int i ∧ r3 x (f i).1 (f i).2 H Q) := s3
  exact rd_bi s2 h
theorem snd_bi (h : XOk T cl Φ k W S X) {o : Bi} {a b : E} {x : Expr} (ia : ∀ y, okE T a S y = true → PE X y (tC X.K cl W Φ a)) (ib : ∀ y, okE T b S y = true → PE X y (tC X.K cl W Φ b))
    (q : okBi o (fun y => okE T a S y) (fun y => okE T b S y) S x = true) : PE X x (tE X.K cl W Φ (.bi o a b)) := by
  unfold okBi at q
  split at q
  · obtain ⟨q1, q3⟩ := and2 q
    obtain ⟨q1, q2⟩ := and2 q1
    obtain ⟨r, h1, h2⟩ := opR_bin (X := X) q1
    exact impE (pe_op h1 (ia _ q2) (ib _ q3)) fun σ H Q hq => rd_bi h2 hq
  · obtain ⟨q1, q4⟩ := and2 q
    obtain ⟨q1, q3⟩ := and2 q1
    obtain ⟨q1, q2⟩ := and2 q1
    obtain ⟨r, h1, h2⟩ := opR_cmp h q1
    exact impE (pe_cmpR h1 (ia _ q3) (ib _ q4) (behind_ok q2)) fun σ H Q hq => rd_bi h2 hq
  · obtain ⟨q1, q3⟩ := and2 q
    obtain ⟨q1, q2⟩ := and2 q1
    have e := of_decide_eq_true q1
    subst e
    exact impE (pe_slice sl_A (ia _ q2) po_none (po_some (ib _ q3))) fun σ H Q hq => rd_sl s3_upto hq
  · obtain ⟨q1, q3⟩ := and2 q
    obtain ⟨q1, q2⟩ := and2 q1
    have e := of_decide_eq_true q1
    subst e
    exact impE (pe_slice sl_A (ia _ q2) (po_some (ib _ q3)) po_none) fun σ H Q hq => rd_sl s3_from hq
  · obtain ⟨q1, q4⟩ := and2 q
    obtain ⟨q1, q3⟩ := and2 q1
    obtain ⟨q1, q2⟩ := and2 q1
    have e := of_decide_eq_true q1
    subst e
    exact impE (pe_ix ix_seq (ia _ q3) (ib _ q4) (slice_ok q2)) fun σ H Q hq => rd_bi s2_idx hq
  · obtain ⟨q1, q5⟩ := and2 q
    obtain ⟨q1, q4⟩ := and2 q1
    obtain ⟨q1, q3⟩ := and2 q1
    obtain ⟨q1, q2⟩ := and2 q1
    rw [Bool.or_eq_true] at q1
    rcases q1 with q1 | q1
    · obtain ⟨q1, q6⟩ := and2 q1
      have e := of_decide_eq_true q1
      subst e
      obtain ⟨rfl, g, m⟩ := h.bl q6 (by decide +kernel)
      exact impE (pe_callB (call_min2 h.calm) g m boot_min (pa_cons (ia _ q4) (pa_cons (ib _ q5) pa_nil (star_ok q3)) (star_ok q2)) (he := star_ok q2) (hpl := stars_ok (by simp [q3]))) fun σ H Q hq => rd_bi s2_min2 hq
    · obtain ⟨q1, q6⟩ := and2 q1
      have e := of_decide_eq_true q1
      subst e
      obtain ⟨rfl, g, m⟩ := h.bl q6 (by decide +kernel)
      exact impE (pe_callB (call_max2 h.calm) g m boot_max (pa_cons (ia _ q4) (pa_cons (ib _ q5) pa_nil (star_ok q3)) (star_ok q2)) (he := star_ok q2) (hpl := stars_ok (by simp [q3]))) fun σ H Q hq => rd_bi s2_max2 hq
  · obtain ⟨q1, q7⟩ := and2 q
    obtain ⟨q1, q6⟩ := and2 q1
    obtain ⟨q1, q5⟩ := and2 q1
    obtain ⟨q1, q4⟩ := and2 q1
    obtain ⟨q1, q3⟩ := and2 q1
    rw [Bool.or_eq_true, Bool.or_eq_true, Bool.or_eq_true] at q1
    rcases q1 with ((q1 | q1) | q1) | q1
    · obtain ⟨q1, q2⟩ := and2 q1
      have e := of_decide_eq_true q1
      subst e
      have e := of_decide_eq_true q2
      subst e
      refine impE (pe_bm PySem.F.plainAttrs_list PySem.F.slot_list_index PySem.F.type_list_index (mt_indexD h.units) (ia _ q6) (pa_cons (ib _ q7) pa_nil (star_ok q5)) (base_ok q4) (by rw [star_ok q5]; rfl) q3 (star_ok q5) rfl) fun σ H Q hq => ?_
      obtain ⟨F, da, r, g, Rr, z⟩ := hq
      have z : Post cl W σ relE da F H Q ((evC Φ a r g).bind fun x g => match preB .index x with
        | true => (evC Φ b r g).bind fun y g => R.of g (bop .index x y)
        | false => .bad) := z
      refine ⟨F, da, r, g, Rr, Post.bind z fun d g1 v F1 H1 n c p => ?_⟩
      have hl : ∃ ds, d = .list ds := by
        cases d with
        | list ds => exact ⟨ds, rfl⟩
        | _ => exact False.elim p
      obtain ⟨ds, rfl⟩ := hl
      obtain ⟨aa, us, g1', g2', g3', g4'⟩ := c.list n.sub
      subst g1'
      refine ⟨.inl ⟨rfl, us, .inl (.inl g2')⟩, F1, da, r, g1, Rr.nx n, Post.bind p fun e g2 u F2 H2 n2 c2 q2 => ?_⟩
      obtain ⟨dz, e3, kk⟩ := Post.al n2.gok q2
      exact s2_index F2 H2 da _ u _ e dz Q n2.sub (c.nx n2) c2 e3 kk
    · obtain ⟨q1, q2⟩ := and2 q1
      have e := of_decide_eq_true q1
      subst e
      have e := of_decide_eq_true q2
      subst e
      refine impE (pe_bm PySem.F.plainAttrs_list PySem.F.slot_list_count PySem.F.type_list_count (mt_countD h.units) (ia _ q6) (pa_cons (ib _ q7) pa_nil (star_ok q5)) (base_ok q4) (by rw [star_ok q5]; rfl) q3 (star_ok q5) rfl) fun σ H Q hq => ?_
      obtain ⟨F, da, r, g, Rr, z⟩ := hq
      have z : Post cl W σ relE da F H Q ((evC Φ a r g).bind fun x g => match preB .count x with
        | true => (evC Φ b r g).bind fun y g => R.of g (bop .count x y)
        | false => .bad) := z
      refine ⟨F, da, r, g, Rr, Post.bind z fun d g1 v F1 H1 n c p => ?_⟩
      have hl : ∃ ds, d = .list ds := by
        cases d with
        | list ds => exact ⟨ds, rfl⟩
        | _ => exact False.elim p
      obtain ⟨ds, rfl⟩ := hl
      obtain ⟨aa, us, g1', g2', g3', g4'⟩ := c.list n.sub
      subst g1'
      refine ⟨.inl ⟨rfl, us, .inl (.inl g2')⟩, F1, da, r, g1, Rr.nx n, Post.bind p fun e g2 u F2 H2 n2 c2 q2 => ?_⟩
      obtain ⟨dz, e3, kk⟩ := Post.al n2.gok q2
      exact s2_count F2 H2 da _ u _ e dz Q n2.sub (c.nx n2) c2 e3 kk
    · obtain ⟨q1, q2⟩ := and2 q1
      have e := of_decide_eq_true q1
      subst e
      have e := of_decide_eq_true q2
      subst e
      refine impE (pe_m1 PySem.F.slot_str_join PySem.F.type_str_join mt_join (ia _ q6) (ib _ q7) (star_ok q5) (base_ok q4) q3) fun σ H Q hq => ?_
      obtain ⟨F, da, r, g, Rr, z⟩ := hq
      have z : Post cl W σ relE da F H Q ((evC Φ a r g).bind fun x g => match preB .join x with
        | true => (evC Φ b r g).bind fun y g => R.of g (bop .join x y)
        | false => .bad) := z
      refine ⟨F, da, r, g, Rr, Post.bind z fun d g1 v F1 H1 n c p => ?_⟩
      have hl : ∃ a, d = .str a := by
        cases d with
        | str a => exact ⟨a, rfl⟩
        | _ => exact False.elim p
      obtain ⟨sa, rfl⟩ := hl
      obtain ⟨g1', g2', g3'⟩ := cp_str c
      subst g1'
      refine ⟨⟨sa, rfl⟩, F1, da, r, g1, Rr.nx n, Post.bind p fun e g2 u F2 H2 n2 c2 q2 => ?_⟩
      obtain ⟨dz, e3, kk⟩ := Post.al n2.gok q2
      exact s2_join F2 H2 da _ u _ e dz Q n2.sub (c.nx n2) c2 e3 kk
    · obtain ⟨q1, q2⟩ := and2 q1
      have e := of_decide_eq_true q1
      subst e
      have e := of_decide_eq_true q2
      subst e
      refine impE (pe_m1 PySem.F.slot_str_split PySem.F.type_str_split mt_split (ia _ q6) (ib _ q7) (star_ok q5) (base_ok q4) q3) fun σ H Q hq => ?_
      obtain ⟨F, da, r, g, Rr, z⟩ := hq
      have z : Post cl W σ relE da F H Q ((evC Φ a r g).bind fun x g => match preB .split x with
        | true => (evC Φ b r g).bind fun y g => R.of g (bop .split x y)
        | false => .bad) := z
      refine ⟨F, da, r, g, Rr, Post.bind z fun d g1 v F1 H1 n c p => ?_⟩
      have hl : ∃ a, d = .str a := by
        cases d with
        | str a => exact ⟨a, rfl⟩
        | _ => exact False.elim p
      obtain ⟨sa, rfl⟩ := hl
      obtain ⟨g1', g2', g3'⟩ := cp_str c
      subst g1'
      refine ⟨⟨sa, rfl⟩, F1, da, r, g1, Rr.nx n, Post.bind p fun e g2 u F2 H2 n2 c2 q2 => ?_⟩
      obtain ⟨dz, e3, kk⟩ := Post.al n2.gok q2
      exact s2_split F2 H2 da _ u _ e dz Q n2.sub (c.nx n2) c2 e3 kk
  · cases q
end
end Tl
end
section
set_option Elab.async false
set_option linter.all false
set_option autoImplicit false
set_option maxRecDepth 100000
namespace Tl
open PySem PySem.Spec PyProof.Rows L2
section
variable {T : Tab} {cl : Cls} {Φ : Nat → Fn} {k : Nat} {W : WX} {S : Stat} {X : Cx} {K : PySem.W.Frag}
/-! ### tests -/
theorem tT_tE {e : E} {σ : St} {H : Hp} {Q : Bool → Hp → Prop} (h : tT K cl W Φ e σ H Q) : tE K cl W Φ e σ H (fun x H' => ∃ c, x = .bl c ∧ Q c H') := by
  obtain ⟨F, da, r, g, Rr, z⟩ := h
  have z : Post cl W σ relT da F H Q ((evE Φ e r g).bind fun k g => R.of g (bl? k)) := z
  refine ⟨F, da, r, g, Rr, ?_⟩
  cases q : evE Φ e r g with
  | ok d g1 =>
    rw [q] at z
    intro v F' H' n rp
    cases d with
    | bool b =>
      have z : Post cl W σ relT da F H Q (.ok b g1) := z
      cases rp
      exact ⟨b, rfl, z b F' H' n rfl⟩
    | _ => exact False.elim z
  | exc c g1 => rw [q] at z; exact z
  | bad => rw [q] at z; exact z
theorem pt_bool {op : BoolOp} {vs : List Expr} {p : Pos} {t : TT} (h : PT X (.BoolOp op vs p) t) : PW X (.BoolOp op vs p) t := ⟨fun whole pins s σ H Q I q => by
  have z := h.run pins s σ H Q I q
  have e : isTrue (.BoolOp op vs p) X.env whole = isTrue (.BoolOp op vs p) X.env (eval (.BoolOp op vs p) X.env) := rfl
  rw [e]
  exact z⟩
/-- a test from a value -/
theorem pt_of {e : E} {x : Expr} (p : PE X x (tE X.K cl W Φ e)) (h : plainT x = true) : PT X x (tT X.K cl W Φ e) := impT (pt_val p (plain_ok h)) fun σ H Q hq => tT_tE hq
theorem rd_notT {a : E} {σ : St} {H : Hp} {Q : Bool → Hp → Prop} (h : tT K cl W Φ (.un .notv a) σ H Q) : tT K cl W Φ a σ H (fun c H1 => Q (!c) H1) := by
  obtain ⟨F, da, r, g, Rr, z⟩ := h
  have z : Post cl W σ relT da F H Q (((evC Φ a r g).bind fun d g => R.of g (uop .notv d)).bind fun k g => R.of g (bl? k)) := z
  refine ⟨F, da, r, g, Rr, ?_⟩
  show Post cl W σ relT da F H _ ((evE Φ a r g).bind fun k g => R.of g (bl? k))
  have ec : evC Φ a r g = evE Φ a r g ∨ ∃ ds, evC Φ a r g = .ok (.list ds) g := by
    unfold evC
    cases q : own? a r with
    | none => exact .inl rfl
    | some d =>
      unfold own? at q
      split at q
      · split at q
        · cases q; exact .inr ⟨_, rfl⟩
        · cases q
      · cases q
  rcases ec with ec | ⟨ds, ec⟩
  · rw [ec] at z
    cases q : evE Φ a r g with
    | ok d g1 =>
      rw [q] at z
      cases d with
      | bool b =>
        have z : Post cl W σ relT da F H Q (.ok (!b) g1) := z
        exact fun v F' H' n e => z (!v) F' H' n (by rw [e])
      | _ => exact False.elim z
    | exc c g1 => rw [q] at z; exact z
    | bad => rw [q] at z; exact z
  · rw [ec] at z
    exact False.elim z
theorem rd_andT {a b : E} {σ : St} {H : Hp} {Q : Bool → Hp → Prop} (h : tT K cl W Φ (.and a b) σ H Q) : tT K cl W Φ a σ H (fun c H1 => if c = true then tT K cl W Φ b σ H1 Q else Q false H1) := by
  obtain ⟨F, da, r, g, Rr, z⟩ := h
  have z : Post cl W σ relT da F H Q (((evE Φ a r g).bind fun x g => match x with
    | .bool true => evE Φ b r g
    | .bool false => .ok (.bool false) g
    | _ => .bad).bind fun k g => R.of g (bl? k)) := z
  refine ⟨F, da, r, g, Rr, ?_⟩
  show Post cl W σ relT da F H _ ((evE Φ a r g).bind fun k g => R.of g (bl? k))
  cases q : evE Φ a r g with
  | ok d g1 =>
    rw [q] at z
    cases d with
    | bool c =>
      cases c with
      | true =>
        intro v F' H' n e
        have e : v = true := e
        subst e
        rw [if_pos rfl]
        exact ⟨F', da, r, g1, Rr.nx n, Post.nx n z⟩
      | false =>
        intro v F' H' n e
        have e : v = false := e
        subst e
        rw [if_neg Bool.false_ne_true]
        exact z false F' H' n rfl
    | _ => exact False.elim z
  | exc c g1 => rw [q] at z; exact z
  | bad => rw [q] at z; exact z
theorem rd_orT {a b : E} {σ : St} {H : Hp} {Q : Bool → Hp → Prop} (h : tT K cl W Φ (.or a b) σ H Q) : tT K cl W Φ a σ H (fun c H1 => if c = true then Q true H1 else tT K cl W Φ b σ H1 Q) := by
  obtain ⟨F, da, r, g, Rr, z⟩ := h
  have z : Post cl W σ relT da F H Q (((evE Φ a r g).bind fun x g => match x with
    | .bool true => .ok (.bool true) g
    | .bool false => evE Φ b r g
    | _ => .bad).bind fun k g => R.of g (bl? k)) := z
  refine ⟨F, da, r, g, Rr, ?_⟩
  show Post cl W σ relT da F H _ ((evE Φ a r g).bind fun k g => R.of g (bl? k))
  cases q : evE Φ a r g with
  | ok d g1 =>
    rw [q] at z
    cases d with
    | bool c =>
      cases c with
      | false =>
        intro v F' H' n e
        have e : v = false := e
        subst e
        rw [if_neg Bool.false_ne_true]
        exact ⟨F', da, r, g1, Rr.nx n, Post.nx n z⟩
      | true =>
        intro v F' H' n e
        have e : v = true := e
        subst e
        rw [if_pos rfl]
        exact z true F' H' n rfl
    | _ => exact False.elim z
  | exc c g1 => rw [q] at z; exact z
  | bad => rw [q] at z; exact z
/-! ### values: and, or, if, chains, is -/
theorem rd_and {a b : E} {σ : St} {H : Hp} {Q : VK} (h : tE K cl W Φ (.and a b) σ H Q) : tE K cl W Φ a σ H (fun x H1 => ∃ c, x = .bl c ∧ if c = true then tE K cl W Φ b σ H1 Q else Q (.bl false) H1) := by
  obtain ⟨F, da, r, g, Rr, z⟩ := h
  refine ⟨F, da, r, g, Rr, Post.bind z fun d g1 v F1 H1 n rp p => ?_⟩
  cases d with
  | bool c =>
    cases rp
    refine ⟨c, rfl, ?_⟩
    cases c with
    | true => rw [if_pos rfl]; exact ⟨F1, da, r, g1, Rr.nx n, p⟩
    | false => rw [if_neg Bool.false_ne_true]; exact p (.bl false) F1 H1 (Nx.refl n.sub n.gok) (.bl false)
  | _ => exact False.elim p
theorem rd_or {a b : E} {σ : St} {H : Hp} {Q : VK} (h : tE K cl W Φ (.or a b) σ H Q) : tE K cl W Φ a σ H (fun x H1 => ∃ c, x = .bl c ∧ if c = true then Q (.bl true) H1 else tE K cl W Φ b σ H1 Q) := by
  obtain ⟨F, da, r, g, Rr, z⟩ := h
  refine ⟨F, da, r, g, Rr, Post.bind z fun d g1 v F1 H1 n rp p => ?_⟩
  cases d with
  | bool c =>
    cases rp
    refine ⟨c, rfl, ?_⟩
    cases c with
    | false => rw [if_neg Bool.false_ne_true]; exact ⟨F1, da, r, g1, Rr.nx n, p⟩
    | true => rw [if_pos rfl]; exact p (.bl true) F1 H1 (Nx.refl n.sub n.gok) (.bl true)
  | _ => exact False.elim p
theorem rd_ite {c a b : E} {σ : St} {H : Hp} {Q : VK} (h : tE K cl W Φ (.ite c a b) σ H Q) : tT K cl W Φ c σ H (fun d H1 => if d = true then tE K cl W Φ a σ H1 Q else tE K cl W Φ b σ H1 Q) := by
  obtain ⟨F, da, r, g, Rr, z⟩ := h
  have z : Post cl W σ relE da F H Q ((evE Φ c r g).bind fun x g => match x with
    | .bool true => evE Φ a r g
    | .bool false => evE Φ b r g
    | _ => .bad) := z
  refine ⟨F, da, r, g, Rr, ?_⟩
  show Post cl W σ relT da F H _ ((evE Φ c r g).bind fun k g => R.of g (bl? k))
  cases q : evE Φ c r g with
  | ok d g1 =>
    rw [q] at z
    cases d with
    | bool c =>
      intro v F' H' n e
      have e : v = c := e
      subst e
      cases v with
      | true => rw [if_pos rfl]; exact ⟨F', da, r, g1, Rr.nx n, Post.nx n z⟩
      | false => rw [if_neg Bool.false_ne_true]; exact ⟨F', da, r, g1, Rr.nx n, Post.nx n z⟩
    | _ => exact False.elim z
  | exc c g1 => rw [q] at z; exact z
  | bad => rw [q] at z; exact z
theorem rd_le2 {a b c : E} {σ : St} {H : Hp} {Q : VK} (h : tE K cl W Φ (.le2 a b c) σ H Q) :
    tChain (rI0 fun i j => .bl (decide (i ≤ j))) (rI0 fun i j => .bl (decide (i ≤ j))) (tE K cl W Φ a) (tE K cl W Φ b) (tE K cl W Φ c) σ H Q := by
  obtain ⟨F, da, r, g, Rr, z⟩ := h
  refine ⟨F, da, r, g, Rr, Post.bind z fun d g1 v F1 H1 n rp p => ?_⟩
  refine ⟨F1, da, r, g1, Rr.nx n, Post.bind p fun e g2 u F2 H2 n2 rp2 p2 => ?_⟩
  cases d with
  | int i =>
    cases e with
    | int j =>
      cases rp
      cases rp2
      refine ⟨i, j, rfl, rfl, decide (i ≤ j), rfl, ?_⟩
      by_cases hij : i ≤ j
      · rw [if_pos (decide_eq_true hij)]
        simp only [if_pos hij] at p2
        refine ⟨F2, da, r, g2, (Rr.nx n).nx n2, Post.bind p2 fun e3 g3 w F3 H3 n3 rp3 p3 => ?_⟩
        cases e3 with
        | int l =>
          cases rp3
          exact ⟨j, l, rfl, rfl, p3 _ F3 H3 (Nx.refl n3.sub n3.gok) (.bl _)⟩
        | _ => exact False.elim p3
      · rw [if_neg (by simpa using hij)]
        simp only [if_neg hij] at p2
        exact p2 _ F2 H2 (Nx.refl n2.sub n2.gok) (.bl _)
    | _ => exact False.elim p2
  | _ => exact False.elim p2
/-! three in a row -/
abbrev rLe0 : R2 := rI0 fun i j => .bl (decide (i ≤ j))
def tChain3 (ta tb tc td : TE) : TE := fun σ H Q => ta σ H fun x H1 => tb σ H1 fun y H2 => rLe0 x y H2 fun z H3 => ∃ k, z = .bl k ∧
  (if k = true then tc σ H3 fun w H4 => rLe0 y w H4 fun z2 H5 => ∃ k2, z2 = .bl k2 ∧ (if k2 = true then td σ H5 fun u H6 => rLe0 w u H6 Q else Q (.bl false) H5) else Q (.bl false) H3)
section
variable {a b c d : Expr} {ta tb tc td : TE} {pos : Pos}
theorem pe_chain3 (ha : PE X a ta) (hb : PE X b tb) (hc : PE X c tc) (hd : PE X d td) (hm : lastMarks [.LtE, .LtE, .LtE] [b, c, d] = false) : PE X (.Compare a [.LtE, .LtE, .LtE] [b, c, d] pos) (tChain3 ta tb tc td) := by
  refine ⟨fun pins s σ H Q I h => ?_⟩
  refine Compare_chain (thn (ha.run pins s σ H _ I h) fun v s1 ⟨x, H1, I1, r1, q1⟩ => chain_link (thn (hb.run pins s1 σ H1 _ I1 q1) fun u s2 ⟨y, H2, I2, r2, q2⟩ =>
    thn (op_le pins s2 σ H2 x y v u _ I2 r1 r2 q2) fun e s3 ⟨z, H3, I3, r3, k, ek, q3⟩ => ?_)) hm
  subst ek
  cases r3
  refine wpAny_truthy_bool ?_
  cases k with
  | false => exact ite_ff ⟨.bl false, H3, I3, rfl, q3⟩
  | true =>
    refine ite_tt (chain_link (thn (hc.run pins s3 σ H3 _ I3 q3) fun w s4 ⟨x4, H4, I4, r4, q4⟩ => thn (op_le pins s4 σ H4 y x4 u w _ I4 r2 r4 q4) fun e s5 ⟨z5, H5, I5, r5, k2, ek2, q5⟩ => ?_))
    subst ek2
    cases r5
    refine wpAny_truthy_bool ?_
    cases k2 with
    | false => exact ite_ff ⟨.bl false, H5, I5, rfl, q5⟩
    | true => exact ite_tt (chain_last (thn (hd.run pins s5 σ H5 _ I5 q5) fun w' s6 ⟨z', H6, I6, r6, q6⟩ => op_le pins s6 σ H6 x4 z' w w' Q I6 r4 r6 q6))
theorem pt_chain3 (ha : PE X a ta) (hb : PE X b tb) (hc : PE X c tc) (hd : PE X d td) (hm : lastMarks [.LtE, .LtE, .LtE] [b, c, d] = false) : PT X (.Compare a [.LtE, .LtE, .LtE] [b, c, d] pos) (tTest (tChain3 ta tb tc td)) := by
  refine ⟨fun pins s σ H Q I h => ?_⟩
  refine isTrue_chain (thn (ha.run pins s σ H _ I h) fun v s1 ⟨x, H1, I1, r1, q1⟩ => test_link (thn (hb.run pins s1 σ H1 _ I1 q1) fun u s2 ⟨y, H2, I2, r2, q2⟩ =>
    thn (op_le pins s2 σ H2 x y v u _ I2 r1 r2 q2) fun e s3 ⟨z, H3, I3, r3, k, ek, q3⟩ => ?_)) hm
  subst ek
  cases r3
  refine wpAny_truthy_bool ?_
  cases k with
  | false =>
    obtain ⟨k', e', q'⟩ := q3
    cases e'
    exact ite_ff ⟨H3, I3, q'⟩
  | true =>
    refine ite_tt (test_link (thn (hc.run pins s3 σ H3 _ I3 q3) fun w s4 ⟨x4, H4, I4, r4, q4⟩ => thn (op_le pins s4 σ H4 y x4 u w _ I4 r2 r4 q4) fun e s5 ⟨z5, H5, I5, r5, k2, ek2, q5⟩ => ?_))
    subst ek2
    cases r5
    refine wpAny_truthy_bool ?_
    cases k2 with
    | false =>
      obtain ⟨k', e', q'⟩ := q5
      cases e'
      exact ite_ff ⟨H5, I5, q'⟩
    | true =>
      refine ite_tt (test_last (thn (hd.run pins s5 σ H5 _ I5 q5) fun w' s6 ⟨z', H6, I6, r6, q6⟩ => thn (op_le pins s6 σ H6 x4 z' w w' _ I6 r4 r6 q6) fun e s7 ⟨z7, H7, I7, r7, k', ek', q7⟩ => ?_))
      subst ek'
      cases r7
      exact wpAny_truthy_bool ⟨H7, I7, q7⟩
end
theorem rd_le3 {a b c d : E} {σ : St} {H : Hp} {Q : VK} (h : tE K cl W Φ (.le3 a b c d) σ H Q) : tChain3 (tE K cl W Φ a) (tE K cl W Φ b) (tE K cl W Φ c) (tE K cl W Φ d) σ H Q := by
  obtain ⟨F, da, r, g, Rr, z⟩ := h
  refine ⟨F, da, r, g, Rr, Post.bind z fun d g1 v F1 H1 n rp p => ?_⟩
  refine ⟨F1, da, r, g1, Rr.nx n, Post.bind p fun e g2 u F2 H2 n2 rp2 p2 => ?_⟩
  cases d with
  | int i =>
    cases e with
    | int j =>
      cases rp
      cases rp2
      refine ⟨i, j, rfl, rfl, decide (i ≤ j), rfl, ?_⟩
      by_cases hij : i ≤ j
      · rw [if_pos (decide_eq_true hij)]
        simp only [if_pos hij] at p2
        refine ⟨F2, da, r, g2, (Rr.nx n).nx n2, Post.bind p2 fun e3 g3 w F3 H3 n3 rp3 p3 => ?_⟩
        cases e3 with
        | int l =>
          cases rp3
          refine ⟨j, l, rfl, rfl, decide (j ≤ l), rfl, ?_⟩
          by_cases hjl : j ≤ l
          · rw [if_pos (decide_eq_true hjl)]
            simp only [if_pos hjl] at p3
            refine ⟨F3, da, r, g3, ((Rr.nx n).nx n2).nx n3, Post.bind p3 fun e4 g4 w4 F4 H4 n4 rp4 p4 => ?_⟩
            cases e4 with
            | int m =>
              cases rp4
              exact ⟨l, m, rfl, rfl, p4 _ F4 H4 (Nx.refl n4.sub n4.gok) (.bl _)⟩
            | _ => exact False.elim p4
          · rw [if_neg (by simpa using hjl)]
            simp only [if_neg hjl] at p3
            exact p3 _ F3 H3 (Nx.refl n3.sub n3.gok) (.bl _)
        | _ => exact False.elim p3
      · rw [if_neg (by simpa using hij)]
        simp only [if_neg hij] at p2
        exact p2 _ F2 H2 (Nx.refl n2.sub n2.gok) (.bl _)
    | _ => exact False.elim p2
  | _ => exact False.elim p2
def isNo : D → Bool
  | .none => true
  | _ => false
theorem rp_non {F : Hp} {v : V} {d : D} (h : Rp F v d) : decide (v = .non) = isNo d := by
  cases h <;> rfl
theorem isD_none (d : D) : isD d .none = some (isNo d) := by cases d <;> rfl
theorem rd_iscN {a : E} {σ : St} {H : Hp} {Q : VK} (h : tE K cl W Φ (.isc a .none) σ H Q) : tE K cl W Φ a σ H (fun x H1 => Q (.bl (decide (x = .non))) H1) := by
  obtain ⟨F, da, r, g, Rr, z⟩ := h
  refine ⟨F, da, r, g, Rr, Post.bind z fun e g1 v F1 H1 n rp p => ?_⟩
  rw [rp_non rp]
  rw [isD_none] at p
  exact p _ F1 H1 (Nx.refl n.sub n.gok) (.bl _)
theorem rd_isncN {a : E} {σ : St} {H : Hp} {Q : VK} (h : tE K cl W Φ (.isnc a .none) σ H Q) : tE K cl W Φ a σ H (fun x H1 => Q (.bl (!decide (x = .non))) H1) := by
  obtain ⟨F, da, r, g, Rr, z⟩ := h
  refine ⟨F, da, r, g, Rr, Post.bind z fun e g1 v F1 H1 n rp p => ?_⟩
  rw [rp_non rp]
  rw [isD_none] at p
  exact p _ F1 H1 (Nx.refl n.sub n.gok) (.bl _)
theorem rd_iscB {a : E} {b : Bool} {σ : St} {H : Hp} {Q : VK} (h : tE K cl W Φ (.isc a (.bool b)) σ H Q) : tE K cl W Φ a σ H (fun x H1 => ∃ c d, x = .bl c ∧ V.bl b = .bl d ∧ Q (.bl (decide (c = d))) H1) := by
  obtain ⟨F, da, r, g, Rr, z⟩ := h
  refine ⟨F, da, r, g, Rr, Post.bind z fun e g1 v F1 H1 n rp p => ?_⟩
  cases e with
  | bool c =>
    cases rp
    exact ⟨c, b, rfl, rfl, p _ F1 H1 (Nx.refl n.sub n.gok) (.bl _)⟩
  | _ => exact False.elim p
theorem rd_isncB {a : E} {b : Bool} {σ : St} {H : Hp} {Q : VK} (h : tE K cl W Φ (.isnc a (.bool b)) σ H Q) : tE K cl W Φ a σ H (fun x H1 => ∃ c d, x = .bl c ∧ V.bl b = .bl d ∧ Q (.bl (!decide (c = d))) H1) := by
  obtain ⟨F, da, r, g, Rr, z⟩ := h
  refine ⟨F, da, r, g, Rr, Post.bind z fun e g1 v F1 H1 n rp p => ?_⟩
  cases e with
  | bool c =>
    cases rp
    exact ⟨c, b, rfl, rfl, p _ F1 H1 (Nx.refl n.sub n.gok) (.bl _)⟩
  | _ => exact False.elim p
/-- is, is not -/
theorem snd_isc {a : E} {d : D} {u : Expr} {c : Const} {j : Nat} {p1 pos : Pos} (ia : PE X u (tE X.K cl W Φ a)) (q : (isNB d && okC d c) = true) :
    PE X (.Compare u [.Is] [.Constant c j p1] pos) (tE X.K cl W Φ (.isc a d)) ∧ PT X (.Compare u [.Is] [.Constant c j p1] pos) (tT X.K cl W Φ (.isc a d)) ∧
    PE X (.Compare u [.IsNot] [.Constant c j p1] pos) (tE X.K cl W Φ (.isnc a d)) ∧ PT X (.Compare u [.IsNot] [.Constant c j p1] pos) (tT X.K cl W Φ (.isnc a d)) := by
  obtain ⟨q1, q2⟩ := and2 q
  cases d with
  | none =>
    cases c with
    | none =>
      refine ⟨impE (pe_cmpR op_isN ia pe_non (nomark _)) fun σ H Q hq => ?_, impT (pt_cmpR op_isN ia pe_non (nomark _)) fun σ H Q hq => ?_, impE (pe_cmpR op_notN ia pe_non (nomark _)) fun σ H Q hq => ?_, impT (pt_cmpR op_notN ia pe_non (nomark _)) fun σ H Q hq => ?_⟩
      · obtain ⟨F, da, r, g, Rr, z⟩ := rd_iscN hq
        exact ⟨F, da, r, g, Rr, Post.imp z fun v H1 z => ⟨rfl, z⟩⟩
      · obtain ⟨F, da, r, g, Rr, z⟩ := rd_iscN (tT_tE hq)
        exact ⟨F, da, r, g, Rr, Post.imp z fun v H1 z => ⟨rfl, z⟩⟩
      · obtain ⟨F, da, r, g, Rr, z⟩ := rd_isncN hq
        exact ⟨F, da, r, g, Rr, Post.imp z fun v H1 z => ⟨rfl, z⟩⟩
      · obtain ⟨F, da, r, g, Rr, z⟩ := rd_isncN (tT_tE hq)
        exact ⟨F, da, r, g, Rr, Post.imp z fun v H1 z => ⟨rfl, z⟩⟩
    | _ => simp [okC] at q2
  | bool b =>
    cases c with
    | bool b' =>
      have e : b = b' := by simpa [okC] using q2
      subst e
      exact ⟨impE (pe_cmpR op_isBl ia pe_bl (nomark _)) fun σ H Q hq => rd_iscB hq, impT (pt_cmpR op_isBl ia pe_bl (nomark _)) fun σ H Q hq => rd_iscB (tT_tE hq),
        impE (pe_cmpR op_notBl ia pe_bl (nomark _)) fun σ H Q hq => rd_isncB hq, impT (pt_cmpR op_notBl ia pe_bl (nomark _)) fun σ H Q hq => rd_isncB (tT_tE hq)⟩
    | _ => simp [okC] at q2
  | _ => simp [isNB] at q1
/-! ### displays -/
theorem args_vals {F : Hp} {da : DA} : ∀ {vs : List V} {cs : List Cell} {ds : List D}, ArgsOk cl F da vs cs → vals? cs = some ds → RpAll F vs ds
  | _, _, _, .nil, e => by cases e; exact .nil
  | _, _, _, .cons (c := c) (cs := cs) h t, e => by
    cases c with
    | val d =>
      simp only [vals?] at e
      cases q : vals? cs with
      | none => rw [q] at e; cases e
      | some es =>
        rw [q] at e
        cases e
        exact .cons h (args_vals t q)
    | _ => simp [vals?] at e
theorem snd_lst {as : E} {es : List Expr} {pos : Pos} (ia : PA X es (tA X.K cl W Φ as)) : PE X (.List es pos) (tE X.K cl W Φ (.lst as)) := by
  refine impE (pe_lst ia) fun σ H Q hq => ?_
  obtain ⟨F, da, r, g, Rr, z⟩ := hq
  refine ⟨F, da, r, g, Rr, Post.bind z fun cs g1 vs F1 H1 n ao p => ?_⟩
  obtain ⟨dz, e, kk⟩ := Post.al n.gok p
  cases q : vals? cs with
  | none => rw [q] at e; cases e
  | some ds =>
    rw [q] at e
    simp only [Option.bind_some] at e
    split at e
    · rename_i hl
      cases e
      have ra := args_vals ao q
      exact ⟨by rw [ra.length]; exact lim_line' hl, fun p hp => new_lst n.sub ra hl kk p hp⟩
    · cases e
theorem snd_tup {as : E} {es : List Expr} {j : Nat} {pos : Pos} (ia : PA X es (tA X.K cl W Φ as)) : PE X (.Tuple es j pos) (tE X.K cl W Φ (.tup as)) := by
  refine impE (pe_tup ia) fun σ H Q hq => ?_
  obtain ⟨F, da, r, g, Rr, z⟩ := hq
  refine ⟨F, da, r, g, Rr, Post.bind z fun cs g1 vs F1 H1 n ao p => ?_⟩
  obtain ⟨dz, e, kk⟩ := Post.al n.gok p
  cases q : vals? cs with
  | none => rw [q] at e; cases e
  | some ds =>
    rw [q] at e
    simp only [Option.bind_some] at e
    split at e
    · rename_i hl
      cases e
      have ra := args_vals ao q
      exact ⟨by rw [ra.length]; exact lim_line' hl, fun p hp => new_tup n.sub ra hl kk p hp⟩
    · cases e
/-! ### arguments -/
theorem snd_nil : PA X [] (tA X.K cl W Φ .nil) := by
  refine impA pa_nil fun σ H Q hq => ?_
  obtain ⟨F, da, r, g, Rr, z⟩ := hq
  exact z [] F H (Nx.refl Rr.sub Rr.gok) .nil
def tArg (K : PySem.W.Frag) (cl : Cls) (W : WX) (Φ : Nat → Fn) (a : E) : TE := tM K cl W (fun F _ da v c => ArgOk cl F da v c) (fun r g => match cell? a r with | some c => .ok c g | none => (evE Φ a r g).bind fun d g => .ok (.val d) g)
theorem snd_arg (h : XOk T cl Φ k W S X) {a : E} {x : Expr} (q : okE T a S x = true) (p : PE X x (tE X.K cl W Φ a)) : PE X x (tArg X.K cl W Φ a) := by
  have gen : (∀ r, cell? a r = none) → PE X x (tArg X.K cl W Φ a) := fun hn => by
    refine impE p fun σ H Q hq => ?_
    obtain ⟨F, da, r, g, Rr, z⟩ := hq
    refine ⟨F, da, r, g, Rr, ?_⟩
    dsimp only at z
    rw [hn r] at z
    exact Post.bind z fun d g1 v F1 H1 n rp p => p v F1 H1 (Nx.refl n.sub n.gok) rp
  cases a with
  | var i =>
    simp only [okE] at q
    split at q
    · refine impE (h.var q) fun σ H Q hq => ?_
      obtain ⟨F, da, r, g, Rr, p⟩ := hq
      cases e : r[i]? with
      | none => simp only [cell?, evE, e] at p; exact p.elim
      | some c =>
        have sl := Rr.slot i c e
        cases c with
        | val d =>
          simp only [cell?, evE, e] at p
          obtain ⟨v, e1, rp⟩ := sl
          exact ⟨v, e1, p v F H (Nx.refl Rr.sub Rr.gok) rp⟩
        | drw =>
          simp only [cell?, evE, e] at p
          obtain ⟨pp, e0, e1⟩ := sl
          exact ⟨_, e1, p _ F H (Nx.refl Rr.sub Rr.gok) ⟨pp, e0, rfl⟩⟩
        | exn c =>
          simp only [cell?, evE, e] at p
          obtain ⟨a, e1, e2⟩ := sl
          exact ⟨_, e1, p _ F H (Nx.refl Rr.sub Rr.gok) ⟨a, rfl, e2⟩⟩
        | rdr j A B =>
          simp only [cell?, evE, e] at p
          obtain ⟨v, e1, e2⟩ := sl
          exact ⟨_, e1, p _ F H (Nx.refl Rr.sub Rr.gok) e2⟩
        | _ => simp only [cell?, evE, e] at p; exact p.elim
    · cases q
  | _ => exact gen fun _ => rfl
theorem snd_cons {a as : E} {x : Expr} {xs : List Expr} (ia : PE X x (tArg X.K cl W Φ a)) (is : PA X xs (tA X.K cl W Φ as)) (hs : noStar x = true) : PA X (x :: xs) (tA X.K cl W Φ (.cons a as)) := by
  refine impA (pa_cons ia is (star_ok hs)) fun σ H Q hq => ?_
  obtain ⟨F, da, r, g, Rr, z⟩ := hq
  refine ⟨F, da, r, g, Rr, Post.bind z fun c g1 v F1 H1 n ao p => ?_⟩
  refine ⟨F1, da, r, g1, Rr.nx n, Post.bind p fun cs g2 vs F2 H2 n2 ao2 p2 => ?_⟩
  exact p2 _ F2 H2 (Nx.refl n2.sub n2.gok) (.cons (ao.mono n2.fr) ao2)
/-! ### calls -/
theorem pe_callS0 {CX : CXT} {j : Nat} {f : Addr} {fd : FuncData} {ps : List Str} {sp : Sp} {E : L2.St → XK} {x : Str} {p pos : Pos} (F : FnOk X.prog X.w X.K X.mg X.base CX j f fd ps sp) (hr : Room j X.A) (hg : Gl X x) (hm : X.mg x = some (.ref f)) (hk : PySem.W.keepIn X.K (.ref f) = true) (hb : Binds X.K fd ps []) (hx : ∀ σ, PassesAt CX X σ (E σ))
    (hdb : (x == ("__debug__" : Str)) = false) : PE X (.Call (.Name x p) [] [] pos) (tCallS sp E tNil) := by
  refine ⟨fun pins s σ H Q I h => ?_⟩
  refine wpAny_Call_Name_kw (ld_glob I hg hm ?_ hdb)
  exact PySem.W.callWith_K0 I.kIn hk (run_fnS (us := []) F hr hb (hx σ) I .nil h)
theorem snd_call (h : XOk T cl Φ k W S X) {f : Nat} {as : E} {a : Str} {p pos : Pos} {es : List Expr} (ia : PA X es (tA X.K cl W Φ as)) (hA : okA T as S es = true) (q : (okG S a && decide (T.nm[f]? = some a) && decide (f ∈ T.fs) && es.all noStar) = true) :
    PE X (.Call (.Name a p) es [] pos) (tE X.K cl W Φ (.call f as)) := by
  obtain ⟨q, q4⟩ := and2 q
  obtain ⟨q, q3⟩ := and2 q
  obtain ⟨q1, q2⟩ := and2 q
  obtain ⟨g1, g2⟩ := h.gl q1
  obtain ⟨x, fa, fd, ps, e1, e2, e3, e4, e5⟩ := h.fun_ f (of_decide_eq_true q3)
  have e : x = a := by
    have := of_decide_eq_true q2
    rw [e1] at this
    exact Option.some.inj this
  subst e
  have rd : ∀ σ H Q, tE X.K cl W Φ (.call f as) σ H Q → tCallS (spF cl (Φ f)) (WE W) (tA X.K cl W Φ as) σ H Q := fun σ H Q hq => by
    obtain ⟨F, da, r, g, Rr, z⟩ := hq
    refine ⟨F, da, r, g, Rr, Post.bind z fun cs g1 vs F1 H1 n ao p => ?_⟩
    refine ⟨F1, da, g1, cs, n.sub, n.gok, (Rr.nx n).nod, ao, ?_⟩
    cases q : Φ f cs g1 with
    | ok d g2 => rw [q] at p; exact p
    | exc c g2 => rw [q] at p; exact p
    | bad => rw [q] at p; exact p
  cases es with
  | nil =>
    refine impE (pe_callS0 e5 h.room g1 e2 e3 e4 h.pass g2) fun σ H Q hq => ?_
    obtain ⟨F, da, r, g, Rr, z⟩ := rd σ H Q hq
    cases as with
    | nil => exact z [] F H (Nx.refl Rr.sub Rr.gok) .nil
    | _ => simp [okA] at hA
  | cons y ys =>
    rw [List.all_cons, Bool.and_eq_true] at q4
    exact impE (pe_callS e5 h.room g1 e2 e3 e4 h.pass ia g2 (star_ok q4.1) (stars_ok q4.2)) rd
/-! ### isinstance -/
def tyOfD : D → String
  | .none => "NoneType"
  | .bool _ => "bool"
  | .int _ => "int"
  | .str _ => "str"
  | .list _ => "list"
  | .tuple _ => "tuple"
  | .dict _ => "dict"
theorem rp_ty {F H : Hp} (s : Same F H) {v : V} {d : D} (h : Rp F v d) : TyX K H v (.type (tyOfD d)) := by
  cases h with
  | non => exact .base .non
  | bl b => exact .base (.bl b)
  | int i => exact .base (.int i)
  | str x _ _ => exact .base (.str x)
  | lst h _ _ => exact .base (.lst (s _ _ h))
  | tup h _ _ => exact .base (.tup (s _ _ h))
def tyStr : Ty → String
  | .int => "int"
  | .bool => "bool"
  | .list => "list"
  | .str => "str"
def isTyS : Ty → String → Bool
  | .int, z => z == "int" || z == "bool"
  | .bool, z => z == "bool"
  | .list, z => z == "list"
  | .str, z => z == "str"
def tys : List String := ["NoneType", "bool", "int", "str", "list", "tuple"]
theorem kit_tab : (tys.all fun z => [Ty.int, Ty.bool, Ty.list, Ty.str].all fun t => kitB z (tyStr t) == some (isTyS t z)) = true := by decide +kernel
theorem isTy_is (t : Ty) (d : D) : isTy t d = isTyS t (tyOfD d) := by
  cases t <;> cases d <;> rfl
theorem kit_all (t : Ty) {F : Hp} {v : V} {d : D} (h : Rp F v d) : PySem.W.kitOne K (.type (tyOfD d)) (.type (tyStr t)) = some (isTy t d) := by
  rw [isTy_is]
  have hz : tyOfD d ∈ tys := by cases h <;> simp [tyOfD, tys]
  have q := List.all_eq_true.mp kit_tab _ hz
  have q2 := List.all_eq_true.mp q t (by cases t <;> simp)
  exact kit_ty (beq_iff_eq.mp q2)
theorem bool_boot : bootBuiltins "bool" = some (.type "bool") := boot_bool
theorem snd_isi (h : XOk T cl Φ k W S X) {a : E} {t : Ty} {f u : Str} {p1 p2 pos : Pos} {y : Expr} (ia : PE X y (tE X.K cl W Φ a)) (q : (okB S f "isinstance" && okB S u (tyName t) && noStar y) = true) :
    PE X (.Call (.Name f p1) [y, .Name u p2] [] pos) (tE X.K cl W Φ (.isi a t)) := by
  obtain ⟨q, q3⟩ := and2 q
  obtain ⟨q1, q2⟩ := and2 q
  obtain ⟨rfl, g, m⟩ := h.bl q1 (by decide +kernel)
  obtain ⟨rfl, g', m'⟩ := h.bl q2 (by cases t <;> decide +kernel)
  have hv : bootBuiltins (tyName t) = some (.type (tyStr t)) := by
    cases t
    · exact boot_int
    · exact boot_bool
    · exact boot_list
    · exact boot_str
  have pt : PE X (.Name (tyName t) p2) (L2.tC (.ty (tyStr t))) := pe_bltn g' m' hv rfl (by cases t <;> decide +kernel) (by cases t <;> decide +kernel)
  refine impE (pe_callB call_isi g m boot_isinstance (pa_cons ia (pa_cons pt pa_nil) (star_ok q3)) (he := star_ok q3)) fun σ H Q hq => ?_
  obtain ⟨F, da, r, g, Rr, z⟩ := hq
  refine ⟨F, da, r, g, Rr, Post.bind z fun d g1 v F1 H1 n rp p => ?_⟩
  exact ⟨v, _, _, _, _, rfl, .ty _, rp_ty n.sub rp, kit_all t rp, p _ F1 H1 (Nx.refl n.sub n.gok) (.bl _)⟩
/-! ### what was caught -/
theorem rd_isx (h : XOk T cl Φ k W S X) (h6 : T.cn.length = 6) {i c : Nat} {σ : St} {H : Hp} {Q : VK} (hq : tE X.K cl W Φ (.isx i c) σ H Q) :
    (∃ (a : Addr) (d : Nat), σ[i]? = some (some (.ref a)) ∧ H a = some (ExH (.ref (cl d)) none a) ∧ d < 6 ∧ Q (.bl (isSub d c)) H) ∨ (σ[i]? = some (some .non) ∧ c = 8 ∧ Q (.bl true) H) := by
  obtain ⟨F, da, r, g, Rr, p⟩ := hq
  cases e : r[i]? with
  | none => simp only [evE, e] at p; exact p.elim
  | some x =>
    have sl := Rr.slot i x e
    cases x with
    | exn d =>
      simp only [evE, e] at p
      split at p
      · rename_i hd
        obtain ⟨a, e1, e2⟩ := sl
        exact .inl ⟨a, d, e1, Rr.sub _ _ e2, hd, p _ F H (Nx.refl Rr.sub Rr.gok) (.bl _)⟩
      · exact p.elim
    | val d =>
      cases d with
      | none =>
        simp only [evE, e] at p
        split at p
        · rename_i hc
          obtain ⟨v, e1, rp⟩ := sl
          cases rp
          exact .inr ⟨e1, hc, p _ F H (Nx.refl Rr.sub Rr.gok) (.bl _)⟩
        · exact p.elim
      | _ => simp only [evE, e] at p; exact p.elim
    | _ => simp only [evE, e] at p; exact p.elim
theorem isSub8 (d : Nat) : isSub d 8 = false := rfl
theorem snd_isx (h : XOk T cl Φ k W S X) {i c : Nat} {x : Expr} (q : okX T S i c x = true) : PE X x (tE X.K cl W Φ (.isx i c)) ∧ PT X x (tT X.K cl W Φ (.isx i c)) := by
  obtain ⟨q0, q⟩ := and2 q
  have h6 := of_decide_eq_true q0
  obtain ⟨L, mL, mV, mC, fx⟩ := h.exf h6
  split at q
  · obtain ⟨q1, q2⟩ := and2 q
    have hc := of_decide_eq_true q1
    subst hc
    have go : ∀ {σ : St} {H : Hp} {Q : VK}, tE X.K cl W Φ (.isx i 8) σ H Q → tVar i σ H (fun x H1 => V.non = V.non ∧ Q (.bl (decide (x = .non))) H1) := fun {σ H Q} hq => by
      rcases rd_isx h h6 hq with ⟨a, d, e1, _, _, z⟩ | ⟨e1, _, z⟩
      · exact ⟨_, e1, rfl, by rw [isSub8] at z; exact z⟩
      · exact ⟨_, e1, rfl, z⟩
    exact ⟨impE (pe_cmpR op_isN (h.var q2) pe_non (nomark _)) fun σ H Q hq => go hq, impT (pt_cmpR op_isN (h.var q2) pe_non (nomark _)) fun σ H Q hq => go (tT_tE hq)⟩
  · obtain ⟨q, q4⟩ := and2 q
    obtain ⟨q, q3⟩ := and2 q
    obtain ⟨q1, q2⟩ := and2 q
    obtain ⟨rfl, g, m⟩ := h.bl q1 (by decide +kernel)
    obtain ⟨g', dbg⟩ := h.gl q3
    have key : ∀ {v u : Str} {p0 p1 p2 pos : Pos} (cv : V) (cu : Value), okV S i v = true → ClsV cv cu → PE X (.Name u p2) (L2.tC cv) → (∀ d, d < 6 → PySem.W.kitOne X.K (.ref (cl d)) cu = some (isSub d c)) → c ≠ 8 → PE X (.Call (.Name "isinstance" p0) [.Name v p1, .Name u p2] [] pos) (tE X.K cl W Φ (.isx i c)) := fun cv cu qv kc pc kk h8 => by
      refine impE (pe_callB call_isX g m boot_isinstance (pa_cons (h.var qv) (pa_cons pc pa_nil))) fun σ H Q hq => ?_
      rcases rd_isx h h6 hq with ⟨a, d, e1, e2, hd, z⟩ | ⟨_, e, _⟩
      · exact ⟨_, e1, a, cl d, cv, cu, _, rfl, e2, (fx d hd).1, kc, kk d hd, z⟩
      · exact absurd e h8
    refine (fun both => ⟨both, pt_of both rfl⟩ : PE X _ (tE X.K cl W Φ (.isx i c)) → _) ?_
    · skip
      rw [Bool.or_eq_true, Bool.or_eq_true] at q4
      rcases q4 with (q4 | q4) | q4
      · have e := of_decide_eq_true q4
        have hc : c < 6 := by rw [← h6]; exact (List.getElem?_eq_some_iff.mp e).1
        refine key (.ref (cl c)) (.ref (cl c)) q2 (.own _) (pe_glob g' (mC c _ e) rfl dbg) (fun d hd => ?_) (by omega)
        rw [(fx d hd).2.2.2.2 c hc]
        have e1 : (c != 8) = true := bne_iff_ne.mpr (by omega)
        have e2 : (c == 6) = false := beq_eq_false_iff_ne.mpr (by omega)
        have e3 : (c == 7) = false := beq_eq_false_iff_ne.mpr (by omega)
        unfold isSub
        rw [e1, e2, e3, Bool.or_false, Bool.or_false, Bool.true_and]
      · obtain ⟨q5, q6⟩ := and2 q4
        have e := of_decide_eq_true q5
        subst e
        have e := of_decide_eq_true q6
        subst e
        refine key (.ref L) (.ref L) q2 (.own _) (pe_glob g' mL rfl dbg) (fun d hd => ?_) (by omega)
        rw [(fx d hd).2.2.1]
        simp [isSub]
      · obtain ⟨q5, q6⟩ := and2 q4
        have e := of_decide_eq_true q5
        subst e
        have e := of_decide_eq_true q6
        subst e
        refine key (.ty "ValueError") (.type "ValueError") q2 (.ty _) (pe_bltn g' mV boot_ValueError rfl (by decide) dbg) (fun d hd => ?_) (by omega)
        rw [(fx d hd).2.1]
        simp [isSub]
  · cases q
end
end Tl
end
section
set_option Elab.async false
set_option linter.all false
set_option autoImplicit false
set_option maxRecDepth 100000
namespace Tl
open PySem PySem.Spec PyProof.Rows L2
section
variable {T : Tab} {cl : Cls} {Φ : Nat → Fn} {k : Nat} {W : WX} {S : Stat} {X : Cx} {K : PySem.W.Frag}
/-! ### what is walked -/
/-- J yields the data xs, one after another, while what is frozen stays -/
def relI : Hp → Hp → DA → It → D → Prop := fun F _ _ J d => ∃ (xs : List D) (G : Hp → Prop) (Y : Nat → Hp → V → Hp → Prop), d = .list xs ∧ xs.length ≤ lim ∧ Walk J xs.length G Y ∧ (∀ F' H', Same F F' → Same F' H' → G H') ∧
  ∀ i F1 H1 v H2, i < xs.length → Same F F1 → Same F1 H1 → Y i H1 v H2 → ∃ x F2, xs[i]? = some x ∧ Al F1 H1 F2 H2 ∧ Rp F2 v x
abbrev tI (K : PySem.W.Frag) (cl : Cls) (W : WX) (Φ : Nat → Fn) (e : E) : TI := tM K cl W relI (evE Φ e)
theorem relI_list {F H : Hp} {da : DA} {a : Addr} {us : List V} {xs : List D} (h : F a = some (.lst us)) (r : RpAll F us xs) (l : xs.length ≤ lim) : relI F H da (Itl K a) (.list xs) := by
  refine ⟨xs, _, _, rfl, l, r.length ▸ walk_list (K := K) (a := a) (xs := us), fun F' H' s1 s2 => .inl (.inl (s2 _ _ (s1 _ _ h))), fun i F1 H1 v H2 hi s1 s2 y => ?_⟩
  obtain ⟨rfl, hv⟩ := y
  obtain ⟨x, h1, h2⟩ := r.getV hv
  exact ⟨x, F1, h1, Al.refl s2, h2.mono s1⟩
theorem relI_tup {F H : Hp} {da : DA} {a : Addr} {us : List V} {xs : List D} (h : F a = some (.tup us)) (r : RpAll F us xs) (l : xs.length ≤ lim) : relI F H da (Itt K a) (.list xs) := by
  refine ⟨xs, _, _, rfl, l, r.length ▸ walk_tup (K := K) (a := a) (xs := us), fun F' H' s1 s2 => .inl (.inl (s2 _ _ (s1 _ _ h))), fun i F1 H1 v H2 hi s1 s2 y => ?_⟩
  obtain ⟨rfl, hv⟩ := y
  obtain ⟨x, h1, h2⟩ := r.getV hv
  exact ⟨x, F1, h1, Al.refl s2, h2.mono s1⟩
theorem relI_str {F H : Hp} {da : DA} {z : Str} (l : z.length ≤ lim) (ok : PyData.strOk z = true) : relI F H da (Its z) (.list (chars z)) := by
  have hl : (chars z).length = z.cps.size := by unfold chars; rw [List.length_map, Array.length_toList]
  refine ⟨chars z, _, _, rfl, by rw [hl]; exact l, hl ▸ walk_str (z := z), fun _ _ _ _ => trivial, fun i F1 H1 v H2 hi s1 s2 y => ?_⟩
  obtain ⟨rfl, c, h1, rfl⟩ := y
  refine ⟨.str ⟨#[c]⟩, F1, ?_, Al.refl s2, .str _ one_lim (strOk_one ok ?_)⟩
  · unfold chars
    rw [List.getElem?_map, Array.getElem?_toList, h1]
    rfl
  · have := List.mem_of_getElem? (show z.cps.toList[i]? = some c by rw [Array.getElem?_toList]; exact h1)
    exact this
theorem relI_rng {F H : Hp} {da : DA} {lo : Int} {n : Nat} (l : n ≤ lim) : relI F H da (Itr lo n) (.list (rangeD lo n)) := by
  refine ⟨rangeD lo n, _, _, rfl, by rw [rangeD_len]; exact l, (by rw [rangeD_len]; exact walk_range (lo := lo) (n := n)), fun _ _ _ _ => trivial, fun i F1 H1 v H2 hi s1 s2 y => ?_⟩
  obtain ⟨rfl, rfl⟩ := y
  rw [rangeD_len] at hi
  refine ⟨.int (lo + (i : Nat)), F1, ?_, Al.refl s2, .int _⟩
  unfold rangeD
  rw [List.getElem?_map, List.getElem?_range hi]
  rfl
theorem pair_al {F1 H1 : Hp} {T' : Addr} {v w : V} {x y : D} (s2 : Same F1 H1) (hT : H1 T' = none) (r1 : Rp F1 v x) (r2 : Rp F1 w y) : Al F1 H1 (upd F1 T' (.tup [v, w])) (upd H1 T' (.tup [v, w])) ∧ Rp (upd F1 T' (.tup [v, w])) (.ref T') (.tuple [x, y]) := by
  have s3 := same_upd (o := .tup [v, w]) (s2.free hT)
  exact ⟨Al.one s2 hT, .tup upd_same (.cons (r1.mono s3) (.cons (r2.mono s3) .nil)) (by show 2 ≤ lim; decide)⟩
theorem relI_enum {F H : Hp} {da : DA} {a : Addr} {us : List V} {xs : List D} (h : F a = some (.lst us)) (r : RpAll F us xs) (l : xs.length ≤ lim) : relI F H da (Ite K a) (.list (xs.zipIdx.map fun p => .tuple [.int (p.2 : Nat), p.1])) := by
  have hl : (xs.zipIdx.map fun (p : D × Nat) => PyData.tuple [.int (p.2 : Nat), p.1]).length = xs.length := by rw [List.length_map, List.length_zipIdx]
  refine ⟨_, _, _, rfl, by rw [hl]; exact l, (hl.trans r.length.symm) ▸ walk_enum (K := K) (a := a) (xs := us), fun F' H' s1 s2 => .inl (.inl (s2 _ _ (s1 _ _ h))), fun i F1 H1 v H2 hi s1 s2 y => ?_⟩
  obtain ⟨T', x, y, rfl, hT, rfl, e1, e2⟩ := y
  cases e1
  obtain ⟨d, h1, h2⟩ := r.getV e2
  obtain ⟨a1, a2⟩ := pair_al s2 hT (.int (i : Nat)) (h2.mono s1)
  refine ⟨_, _, ?_, a1, a2⟩
  rw [List.getElem?_map, List.getElem?_zipIdx, h1]
  simp
theorem relI_zip {F H : Hp} {da : DA} {a b : Addr} {us ws : List V} {xs ys : List D} (h : F a = some (.lst us)) (r : RpAll F us xs) (l : xs.length ≤ lim) (h' : F b = some (.lst ws)) (r' : RpAll F ws ys) : relI F H da (Itz K a b) (.list (List.zipWith (fun x y => .tuple [x, y]) xs ys)) := by
  have hl : (List.zipWith (fun x y => PyData.tuple [x, y]) xs ys).length = min xs.length ys.length := by rw [List.length_zipWith]
  refine ⟨_, _, _, rfl, by rw [hl]; omega, walk_zip (K := K) (a := a) (b := b) (xs := us) (ys := ws) (by rw [hl, r.length, r'.length]), fun F' H' s1 s2 => ⟨.inl (.inl (s2 _ _ (s1 _ _ h))), .inl (.inl (s2 _ _ (s1 _ _ h')))⟩, fun i F1 H1 v H2 hi s1 s2 y => ?_⟩
  obtain ⟨T', x, y, rfl, hT, rfl, e1, e2⟩ := y
  obtain ⟨d, h1, h2⟩ := r.getV e1
  obtain ⟨d', h1', h2'⟩ := r'.getV e2
  obtain ⟨a1, a2⟩ := pair_al s2 hT (h2.mono s1) (h2'.mono s1)
  refine ⟨_, _, ?_, a1, a2⟩
  rw [List.getElem?_zipWith, h1, h1']
/-- the iterator's readings -/
theorem snd_itl {tg : Expr} {a : E} {x : Expr} (p : PE X x (tE X.K cl W Φ a)) : PI X tg x (tI X.K cl W Φ (.itl a)) := by
  refine impI (pi_list p) fun σ H Q hq => ?_
  obtain ⟨F, da, r, g, Rr, z⟩ := hq
  refine ⟨F, da, r, g, Rr, Post.bind z fun d g1 v F1 H1 n rp p => ?_⟩
  cases d with
  | list xs =>
    cases rp with
    | lst h1 h2 h3 => exact ⟨_, rfl, ⟨_, .inl (.inl (n.sub _ _ h1))⟩, p _ F1 H1 (Nx.refl n.sub n.gok) (relI_list h1 h2 h3)⟩
  | _ => exact False.elim p
theorem snd_itt {tg : Expr} {a : E} {x : Expr} (p : PE X x (tE X.K cl W Φ a)) : PI X tg x (tI X.K cl W Φ (.itt a)) := by
  refine impI (pi_tup p) fun σ H Q hq => ?_
  obtain ⟨F, da, r, g, Rr, z⟩ := hq
  refine ⟨F, da, r, g, Rr, Post.bind z fun d g1 v F1 H1 n rp p => ?_⟩
  cases d with
  | tuple xs =>
    cases rp with
    | tup h1 h2 h3 => exact ⟨_, rfl, ⟨_, .inl (.inl (n.sub _ _ h1))⟩, p _ F1 H1 (Nx.refl n.sub n.gok) (relI_tup h1 h2 h3)⟩
  | _ => exact False.elim p
theorem snd_its {tg : Expr} {a : E} {x : Expr} (p : PE X x (tE X.K cl W Φ a)) : PI X tg x (tI X.K cl W Φ (.its a)) := by
  refine impI (pi_str p) fun σ H Q hq => ?_
  obtain ⟨F, da, r, g, Rr, z⟩ := hq
  refine ⟨F, da, r, g, Rr, Post.bind z fun d g1 v F1 H1 n rp p => ?_⟩
  cases d with
  | str xs =>
    cases rp with
    | str _ h1 h2 => exact ⟨_, rfl, p _ F1 H1 (Nx.refl n.sub n.gok) (relI_str h1 h2)⟩
  | _ => exact False.elim p
theorem snd_rng1 (h : XOk T cl Φ k W S X) {tg : Expr} {a : E} {f : Str} {p1 pos : Pos} {y : Expr} (p : PE X y (tE X.K cl W Φ a)) (q : (okB S f "range" && noStar y) = true) : PI X tg (.Call (.Name f p1) [y] [] pos) (tI X.K cl W Φ (.rng1 a)) := by
  obtain ⟨q1, q2⟩ := and2 q
  obtain ⟨rfl, g, m⟩ := h.bl q1 (by decide +kernel)
  refine impI (pi_range1 g m (pa_cons p pa_nil (star_ok q2)) (star_ok q2)) fun σ H Q hq => ?_
  obtain ⟨F, da, r, g, Rr, z⟩ := hq
  refine ⟨F, da, r, g, Rr, Post.bind z fun d g1 v F1 H1 n rp p => ?_⟩
  cases d with
  | int i =>
    dsimp only at p
    split at p
    · rename_i hh
      cases rp
      have hl : (i : Int) ≤ 1000000 := hh.1
      refine ⟨i, rfl, hh.2, by omega, p _ F1 H1 (Nx.refl n.sub n.gok) (relI_rng (by unfold lim; omega))⟩
    · exact False.elim p
  | _ => exact False.elim p
theorem smallI_is {i : Int} (h : smallI i = true) : -(2 ^ 62) ≤ i ∧ i < 2 ^ 62 := by
  unfold smallI at h
  simpa using h
theorem snd_rng2 (h : XOk T cl Φ k W S X) {tg : Expr} {a b : E} {f : Str} {p1 pos : Pos} {y y2 : Expr} (p : PE X y (tE X.K cl W Φ a)) (p' : PE X y2 (tE X.K cl W Φ b)) (q : (okB S f "range" && noStar y && noStar y2) = true) : PI X tg (.Call (.Name f p1) [y, y2] [] pos) (tI X.K cl W Φ (.rng2 a b)) := by
  obtain ⟨q, q3⟩ := and2 q
  obtain ⟨q1, q2⟩ := and2 q
  obtain ⟨rfl, g, m⟩ := h.bl q1 (by decide +kernel)
  refine impI (pi_range2 g m (pa_cons p (pa_cons p' pa_nil (star_ok q3)) (star_ok q2)) (by rw [star_ok q2, star_ok q3]; rfl) (star_ok q3)) fun σ H Q hq => ?_
  obtain ⟨F, da, r, g, Rr, z⟩ := hq
  refine ⟨F, da, r, g, Rr, Post.bind z fun d g1 v F1 H1 n rp p => ?_⟩
  refine ⟨F1, da, r, g1, Rr.nx n, Post.bind p fun e g2 u F2 H2 n2 rp2 p2 => ?_⟩
  cases d with
  | int i =>
    cases e with
    | int j =>
      dsimp only at p2
      split at p2
      · rename_i hh
        cases rp
        cases rp2
        obtain ⟨h1, h2, h3⟩ := hh
        have h1 : j - i ≤ 1000000 := h1
        obtain ⟨a1, a2⟩ := smallI_is h2
        obtain ⟨b1, b2⟩ := smallI_is h3
        exact ⟨i, j, rfl, ⟨a1, a2, b1, b2⟩, p2 _ F2 H2 (Nx.refl n2.sub n2.gok) (relI_rng (by unfold lim; omega))⟩
      · exact False.elim p2
    | _ => exact False.elim p2
  | _ => exact False.elim p2
theorem snd_enum (h : XOk T cl Φ k W S X) {a : E} {f : Str} {p1 pos tpos : Pos} {y : Expr} {el : List Expr} {kk : Nat} (p : PE X y (tE X.K cl W Φ a)) (q : (okB S f "enumerate" && noStar y) = true) : PI X (.Tuple el kk tpos) (.Call (.Name f p1) [y] [] pos) (tI X.K cl W Φ (.enum a)) := by
  obtain ⟨q1, q2⟩ := and2 q
  obtain ⟨rfl, g, m⟩ := h.bl q1 (by decide +kernel)
  refine impI (pi_enum g m (pa_cons p pa_nil (star_ok q2)) (star_ok q2)) fun σ H Q hq => ?_
  obtain ⟨F, da, r, g, Rr, z⟩ := hq
  refine ⟨F, da, r, g, Rr, Post.bind z fun d g1 v F1 H1 n rp p => ?_⟩
  cases d with
  | list xs =>
    cases rp with
    | lst h1 h2 h3 => exact ⟨_, _, rfl, .inl (.inl (n.sub _ _ h1)), p _ F1 H1 (Nx.refl n.sub n.gok) (relI_enum h1 h2 h3)⟩
  | _ => exact False.elim p
theorem snd_zip (h : XOk T cl Φ k W S X) {a b : E} {f : Str} {p1 pos tpos : Pos} {y y2 : Expr} {el : List Expr} {kk : Nat} (p : PE X y (tE X.K cl W Φ a)) (p' : PE X y2 (tE X.K cl W Φ b)) (q : (okB S f "zip" && noStar y && noStar y2) = true) : PI X (.Tuple el kk tpos) (.Call (.Name f p1) [y, y2] [] pos) (tI X.K cl W Φ (.zip a b)) := by
  obtain ⟨q, q3⟩ := and2 q
  obtain ⟨q1, q2⟩ := and2 q
  obtain ⟨rfl, g, m⟩ := h.bl q1 (by decide +kernel)
  refine impI (pi_zip g m (pa_cons p (pa_cons p' pa_nil (star_ok q3)) (star_ok q2)) (star_ok q2) (stars_ok (by simp [q3]))) fun σ H Q hq => ?_
  obtain ⟨F, da, r, g, Rr, z⟩ := hq
  refine ⟨F, da, r, g, Rr, Post.bind z fun d g1 v F1 H1 n rp p => ?_⟩
  refine ⟨F1, da, r, g1, Rr.nx n, Post.bind p fun e g2 u F2 H2 n2 rp2 p2 => ?_⟩
  cases d with
  | list xs =>
    cases e with
    | list ys =>
      cases rp with
      | lst h1 h2 h3 =>
        cases rp2 with
        | lst h1' h2' h3' =>
          have s1 := n2.fr _ _ h1
          exact ⟨_, _, _, _, rfl, .inl (.inl (n2.sub _ _ s1)), .inl (.inl (n2.sub _ _ h1')), p2 _ F2 H2 (Nx.refl n2.sub n2.gok) (relI_zip s1 (h2.mono n2.fr) h3 h1' h2')⟩
    | _ => exact False.elim p2
  | _ => exact False.elim p2
/-! ### targets -/
def gT (K : PySem.W.Frag) : Tg → TG
  | .nm i => gName i
  | .two i j => gTup K 2 (gCons (gName i) (gCons (gName j) gNil))
  | .three i j l => gTup K 3 (gCons (gName i) (gCons (gName j) (gCons (gName l) gNil)))
def tgIx : Tg → List Nat
  | .nm i => [i]
  | .two i j => [i, j]
  | .three i j l => [i, j, l]
theorem pg_T (h : XOk T cl Φ k W S X) {t : Tg} {x : Expr} (q : okTg S t x = true) : PG X x (gT X.K t) := by
  unfold okTg at q
  split at q
  · obtain ⟨h1, h2, h3⟩ := h.loc q
    exact pg_name h.ndX h1 h2 h3
  · obtain ⟨q, q3⟩ := and2 q
    obtain ⟨q1, q2⟩ := and2 q
    obtain ⟨h1, h2, h3⟩ := h.loc q1
    obtain ⟨g1, g2, g3⟩ := h.loc q2
    exact pg_tup h.calm (pgs_cons (pg_name h.ndX h1 h2 h3) (pgs_cons (pg_name h.ndX g1 g2 g3) pgs_nil))
  · obtain ⟨q, _⟩ := and2 q
    obtain ⟨q, _⟩ := and2 q
    obtain ⟨q, _⟩ := and2 q
    obtain ⟨q, q3⟩ := and2 q
    obtain ⟨q1, q2⟩ := and2 q
    obtain ⟨h1, h2, h3⟩ := h.loc q1
    obtain ⟨g1, g2, g3⟩ := h.loc q2
    obtain ⟨f1, f2, f3⟩ := h.loc q3
    exact pg_tup h.calm (pgs_cons (pg_name h.ndX h1 h2 h3) (pgs_cons (pg_name h.ndX g1 g2 g3) (pgs_cons (pg_name h.ndX f1 f2 f3) pgs_nil)))
  · cases q
theorem setT_two {i j : Nat} {d : D} {r r1 : Env} (e : setT (.two i j) d r = some r1) : ∃ a b, d = .tuple [a, b] ∧ r1 = (r.set i (.val a)).set j (.val b) := by
  cases d with
  | tuple l =>
    match l, e with
    | [a, b], e => cases e; exact ⟨a, b, rfl, rfl⟩
    | [], e => simp [setT] at e
    | [a], e => simp [setT] at e
    | a :: b :: c :: l, e => simp [setT] at e
  | _ => simp [setT] at e
theorem setT_three {i j k : Nat} {d : D} {r r1 : Env} (e : setT (.three i j k) d r = some r1) : ∃ a b c, d = .tuple [a, b, c] ∧ r1 = ((r.set i (.val a)).set j (.val b)).set k (.val c) := by
  cases d with
  | tuple l =>
    match l, e with
    | [a, b, c], e => cases e; exact ⟨a, b, c, rfl, rfl⟩
    | [], e => simp [setT] at e
    | [a], e => simp [setT] at e
    | [a, b], e => simp [setT] at e
    | a :: b :: c :: d :: l, e => simp [setT] at e
  | _ => simp [setT] at e
/-- a value goes to its target -/
theorem rd_T {t : Tg} {F H : Hp} {da : DA} {g : G} {σ : St} {r r1 : Env} {v : V} {d : D} {Q : St → Hp → Prop} (Rr : Rep K cl F H da σ r g) (rp : Rp F v d) (e : setT t d r = some r1)
    (kk : ∀ σ1, Rep K cl F H da σ1 r1 g → σ1.length = σ.length → (∀ j, j ∉ tgIx t → σ1[j]? = σ[j]?) → Q σ1 H) : gT K t v σ H Q := by
  cases t with
  | nm i =>
    cases e
    refine kk _ (Rr.set rp) (by simp) fun j hj => ?_
    rw [List.getElem?_set_ne (fun z => hj (by simp [tgIx, z]))]
  | two i j =>
    obtain ⟨a, b, rfl, rfl⟩ := setT_two e
    cases rp with
    | tup h1 h2 h3 =>
      cases h2 with
      | cons r1 h2 =>
        cases h2 with
        | cons r2 h2 =>
          cases h2
          refine ⟨_, _, rfl, .inl (.inl (Rr.sub _ _ h1)), rfl, _, _, rfl, _, _, rfl, rfl, ?_⟩
          refine kk _ ((Rr.set r1).set r2) (by simp) fun l hl => ?_
          simp only [tgIx, List.mem_cons, List.not_mem_nil, or_false, not_or] at hl
          rw [List.getElem?_set_ne (fun z => hl.2 z.symm), List.getElem?_set_ne (fun z => hl.1 z.symm)]
  | three i j l =>
    obtain ⟨a, b, c, rfl, rfl⟩ := setT_three e
    cases rp with
    | tup h1 h2 h3 =>
      cases h2 with
      | cons r1 h2 =>
        cases h2 with
        | cons r2 h2 =>
          cases h2 with
          | cons r3 h2 =>
            cases h2
            refine ⟨_, _, rfl, .inl (.inl (Rr.sub _ _ h1)), rfl, _, _, rfl, _, _, rfl, _, _, rfl, rfl, ?_⟩
            refine kk _ (((Rr.set r1).set r2).set r3) (by simp) fun l hl => ?_
            simp only [tgIx, List.mem_cons, List.not_mem_nil, or_false, not_or] at hl
            rw [List.getElem?_set_ne (fun z => hl.2.2 z.symm), List.getElem?_set_ne (fun z => hl.2.1 z.symm), List.getElem?_set_ne (fun z => hl.1 z.symm)]
end
end Tl
end
section
set_option Elab.async false
set_option linter.all false
set_option autoImplicit false
set_option maxRecDepth 100000
namespace Tl
open PySem PySem.Spec PyProof.Rows L2
theorem wipe_get (σ : St) (j : Nat) : ∀ vs : List Nat, (L2.wipe σ vs)[j]? = if j ∈ vs then σ[j]?.map (fun _ => none) else σ[j]?
  | [] => by simp [L2.wipe]
  | v :: vs => by
    unfold L2.wipe
    by_cases h : v = j
    · subst h
      rw [if_pos List.mem_cons_self, List.getElem?_set]
      simp only [if_pos, wipe_length]
      by_cases hl : v < σ.length
      · rw [if_pos hl, List.getElem?_eq_getElem hl]
        rfl
      · rw [if_neg hl, List.getElem?_eq_none (by simpa using hl)]
        rfl
    · rw [List.getElem?_set_ne h, wipe_get σ j vs]
      have e : (j ∈ v :: vs) ↔ j ∈ vs := by
        rw [List.mem_cons]
        exact ⟨fun z => z.resolve_left (fun q => h q.symm), .inr⟩
      simp only [e]
theorem wipe_same {σ σ2 : St} {vs : List Nat} (hl : σ2.length = σ.length) (h : ∀ j, j ∉ vs → σ2[j]? = (L2.wipe σ vs)[j]?) : L2.wipe σ2 vs = L2.wipe σ vs := by
  refine List.ext_getElem? fun j => ?_
  rw [wipe_get, wipe_get]
  by_cases hj : j ∈ vs
  · rw [if_pos hj, if_pos hj]
    by_cases hh : j < σ.length
    · rw [List.getElem?_eq_getElem hh, List.getElem?_eq_getElem (by rw [hl]; exact hh)]
      rfl
    · rw [List.getElem?_eq_none (show σ2.length ≤ j by rw [hl]; simpa using hh), List.getElem?_eq_none (show σ.length ≤ j by simpa using hh)]
  · rw [if_neg hj, if_neg hj, h j hj, wipe_get, if_neg hj]
def wipeE (r : Env) : List Nat → Env
  | [] => r
  | v :: vs => (wipeE r vs).set v .und
theorem Rep.wipes {K : PySem.W.Frag} {cl : Cls} {F H : Hp} {da : DA} {g : G} {σ : St} {r : Env} (h : Rep K cl F H da σ r g) : ∀ vs : List Nat, Rep K cl F H da (L2.wipe σ vs) (wipeE r vs) g
  | [] => h
  | v :: vs => (Rep.wipes h vs).wipe v none
theorem set_set' {α : Type} (r : List α) (i : Nat) (a b : α) : (r.set i a).set i b = r.set i b := List.set_set ..
theorem setT_wipe {t : Tg} {d : D} {r : Env} (hd : (tgIx t).Nodup) : setT t d (wipeE r (tgIx t)) = setT t d r := by
  cases t with
  | nm i =>
    show some (((r.set i .und)).set i (.val d)) = some (r.set i (.val d))
    rw [List.set_set]
  | two i j =>
    have hij : i ≠ j := by
      simp only [tgIx, List.nodup_cons, List.mem_singleton] at hd
      exact fun z => hd.1 z
    have e : ∀ a b, (((r.set j .und).set i .und).set i (.val a)).set j (.val b) = (r.set i (.val a)).set j (.val b) := fun a b => by
      rw [List.set_set, List.set_comm _ _ (Ne.symm hij), List.set_set]
    show setT (.two i j) d ((r.set j .und).set i .und) = _
    cases d with
    | tuple l =>
      match l with
      | [a, b] =>
        show some _ = some _
        rw [e]
      | [] => rfl
      | [a] => rfl
      | a :: b :: c :: l => rfl
    | _ => rfl
  | three i j k =>
    have hh : i ≠ j ∧ i ≠ k ∧ j ≠ k := by
      simp only [tgIx, List.nodup_cons, List.mem_cons, List.not_mem_nil, or_false, not_or] at hd
      exact ⟨fun z => hd.1.1 z, fun z => hd.1.2 z, fun z => hd.2.1 z⟩
    obtain ⟨h1, h2, h3⟩ := hh
    have e : ∀ a b, ((((r.set k .und).set j .und).set i .und).set i (.val a)).set j (.val b) = ((r.set k .und).set i (.val a)).set j (.val b) := fun a b => by
      rw [List.set_set, List.set_comm _ _ (Ne.symm h1), List.set_set]
    have e2 : ∀ a b c, (((r.set k .und).set i (.val a)).set j (.val b)).set k (.val c) = ((r.set i (.val a)).set j (.val b)).set k (.val c) := fun a b c => by
      rw [List.set_comm _ _ (Ne.symm h2), List.set_comm _ _ (Ne.symm h3), List.set_set]
    show setT (.three i j k) d (((r.set k .und).set j .und).set i .und) = _
    cases d with
    | tuple l =>
      match l with
      | [a, b, c] =>
        show some _ = some _
        rw [e a b, e2]
      | [] => rfl
      | [a] => rfl
      | [a, b] => rfl
      | a :: b :: c :: d :: l => rfl
    | _ => rfl
theorem GOk.notDr {H : Hp} {g : G} {da : DA} {D : Addr} (h : GOk H g da) (hD : H D = none) : ¬ isDr da D := fun d => by
  obtain ⟨xs, e⟩ := h.lst d
  rw [hD] at e
  cases e
theorem GOk.upd {H : Hp} {g : G} {da : DA} {D : Addr} {o : HO} (h : GOk H g da) (hD : ¬ isDr da D) : GOk (upd H D o) g da := by
  unfold GOk at h ⊢
  split at h
  · trivial
  · rename_i ns c rs a n zs
    obtain ⟨h1, h2, h3, h4, h5⟩ := h
    have no : ∀ b, b ∈ dAll (a, n, zs) → b ≠ D := fun b hb z => hD ⟨_, rfl, z ▸ hb⟩
    refine ⟨h1, ?_, ?_, h4, RdOk.keep (fun z hz o => ?_) h5⟩
    · rw [upd_ne (no a (.head _))]; exact h2
    · rw [upd_ne (no n (.tail _ (.head _)))]; exact h3
    · obtain ⟨m1, m2⟩ := flat2_mem hz
      rw [upd_ne (no _ (.tail _ (.tail _ m1))), upd_ne (no _ (.tail _ (.tail _ m2)))]
      exact ⟨fun e => e, fun e => e⟩
  · exact h
/-- an object that is not frozen is written; it was not there before -/
theorem Nx.put {da : DA} {F H F' H' : Hp} {g : G} {D : Addr} {o : HO} (n : Nx da F H F' H' g) (h1 : H D = none) (h2 : F' D = none) (h3 : ¬ isDr da D) : Nx da F H F' (upd H' D o) g :=
  ⟨n.fr, fun b x e => by
    rw [upd_ne (ne_of_none e h2)]
    exact n.sub b x e, fun b x e nd => by
    rw [upd_ne (ne_of_none e h1)]
    exact n.keep b x e nd, n.new, n.gok.upd h3, fun b x e => by
    rw [upd_ne (ne_of_none e h1)]
    exact n.tho b x e⟩
/-- .. and is frozen -/
theorem Nx.freeze {da : DA} {F H F' H' : Hp} {g : G} {D : Addr} {o : HO} (n : Nx da F H F' H' g) (h1 : H D = none) (h2 : F' D = none) (h3 : H' D = some o) : Nx da F H (upd F' D o) H' g :=
  ⟨n.fr.trans (same_upd h2), fun b x e => by
    by_cases hb : b = D
    · subst hb
      rw [upd_same] at e
      cases e
      exact h3
    · rw [upd_ne hb] at e
      exact n.sub b x e, n.keep, fun b x e nd => by
    rw [upd_ne (ne_of_none e h1)]
    exact n.new b x e nd, n.gok, n.tho⟩
section
variable {T : Tab} {cl : Cls} {Φ : Nat → Fn} {k : Nat} {W : WX} {S : Stat} {X : Cx} {K : PySem.W.Frag}
/-! ### a comprehension -/
theorem rd_lc {t : Tg} {it c e : E} {tt : TT} (hd : (tgIx t).Nodup) (hT : ∀ σ H Q, tT K cl W0 Φ c σ H Q → tt σ H Q) {σ : St} {H : Hp} {Q : VK} (hq : tE K cl W Φ (.lc t it c e) σ H Q) : tLc (tI K cl W Φ it) (gT K t) tt (tE K cl W0 Φ e) (tgIx t) σ H Q := by
  obtain ⟨F, da, r, g, Rr, z⟩ := hq
  refine ⟨F, da, r, g, Rr, Post.bind z fun d g1 J F1 H1 n rl p => ?_⟩
  obtain ⟨xs, Gp, Y, rfl, hl, wk, hG, hY⟩ := rl
  dsimp only at p
  generalize eC : (fun x g => match setT t x r with
      | some r1 => (evE Φ c r1 g).bind fun k g => R.of g (bl? k)
      | none => R.bad : D → G → R Bool) = C at p
  generalize eE : (fun x g => match setT t x r with
      | some r1 => evE Φ e r1 g
      | none => R.bad : D → G → R D) = Ee at p
  intro Dl hD
  cases el : lcL C Ee xs g1 with
  | exc _ _ => rw [el] at p; exact False.elim p
  | bad => rw [el] at p; exact False.elim p
  | ok ys g2 =>
  rw [el] at p
  have p : Post cl W σ relE da F1 H1 Q (.ok (.list ys) g2) := p
  have hnd : ¬ isDr da Dl := n.gok.notDr hD
  refine lc_it wk (fun i H' => ∃ F' g' acc as zs, Nx da F1 H1 F' H' g' ∧ H' Dl = some (.lst acc) ∧ F' Dl = none ∧ RpAll F' acc as ∧ acc.length ≤ i ∧ lcL C Ee (xs.drop i) g' = .ok zs g2 ∧ ys = as ++ zs) ?_ ?_ ?_ ?_
  · exact ⟨F1, g1, [], [], ys, Nx.of_al n.gok (Al.side n.sub hD), upd_same, n.sub.free hD, .nil, Nat.le_refl _, by rw [List.drop_zero]; exact el, rfl⟩
  · rintro i H' hi ⟨F', g', acc, as, zs, nx, _⟩
    exact hG F' H' nx.fr nx.sub
  · rintro i x H' H'' hi ⟨F', g', acc, as, zs, nx, hDl, hFD, ra, hac, elc, eys⟩ y
    obtain ⟨x', F2, hx, al, rp⟩ := hY i F' H' x H'' hi nx.fr nx.sub y
    have edr : xs.drop i = x' :: xs.drop (i + 1) := by
      obtain ⟨h1, h2⟩ := List.getElem?_eq_some_iff.mp hx
      rw [← List.getElem_cons_drop h1, h2]
    rw [edr] at elc
    have nx2 : Nx da F1 H1 F2 H'' g' := nx.al al
    have hDl2 : H'' Dl = some (.lst acc) := al.keep _ _ hDl
    have hFD2 : F2 Dl = none := (al.new _ _ hDl hFD).resolve_right TupI.noL
    unfold lcL at elc
    cases es : setT t x' r with
    | none =>
      have : C x' g' = .bad := by rw [← eC]; simp only [es]
      rw [this] at elc
      cases elc
    | some r1 =>
      have ec : C x' g' = evT Φ c r1 g' := by rw [← eC]; simp only [es]; rfl
      have ee : ∀ g, Ee x' g = evE Φ e r1 g := fun g => by rw [← eE]; simp only [es]
      rw [ec] at elc
      have Rw : Rep K cl F2 H'' da (L2.wipe σ (tgIx t)) (wipeE r (tgIx t)) g' := ((Rr.nx (n.trans nx2)).wipes _)
      refine rd_T Rw rp (by rw [setT_wipe hd]; exact es) fun σ1 R1 len1 out1 => ?_
      refine ⟨wipe_same (by rw [len1, wipe_length]) out1, hT _ _ _ ?_⟩
      cases et : evT Φ c r1 g' with
      | bad => rw [et] at elc; cases elc
      | exc _ _ => rw [et] at elc; cases elc
      | ok b gb =>
      rw [et] at elc
      refine ⟨F2, da, r1, g', R1, ?_⟩
      rw [et]
      intro b' F3 H3 n3 eb
      have eb : b' = b := eb
      subst eb
      have nx3 := nx2.trans n3
      have hDl3 : H3 Dl = some (.lst acc) := n3.keep _ _ hDl2 hnd
      have hFD3 : F3 Dl = none := (n3.new _ _ hDl2 hFD2).resolve_right TupI.noL
      cases b' with
      | false =>
        rw [if_neg Bool.false_ne_true]
        exact ⟨F3, gb, acc, as, zs, nx3, hDl3, hFD3, ra.mono (al.fr.trans n3.fr), Nat.le_succ_of_le hac, elc, eys⟩
      | true =>
        rw [if_pos rfl]
        dsimp only at elc
        rw [ee] at elc
        refine ⟨F3, da, r1, gb, R1.nx n3, ?_⟩
        cases ev : evE Φ e r1 gb with
        | bad => rw [ev] at elc; cases elc
        | exc _ _ => rw [ev] at elc; cases elc
        | ok yv gc =>
        rw [ev] at elc
        dsimp only at elc
        intro v F4 H4 n4 rp4
        cases er : lcL C Ee (xs.drop (i + 1)) gc with
        | bad => rw [er] at elc; cases elc
        | exc _ _ => rw [er] at elc; cases elc
        | ok zs' gd =>
        rw [er] at elc
        cases elc
        have hDl4 : H4 Dl = some (.lst acc) := n4.keep _ _ hDl3 hnd
        have hFD4 : F4 Dl = none := (n4.new _ _ hDl3 hFD3).resolve_right TupI.noL
        refine ⟨acc, hDl4, lim_line (by omega), F4, gc, acc ++ [v], as ++ [yv], zs', (nx3.trans n4).put hD hFD4 hnd, upd_same, hFD4, (ra.mono ((al.fr.trans n3.fr).trans n4.fr)).append (.cons rp4 .nil), by rw [List.length_append, List.length_singleton]; omega, er, ?_⟩
        rw [eys, List.append_assoc]
        rfl
  · rintro H' ⟨F', g', acc, as, zs, nx, hDl, hFD, ra, hac, elc, eys⟩
    rw [List.drop_length] at elc
    unfold lcL at elc
    cases elc
    rw [List.append_nil] at eys
    subst eys
    refine p _ _ H' (nx.freeze hD hFD hDl) (.lst upd_same (ra.mono (same_upd hFD)) ?_)
    rw [← ra.length]
    omega
theorem XOk.blk (h : XOk T cl Φ k W S X) (scope : Scope) (s : Shared) (H : Hp) (C : Addr) (cs : List (Str × Addr)) (fp : List Addr) : XOk T cl Φ k W0 (blkS S scope) (X.blk s H scope (compEnvC scope cs C X.env) fp) where
  hN := h.hN
  hsc := by
    show relS scope X.env.scope = relS scope S.sc
    rw [h.hsc]
  hfn := rfl
  nd := h.nd
  calm := h.calm
  room := h.room
  blt := h.blt
  glo := h.glo
  pass := fun σ => passW0 σ
  fun_ := h.fun_
  exf := h.exf
  rdx := h.rdx
theorem tg_own {t : Tg} {x : Expr} {S' : Stat} (q : okTg S' t x = true) : (tgOwn t x).map (·.2) = tgIx t ∧ (tgIx t).Nodup := by
  unfold okTg at q
  split at q
  · exact ⟨rfl, by simp [tgIx]⟩
  · obtain ⟨q, q3⟩ := and2 q
    have := of_decide_eq_true q3
    exact ⟨rfl, by simpa [tgIx] using this⟩
  · obtain ⟨q, q6⟩ := and2 q
    obtain ⟨q, q5⟩ := and2 q
    obtain ⟨q, q4⟩ := and2 q
    have h4 := of_decide_eq_true q4
    have h5 := of_decide_eq_true q5
    have h6 := of_decide_eq_true q6
    exact ⟨rfl, by simp only [tgIx, List.nodup_cons, List.mem_cons, List.not_mem_nil, or_false, not_or]; exact ⟨⟨h4, h5⟩, h6, not_false, List.nodup_nil⟩⟩
  · cases q
theorem rd_yes {c : E} (q : isTrueC c = true) (σ : St) (H : Hp) (Q : Bool → Hp → Prop) (hq : tT K cl W0 Φ c σ H Q) : tYes σ H Q := by
  unfold isTrueC at q
  split at q
  · obtain ⟨F, da, r, g, Rr, z⟩ := hq
    exact z true F H (Nx.refl Rr.sub Rr.gok) rfl
  · cases q
/-! ### what one owns is lent -/
theorem Rep.lend {F H : Hp} {da : DA} {g : G} {σ : St} {r : Env} (h : Rep K cl F H da σ r g) : ∃ F', Same F F' ∧ Rep K cl F' H da σ (r.map frz1) g := by
  classical
  let F' : Hp := fun b => match F b with
    | some o => some o
    | none => if ∃ (i : Nat) (ds : List D), r[i]? = some (.own ds) ∧ σ[i]? = some (some (.ref b)) then H b else none
  have s : Same F F' := fun b o e => by
    show (match F b with | some o => some o | none => _) = some o
    rw [e]
  refine ⟨F', s, fun b o e => ?_, h.gok, fun i c e => ?_, by rw [List.length_map]; exact h.len, fun i j a ds es e1 => ?_, fun b d => ?_, ApT.no fun i a b c e1 => ?_, ApD.no fun i x e1 => ?_⟩
  · have e : (match F b with | some o => some o | none => if ∃ (i : Nat) (ds : List D), r[i]? = some (.own ds) ∧ σ[i]? = some (some (.ref b)) then H b else none) = some o := e
    cases q : F b with
    | some o' =>
      rw [q] at e
      cases e
      exact h.sub _ _ q
    | none =>
      rw [q] at e
      dsimp only at e
      split at e
      · exact e
      · cases e
  · rw [List.getElem?_map] at e
    cases q : r[i]? with
    | none => rw [q] at e; cases e
    | some c' =>
      rw [q] at e
      cases e
      have sl := h.slot i c' q
      cases c' with
      | und => trivial
      | val d => obtain ⟨v, e, rp⟩ := sl; exact ⟨v, e, rp.mono s⟩
      | own ds =>
        obtain ⟨a, e, xs, h1, h2, h3, h4, h5⟩ := sl
        refine ⟨.ref a, e, .lst (xs := xs) ?_ (h4.mono s) h5⟩
        show (match F a with | some o => some o | none => if ∃ (i : Nat) (ds : List D), r[i]? = some (.own ds) ∧ σ[i]? = some (some (.ref a)) then H a else none) = some (.lst xs)
        rw [h2]
        dsimp only
        rw [if_pos ⟨i, ds, q, e⟩]
        exact h1
      | drw => exact sl
      | exn _ => obtain ⟨b, y1, y2⟩ := sl; exact ⟨b, y1, s _ _ y2⟩
      | scr ns => obtain ⟨b, y1, y2, y3⟩ := sl; exact ⟨b, y1, s.seq y2, y3⟩
      | ot _ _ _ => trivial
      | dct _ => trivial
      | rdr j A B => obtain ⟨v, y1, y2⟩ := sl; exact ⟨v, y1, y2.mono s⟩
  · rw [List.getElem?_map] at e1
    cases q : r[i]? with
    | none => rw [q] at e1; cases e1
    | some c' => rw [q] at e1; cases c' <;> cases e1
  · show (match F b with | some o => some o | none => if ∃ (i : Nat) (ds : List D), r[i]? = some (.own ds) ∧ σ[i]? = some (some (.ref b)) then H b else none) = none
    rw [h.nod b d]
    dsimp only
    rw [if_neg]
    rintro ⟨i, ds, e1, e2⟩
    obtain ⟨a, e3, xs, h1, h2, h3, _⟩ := h.slot i _ e1
    rw [e3] at e2
    cases e2
    exact h3 d
  · rw [List.getElem?_map] at e1
    cases q : r[i]? with
    | none => rw [q] at e1; cases e1
    | some c' => rw [q] at e1; cases c' <;> cases e1
  · rw [List.getElem?_map] at e1
    cases q : r[i]? with
    | none => rw [q] at e1; cases e1
    | some c' => rw [q] at e1; cases c' <;> cases e1
theorem Nx.back {da : DA} {F F' H F2 H2 : Hp} {g : G} (s : Same F F') (n : Nx da F' H F2 H2 g) : Nx da F H F H2 g :=
  ⟨Same.refl F, (s.trans n.fr).trans n.sub, n.keep, fun _ _ _ z => .inl z, n.gok, n.tho⟩
theorem Rp.plain {F F' : Hp} {v : V} {d : D} (f : flatD d = true) (h : Rp F v d) : Rp F' v d := by
  cases h with
  | non => exact .non
  | bl b => exact .bl b
  | int i => exact .int i
  | str x h k => exact .str x h k
  | lst => cases f
  | tup => cases f
theorem snd_bor {e : E} {x : Expr} (p : PE X x (tE X.K cl W Φ e)) : PE X x (tE X.K cl W Φ (.bor e)) := by
  refine impE p fun σ H Q hq => ?_
  obtain ⟨F, da, r, g, Rr, z⟩ := hq
  obtain ⟨F', s, Rr'⟩ := Rr.lend
  refine ⟨F', da, r.map frz1, g, Rr', ?_⟩
  have z : Post cl W σ relE da F H Q ((evE Φ e (r.map frz1) g).bind fun d g => match flatD d with
    | true => .ok d g
    | false => .bad) := z
  cases q : evE Φ e (r.map frz1) g with
  | ok d g1 =>
    rw [q] at z
    simp only [R.bind] at z
    cases f : flatD d with
    | false => rw [f] at z; exact False.elim z
    | true =>
      rw [f] at z
      exact fun v F1 H1 n rp => z v F H1 (Nx.back s n) (Rp.plain f rp)
  | exc c g1 =>
    rw [q] at z
    exact fun F1 H1 n => z F H1 (Nx.back s n)
  | bad => rw [q] at z; exact z
end
end Tl
end
section
set_option Elab.async false
set_option linter.all false
set_option autoImplicit false
set_option maxRecDepth 100000
namespace Tl
open PySem PySem.Spec PyProof.Rows L2
/-! ### dicts with tuples of numbers as keys -/
theorem depAll_ints : ∀ ns : List Int, PyData.depthAll (ns.map .int) ≤ 0
  | [] => by simp [PyData.depthAll]
  | n :: ns => by
    have := depAll_ints ns
    simp only [List.map_cons, PyData.depthAll, PyData.depth]
    omega
theorem inl_inj : ∀ {a b : List Int}, a.map (Sum.inl : Int → Key) = b.map Sum.inl → a = b
  | [], [], _ => rfl
  | [], _ :: _, h => by cases h
  | _ :: _, [], h => by cases h
  | x :: a, y :: b, h => by
    rw [List.map_cons, List.map_cons] at h
    injection h with h1 h2
    injection h1 with h1
    rw [h1, inl_inj h2]
abbrev keyE (k : List Int) : PyData := .tuple (k.map .int)
theorem reads_ints {h : Heap} : ∀ {ns : List Int} {vs : List Value} {as : List Addr}, ReadsAll h vs (ns.map PyData.int) as → as = []
  | [], _, _, r => by cases r; rfl
  | n :: ns, _, _, r => by
    cases r with
    | cons h1 h2 =>
      cases h1
      rw [reads_ints h2]
      rfl
theorem reads_key {h : Heap} {k : List Int} {v : Value} {as : List Addr} (r : Reads h v (keyE k) as) : as = [] := by
  cases r with
  | tuple _ _ _ h4 => exact reads_ints h4
/-- the keys' tuples -/
abbrev AtK (H : Hp) : List Int → Addr → Prop := fun k b => H b = some (.tup (k.map V.int))
theorem dp_key {K : PySem.W.Frag} {H : Hp} {k : List Int} {b : Addr} (h : H b = some (.tup (k.map V.int))) (hl : k.length ≤ lim) : Dp K H (.ref b) (keyE k) := by
  have r : Rp (upd (fun _ => none) b (.tup (k.map V.int))) (.ref b) (keyE k) := .tup upd_same (rp_ints_all k) (by rw [List.length_map]; exact hl)
  refine r.dp (fun c o e => ?_)
  by_cases z : c = b
  · subst z
    rw [upd_same] at e
    cases e
    exact h
  · rw [upd_ne z] at e
    cases e
def srtKeys (kvs : List (List Int × Int)) : List (List Int) := (kvs.map (·.1)).mergeSort fun a b => PySem.W.dataLe false id (keyE a) (keyE b)
theorem sort_keys (kvs : List (List Int × Int)) : sortD (keysD kvs) = (srtKeys kvs).map keyE := by
  rw [sortD_eq]
  unfold srtKeys keysD
  rw [show (kvs.map fun p => PyData.tuple (p.1.map .int)) = (kvs.map (·.1)).map keyE by rw [List.map_map]; rfl]
  exact (List.map_mergeSort (r := fun a b => PySem.W.dataLe false id (keyE a) (keyE b)) (s := PySem.W.dataLe false id) (f := keyE) fun a _ b _ => rfl).symm
def rSortDT : List V → Hp → VK → Prop := fun xs H Q => ∃ (d : Addr) (kvs : List (List Int × Int)), xs = [.ref d] ∧ H d = some (.dT (encT kvs)) ∧ kvs.length ≤ lim ∧ (∀ p ∈ kvs, p.1 ≠ [] ∧ p.1.length ≤ lim) ∧
  ∀ (p : Addr) (bs : List Addr), H p = none → Paired (AtK H) (srtKeys kvs) bs → Q (.ref p) (upd H p (.lst (bs.map V.ref)))
theorem paired_map {α β γ : Type} {R : α → β → Prop} {f : γ → α} {g : γ → β} : ∀ {l : List γ}, (∀ x ∈ l, R (f x) (g x)) → Paired R (l.map f) (l.map g)
  | [], _ => .nil
  | x :: l, h => .cons (h x (.head _)) (paired_map fun y hy => h y (.tail _ hy))
theorem keys_items {H : Hp} : ∀ {kvs : List (List Int × Int)} {bs : List Addr}, IsKeys H (encT kvs) bs → ∃ items : List (List Int × Addr), items.map (·.1) = kvs.map (·.1) ∧ items.map (·.2) = bs ∧ ∀ x ∈ items, H x.2 = some (.tup (x.1.map V.int))
  | [], _, h => by cases h; exact ⟨[], rfl, rfl, fun _ h => by cases h⟩
  | p :: kvs, _, h => by
    cases h with
    | @cons _ b _ bs h1 t =>
      obtain ⟨items, e1, e2, e3⟩ := keys_items t
      refine ⟨(p.1, b) :: items, by simp [e1], by simp [e2], fun x hx => ?_⟩
      rcases List.mem_cons.mp hx with z | z
      · subst z
        have h1 : H b = some (.tup ((p.1.map Sum.inl).map kV)) := h1
        rw [List.map_map] at h1
        exact h1
      · exact e3 x z
theorem each_of {α : Type} {R : Value → α → Prop} {f : α → Value} : ∀ (l : List α), (∀ x ∈ l, R (f x) x) → PySem.W.EachIs R (l.map f) l
  | [], _ => .nil
  | x :: l, h => .cons (h x (.head _)) (each_of l fun y hy => h y (.tail _ hy))
theorem each_map_eq {α : Type} {f : α → Value} : ∀ {vs : List Value} {l : List α}, PySem.W.EachIs (fun v x => v = f x) vs l → vs = l.map f
  | _, _, .nil => rfl
  | _, _, .cons h t => by rw [List.map_cons, ← each_map_eq t, h]
theorem cr_sortDT {X : Cx} (hc : X.calm = true) (hu : X.A.units + 64 < cLine) : CallR X (.builtin "sorted") rSortDT := by
  intro pins s σ H xs us Q I r h
  obtain ⟨d, kvs, rfl, hd, hln, hk, q⟩ := h
  obtain ⟨u, rfl, rx⟩ := vals1 r
  cases rx
  obtain ⟨z, hs, ks, pr, o, es, ep, ho, hx, hdt, he, hn⟩ := (show ObjOk X.prog X.w H s.heap d (.dT (encT kvs)) from I.hok d _ hd)
  have l1 : es.size = ks.length := size_of_entries he
  have l2 : (encT kvs).length = ks.length := Paired.length pr
  have l3 : (encT kvs).length = kvs.length := List.length_map ..
  refine Calls.call_function_entry kind_sorted plain_sorted entry_sorted (args_sorted1 _) ?_
  unfold Builtin.«sorted»
  refine wpAny_bind (m := checkCount "sorted" 1 1 _) (wpAny_pure ?_)
  refine wpAny_bind (PySem.W.kdu_collect (A := X.A.in1) (kdl_raw hs hx hdt) (I.ok.hd hc) ho (by omega) fun h' tk acc' kp it => ?_)
  have ea : acc'.toList = ks.map fun x => Value.ref x.2.1 := by
    have hl : acc'.toList.length = ks.length := by rw [Array.length_toList, it.1]; exact l1
    apply List.ext_getElem?
    intro j
    rw [List.getElem?_map]
    cases hj : acc'.toList[j]? with
    | none =>
      have h1 := List.getElem?_eq_none_iff.mp hj
      rw [List.getElem?_eq_none (by omega)]
      all_goals rfl
    | some v =>
      obtain ⟨en, hen, hv⟩ := it.2 j v (by rw [← Array.getElem?_toList]; exact hj)
      have qe := entry_at he j
      rw [hen] at qe
      cases hb : ks[j]? with
      | none =>
        rw [hb] at qe
        exact nomatch (show some en = none from qe)
      | some b =>
        rw [hb] at qe
        have e2 : en = entryOfKey (tupleKind (mixKind X.prog X.w)) b := Option.some.inj qe
        rw [hv, e2]
        all_goals rfl
  obtain ⟨items, i1, i2, i3⟩ := keys_items (isKeys_of pr)
  have ev : acc'.toList = items.map fun x => Value.ref x.2 := by
    rw [ea, show (items.map fun x => Value.ref x.2) = (items.map (·.2)).map Value.ref by rw [List.map_map]; rfl, i2, List.map_map]
    rfl
  have hki : ∀ x ∈ items, x.1 ≠ [] ∧ x.1.length ≤ lim := fun x hx => by
    have : x.1 ∈ kvs.map (·.1) := by rw [← i1]; exact List.mem_map_of_mem hx
    obtain ⟨p, hp, e⟩ := List.mem_map.mp this
    rw [← e]
    exact hk p hp
  have hli : items.length = kvs.length := by
    have := congrArg List.length i1
    simpa using this
  have I1 : Inv X pins σ H { s with heap := h', toks := tk } := I.kept kp
  rw [ev]
  refine wpAny_bind (wpAny_newList ?_ (by rw [List.length_map, hli]; exact lim_line' hln))
  have hoL : (h'.push (seqObj "list" (items.map fun x => Value.ref x.2).toArray 0)).get? h'.objs.size = some (seqObj "list" (items.map fun x => Value.ref x.2).toArray 0) := Heap.get?_push_size _ rfl
  have al : PySem.W.AllAlike (items.map fun x => keyE x.1) := fun a ha b hb => by
    obtain ⟨x, _, rfl⟩ := List.mem_map.mp ha
    obtain ⟨y, _, rfl⟩ := List.mem_map.mp hb
    show PySem.W.alike (.tuple _) (.tuple _) = true
    simp only [PySem.W.alike]
    exact PySem.W.alikeAll_map x.1 y.1
  have sk : PySem.W.Sortable (items.map fun x => keyE x.1) := .inl fun a ha => by
    obtain ⟨x, hx, rfl⟩ := List.mem_map.mp ha
    cases hq : x.1 with
    | nil => exact absurd hq (hki x hx).1
    | cons n ns => exact ⟨.int n, ns.map .int, by simp [hq]⟩
  have er : PySem.W.EachIs (fun v (x : List Int × Addr) => ∃ as, Reads (h'.push (seqObj "list" (items.map fun x => Value.ref x.2).toArray 0)) v (keyE x.1) as ∧ h'.objs.size ∉ as) (items.map fun x => Value.ref x.2) items := each_of items fun x hx => by
    obtain ⟨as, rr⟩ := Dp.reads I1 (keyE x.1) (.ref x.2) (.ref x.2) (dp_key (i3 x hx) (hki x hx).2) rfl
    have e := reads_key rr
    subst e
    exact ⟨[], PyProof.Rows.Reads.keeps (fun _ _ e => Heap.get?_push_of_some _ e) rr, by simp⟩
  refine wpAny_bind (wpAny_holding (PySem.W.list_sort_data (R := fun v (x : List Int × Addr) => v = Value.ref x.2) (enc := fun x : List Int × Addr => keyE x.1) hoL (each_of items fun x _ => rfl) er al sk (by rw [hli]; exact lim_line' hln) (fun x hx => ?_) fun out hlen hout => ?_))
  · have : (keyE x.1).depth ≤ 1 := by
      have := depAll_ints x.1
      simp only [PyData.depth]
      omega
    show X.A.units + 1 + 1 + (keyE x.1).depth < cLine
    omega
  obtain ⟨c, hcc⟩ := sortedHeap_at (vs := items.map fun x => Value.ref x.2) (out := out.toArray) hoL
  have eo := each_map_eq hout
  have sm : (items.mergeSort (PySem.W.dataLe false fun x => keyE x.1)).map (·.1) = srtKeys kvs := by
    unfold srtKeys
    rw [← i1]
    exact List.map_mergeSort (r := PySem.W.dataLe false fun x : List Int × Addr => keyE x.1) (s := fun a b => PySem.W.dataLe false id (keyE a) (keyE b)) (f := (·.1)) fun a _ b _ => rfl
  have mi : ∀ x ∈ items.mergeSort (PySem.W.dataLe false fun x => keyE x.1), H x.2 = some (.tup (x.1.map V.int)) := fun x hx => i3 x ((List.mergeSort_perm _ _).mem_iff.mp hx)
  generalize items.mergeSort (PySem.W.dataLe false fun x => keyE x.1) = it2 at eo sm mi
  have hN : H h'.objs.size = none := I1.hok.fresh (Nat.le_refl _)
  have kp2 : ∀ b o, h'.get? b = some o → (sortedHeap (h'.push (seqObj "list" (items.map fun x => Value.ref x.2).toArray 0)) h'.objs.size (items.map fun x => Value.ref x.2) out.toArray).get? b = some o := fun b o e => by
    have hlt := Heap.lt_size e
    rw [sortedHeap_old (Nat.ne_of_lt hlt) (by rw [size_push']; exact Nat.lt_succ_of_lt hlt)]
    exact Heap.get?_push_of_some _ e
  have hl2 : it2.length = items.length := by
    have := congrArg List.length sm
    have h3 : (srtKeys kvs).length = kvs.length := by unfold srtKeys; rw [List.length_mergeSort, List.length_map]
    rw [List.length_map, h3] at this
    omega
  refine wpAny_pure ⟨_, rfl, .ref h'.objs.size, upd H h'.objs.size (.lst ((it2.map (·.2)).map V.ref)), I1.laid (t' := tk) kp2 (Nat.le_refl _) (show ObjOk X.prog X.w _ _ _ (.lst ((it2.map (·.2)).map V.ref)) from ⟨?_, out, c, ?_, hcc⟩), rfl, q _ _ hN ?_⟩
  · rw [List.length_map, List.length_map, hl2, hli]; exact lim_line' hln
  · rw [eo, show (it2.map fun x => Value.ref x.2) = (it2.map (·.2)).map Value.ref by rw [List.map_map]; rfl]
    exact vals_refs _
  · rw [← sm]
    exact paired_map mi
section
variable {T : Tab} {cl : Cls} {Φ : Nat → Fn} {k : Nat} {W : WX} {S : Stat} {X : Cx}
theorem rp_keys {F : Hp} : ∀ {ks : List (List Int)} {bs : List Addr}, (∀ k ∈ ks, k.length ≤ lim) → Paired (fun k b => F b = some (.tup (k.map V.int))) ks bs → RpAll F (bs.map V.ref) (ks.map keyE)
  | _, _, _, .nil => .nil
  | _, _, hl, .cons h t => .cons (.tup h (rp_ints_all _) (by rw [List.length_map]; exact hl _ (.head _))) (rp_keys (fun k hk => hl k (.tail _ hk)) t)
theorem paired_mem {α β : Type} {R : α → β → Prop} : ∀ {l : List α} {m : List β} {b : β}, Paired R l m → b ∈ m → ∃ a ∈ l, R a b
  | _, _, _, .nil, h => by cases h
  | _, _, b, .cons h t, hb => by
    rcases List.mem_cons.mp hb with z | z
    · subst z; exact ⟨_, .head _, h⟩
    · obtain ⟨a, h1, h2⟩ := paired_mem t z
      exact ⟨a, .tail _ h1, h2⟩
theorem paired_imp {α β : Type} {R R' : α → β → Prop} : ∀ {l : List α} {m : List β}, (∀ a b, b ∈ m → R a b → R' a b) → Paired R l m → Paired R' l m
  | _, _, _, .nil => .nil
  | _, _, f, .cons h t => .cons (f _ _ (.head _) h) (paired_imp (fun a b hb => f a b (.tail _ hb)) t)
theorem snd_dsort (h : XOk T cl Φ k W S X) {i : Nat} {f a : Str} {p p1 pos : Pos} (q : (okB S f "sorted" && okV S i a) = true) : PE X (.Call (.Name f p) [.Name a p1] [] pos) (tE X.K cl W Φ (.dsort i)) := by
  obtain ⟨q1, q2⟩ := and2 q
  obtain ⟨rfl, g, m⟩ := h.bl q1 (by decide +kernel)
  refine impE (pe_callB (cr_sortDT h.calm (by have := h.units; omega)) g m boot_sorted (pa_cons (h.var q2) pa_nil)) fun σ H Q hq => ?_
  obtain ⟨F, da, r, g, Rr, p⟩ := hq
  cases e : r[i]? with
  | none => simp only [evE, e] at p; exact p.elim
  | some x =>
    have sl := Rr.slot i x e
    cases x with
    | dct kvs =>
      simp only [evE, e] at p
      split at p
      · rename_i hc
        obtain ⟨hl, ha⟩ := hc
        obtain ⟨ad, e1, e2, e3, e4⟩ := sl
        have hk : ∀ p ∈ kvs, p.1 ≠ [] ∧ p.1.length ≤ lim := fun p hp => by
          have := List.all_eq_true.mp ha p hp
          simp only [Bool.and_eq_true, decide_eq_true_iff] at this
          refine ⟨fun z => ?_, this.2⟩
          rw [z] at this
          simp at this
        refine ⟨_, e1, ad, kvs, rfl, e2, hl, hk, fun pn bs hp hb => ?_⟩
        have hkl : ∀ k ∈ srtKeys kvs, k.length ≤ lim := fun k hk' => by
          obtain ⟨p, hp, rfl⟩ := List.mem_map.mp ((List.mergeSort_perm _ _).mem_iff.mp hk')
          exact (hk p hp).2
        have hll : (srtKeys kvs).length ≤ lim := by unfold srtKeys; rw [List.length_mergeSort, List.length_map]; exact hl
        let F1 : Hp := fun b => open Classical in if b ∈ bs then H b else F b
        have f1 : Same F F1 := fun b o e => by
          show (open Classical in if b ∈ bs then H b else F b) = some o
          by_cases c : b ∈ bs
          · rw [if_pos c]; exact Rr.sub b o e
          · rw [if_neg c]; exact e
        have f2 : Same F1 H := fun b o e => by
          have e : (open Classical in if b ∈ bs then H b else F b) = some o := e
          by_cases c : b ∈ bs
          · rw [if_pos c] at e; exact e
          · rw [if_neg c] at e; exact Rr.sub b o e
        have al1 : Al F H F1 H := ⟨f1, f2, Same.refl H, fun b o e n => by
          by_cases c : b ∈ bs
          · obtain ⟨kk, _, hkk⟩ := paired_mem hb c
            have hkk : H b = some (.tup (kk.map V.int)) := hkk
            rw [e] at hkk
            cases hkk
            exact .inr ⟨kk, rfl⟩
          · refine .inl ?_
            show (open Classical in if b ∈ bs then H b else F b) = none
            rw [if_neg c]
            exact n⟩
        have al := al1.trans (Al.one (o := .lst (bs.map V.ref)) f2 hp)
        refine p _ _ _ (Nx.of_al Rr.gok al) ?_
        rw [sort_keys]
        have pk : Paired (fun k b => F1 b = some (.tup (k.map V.int))) (srtKeys kvs) bs := paired_imp (fun a b hb' hh => by
          show (open Classical in if b ∈ bs then H b else F b) = _
          rw [if_pos hb']
          exact hh) hb
        exact .lst upd_same ((rp_keys hkl pk).mono (same_upd (f2.free hp))) (by rw [List.length_map]; exact hll)
      · exact p.elim
    | _ => simp only [evE, e] at p; exact p.elim
theorem valV_enc (kvs : List (List Int × Int)) (k : List Int) : valV (encT kvs) (k.map Sum.inl) = (valI kvs k).map V.int := by
  unfold valV valI encT
  induction kvs with
  | nil => rfl
  | cons p kvs ih =>
    rw [List.map_cons, List.find?_cons, List.find?_cons]
    have e : decide ((p.1.map (Sum.inl : Int → Key)) = k.map Sum.inl) = decide (p.1 = k) := by
      rw [decide_eq_decide]
      constructor
      · exact inl_inj
      · rintro rfl; rfl
    simp only [e]
    by_cases c : p.1 = k
    · simp [c]
    · simp only [c, decide_false]
      exact ih
theorem snd_dget (h : XOk T cl Φ k W S X) {i : Nat} {e : E} {a : Str} {p1 pos : Pos} {ix : Expr} (ie : ∀ y, okE T e S y = true → PE X y (tE X.K cl W Φ e)) (q : (okV S i a && noSlice ix && okE T e S ix) = true) : PE X (.Subscript (.Name a p1) ix pos) (tE X.K cl W Φ (.dget i e)) := by
  obtain ⟨q, q3⟩ := and2 q
  obtain ⟨q1, q2⟩ := and2 q
  refine impE (pe_dget (by have := h.units; omega) (h.var q1) (ie _ q3) (slice_ok q2)) fun σ H Q hq => ?_
  obtain ⟨F, da, r, g, Rr, p⟩ := hq
  cases ei : r[i]? with
  | none => simp only [evE, ei] at p; exact p.elim
  | some x =>
    have sl := Rr.slot i x ei
    cases x with
    | dct kvs =>
      obtain ⟨ad, e1, e2, e3, e4⟩ := sl
      simp only [evE, ei] at p
      refine ⟨_, e1, F, da, r, g, Rr, Post.bind p fun d g1 v F1 H1 n rl q2 => ?_⟩
      obtain ⟨dz, e5, kk⟩ := Post.al n.gok q2
      cases d with
      | tuple ds =>
        simp only [toTI] at e5
        cases q3 : toInts ds with
        | none => rw [q3] at e5; cases e5
        | some kz =>
          rw [q3] at e5
          simp only [Option.bind_some] at e5
          cases q4 : valI kvs kz with
          | none => rw [q4] at e5; cases e5
          | some val =>
            rw [q4] at e5
            cases e5
            cases rl with
            | @tup b xs _ h1 h2 h3 =>
              obtain ⟨h5, h6⟩ := rp_ints h2 q3
              subst h5
              refine ⟨ad, .int val, rfl, ?_, kk _ _ _ (Al.refl n.sub) (.int _)⟩
              have hb : H1 b = some (.tup ((kz.map Sum.inl).map kV)) := by
                rw [List.map_map]
                exact n.sub _ _ h1
              have := DGet.t (n.keep _ _ e2 e4) hb
              rw [valV_enc, q4] at this
              exact this
      | _ => simp [toTI] at e5
    | _ => simp only [evE, ei] at p; exact p.elim
end
end Tl
end
section
set_option Elab.async false
set_option linter.all false
set_option autoImplicit false
set_option maxRecDepth 100000
namespace Tl
open PySem PySem.Spec PyProof.Rows L2
/-! ### lists filled from makers of tuples -/
abbrev tupO (vs : Array Value) : Obj := { cls := .type "tuple", data := .seq vs }
abbrev lstO (vs : Array Value) (c : Nat) : Obj := { cls := .type "list", data := .seq vs c }
/-- each thing is a new tuple; the list that is filled lies at S -/
structure TupSrc (P : Program) (w : World) (A : Around) (I S : Addr) (wr : List Addr) (n : Nat) (vals : Nat → Array Value) (St : Nat → Heap → Prop) : Prop where
  frame : ∀ i h h', St i h → (∀ b o, b ≠ S → h.get? b = some o → h'.get? b = some o) → St i h'
  item : ∀ i (s : Shared) (Q : Option Value → Shared → Prop) (E : Value → Shared → Prop), i < n → St i s.heap → S < s.heap.objs.size →
    (∀ g, g.get? s.heap.objs.size = some (tupO (vals i)) → St (i + 1) g → (∀ b o, b ∉ wr → s.heap.get? b = some o → g.get? b = some o) → Q (some (.ref s.heap.objs.size)) { s with heap := g }) → wpAny (model P w) A (pyNext (.ref I)) Q E s
  done : ∀ (s : Shared) (Q : Option Value → Shared → Prop) (E : Value → Shared → Prop), St n s.heap →
    (∀ g, (∀ b o, b ∉ wr → s.heap.get? b = some o → g.get? b = some o) → Q none { s with heap := g }) → wpAny (model P w) A (pyNext (.ref I)) Q E s
/-- the tuples that were made -/
structure Mad (vals : Nat → Array Value) (lo : Addr) (h : Heap) (as : List Addr) : Prop where
  up : as.Pairwise (· < ·)
  ge : ∀ a ∈ as, lo ≤ a
  tp : ∀ (j : Nat) (a : Addr), as[j]? = some a → h.get? a = some (tupO (vals j))
theorem Mad.lt {vals : Nat → Array Value} {lo : Addr} {h : Heap} {as : List Addr} (m : Mad vals lo h as) {a : Addr} (ha : a ∈ as) : a < h.objs.size := by
  obtain ⟨j, hj⟩ := List.mem_iff_getElem?.mp ha
  exact Heap.lt_size (m.tp j a hj)
section
variable {P : Program} {w : World} {A : Around} {s : Shared}
theorem fill_loop {I S lo : Addr} {wr : List Addr} {n : Nat} {vals : Nat → Array Value} {St : Nat → Heap → Prop} {R : Result → Shared → Prop} (src : TupSrc P w A.in1 I S wr n vals St) (hn : n ≤ sizeLine) (hlo : ∀ b ∈ wr, b < lo) (hS0 : S ∉ wr) (hSl : S < lo) (res : Value) {h0 : Heap}
    (fin : ∀ g tk acc c as, (∀ b o, b ≠ S → b ∉ wr → h0.get? b = some o → g.get? b = some o) → g.get? S = some (lstO acc c) → as.length = n → Mad vals lo g as → acc.toList = as.map Value.ref → R (.ok (.ret res)) { s with heap := g, toks := tk }) :
    ∀ (k i : Nat) (h : Heap) (tk c : Nat) (acc : Array Value) (as : List Addr), n - i = k → i ≤ n → St i h → (∀ b o, b ≠ S → b ∉ wr → h0.get? b = some o → h.get? b = some o) → h.get? S = some (lstO acc c) →
      acc.toList = as.map Value.ref → as.length = i → Mad vals lo h as → lo ≤ h.objs.size → codeAny (model P w) A (.builtin "list.extend.loop" ⟨[.ref S, .ref I, res], []⟩) R { s with heap := h, toks := tk } := by
  intro k
  induction k with
  | zero =>
    intro i h tk c acc as hk hi st kp hS ha hl md hz
    have e : i = n := by omega
    subst e
    refine codeAny_builtin PySem.F.entry_extend_loop ?_
    rw [Around.under_plainId PySem.F.plain_extend_loop _]
    show wpAny _ A.in1 (pyNext (.ref I) >>= _) _ _ _
    refine wpAny_bind (src.done { s with heap := h, toks := tk } _ _ st fun g kg => ?_)
    have kg : ∀ b o, b ∉ wr → h.get? b = some o → g.get? b = some o := kg
    refine wpAny_pure (fin g tk acc c as (fun b o q1 q2 e => kg b o q2 (kp b o q1 q2 e)) (kg S _ hS0 hS) hl ⟨md.up, md.ge, fun j a hj => kg a _ (fun z => ?_) (md.tp j a hj)⟩ ha)
    exact Nat.lt_irrefl _ (Nat.lt_of_lt_of_le (hlo a z) (md.ge a (List.mem_of_getElem? hj)))
  | succ k ih =>
    intro i h tk c acc as hk hi st kp hS ha hl md hz
    have hlt : i < n := by omega
    have sz : acc.size = i := by rw [← Array.length_toList, ha, List.length_map, hl]
    refine codeAny_builtin PySem.F.entry_extend_loop ?_
    rw [Around.under_plainId PySem.F.plain_extend_loop _]
    show wpAny _ A.in1 (pyNext (.ref I) >>= _) _ _ _
    refine wpAny_bind (src.item i { s with heap := h, toks := tk } _ _ hlt st (Heap.lt_size hS) fun g gt st' kg => ?_)
    have gt : g.get? h.objs.size = some (tupO (vals i)) := gt
    have kg : ∀ b o, b ∉ wr → h.get? b = some o → g.get? b = some o := kg
    have gS := kg S _ hS0 hS
    have oth : ∀ b o, b ≠ S → g.get? b = some o → (g.update S (Obj.mapSeq (·.push (Value.ref h.objs.size)))).get? b = some o := fun b o nb e => (Heap.get?_update_other _ _ (Ne.symm nb)).trans e
    have hS1 : S < h.objs.size := Heap.lt_size hS
    show wpAny _ A.in1 (updateSeq S (·.push (Value.ref h.objs.size)) >>= _) _ _ _
    refine wpAny_bind (wpAny_updateSeq gS rfl (wpAny_pure ⟨plainId_quiet PySem.F.plain_extend_loop _, ih (i + 1) _ tk _ (acc.push (Value.ref h.objs.size)) (as ++ [h.objs.size]) (by omega) hlt (src.frame _ _ _ st' oth) (fun b o q1 q2 e => oth b o q1 (kg b o q2 (kp b o q1 q2 e)))
      (Heap.get?_update_self _ gS rfl) (by rw [Array.toList_push, ha, List.map_append]; rfl) (by rw [List.length_append, hl]; rfl) ⟨?_, ?_, ?_⟩ ?_⟩) (by rw [sz]; omega) (by show (acc.push (Value.ref h.objs.size)).size ≤ sizeLine + 1; rw [Array.size_push, sz]; omega))
    · refine List.pairwise_append.mpr ⟨md.up, List.pairwise_singleton _ _, fun a q1 b q2 => ?_⟩
      rw [List.mem_singleton.mp q2]
      exact md.lt q1
    · intro a q1
      rcases List.mem_append.mp q1 with q1 | q1
      · exact md.ge a q1
      · rw [List.mem_singleton.mp q1]
        exact hz
    · intro j b hj
      rcases Nat.lt_trichotomy j as.length with q1 | q1 | q1
      · rw [List.getElem?_append_left q1] at hj
        have bm := List.mem_of_getElem? hj
        have b1 := md.ge b bm
        exact oth b _ (Nat.ne_of_gt (Nat.lt_of_lt_of_le hSl b1)) (kg b _ (fun z => Nat.lt_irrefl _ (Nat.lt_of_lt_of_le (hlo b z) b1)) (md.tp j b hj))
      · subst q1
        have hb : h.objs.size = b := by simpa using hj
        subst hb
        rw [hl]
        exact oth _ _ (Nat.ne_of_gt hS1) gt
      · rw [List.getElem?_eq_none (by rw [List.length_append, List.length_singleton]; omega)] at hj
        cases hj
    · exact Nat.le_of_lt (Nat.lt_of_le_of_lt hz (Heap.lt_size (oth _ _ (Nat.ne_of_gt hS1) gt)))
end
end Tl
end
section
set_option Elab.async false
set_option linter.all false
set_option autoImplicit false
set_option maxRecDepth 100000
namespace Tl
open PySem PySem.Spec PyProof.Rows L2
theorem zip_nolen : typeLookup (.type "zip") "__len__" = pure none := am_miss_of_fast (by decide +kernel)
theorem zip_nohint : typeLookup (.type "zip") "__length_hint__" = pure none := am_miss_of_fast (by decide +kernel)
section
variable {P : Program} {w : World} {A : Around} {E : Value → Shared → Prop} {s : Shared}
theorem zip_hint {z : Addr} (hT : s.TypeIs (.ref z) "zip") {Q : Bool → Shared → Prop} (h : Q true s) : wpAny (model P w) A (Builtin.List.listLengthHint (.ref z)) Q E s := by
  unfold Builtin.List.listLengthHint
  refine wpAny_bind (wpAny_specialOf hT zip_nolen ?_)
  show wpAny _ _ (specialOf (Value.ref z) (Str.ofString "__length_hint__") >>= _) _ _ _
  refine wpAny_bind (wpAny_specialOf hT zip_nohint ?_)
  exact wpAny_pure h
/-- extend by a zip -/
theorem zip_extend {z TI TO S : Addr} {wr : List Addr} {n c0 : Nat} {vals : Nat → Array Value} {St : Nat → Heap → Prop} {R : Result → Shared → Prop} (src : TupSrc P w A.in1 z S wr n vals St) (hn : n ≤ sizeLine) (hz : IsZip s.heap z TI TO .none) (st : St 0 s.heap) (hwr : ∀ b ∈ wr, b < s.heap.objs.size) (hSw : S ∉ wr) (hSz : S ≠ z)
    (hS : s.heap.get? S = some (lstO #[] c0)) (res : Value)
    (fin : ∀ g tk acc c as, (∀ b o, b ≠ S → b ∉ wr → s.heap.get? b = some o → g.get? b = some o) → g.get? S = some (lstO acc c) → as.length = n → Mad vals s.heap.objs.size g as → acc.toList = as.map Value.ref → R (.ok (.ret res)) { s with heap := g, toks := tk }) :
    wpAny (model P w) A.in1 (Builtin.List.listExtendWith (.ref S) (.ref z) res) (fun f t => match f with | .done x => R (.ok x) t | .again d => d.quiet = true ∧ codeAny (model P w) A d R t) (fun e t => R (.error e) t) s := by
  have hT : s.TypeIs (.ref z) "zip" := ⟨_, hz, rfl⟩
  have hSl : S < s.heap.objs.size := Heap.lt_size hS
  unfold Builtin.List.listExtendWith
  refine wpAny_bind (wpAny_typeOf hT ?_)
  have h1 : Builtin.List.listSameRef (.ref S) (.ref z) = false := by simp [Builtin.List.listSameRef, hSz]
  rw [if_neg (by rw [h1]; decide)]
  refine wpAny_bind (wpAny_pyIter_zip hz ?_)
  refine wpAny_bind (wpAny_holding (zip_hint hT ?_))
  refine wpAny_ite_split (fun _ => ?_) (fun q => absurd rfl q)
  refine wpAny_bind (wpAny_rule ?_)
  refine wpAny_bind ?_
  show wpAny _ _ (updateSeq S (·.push .none) >>= fun _ => updateSeq S (·.pop)) _ _ _
  refine wpAny_bind (wpAny_updateSeq hS rfl ?_)
  have hS2 := Heap.get?_update_self (Obj.mapSeq (·.push Value.none)) hS rfl
  refine wpAny_updateSeq (hz := by seq_fits) hS2 rfl ?_
  have hS3 := Heap.get?_update_self (Obj.mapSeq (·.pop)) hS2 rfl
  have oth : ∀ b o, b ≠ S → s.heap.get? b = some o → ((s.heap.update S (Obj.mapSeq (·.push Value.none))).update S (Obj.mapSeq (·.pop))).get? b = some o := fun b o nb e =>
    (Heap.get?_update_other _ _ (Ne.symm nb)).trans ((Heap.get?_update_other _ _ (Ne.symm nb)).trans e)
  refine wpAny_pure ⟨plainId_quiet PySem.F.plain_extend_loop _, fill_loop (lo := s.heap.objs.size) (h0 := s.heap) src hn hwr hSw hSl res fin n 0 _ s.toks _ #[] [] rfl (Nat.zero_le _) (src.frame _ _ _ st oth) (fun b o q1 _ e => oth b o q1 e) hS3 rfl rfl ⟨List.Pairwise.nil, (fun _ q => nomatch q), (fun j a q => by simp at q)⟩ ?_⟩
  show s.heap.objs.size ≤ ((s.heap.update S _).update S _).objs.size
  rw [Heap.size_update, Heap.size_update]
  exact Nat.le_refl _
/-- collect of a zip -/
theorem zip_collect {z TI TO : Addr} {wr : List Addr} {n : Nat} {vals : Nat → Array Value} {St : Nat → Heap → Prop} {Q : List Value → Shared → Prop} (src : TupSrc P w A.in1 z s.heap.objs.size wr n vals St) (hn : n ≤ sizeLine) (hz : IsZip s.heap z TI TO .none) (st : St 0 s.heap) (hwr : ∀ b ∈ wr, b < s.heap.objs.size)
    (fin : ∀ g tk as, (∀ b o, b ∉ wr → s.heap.get? b = some o → g.get? b = some o) → as.length = n → Mad vals (s.heap.objs.size + 1) g as → Q (as.map Value.ref) { s with heap := g, toks := tk }) :
    wpAny (model P w) A (collect (.ref z)) Q E s := by
  have hzl : z < s.heap.objs.size := Heap.lt_size hz
  unfold collect
  refine wpAny_bind (wpAny_runValue (codeAny_builtin entry_proto_collect' ?_))
  rw [Around.under_plainId PySem.F.plain_proto_collect _]
  show wpAny _ A.in1 (newList [] >>= fun l => again (.builtin "list.__iadd__" ⟨[l, .ref z], []⟩)) _ _ s
  refine wpAny_bind (wpAny_newObj_type ?_)
  refine wpAny_pure ⟨plainId_quiet PySem.F.plain_list_iadd _, codeAny_builtin entry_list_iadd' ?_⟩
  rw [Around.under_plainId PySem.F.plain_list_iadd _]
  have hS : (s.heap.push (lstO ([] : List Value).toArray 0)).get? s.heap.objs.size = some (lstO #[] 0) := Heap.get?_push_size _ rfl
  have psh : ∀ b o, s.heap.get? b = some o → (s.heap.push (lstO ([] : List Value).toArray 0)).get? b = some o := fun b o e => Heap.get?_push_of_some _ e
  have hsz : (s.heap.push (lstO ([] : List Value).toArray 0)).objs.size = s.heap.objs.size + 1 := Heap.size_push ..
  show wpAny _ A.in1 (Builtin.List.listExtendWith (.ref s.heap.objs.size) (.ref z) (.ref s.heap.objs.size)) _ _ _
  have key := zip_extend (A := A) (s := { s with heap := s.heap.push (lstO ([] : List Value).toArray 0) }) (S := s.heap.objs.size)
    (R := fun (q : Result) (t : Shared) => ∃ (g : Heap) (tk : Nat) (acc : Array Value) (c : Nat) (as : List Addr), q = .ok (.ret (.ref s.heap.objs.size)) ∧ t = { s with heap := g, toks := tk } ∧ (∀ b o, b ∉ wr → s.heap.get? b = some o → g.get? b = some o) ∧ g.get? s.heap.objs.size = some (lstO acc c) ∧ as.length = n ∧ Mad vals (s.heap.objs.size + 1) g as ∧ acc.toList = as.map Value.ref)
    src hn (psh _ _ hz) (src.frame _ _ _ st fun b o _ e => psh b o e) (fun b q => by
      show b < (s.heap.push _).objs.size
      rw [hsz]
      exact Nat.lt_succ_of_lt (hwr b q)) (fun q => Nat.lt_irrefl _ (hwr _ q)) (Nat.ne_of_gt hzl) hS (.ref s.heap.objs.size)
    (fun g tk acc c as k1 k2 k3 k4 k5 => ⟨g, tk, acc, c, as, rfl, rfl, fun b o q e => k1 b o (Nat.ne_of_lt (Heap.lt_size e)) q (psh b o e), k2, k3, by rw [← hsz]; exact k4, k5⟩)
  refine wpAny_mono key (fun f t x => ?_) fun e t x => ?_
  · cases f with
    | done x0 =>
      obtain ⟨g, tk, acc, c, as, e, rfl, k1, k2, k3, k4, k5⟩ := x
      cases e
      show wpAny _ A (load s.heap.objs.size >>= _) _ _ _
      refine wpAny_bind (wpAny_load k2 (wpAny_pure ?_))
      show Q acc.toList _
      rw [k5]
      exact fin g tk as k1 k3 k4
    | again d =>
      refine ⟨x.1, codeAny_mono x.2 fun q t y => ?_⟩
      obtain ⟨g, tk, acc, c, as, rfl, rfl, k1, k2, k3, k4, k5⟩ := y
      show wpAny _ A (load s.heap.objs.size >>= _) _ _ _
      refine wpAny_bind (wpAny_load k2 (wpAny_pure ?_))
      show Q acc.toList _
      rw [k5]
      exact fin g tk as k1 k3 k4
  · obtain ⟨_, _, _, _, _, e', _⟩ := x
    cases e'
/-- list(zip) -/
theorem zip_list {z TI TO : Addr} {wr : List Addr} {n : Nat} {vals : Nat → Array Value} {St : Nat → Heap → Prop} {Q : Value → Shared → Prop} (src : TupSrc P w A.in1.in1 z s.heap.objs.size wr n vals St) (hn : n ≤ sizeLine) (hz : IsZip s.heap z TI TO .none) (st : St 0 s.heap) (hwr : ∀ b ∈ wr, b < s.heap.objs.size)
    (fin : ∀ g tk acc c as, (∀ b o, b ∉ wr → s.heap.get? b = some o → g.get? b = some o) → g.get? s.heap.objs.size = some (lstO acc c) → as.length = n → Mad vals (s.heap.objs.size + 1) g as → acc.toList = as.map Value.ref → Q (.ref s.heap.objs.size) { s with heap := g, toks := tk }) :
    wpAny (model P w) A (call (.type "list") [.ref z]) Q E s := by
  have hzl : z < s.heap.objs.size := Heap.lt_size hz
  refine callType_codes (Q₁ := fun o t => o = .ref s.heap.objs.size ∧ t = { s with heap := s.heap.push (lstO #[] 0) }) PySem.F.called_list (PySem.F.typeCall_list_1 _) PySem.F.entry_list_init (code_list_new _ ⟨rfl, rfl⟩) fun o t q => ?_
  obtain ⟨rfl, rfl⟩ := q
  have hS : (s.heap.push (lstO #[] 0)).get? s.heap.objs.size = some (lstO #[] 0) := Heap.get?_push_size _ rfl
  have psh : ∀ b o, s.heap.get? b = some o → (s.heap.push (lstO #[] 0)).get? b = some o := fun b o e => Heap.get?_push_of_some _ e
  have hsz : (s.heap.push (lstO #[] 0)).objs.size = s.heap.objs.size + 1 := Heap.size_push ..
  refine ⟨⟨_, hS, rfl⟩, PySem.F.args_list_init_2 _ _, ?_⟩
  show wpAny _ _ (do let old ← Builtin.List.listItems (.ref s.heap.objs.size); Builtin.List.listUpdate (.ref s.heap.objs.size) (fun _ => #[]); letGo old.toList.reverse; Builtin.List.listExtendWith (.ref s.heap.objs.size) (.ref z) .none) _ _ _
  refine wpAny_bind ?_
  unfold Builtin.List.listItems
  refine wpAny_bind (wpAny_seqItems hS rfl (wpAny_pure ?_))
  show wpAny _ _ (updateSeq s.heap.objs.size (fun _ => #[]) >>= fun _ => letGo (#[] : Array Value).toList.reverse >>= fun _ => Builtin.List.listExtendWith (.ref s.heap.objs.size) (.ref z) .none) _ _ _
  refine wpAny_bind (wpAny_updateSeq hS rfl ?_)
  have hS2 := Heap.get?_update_self (Obj.mapSeq (fun _ => (#[] : Array Value))) hS rfl
  have oth : ∀ b o, b ≠ s.heap.objs.size → (s.heap.push (lstO #[] 0)).get? b = some o → ((s.heap.push (lstO #[] 0)).update s.heap.objs.size (Obj.mapSeq (fun _ => (#[] : Array Value)))).get? b = some o := fun b o nb e => (Heap.get?_update_other _ _ (Ne.symm nb)).trans e
  have hsz2 : ((s.heap.push (lstO #[] 0)).update s.heap.objs.size (Obj.mapSeq (fun _ => (#[] : Array Value)))).objs.size = s.heap.objs.size + 1 := by rw [Heap.size_update, hsz]
  refine wpAny_bind (wpAny_letGo ?_)
  refine zip_extend (A := A.in1) (S := s.heap.objs.size) src hn (oth _ _ (Nat.ne_of_lt hzl) (psh _ _ hz)) (src.frame _ _ _ st fun b o nb e => oth b o nb (psh b o e)) (fun b q => ?_) (fun q => Nat.lt_irrefl _ (hwr _ q)) (Nat.ne_of_gt hzl) hS2 .none (fun g tk acc c as k1 k2 k3 k4 k5 => ?_)
  · show b < ((s.heap.push _).update _ _).objs.size
    rw [hsz2]
    exact Nat.lt_succ_of_lt (hwr b q)
  · rw [show (Shared.heap { s with heap := (s.heap.push (lstO #[] 0)).update s.heap.objs.size (Obj.mapSeq (fun _ => (#[] : Array Value))) }).objs.size = s.heap.objs.size + 1 from hsz2] at k4
    exact ⟨rfl, fin g tk acc c as (fun b o q e => k1 b o (Nat.ne_of_lt (Heap.lt_size e)) q (oth b o (Nat.ne_of_lt (Heap.lt_size e)) (psh b o e))) k2 k3 k4 k5⟩
end
end Tl
end
section
set_option Elab.async false
set_option linter.all false
set_option autoImplicit false
set_option maxRecDepth 100000
namespace Tl
open PySem PySem.Spec PyProof.Rows L2
/-! ### zip of two as a maker of tuples -/
section
variable {P : Program} {w : World}
def St2 (z TI TO i1 i2 l1 l2 S : Addr) (xs ys : Array Value) (i : Nat) (h : Heap) : Prop := IsPair h TI (.ref i1) (.ref i2) ∧ h.IsListIter i1 l1 i ∧ h.IsListIter i2 l2 i ∧ h.IsList l1 xs ∧ h.IsList l2 ys ∧
  ((IsZip h z TI TO .none ∧ ∃ a b, IsPair h TO a b) ∨ ∃ T f oT, IsZipHeld h z TI TO T f ∧ h.get? T = some oT ∧ T ≠ z ∧ T ≠ i1 ∧ T ≠ i2 ∧ T ≠ S)
abbrev val2 (xs ys : Array Value) (i : Nat) : Array Value := #[xs.getD i .none, ys.getD i .none]
theorem src_zip2 {A : Around} (hh : A.handled = none) {z TI TO i1 i2 l1 l2 S : Addr} (D : ZipApart z TI TO i1 i2 l1 l2) {xs ys : Array Value} {n : Nat} (hx : xs.size = n) (hy : ys.size = n) (hS : S ∉ [z, TI, TO, i1, i2, l1, l2]) : TupSrc P w A z S [z, TO, i1, i2] n (val2 xs ys) (St2 z TI TO i1 i2 l1 l2 S xs ys) := by
  simp only [List.mem_cons, List.not_mem_nil, or_false, not_or] at hS
  obtain ⟨nz, nTI, nTO, n1, n2, m1, m2⟩ := hS
  refine ⟨fun i h h' st k => ?_, fun i s Q E hi st hs q => ?_, fun s Q E st q => ?_⟩
  · obtain ⟨a1, a2, a3, a4, a5, a6⟩ := st
    refine ⟨k _ _ (Ne.symm nTI) a1, a2.at fun o e => k _ o (Ne.symm n1) e, a3.at fun o e => k _ o (Ne.symm n2) e, a4.at fun o e => k _ o (Ne.symm m1) e, a5.at fun o e => k _ o (Ne.symm m2) e, ?_⟩
    rcases a6 with ⟨b1, a, b, b2⟩ | ⟨T, f, oT, b1, b2, c1, c2, c3, c4⟩
    · exact .inl ⟨k _ _ (Ne.symm nz) b1, a, b, k _ _ (Ne.symm nTO) b2⟩
    · exact .inr ⟨T, f, oT, k _ _ (Ne.symm nz) b1, k _ _ c4 b2, c1, c2, c3, c4⟩
  · obtain ⟨a1, a2, a3, a4, a5, a6⟩ := st
    have ex := Array.getElem?_eq_getElem (xs := xs) (i := i) (by omega)
    have ey := Array.getElem?_eq_getElem (xs := ys) (i := i) (by omega)
    have gx : xs.getD i .none = xs[i] := by simp [Array.getD, hx, hi]
    have gy : ys.getD i .none = ys[i] := by simp [Array.getD, hy, hi]
    have lt : ∀ {c : Addr} {o : Obj}, s.heap.get? c = some o → s.heap.objs.size ≠ c := fun e => Nat.ne_of_gt (Heap.lt_size e)
    have k1 : s.heap.objs.size ≠ i1 := let ⟨_, e, _⟩ := a2; lt e
    have k2 : s.heap.objs.size ≠ i2 := let ⟨_, e, _⟩ := a3; lt e
    rcases a6 with ⟨b1, a, b, b2⟩ | ⟨T, f, oT, b1, b2, c1, c2, c3, c4⟩
    · refine wpAny_pyNext_zip_item D b1 a1 b2 a2 a3 a4 a5 ex ey fun g d1 d2 d3 d4 d5 d6 hk => q g ?_ ?_ fun c o hc e => hk c o (fun x => hc (by simp [x])) (fun x => hc (by simp [x])) (fun x => hc (by simp [x])) (fun x => hc (by simp [x])) e
      · unfold val2
        rw [gx, gy]
        exact d5
      · exact ⟨hk _ _ D.TIz D.TITO D.TIi1 D.TIi2 a1, d3, d4, a4.at fun o e => hk _ o D.l1z D.l1TO D.l1i1 D.l1i2 e, a5.at fun o e => hk _ o D.l2z D.l2TO D.l2i1 D.l2i2 e, .inr ⟨s.heap.objs.size, false, _, d1, d5, lt b1, k1, k2, Nat.ne_of_gt hs⟩⟩
    · refine wpAny_pyNext_zip_item_held D b1 b2 a1 a2 a3 a4 a5 ex ey fun g d1 d3 d4 d5 d6 hk => q g ?_ ?_ fun c o hc e => hk c o (fun x => hc (by simp [x])) (fun x => hc (by simp [x])) (fun x => hc (by simp [x])) e
      · unfold val2
        rw [gx, gy]
        exact d5
      · exact ⟨hk _ _ D.TIz D.TIi1 D.TIi2 a1, d3, d4, a4.at fun o e => hk _ o D.l1z D.l1i1 D.l1i2 e, a5.at fun o e => hk _ o D.l2z D.l2i1 D.l2i2 e, .inr ⟨T, true, oT, d1, hk _ _ c1 c2 c3 b2, c1, c2, c3, c4⟩⟩
  · obtain ⟨a1, a2, a3, a4, a5, a6⟩ := st
    have he : xs[n]? = none ∨ ys[n]? = none := .inl (Array.getElem?_eq_none (by omega))
    rcases a6 with ⟨b1, a, b, b2⟩ | ⟨T, f, oT, b1, b2, c1, c2, c3, c4⟩
    · exact wpAny_pyNext_zip_end hh D b1 a1 b2 a2 a3 a4 a5 he fun g hk => q g fun c o hc e => hk c o (fun x => hc (by simp [x])) (fun x => hc (by simp [x])) (fun x => hc (by simp [x])) (fun x => hc (by simp [x])) e
    · exact wpAny_pyNext_zip_end_held hh D b1 b2 a1 a2 a3 a4 a5 he fun g hk => q g fun c o hc e => hk c o (fun x => hc (by simp [x])) (fun x => hc (by simp [x])) (fun x => hc (by simp [x])) e
end
end Tl
end
section
set_option Elab.async false
set_option linter.all false
set_option autoImplicit false
set_option maxRecDepth 100000
namespace Tl
open PySem PySem.Spec PyProof.Rows L2
/-! ### zip of three -/
abbrev Tri (h : Heap) (T : Addr) (a b c : Value) : Prop := h.get? T = some (tupO #[a, b, c])
structure Ap3 (z TI TO i1 i2 i3 l1 l2 l3 : Addr) : Prop where
  TIz : TI ≠ z
  TOz : TO ≠ z
  i1z : i1 ≠ z
  i2z : i2 ≠ z
  i3z : i3 ≠ z
  TITO : TI ≠ TO
  TIi1 : TI ≠ i1
  TIi2 : TI ≠ i2
  TIi3 : TI ≠ i3
  TOi1 : TO ≠ i1
  TOi2 : TO ≠ i2
  TOi3 : TO ≠ i3
  i12 : i1 ≠ i2
  i13 : i1 ≠ i3
  i23 : i2 ≠ i3
  l1 : l1 ≠ z ∧ l1 ≠ TO ∧ l1 ≠ i1 ∧ l1 ≠ i2 ∧ l1 ≠ i3
  l2 : l2 ≠ z ∧ l2 ≠ TO ∧ l2 ≠ i1 ∧ l2 ≠ i2 ∧ l2 ≠ i3
  l3 : l3 ≠ z ∧ l3 ≠ TO ∧ l3 ≠ i1 ∧ l3 ≠ i2 ∧ l3 ≠ i3
section
variable {P : Program} {w : World} {A : Around} {E : Value → Shared → Prop} {s : Shared}
theorem upd_tri {T : Addr} {a b c x : Value} {k : Nat} {Q : Unit → Shared → Prop} (hT : Tri s.heap T a b c)
    (h : ∀ g, g.get? T = some (tupO ((#[a, b, c] : Array Value).setIfInBounds k x)) → Heap.SameBut T s.heap g → Q () { s with heap := g }) : wpAny (model P w) A (updateSeq T (·.setIfInBounds k x)) Q E s := by
  refine wpAny_updateSeq hT rfl (h _ ?_ (Heap.SameBut.update ..))
  rw [Heap.get?_update_self _ hT rfl]
  simp [Obj.mapSeq]
theorem next3_held {z TI TO T i1 i2 i3 l1 l2 l3 : Addr} {f : Bool} {oT : Obj} {k : Nat} {xs ys us : Array Value} {x y u : Value} {Q : Value → Shared → Prop} (D : Ap3 z TI TO i1 i2 i3 l1 l2 l3)
    (hz : IsZipHeld s.heap z TI TO T f) (hT : s.heap.get? T = some oT) (hTI : Tri s.heap TI (.ref i1) (.ref i2) (.ref i3)) (h1 : s.heap.IsListIter i1 l1 k) (h2 : s.heap.IsListIter i2 l2 k) (h3 : s.heap.IsListIter i3 l3 k)
    (hl1 : s.heap.IsList l1 xs) (hl2 : s.heap.IsList l2 ys) (hl3 : s.heap.IsList l3 us) (hx : xs[k]? = some x) (hy : ys[k]? = some y) (hu : us[k]? = some u)
    (hQ : ∀ g, IsZipHeld g z TI TO T true → g.IsListIter i1 l1 (k + 1) → g.IsListIter i2 l2 (k + 1) → g.IsListIter i3 l3 (k + 1) → Tri g s.heap.objs.size x y u →
      (∀ c o, c ≠ z → c ≠ i1 → c ≠ i2 → c ≠ i3 → s.heap.get? c = some o → g.get? c = some o) → Q (.ref s.heap.objs.size) { s with heap := g }) :
    wpAny (model P w) A (Builtin.«zip.__next__» ⟨[.ref z], []⟩) (fun fin t => ∃ v, fin = .done (.ret v) ∧ Q v t) E s := by
  show wpAny _ _ (field (.ref z) 2 >>= _) _ _ _
  refine wpAny_bind (wpAny_field hz rfl (x := .bool false) rfl ?_)
  show wpAny _ _ (field (.ref z) 3 >>= _) _ _ _
  refine wpAny_bind (wpAny_field hz rfl (x := .ref TI) rfl (wpAny_bind (wpAny_seqItems hTI rfl ?_)))
  show wpAny _ _ (Builtin.SmallTypes.ownedTupleIsFree (.ref z) >>= _) _ _ _
  refine wpAny_bind (wpAny_tupleHeld_zip hz hT fun g1 z1 s1 => ?_)
  simp only [Bool.false_eq_true, if_false]
  refine wpAny_bind ?_
  rw [← Array.forIn_toList]
  simp only [List.forIn_cons, List.forIn_nil]
  refine wpAny_bind (wpAny_bind (wpAny_holding ?_))
  show wpAny _ _ (Builtin.SmallTypes.nextOf (.ref i1) >>= _) _ _ _
  refine wpAny_bind (wpAny_nextOf_list_item (s := { s with heap := g1 }) (h1.extBut s1.extBut D.i1z) (hl1.extBut s1.extBut D.l1.1) hx fun g2 a2 s2 => wpAny_pure (wpAny_pure ?_))
  refine wpAny_bind (wpAny_bind (wpAny_holding ?_))
  show wpAny _ _ (Builtin.SmallTypes.nextOf (.ref i2) >>= _) _ _ _
  refine wpAny_bind (wpAny_nextOf_list_item (s := { s with heap := g2 }) ((h2.extBut s1.extBut D.i2z).extBut s2.extBut D.i12.symm) ((hl2.extBut s1.extBut D.l2.1).extBut s2.extBut D.l2.2.2.1) hy fun g3 a3 s3 => wpAny_pure (wpAny_pure ?_))
  refine wpAny_bind (wpAny_bind (wpAny_holding ?_))
  show wpAny _ _ (Builtin.SmallTypes.nextOf (.ref i3) >>= _) _ _ _
  refine wpAny_bind (wpAny_nextOf_list_item (s := { s with heap := g3 }) (((h3.extBut s1.extBut D.i3z).extBut s2.extBut D.i13.symm).extBut s3.extBut D.i23.symm) (((hl3.extBut s1.extBut D.l3.1).extBut s2.extBut D.l3.2.2.1).extBut s3.extBut D.l3.2.2.2.1) hu fun g4 a4 s4 => wpAny_pure (wpAny_pure (wpAny_pure ?_)))
  show wpAny _ _ (newTuple [x, y, u] >>= _) _ _ _
  refine wpAny_bind (wpAny_newTuple ?_)
  have hsz : g4.objs.size = s.heap.objs.size := by rw [s4.1, s3.1, s2.1, s1.1]
  have z4 : IsZipHeld g4 z TI TO T true := s4.extBut _ _ D.i3z.symm (s3.extBut _ _ D.i2z.symm (s2.extBut _ _ D.i1z.symm z1))
  have hk : ∀ c o, c ≠ z → c ≠ i1 → c ≠ i2 → c ≠ i3 → s.heap.get? c = some o → g4.get? c = some o := fun c o c1 c2 c3 c4 e => s4.extBut _ _ c4 (s3.extBut _ _ c3 (s2.extBut _ _ c2 (s1.extBut _ _ c1 e)))
  have b1 : g4.IsListIter i1 l1 (k + 1) := (a2.extBut s3.extBut D.i12).extBut s4.extBut D.i13
  have b2 : g4.IsListIter i2 l2 (k + 1) := a3.extBut s4.extBut D.i23
  refine wpAny_pure ⟨_, rfl, ?_⟩
  show Q (.ref g4.objs.size) _
  have hp : Tri (g4.push (tupO #[x, y, u])) g4.objs.size x y u := Heap.get?_push_size _ rfl
  rw [hsz] at hp ⊢
  exact hQ _ (Heap.get?_push_of_some _ z4) (b1.at fun o e => Heap.get?_push_of_some _ e) (b2.at fun o e => Heap.get?_push_of_some _ e) (a4.at fun o e => Heap.get?_push_of_some _ e) hp fun c o c1 c2 c3 c4 e => Heap.get?_push_of_some _ (hk c o c1 c2 c3 c4 e)
theorem next3_free {z TI TO i1 i2 i3 l1 l2 l3 : Addr} {k : Nat} {xs ys us : Array Value} {x y u a b c0 : Value} {Q : Value → Shared → Prop} (D : Ap3 z TI TO i1 i2 i3 l1 l2 l3)
    (hz : IsZip s.heap z TI TO .none) (hTI : Tri s.heap TI (.ref i1) (.ref i2) (.ref i3)) (hTO : Tri s.heap TO a b c0) (h1 : s.heap.IsListIter i1 l1 k) (h2 : s.heap.IsListIter i2 l2 k) (h3 : s.heap.IsListIter i3 l3 k)
    (hl1 : s.heap.IsList l1 xs) (hl2 : s.heap.IsList l2 ys) (hl3 : s.heap.IsList l3 us) (hx : xs[k]? = some x) (hy : ys[k]? = some y) (hu : us[k]? = some u)
    (hQ : ∀ g, IsZip g z TI TO (rawInt s.heap.objs.size) → g.IsListIter i1 l1 (k + 1) → g.IsListIter i2 l2 (k + 1) → g.IsListIter i3 l3 (k + 1) → Tri g s.heap.objs.size x y u →
      (∀ c o, c ≠ z → c ≠ TO → c ≠ i1 → c ≠ i2 → c ≠ i3 → s.heap.get? c = some o → g.get? c = some o) → Q (.ref s.heap.objs.size) { s with heap := g }) :
    wpAny (model P w) A (Builtin.«zip.__next__» ⟨[.ref z], []⟩) (fun fin t => ∃ v, fin = .done (.ret v) ∧ Q v t) E s := by
  show wpAny _ _ (field (.ref z) 2 >>= _) _ _ _
  refine wpAny_bind (wpAny_field hz rfl (x := .bool false) rfl ?_)
  show wpAny _ _ (field (.ref z) 3 >>= _) _ _ _
  refine wpAny_bind (wpAny_field hz rfl (x := .ref TI) rfl (wpAny_bind (wpAny_seqItems hTI rfl ?_)))
  show wpAny _ _ (Builtin.SmallTypes.ownedTupleIsFree (.ref z) >>= _) _ _ _
  refine wpAny_bind ?_
  unfold Builtin.SmallTypes.ownedTupleIsFree
  refine wpAny_bind (wpAny_field hz rfl (x := .none) rfl (wpAny_pure ?_))
  simp only [if_true]
  refine wpAny_bind (wpAny_rule (wpAny_bind (wpAny_field hz rfl (x := .ref TO) rfl ?_)))
  refine wpAny_bind (wpAny_setField_rec hz (by simp) fun g1 z1 s1 => ?_)
  replace z1 : IsZip g1 z TI TO .ellipsis := z1
  refine wpAny_bind ?_
  simp only [List.zipIdx_cons, List.zipIdx_nil, List.forIn_cons, List.forIn_nil]
  refine wpAny_bind (wpAny_bind (wpAny_onRaise ?_))
  show wpAny _ _ (Builtin.SmallTypes.nextOf (.ref i1) >>= _) _ _ _
  refine wpAny_bind (wpAny_nextOf_list_item (h1.extBut s1.extBut D.i1z) (hl1.extBut s1.extBut D.l1.1) hx fun g2 a2 s2 => wpAny_pure ?_)
  have t2 : Tri g2 TO a b c0 := s2.extBut _ _ D.TOi1 (s1.extBut _ _ D.TOz hTO)
  refine wpAny_bind (wpAny_seqItems t2 rfl (wpAny_bind (upd_tri t2 fun g3 t3 s3 => ?_)))
  replace t3 : Tri g3 TO x b c0 := t3
  refine wpAny_bind (wpAny_letGo (wpAny_pure ?_))
  refine wpAny_bind (wpAny_bind (wpAny_onRaise ?_))
  show wpAny _ _ (Builtin.SmallTypes.nextOf (.ref i2) >>= _) _ _ _
  refine wpAny_bind (wpAny_nextOf_list_item (((h2.extBut s1.extBut D.i2z).extBut s2.extBut D.i12.symm).extBut s3.extBut D.TOi2.symm) (((hl2.extBut s1.extBut D.l2.1).extBut s2.extBut D.l2.2.2.1).extBut s3.extBut D.l2.2.1) hy fun g4 a4 s4 => wpAny_pure ?_)
  have t4 : Tri g4 TO x b c0 := s4.extBut _ _ D.TOi2 t3
  refine wpAny_bind (wpAny_seqItems t4 rfl (wpAny_bind (upd_tri t4 fun g5 t5 s5 => ?_)))
  replace t5 : Tri g5 TO x y c0 := t5
  refine wpAny_bind (wpAny_letGo (wpAny_pure ?_))
  refine wpAny_bind (wpAny_bind (wpAny_onRaise ?_))
  show wpAny _ _ (Builtin.SmallTypes.nextOf (.ref i3) >>= _) _ _ _
  refine wpAny_bind (wpAny_nextOf_list_item (((((h3.extBut s1.extBut D.i3z).extBut s2.extBut D.i13.symm).extBut s3.extBut D.TOi3.symm).extBut s4.extBut D.i23.symm).extBut s5.extBut D.TOi3.symm)
    (((((hl3.extBut s1.extBut D.l3.1).extBut s2.extBut D.l3.2.2.1).extBut s3.extBut D.l3.2.1).extBut s4.extBut D.l3.2.2.2.1).extBut s5.extBut D.l3.2.1) hu fun g6 a6 s6 => wpAny_pure ?_)
  have t6 : Tri g6 TO x y c0 := s6.extBut _ _ D.TOi3 t5
  refine wpAny_bind (wpAny_seqItems t6 rfl (wpAny_bind (upd_tri t6 fun g7 t7 s7 => ?_)))
  replace t7 : Tri g7 TO x y u := t7
  refine wpAny_bind (wpAny_letGo (wpAny_pure (wpAny_pure ?_)))
  refine wpAny_bind (wpAny_seqItems t7 rfl (wpAny_bind (wpAny_newTuple ?_)))
  have hsz : g7.objs.size = s.heap.objs.size := by rw [s7.1, s6.1, s5.1, s4.1, s3.1, s2.1, s1.1]
  have z7 : IsZip g7 z TI TO .ellipsis := s7.extBut _ _ D.TOz.symm (s6.extBut _ _ D.i3z.symm (s5.extBut _ _ D.TOz.symm (s4.extBut _ _ D.i2z.symm (s3.extBut _ _ D.TOz.symm (s2.extBut _ _ D.i1z.symm z1)))))
  have hk : ∀ c o, c ≠ z → c ≠ TO → c ≠ i1 → c ≠ i2 → c ≠ i3 → s.heap.get? c = some o → g7.get? c = some o := fun c o c1 c2 c3 c4 c5 e =>
    s7.extBut _ _ c2 (s6.extBut _ _ c5 (s5.extBut _ _ c2 (s4.extBut _ _ c4 (s3.extBut _ _ c2 (s2.extBut _ _ c3 (s1.extBut _ _ c1 e))))))
  have b1 : g7.IsListIter i1 l1 (k + 1) := ((((a2.extBut s3.extBut D.TOi1.symm).extBut s4.extBut D.i12).extBut s5.extBut D.TOi1.symm).extBut s6.extBut D.i13).extBut s7.extBut D.TOi1.symm
  have b2 : g7.IsListIter i2 l2 (k + 1) := ((a4.extBut s5.extBut D.TOi2.symm).extBut s6.extBut D.i23).extBut s7.extBut D.TOi2.symm
  have b3 : g7.IsListIter i3 l3 (k + 1) := a6.extBut s7.extBut D.TOi3.symm
  have zl : z < g7.objs.size := Heap.lt_size z7
  show wpAny _ _ (Builtin.SmallTypes.ownedTupleHandOut (.ref z) (.ref g7.objs.size) >>= _) _ _ _
  refine wpAny_bind ?_
  unfold Builtin.SmallTypes.ownedTupleHandOut
  have z8 : IsZip (g7.push (tupO #[x, y, u])) z TI TO .ellipsis := Heap.get?_push_of_some _ z7
  refine wpAny_bind (wpAny_setField_rec z8 (by simp) fun g9 z9 s9 => ?_)
  replace z9 : IsZip g9 z TI TO (rawInt g7.objs.size) := z9
  refine wpAny_setField_rec z9 (by simp) fun g10 z10 s10 => ?_
  replace z10 : IsZip g10 z TI TO (rawInt g7.objs.size) := z10
  have up : ∀ c o, c ≠ z → g7.get? c = some o → g10.get? c = some o := fun c o c1 e => s10.extBut _ _ c1 (s9.extBut _ _ c1 (Heap.get?_push_of_some _ e))
  have hT : Tri g10 g7.objs.size x y u := s10.extBut _ _ (Nat.ne_of_gt zl) (s9.extBut _ _ (Nat.ne_of_gt zl) (Heap.get?_push_size _ rfl))
  rw [hsz] at z10 hT
  refine wpAny_pure ⟨_, rfl, ?_⟩
  show Q (.ref g7.objs.size) _
  rw [hsz]
  exact hQ g10 z10 (b1.at fun o e => up _ o D.i1z e) (b2.at fun o e => up _ o D.i2z e) (b3.at fun o e => up _ o D.i3z e) hT fun c o c1 c2 c3 c4 c5 e => up c o c1 (hk c o c1 c2 c3 c4 c5 e)
theorem end3_held {z TI TO T i1 i2 i3 l1 l2 l3 : Addr} {f : Bool} {oT : Obj} {k : Nat} {xs : Array Value} {Q : Fin → Shared → Prop} (hh : A.handled = none) (D : Ap3 z TI TO i1 i2 i3 l1 l2 l3)
    (hz : IsZipHeld s.heap z TI TO T f) (hT : s.heap.get? T = some oT) (hTI : Tri s.heap TI (.ref i1) (.ref i2) (.ref i3)) (h1 : s.heap.IsListIter i1 l1 k) (hl1 : s.heap.IsList l1 xs) (hx : xs[k]? = none)
    (hE : ∀ g e, (∀ c o, c ≠ z → c ≠ i1 → s.heap.get? c = some o → g.get? c = some o) → (∃ o, g.get? e = some o ∧ o.cls = .type "StopIteration") → E (.ref e) { s with heap := g }) :
    wpAny (model P w) A (Builtin.«zip.__next__» ⟨[.ref z], []⟩) Q E s := by
  show wpAny _ _ (field (.ref z) 2 >>= _) _ _ _
  refine wpAny_bind (wpAny_field hz rfl (x := .bool false) rfl ?_)
  show wpAny _ _ (field (.ref z) 3 >>= _) _ _ _
  refine wpAny_bind (wpAny_field hz rfl (x := .ref TI) rfl (wpAny_bind (wpAny_seqItems hTI rfl ?_)))
  show wpAny _ _ (Builtin.SmallTypes.ownedTupleIsFree (.ref z) >>= _) _ _ _
  refine wpAny_bind (wpAny_tupleHeld_zip hz hT fun g1 z1 s1 => ?_)
  simp only [Bool.false_eq_true, if_false]
  refine wpAny_bind ?_
  rw [← Array.forIn_toList]
  simp only [List.forIn_cons, List.forIn_nil]
  refine wpAny_bind (wpAny_bind (wpAny_holding ?_))
  show wpAny _ _ (Builtin.SmallTypes.nextOf (.ref i1) >>= _) _ _ _
  refine wpAny_bind (wpAny_nextOf_list_end (s := { s with heap := g1 }) hh (h1.extBut s1.extBut D.i1z) (hl1.extBut s1.extBut D.l1.1) hx fun g2 e s2 he => ?_)
  exact hE g2 e (fun c o c1 c2 x => s2 _ _ c2 (s1.extBut _ _ c1 x)) he
end
end Tl
end
section
set_option Elab.async false
set_option linter.all false
set_option autoImplicit false
set_option maxRecDepth 100000
namespace Tl
open PySem PySem.Spec PyProof.Rows L2
section
variable {P : Program} {w : World}
def St3 (z TI TO i1 i2 i3 l1 l2 l3 S : Addr) (xs ys us : Array Value) (i : Nat) (h : Heap) : Prop := Tri h TI (.ref i1) (.ref i2) (.ref i3) ∧ h.IsListIter i1 l1 i ∧ h.IsListIter i2 l2 i ∧ h.IsListIter i3 l3 i ∧ h.IsList l1 xs ∧ h.IsList l2 ys ∧ h.IsList l3 us ∧
  ((i = 0 ∧ IsZip h z TI TO .none ∧ ∃ a b c, Tri h TO a b c) ∨ ∃ T f oT, IsZipHeld h z TI TO T f ∧ h.get? T = some oT ∧ T ≠ z ∧ T ≠ i1 ∧ T ≠ i2 ∧ T ≠ i3 ∧ T ≠ S)
abbrev val3 (xs ys us : Array Value) (i : Nat) : Array Value := #[xs.getD i .none, ys.getD i .none, us.getD i .none]
theorem src_zip3 {A : Around} (hh : A.handled = none) {z TI TO i1 i2 i3 l1 l2 l3 S : Addr} (D : Ap3 z TI TO i1 i2 i3 l1 l2 l3) {xs ys us : Array Value} {n : Nat} (h0 : 0 < n) (hx : xs.size = n) (hy : ys.size = n) (hu : us.size = n) (hS : S ∉ [z, TI, TO, i1, i2, i3, l1, l2, l3]) : TupSrc P w A z S [z, TO, i1, i2, i3] n (val3 xs ys us) (St3 z TI TO i1 i2 i3 l1 l2 l3 S xs ys us) := by
  simp only [List.mem_cons, List.not_mem_nil, or_false, not_or] at hS
  obtain ⟨nz, nTI, nTO, n1, n2, n3, m1, m2, m3⟩ := hS
  refine ⟨fun i h h' st k => ?_, fun i s Q E hi st hs q => ?_, fun s Q E st q => ?_⟩
  · obtain ⟨a1, a2, a3, a4, a5, a6, a7, a8⟩ := st
    refine ⟨k _ _ (Ne.symm nTI) a1, a2.at fun o e => k _ o (Ne.symm n1) e, a3.at fun o e => k _ o (Ne.symm n2) e, a4.at fun o e => k _ o (Ne.symm n3) e, a5.at fun o e => k _ o (Ne.symm m1) e, a6.at fun o e => k _ o (Ne.symm m2) e, a7.at fun o e => k _ o (Ne.symm m3) e, ?_⟩
    rcases a8 with ⟨b0, b1, a, b, c, b2⟩ | ⟨T, f, oT, b1, b2, c1, c2, c3, c4, c5⟩
    · exact .inl ⟨b0, k _ _ (Ne.symm nz) b1, a, b, c, k _ _ (Ne.symm nTO) b2⟩
    · exact .inr ⟨T, f, oT, k _ _ (Ne.symm nz) b1, k _ _ c5 b2, c1, c2, c3, c4, c5⟩
  · obtain ⟨a1, a2, a3, a4, a5, a6, a7, a8⟩ := st
    have ex := Array.getElem?_eq_getElem (xs := xs) (i := i) (by omega)
    have ey := Array.getElem?_eq_getElem (xs := ys) (i := i) (by omega)
    have eu := Array.getElem?_eq_getElem (xs := us) (i := i) (by omega)
    have gx : xs.getD i .none = xs[i] := by simp [Array.getD, hx, hi]
    have gy : ys.getD i .none = ys[i] := by simp [Array.getD, hy, hi]
    have gu : us.getD i .none = us[i] := by simp [Array.getD, hu, hi]
    have lt : ∀ {c : Addr} {o : Obj}, s.heap.get? c = some o → s.heap.objs.size ≠ c := fun e => Nat.ne_of_gt (Heap.lt_size e)
    have k1 : s.heap.objs.size ≠ i1 := let ⟨_, e, _⟩ := a2; lt e
    have k2 : s.heap.objs.size ≠ i2 := let ⟨_, e, _⟩ := a3; lt e
    have k3 : s.heap.objs.size ≠ i3 := let ⟨_, e, _⟩ := a4; lt e
    have gv : val3 xs ys us i = #[xs[i], ys[i], us[i]] := by unfold val3; rw [gx, gy, gu]
    rw [gv] at q
    rcases a8 with ⟨b0, b1, a, b, c, b2⟩ | ⟨T, f, oT, b1, b2, c1, c2, c3, c4, c5⟩
    · have hT : s.TypeIs (.ref z) "zip" := ⟨_, b1, rfl⟩
      unfold pyNext
      refine wpAny_bind (wpAny_attempt (wpAny_callSpecial?_slot (name := Str.ofString "__next__") hT PySem.F.slot_zip_next (wpAny_call_entry PySem.F.slot_zip_next hT PySem.F.entry_zip_next (next3_free D b1 a1 b2 a2 a3 a4 a5 a6 a7 ex ey eu fun g d1 d2 d3 d4 d5 hk => wpAny_pure (q g d5 ?_ ?_)) (PySem.F.args_zip_next_1 _))))
      · exact ⟨hk _ _ D.TIz D.TITO D.TIi1 D.TIi2 D.TIi3 a1, d2, d3, d4, a5.at fun o e => hk _ o D.l1.1 D.l1.2.1 D.l1.2.2.1 D.l1.2.2.2.1 D.l1.2.2.2.2 e, a6.at fun o e => hk _ o D.l2.1 D.l2.2.1 D.l2.2.2.1 D.l2.2.2.2.1 D.l2.2.2.2.2 e, a7.at fun o e => hk _ o D.l3.1 D.l3.2.1 D.l3.2.2.1 D.l3.2.2.2.1 D.l3.2.2.2.2 e,
          .inr ⟨s.heap.objs.size, false, _, d1, d5, lt b1, k1, k2, k3, Nat.ne_of_gt hs⟩⟩
      · exact fun c o hc e => hk c o (fun x => hc (by simp [x])) (fun x => hc (by simp [x])) (fun x => hc (by simp [x])) (fun x => hc (by simp [x])) (fun x => hc (by simp [x])) e
    · have hT : s.TypeIs (.ref z) "zip" := ⟨_, b1, rfl⟩
      unfold pyNext
      refine wpAny_bind (wpAny_attempt (wpAny_callSpecial?_slot (name := Str.ofString "__next__") hT PySem.F.slot_zip_next (wpAny_call_entry PySem.F.slot_zip_next hT PySem.F.entry_zip_next (next3_held D b1 b2 a1 a2 a3 a4 a5 a6 a7 ex ey eu fun g d1 d2 d3 d4 d5 hk => wpAny_pure (q g d5 ?_ ?_)) (PySem.F.args_zip_next_1 _))))
      · exact ⟨hk _ _ D.TIz D.TIi1 D.TIi2 D.TIi3 a1, d2, d3, d4, a5.at fun o e => hk _ o D.l1.1 D.l1.2.2.1 D.l1.2.2.2.1 D.l1.2.2.2.2 e, a6.at fun o e => hk _ o D.l2.1 D.l2.2.2.1 D.l2.2.2.2.1 D.l2.2.2.2.2 e, a7.at fun o e => hk _ o D.l3.1 D.l3.2.2.1 D.l3.2.2.2.1 D.l3.2.2.2.2 e,
          .inr ⟨T, true, oT, d1, hk _ _ c1 c2 c3 c4 b2, c1, c2, c3, c4, c5⟩⟩
      · exact fun c o hc e => hk c o (fun x => hc (by simp [x])) (fun x => hc (by simp [x])) (fun x => hc (by simp [x])) (fun x => hc (by simp [x])) e
  · obtain ⟨a1, a2, a3, a4, a5, a6, a7, a8⟩ := st
    rcases a8 with ⟨b0, b1, a, b, c, b2⟩ | ⟨T, f, oT, b1, b2, c1, c2, c3, c4, c5⟩
    · omega
    · have hT : s.TypeIs (.ref z) "zip" := ⟨_, b1, rfl⟩
      unfold pyNext
      refine wpAny_bind (wpAny_attempt (wpAny_callSpecial?_slot (name := Str.ofString "__next__") hT PySem.F.slot_zip_next (wpAny_call_entry PySem.F.slot_zip_next hT PySem.F.entry_zip_next (end3_held hh D b1 b2 a1 a2 a5 (Array.getElem?_eq_none (by omega)) fun g e hk he => ?_) (PySem.F.args_zip_next_1 _))))
      obtain ⟨o, ho, hc⟩ := he
      refine wpAny_bind (wpAny_isInstance (T := "StopIteration") (b := true) ⟨o, ho, hc⟩ isSubtype_stop ?_)
      exact wpAny_pure (q g fun c o hc e => hk c o (fun x => hc (by simp [x])) (fun x => hc (by simp [x])) e)
end
/-! ### many tuples are laid -/
def updT (H : Hp) : List Addr → List (List V) → Hp
  | a :: as, r :: rs => updT (upd H a (.tup r)) as rs
  | _, _ => H
section
variable {X : Cx} {pins : List (Addr × Obj)} {σ : L2.St} {g : Heap}
theorem inv_tups : ∀ (as : List Addr) (rows : List (List V)) {H : Hp} {s : Shared} {t' : Nat}, Inv X pins σ H s → (∀ b o, s.heap.get? b = some o → g.get? b = some o) → as.Nodup → (∀ a ∈ as, s.heap.get? a = none ∧ H a = none) →
    Paired (fun (r : List V) (a : Addr) => r.length ≤ sizeLine ∧ ∃ its : List Value, Vals r its ∧ g.get? a = some (tupO its.toArray)) rows as → Inv X pins σ (updT H as rows) { s with heap := g, toks := t' }
  | [], _, H, s, t', I, k, _, _, pr => by
    cases pr
    exact I.kept k
  | a :: as, _, H, s, t', I, k, nd, fr, pr => by
    cases pr with
    | @cons r _ rows _ h1 t =>
      obtain ⟨G, g1, g2⟩ := restrict g fun b => decide (s.heap.get? b ≠ none ∨ b = a)
      have ks : ∀ b o, s.heap.get? b = some o → G.get? b = some o := fun b o e => by
        rw [g1 b (decide_eq_true (.inl (by rw [e]; simp)))]
        exact k b o e
      have ha : G.get? a = g.get? a := g1 a (decide_eq_true (.inr rfl))
      obtain ⟨fa, hn⟩ := fr a (.head _)
      obtain ⟨z1, its, z2, z3⟩ := h1
      have I1 : Inv X pins σ (upd H a (.tup r)) { s with heap := G, toks := t' } := I.laidN ks fa hn (show ObjOk X.prog X.w _ _ _ (.tup r) from ⟨z1, its, z2, _, by rw [← ha] at z3; exact z3, rfl, 0, rfl⟩)
      obtain ⟨nd1, nd2⟩ := List.nodup_cons.mp nd
      refine inv_tups as rows (s := { s with heap := G, toks := t' }) I1 (fun b o e => ?_) nd2 (fun b hb => ?_) t
      · have e : G.get? b = some o := e
        by_cases c : s.heap.get? b ≠ none ∨ b = a
        · rw [← g1 b (decide_eq_true c)]
          exact e
        · rw [g2 b (decide_eq_false c)] at e
          cases e
      · have nb : b ≠ a := fun z => nd1 (z ▸ hb)
        refine ⟨g2 b (decide_eq_false fun c => ?_), by rw [upd_ne nb]; exact (fr b (.tail _ hb)).2⟩
        rcases c with c | c
        · exact c (fr b (.tail _ hb)).1
        · exact nb c
end
end Tl
end
section
set_option Elab.async false
set_option linter.all false
set_option autoImplicit false
set_option maxRecDepth 100000
namespace Tl
open PySem PySem.Spec PyProof.Rows L2
theorem paired_ix {α β : Type} {R : α → β → Prop} : ∀ {l : List α} {m : List β}, l.length = m.length → (∀ (j : Nat) (x : α) (y : β), l[j]? = some x → m[j]? = some y → R x y) → Paired R l m
  | [], [], _, _ => .nil
  | [], _ :: _, h, _ => by simp at h
  | _ :: _, [], h, _ => by simp at h
  | x :: l, y :: m, h, k => .cons (k 0 x y rfl rfl) (paired_ix (by simpa using h) fun j a b e1 e2 => k (j + 1) a b (by simpa using e1) (by simpa using e2))
theorem paired_at {α β : Type} {R : α → β → Prop} : ∀ {l : List α} {m : List β} {j : Nat} {x : α}, Paired R l m → l[j]? = some x → ∃ y, m[j]? = some y ∧ R x y
  | _, _, _, _, .nil, e => by simp at e
  | _, _, 0, _, .cons h t, e => by simp at e; subst e; exact ⟨_, rfl, h⟩
  | _, _, j + 1, _, .cons h t, e => by
    obtain ⟨y, e1, e2⟩ := paired_at (j := j) t (by simpa using e)
    exact ⟨y, by simpa using e1, e2⟩
def rows2 (xs ys : List V) : List (List V) := List.zipWith (fun x y => [x, y]) xs ys
def rows3 (xs ys us : List V) : List (List V) := List.zipWith (fun x r => x :: r) xs (rows2 ys us)
abbrev TupAt (g : Heap) : List V → Addr → Prop := fun r a => r.length ≤ sizeLine ∧ ∃ its : List Value, Vals r its ∧ g.get? a = some (tupO its.toArray)
theorem getD_of {its : List Value} {j : Nat} {u : Value} (e : its[j]? = some u) : its.toArray.getD j .none = u := by
  rw [Array.getD_eq_getD_getElem?]
  simp [e]
theorem made2 {xs ys : List V} {ix iy : List Value} {n : Nat} (hx : xs.length = n) (hy : ys.length = n) (vx : Vals xs ix) (vy : Vals ys iy) {g : Heap} {lo : Addr} {as : List Addr} (hl : as.length = n) (m : Mad (val2 ix.toArray iy.toArray) lo g as) : Paired (TupAt g) (rows2 xs ys) as := by
  refine paired_ix (by simp [rows2, hx, hy, hl]) fun j r a e1 e2 => ?_
  unfold rows2 at e1
  rw [List.getElem?_zipWith] at e1
  cases ex : xs[j]? with
  | none => rw [ex] at e1; cases e1
  | some x =>
    cases ey : ys[j]? with
    | none => rw [ex, ey] at e1; cases e1
    | some y =>
      rw [ex, ey] at e1
      cases e1
      obtain ⟨u, f1, f2⟩ := paired_at vx ex
      obtain ⟨v, f3, f4⟩ := paired_at vy ey
      refine ⟨by simp; decide, [u, v], .cons f2 (.cons f4 .nil), ?_⟩
      have := m.tp j a e2
      unfold val2 at this
      rw [getD_of f1, getD_of f3] at this
      exact this
theorem made3 {xs ys us : List V} {ix iy iu : List Value} {n : Nat} (hx : xs.length = n) (hy : ys.length = n) (hu : us.length = n) (vx : Vals xs ix) (vy : Vals ys iy) (vu : Vals us iu) {g : Heap} {lo : Addr} {as : List Addr} (hl : as.length = n) (m : Mad (val3 ix.toArray iy.toArray iu.toArray) lo g as) : Paired (TupAt g) (rows3 xs ys us) as := by
  refine paired_ix (by simp [rows3, rows2, hx, hy, hu, hl]) fun j r a e1 e2 => ?_
  unfold rows3 rows2 at e1
  rw [List.getElem?_zipWith, List.getElem?_zipWith] at e1
  cases ex : xs[j]? with
  | none => rw [ex] at e1; cases e1
  | some x =>
    cases ey : ys[j]? with
    | none => rw [ex, ey] at e1; cases e1
    | some y =>
      cases eu : us[j]? with
      | none => rw [ex, ey, eu] at e1; cases e1
      | some t =>
        rw [ex, ey, eu] at e1
        cases e1
        obtain ⟨u, f1, f2⟩ := paired_at vx ex
        obtain ⟨v, f3, f4⟩ := paired_at vy ey
        obtain ⟨p, f5, f6⟩ := paired_at vu eu
        refine ⟨by simp; decide, [u, v, p], .cons f2 (.cons f4 (.cons f6 .nil)), ?_⟩
        have := m.tp j a e2
        unfold val3 at this
        rw [getD_of f1, getD_of f3, getD_of f5] at this
        exact this
section
variable {X : Cx} {pins : List (Addr × Obj)} {σ : L2.St} {H : Hp} {s : Shared}
/-- list(z) at a zip that was just made -/
theorem list_end {z TI TO : Addr} {wr : List Addr} {n : Nat} {vals : Nat → Array Value} {St : Nat → Heap → Prop} {h : Heap} {rows : List (List V)} {Q : VK} (I : Inv X pins σ H s) (k1 : ∀ b o, s.heap.get? b = some o → h.get? b = some o) (src : TupSrc X.prog X.w X.A.in1.in1 z h.objs.size wr n vals St) (hn : n ≤ sizeLine) (hz : IsZip h z TI TO .none) (st : St 0 h)
    (hw : ∀ b ∈ wr, s.heap.objs.size ≤ b ∧ b < h.objs.size) (hs : s.heap.objs.size ≤ h.objs.size) (hr : ∀ g lo as, as.length = n → Mad vals lo g as → Paired (TupAt g) rows as)
    (q : ∀ S as, as.length = n → (S :: as).Nodup → (∀ c ∈ S :: as, H c = none) → Q (.ref S) (updT (upd H S (.lst (as.map V.ref))) as rows)) :
    wpAny (model X.prog X.w) X.A (call (.type "list") [.ref z]) (EP X pins σ Q) X.xe { s with heap := h } := by
  refine zip_list (s := { s with heap := h }) src hn hz st (fun b hb => (hw b hb).2) fun g tk acc c as k2 k3 k4 k5 k6 => ?_
  have k2 : ∀ b o, b ∉ wr → h.get? b = some o → g.get? b = some o := k2
  have k3 : g.get? h.objs.size = some (lstO acc c) := k3
  have k5 : Mad vals (h.objs.size + 1) g as := k5
  have kg : ∀ b o, s.heap.get? b = some o → g.get? b = some o := fun b o e => k2 b o (fun z => Nat.lt_irrefl _ (Nat.lt_of_lt_of_le (Heap.lt_size e) (hw b z).1)) (k1 b o e)
  have nA : ∀ a ∈ as, h.objs.size < a := fun a ha => k5.ge a ha
  have old : ∀ c, s.heap.objs.size ≤ c → s.heap.get? c = none ∧ H c = none := fun c hc => ⟨Heap.get?_none_of_le hc, I.hok.fresh hc⟩
  have nd : (h.objs.size :: as).Nodup := List.nodup_cons.mpr ⟨fun z => Nat.lt_irrefl _ (nA _ z), k5.up.imp fun h e => by subst e; exact Nat.lt_irrefl _ h⟩
  obtain ⟨G, g1, g2⟩ := restrict g fun b => decide (s.heap.get? b ≠ none ∨ b = h.objs.size)
  have ks : ∀ b o, s.heap.get? b = some o → G.get? b = some o := fun b o e => by
    rw [g1 b (decide_eq_true (.inl (by rw [e]; simp)))]
    exact kg b o e
  have hS : G.get? h.objs.size = some (lstO acc c) := by rw [g1 _ (decide_eq_true (.inr rfl))]; exact k3
  have ea : acc = (as.map Value.ref).toArray := by rw [← k6, Array.toArray_toList]
  have I1 : Inv X pins σ (upd H h.objs.size (.lst (as.map V.ref))) { s with heap := G } := I.laidN (t' := s.toks) ks (old _ hs).1 (old _ hs).2 (show ObjOk X.prog X.w _ _ _ (.lst (as.map V.ref)) from ⟨by rw [List.length_map, k4]; exact hn, as.map Value.ref, c, vals_refs _, by rw [← ea]; exact hS⟩)
  refine ⟨.ref h.objs.size, _, inv_tups (s := { s with heap := G }) (g := g) as rows I1 (fun b o e => ?_) (List.nodup_cons.mp nd).2 (fun a ha => ?_) (hr g _ as k4 k5), rfl, q _ as k4 nd fun c hc => ?_⟩
  · have e : G.get? b = some o := e
    by_cases c : s.heap.get? b ≠ none ∨ b = h.objs.size
    · rw [← g1 b (decide_eq_true c)]
      exact e
    · rw [g2 b (decide_eq_false c)] at e
      cases e
  · have na : a ≠ h.objs.size := Nat.ne_of_gt (nA a ha)
    have oa := old a (Nat.le_trans hs (Nat.le_of_lt (nA a ha)))
    refine ⟨g2 a (decide_eq_false fun c => ?_), by rw [upd_ne na]; exact oa.2⟩
    rcases c with c | c
    · exact c oa.1
    · exact na c
  · rcases List.mem_cons.mp hc with e | e
    · rw [e]
      exact (old _ hs).2
    · exact (old c (Nat.le_trans hs (Nat.le_of_lt (nA c e)))).2
end
end Tl
end
section
set_option Elab.async false
set_option linter.all false
set_option autoImplicit false
set_option maxRecDepth 100000
namespace Tl
open PySem PySem.Spec PyProof.Rows L2
/-! ### sorted tuples of numbers and texts -/
def vD : V → D
  | .int i => .int i
  | .str x => .str x
  | _ => .none
def fltV : V → Bool
  | .int _ => true
  | .str _ => true
  | _ => false
abbrev rowD (r : List V) : D := .tuple (r.map vD)
theorem dp_row {K : PySem.W.Frag} {H : Hp} : ∀ {r : List V}, (∀ v ∈ r, fltV v = true) → DpAll K H r (r.map vD)
  | [], _ => .nil
  | v :: r, h => by
    have h1 := h v (.head _)
    refine .cons ?_ (dp_row fun u hu => h u (.tail _ hu))
    cases v with
    | int i => exact .int i
    | str x => exact .str x
    | _ => cases h1
theorem reads_row {h : Heap} : ∀ {r : List V} {vs : List Value} {as : List Addr}, (∀ v ∈ r, fltV v = true) → ReadsAll h vs (r.map vD) as → as = []
  | [], _, _, _, q => by cases q; rfl
  | v :: r, _, _, hf, q => by
    cases q with
    | cons h1 h2 =>
      have h3 := reads_row (fun u hu => hf u (.tail _ hu)) h2
      have hv := hf v (.head _)
      cases v with
      | int i => cases h1; rw [h3]; rfl
      | str x => cases h1; rw [h3]; rfl
      | _ => cases hv
theorem depth_row : ∀ {r : List V}, (∀ v ∈ r, fltV v = true) → PyData.depthAll (r.map vD) ≤ 0
  | [], _ => by simp [PyData.depthAll]
  | v :: r, h => by
    have := depth_row fun u hu => h u (.tail _ hu)
    have hv := h v (.head _)
    cases v with
    | int i => simp only [List.map_cons, PyData.depthAll, vD, PyData.depth]; omega
    | str x => simp only [List.map_cons, PyData.depthAll, vD, PyData.depth]; omega
    | _ => cases hv
theorem updT_old : ∀ {as : List Addr} {rows : List (List V)} {H : Hp} {b : Addr}, b ∉ as → updT H as rows b = H b
  | [], _, _, _, _ => rfl
  | _ :: _, [], _, _, _ => rfl
  | a :: as, r :: rows, H, b, h => by
    rw [List.mem_cons, not_or] at h
    show updT (upd H a (.tup r)) as rows b = H b
    rw [updT_old h.2, upd_ne h.1]
theorem updT_at : ∀ {as : List Addr} {rows : List (List V)} {H : Hp} {x : Addr × List V}, as.Nodup → x ∈ as.zip rows → updT H as rows x.1 = some (.tup x.2)
  | [], _, _, _, _, h => by simp at h
  | _ :: _, [], _, _, _, h => by simp at h
  | a :: as, r :: rows, H, x, nd, h => by
    obtain ⟨n1, n2⟩ := List.nodup_cons.mp nd
    show updT (upd H a (.tup r)) as rows x.1 = _
    rw [List.zip_cons_cons, List.mem_cons] at h
    rcases h with e | e
    · subst e
      rw [updT_old n1, upd_same]
    · exact updT_at n2 e
abbrev srtR (as : List Addr) (rows : List (List V)) : List (Addr × List V) := (as.zip rows).mergeSort (PySem.W.dataLe false fun x => rowD x.2)
section
variable {X : Cx} {pins : List (Addr × Obj)} {σ : L2.St} {H : Hp} {s : Shared}
theorem sorted_end {z TI TO : Addr} {wr : List Addr} {n : Nat} {vals : Nat → Array Value} {St : Nat → Heap → Prop} {h : Heap} {rows : List (List V)} {Q : VK} (hu : X.A.units + 64 < cLine) (I : Inv X pins σ H s) (k1 : ∀ b o, s.heap.get? b = some o → h.get? b = some o) (src : TupSrc X.prog X.w X.A.in1.in1 z h.objs.size wr n vals St) (hn : n ≤ lim) (hz : IsZip h z TI TO .none) (st : St 0 h)
    (hw : ∀ b ∈ wr, s.heap.objs.size ≤ b ∧ b < h.objs.size) (hs : s.heap.objs.size ≤ h.objs.size) (hr : ∀ g lo as, as.length = n → Mad vals lo g as → Paired (TupAt g) rows as) (hrl : rows.length = n)
    (hf : ∀ r ∈ rows, ∀ v ∈ r, fltV v = true) (ok : sortOk (rows.map rowD) = true)
    (q : ∀ p as, as.length = n → (p :: as).Nodup → (∀ c ∈ p :: as, H c = none) → Q (.ref p) (upd (updT H as rows) p (.lst ((srtR as rows).map fun x => V.ref x.1)))) :
    wpAny (model X.prog X.w) X.A (call (.builtin "sorted") [.ref z]) (EP X pins σ Q) X.xe { s with heap := h } := by
  refine Calls.call_function_entry kind_sorted plain_sorted entry_sorted (args_sorted1 _) ?_
  unfold Builtin.«sorted»
  refine wpAny_bind (m := checkCount "sorted" 1 1 _) (wpAny_pure ?_)
  refine wpAny_bind (zip_collect (A := X.A.in1) (s := { s with heap := h }) src (lim_line' hn) hz st (fun b hb => (hw b hb).2) fun g tk as k2 k4 k5 => ?_)
  have k2 : ∀ b o, b ∉ wr → h.get? b = some o → g.get? b = some o := k2
  have k5 : Mad vals (h.objs.size + 1) g as := k5
  have kg : ∀ b o, s.heap.get? b = some o → g.get? b = some o := fun b o e => k2 b o (fun z => Nat.lt_irrefl _ (Nat.lt_of_lt_of_le (Heap.lt_size e) (hw b z).1)) (k1 b o e)
  have nA : ∀ a ∈ as, h.objs.size < a := fun a ha => k5.ge a ha
  have old : ∀ c, s.heap.objs.size ≤ c → s.heap.get? c = none ∧ H c = none := fun c hc => ⟨Heap.get?_none_of_le hc, I.hok.fresh hc⟩
  have nd : as.Nodup := k5.up.imp fun h e => by subst e; exact Nat.lt_irrefl _ h
  have oA : ∀ a ∈ as, s.heap.get? a = none ∧ H a = none := fun a ha => old a (Nat.le_trans hs (Nat.le_of_lt (nA a ha)))
  have I1 : Inv X pins σ (updT H as rows) { s with heap := g, toks := tk } := inv_tups as rows I kg nd oA (hr g _ as k4 k5)
  have hlz : as.length = rows.length := by rw [k4, hrl]
  have ef : (as.zip rows).map (·.1) = as := List.map_fst_zip (by omega)
  have es : (as.zip rows).map (·.2) = rows := List.map_snd_zip (by omega)
  have hli : (as.zip rows).length = n := by rw [List.length_zip, hrl, k4, Nat.min_self]
  have hT : ∀ x ∈ as.zip rows, updT H as rows x.1 = some (.tup x.2) := fun x hx => updT_at nd hx
  have hF : ∀ x ∈ as.zip rows, ∀ v ∈ x.2, fltV v = true := fun x hx => hf x.2 (by rw [← es]; exact List.mem_map_of_mem hx)
  have eD : ((as.zip rows).map fun x => rowD x.2) = rows.map rowD := by
    have := congrArg (List.map rowD) es
    rw [List.map_map] at this
    exact this
  have ev : as.map Value.ref = (as.zip rows).map fun x => Value.ref x.1 := by
    have := congrArg (List.map Value.ref) ef
    rw [List.map_map] at this
    exact this.symm
  have mem2 : ∀ x ∈ srtR as rows, x ∈ as.zip rows := fun x hx => (List.mergeSort_perm _ _).mem_iff.mp hx
  have len2 : (srtR as rows).length = n := by rw [List.length_mergeSort, hli]
  rw [ev]
  replace q := fun p => q p as k4
  unfold srtR at q mem2 len2
  generalize as.zip rows = items at *
  refine wpAny_bind (wpAny_newList ?_ (by rw [List.length_map, hli]; exact lim_line' hn))
  have hoL : (g.push (seqObj "list" (items.map fun x => Value.ref x.1).toArray 0)).get? g.objs.size = some (seqObj "list" (items.map fun x => Value.ref x.1).toArray 0) := Heap.get?_push_size _ rfl
  have er : PySem.W.EachIs (fun v (x : Addr × List V) => ∃ as, Reads (g.push (seqObj "list" (items.map fun x => Value.ref x.1).toArray 0)) v (rowD x.2) as ∧ g.objs.size ∉ as) (items.map fun x => Value.ref x.1) items := each_of items fun x hx => by
    obtain ⟨bs, rr⟩ := Dp.reads I1 (rowD x.2) (.ref x.1) (.ref x.1) (.tup (.inl (.inl (hT x hx))) (dp_row (hF x hx))) rfl
    have e : bs = [] := by
      cases rr with
      | tuple _ _ _ h4 => exact reads_row (hF x hx) h4
    subst e
    exact ⟨[], PyProof.Rows.Reads.keeps (fun _ _ e => Heap.get?_push_of_some _ e) rr, by simp⟩
  refine wpAny_bind (wpAny_holding (PySem.W.list_sort_data (R := fun v (x : Addr × List V) => v = Value.ref x.1) (enc := fun x : Addr × List V => rowD x.2) hoL (each_of items fun x _ => rfl) er (by rw [eD]; exact sortOk_alike ok) (by rw [eD]; exact sortOk_able ok) (by rw [hli]; exact lim_line' hn) (fun x hx => ?_) fun out hlen hout => ?_))
  · have : (rowD x.2).depth ≤ 1 := by
      have := depth_row (hF x hx)
      simp only [PyData.depth]
      omega
    show X.A.units + 1 + 1 + (rowD x.2).depth < cLine
    omega
  obtain ⟨c, hcc⟩ := sortedHeap_at (vs := items.map fun x => Value.ref x.1) (out := out.toArray) hoL
  have eo := each_map_eq hout
  have hN : updT H as rows g.objs.size = none := I1.hok.fresh (Nat.le_refl _)
  have nin : g.objs.size ∉ as := fun zz => Nat.lt_irrefl _ (k5.lt zz)
  have hN0 : H g.objs.size = none := by rw [updT_old nin] at hN; exact hN
  have kp2 : ∀ b o, g.get? b = some o → (sortedHeap (g.push (seqObj "list" (items.map fun x => Value.ref x.1).toArray 0)) g.objs.size (items.map fun x => Value.ref x.1) out.toArray).get? b = some o := fun b o e => by
    have hlt := Heap.lt_size e
    rw [sortedHeap_old (Nat.ne_of_lt hlt) (by rw [size_push']; exact Nat.lt_succ_of_lt hlt)]
    exact Heap.get?_push_of_some _ e
  refine wpAny_pure ⟨_, rfl, .ref g.objs.size, upd (updT H as rows) g.objs.size (.lst ((items.mergeSort (PySem.W.dataLe false fun x => rowD x.2)).map fun x => V.ref x.1)), I1.laid (t' := tk) kp2 (Nat.le_refl _) (show ObjOk X.prog X.w _ _ _ (.lst _) from ⟨?_, out, c, ?_, hcc⟩), rfl, q _ (List.nodup_cons.mpr ⟨nin, nd⟩) fun c hc => ?_⟩
  · rw [List.length_map, len2]; exact lim_line' hn
  · rw [eo, show ((items.mergeSort (PySem.W.dataLe false fun x => rowD x.2)).map fun x => V.ref x.1) = ((items.mergeSort (PySem.W.dataLe false fun x => rowD x.2)).map (·.1)).map V.ref by rw [List.map_map]; rfl, show ((items.mergeSort (PySem.W.dataLe false fun x => rowD x.2)).map fun x => Value.ref x.1) = ((items.mergeSort (PySem.W.dataLe false fun x => rowD x.2)).map (·.1)).map Value.ref by rw [List.map_map]; rfl]
    exact vals_refs _
  · rcases List.mem_cons.mp hc with e | e
    · rw [e]; exact hN0
    · exact (oA c e).2
end
end Tl
end
section
set_option Elab.async false
set_option linter.all false
set_option autoImplicit false
set_option maxRecDepth 100000
namespace Tl
open PySem PySem.Spec PyProof.Rows L2
def tLz (K : PySem.W.Frag) (ta : TA) : TE := fun σ H Q => ta σ H fun vs H1 => ∃ a b xs ys, vs = [.ref a, .ref b] ∧ SqL K H1 a xs ∧ SqL K H1 b ys ∧ xs.length = ys.length ∧
  ∀ (S : Addr) (as : List Addr), as.length = xs.length → (S :: as).Nodup → (∀ c ∈ S :: as, H1 c = none) → Q (.ref S) (updT (upd H1 S (.lst (as.map V.ref))) as (rows2 xs ys))
def tSz (K : PySem.W.Frag) (ta : TA) : TE := fun σ H Q => ta σ H fun vs H1 => ∃ a b xs ys, vs = [.ref a, .ref b] ∧ SqL K H1 a xs ∧ SqL K H1 b ys ∧ xs.length = ys.length ∧ xs.length ≤ lim ∧ (∀ r ∈ rows2 xs ys, ∀ v ∈ r, fltV v = true) ∧ sortOk ((rows2 xs ys).map rowD) = true ∧
  ∀ (p : Addr) (as : List Addr), as.length = xs.length → (p :: as).Nodup → (∀ c ∈ p :: as, H1 c = none) → Q (.ref p) (upd (updT H1 as (rows2 xs ys)) p (.lst ((srtR as (rows2 xs ys)).map fun x => V.ref x.1)))
def tSz3 (K : PySem.W.Frag) (ta : TA) : TE := fun σ H Q => ta σ H fun vs H1 => ∃ a b c xs ys us, vs = [.ref a, .ref b, .ref c] ∧ SqL K H1 a xs ∧ SqL K H1 b ys ∧ SqL K H1 c us ∧ xs.length = ys.length ∧ xs.length = us.length ∧ 0 < xs.length ∧ xs.length ≤ lim ∧ (∀ r ∈ rows3 xs ys us, ∀ v ∈ r, fltV v = true) ∧ sortOk ((rows3 xs ys us).map rowD) = true ∧
  ∀ (p : Addr) (as : List Addr), as.length = xs.length → (p :: as).Nodup → (∀ c ∈ p :: as, H1 c = none) → Q (.ref p) (upd (updT H1 as (rows3 xs ys us)) p (.lst ((srtR as (rows3 xs ys us)).map fun x => V.ref x.1)))
theorem neq {a b : Nat} (h : a ≠ b) : @Ne Addr a b := h
theorem leA {a b : Nat} (h : a ≤ b) : @LE.le Addr _ a b := h
theorem ltA {a b : Nat} (h : a < b) : @LT.lt Addr _ a b := h
theorem ap3 (I l1 l2 l3 : Nat) (h1 : l1 < I) (h2 : l2 < I) (h3 : l3 < I) : Ap3 (I + 5) (I + 3) (I + 4) I (I + 1) (I + 2) l1 l2 l3 := by
  constructor <;> (try refine ⟨?_, ?_, ?_, ?_, ?_⟩) <;> refine neq ?_ <;> omega
section
variable {X : Cx} {e e2 e3 : Expr} {ta : TA} {p p0 pos pos0 : Pos}
theorem pe_lzip (hc : X.calm = true) (g1 : Gl X "list") (m1 : X.mg "list" = none) (g2 : Gl X "zip") (m2 : X.mg "zip" = none) (ha : PA X [e, e2] ta)
    (hs : starEach [e, e2] X.env = (false, eval e X.env) :: starEach [e2] X.env) (hpl : (backTo pos (starEach [e2] X.env)).any (·.1) = false) : PE X (.Call (.Name "list" p0) [.Call (.Name "zip" p) [e, e2] [] pos] [] pos0) (tLz X.K ta) := by
  refine ⟨fun pins s σ H Q I h => ?_⟩
  refine Call_ (ld_blt I g1 m1 PyProof.Rows.boot_list (PyProof.Rows.callWith_type1 (Calls.spliced_cons ?_) rfl rfl))
  refine Call_ (ld_blt I g2 m2 PyProof.Rows.boot_zip (PyProof.Rows.callWith_type1 (thn (ha.run pos pins s σ H _ I h) fun us s1 ⟨vs, H1, I1, r1, q1⟩ => ?_) hs hpl))
  obtain ⟨a, b, xs, ys, ex, hqx, hqy, hl, q⟩ := q1
  subst ex
  cases r1 with
  | cons r rr =>
    cases rr with
    | cons r' rr =>
      cases rr
      cases r
      cases r'
      obtain ⟨ix, vx, px, lx⟩ := I1.list hqx
      obtain ⟨iy, vy, py, ly⟩ := I1.list hqy
      have la : @LT.lt Nat instLTNat a s1.heap.objs.size := px.lt
      have lb : @LT.lt Nat instLTNat b s1.heap.objs.size := py.lt
      refine call_zip_2 px.isList py.isList fun g hz hTI hTO h1 h2 hsz hk => ?_
      refine Calls.spliced_nil ?_
      have ap := PySem.W.ktu_apart s1.heap.objs.size a b la lb
      have nx : ix.toArray.size = xs.length := by simpa using (Paired.length vx).symm
      have ny : iy.toArray.size = xs.length := by rw [hl]; simpa using (Paired.length vy).symm
      refine list_end (n := xs.length) (h := g) I1 hk (src_zip2 (A := X.A.in1.in1) (S := g.objs.size) (show X.A.in1.in1.handled = none from I1.ok.hd hc) ap nx ny ?_) lx hz ⟨hTI, h1, h2, px.isList.at fun o e => hk _ o e, py.isList.at fun o e => hk _ o e, .inl ⟨hz, _, _, hTO⟩⟩ (fun c hcm => ?_) (by rw [hsz]; omega) (fun g' lo as k4 k5 => made2 rfl hl.symm vx vy k4 k5) q
      · rw [hsz]
        intro z
        simp only [List.mem_cons, List.not_mem_nil, or_false] at z
        rcases z with z | z | z | z | z | z | z <;> exact absurd z (neq (by omega))
      · rw [hsz]
        simp only [List.mem_cons, List.not_mem_nil, or_false] at hcm
        rcases hcm with z | z | z | z <;> subst z <;> exact ⟨leA (by omega), ltA (by omega)⟩
theorem pe_szip (hc : X.calm = true) (hu : X.A.units + 64 < cLine) (g1 : Gl X "sorted") (m1 : X.mg "sorted" = none) (g2 : Gl X "zip") (m2 : X.mg "zip" = none) (ha : PA X [e, e2] ta)
    (hs : starEach [e, e2] X.env = (false, eval e X.env) :: starEach [e2] X.env) (hpl : (backTo pos (starEach [e2] X.env)).any (·.1) = false) : PE X (.Call (.Name "sorted" p0) [.Call (.Name "zip" p) [e, e2] [] pos] [] pos0) (tSz X.K ta) := by
  refine ⟨fun pins s σ H Q I h => ?_⟩
  refine Call_ (ld_blt I g1 m1 boot_sorted (PyProof.Rows.callWith_builtin1 (Calls.spliced_cons ?_) rfl rfl))
  refine Call_ (ld_blt I g2 m2 PyProof.Rows.boot_zip (PyProof.Rows.callWith_type1 (thn (ha.run pos pins s σ H _ I h) fun us s1 ⟨vs, H1, I1, r1, q1⟩ => ?_) hs hpl))
  obtain ⟨a, b, xs, ys, ex, hqx, hqy, hl, hlim, hf, ok, q⟩ := q1
  subst ex
  cases r1 with
  | cons r rr =>
    cases rr with
    | cons r' rr =>
      cases rr
      cases r
      cases r'
      obtain ⟨ix, vx, px, lx⟩ := I1.list hqx
      obtain ⟨iy, vy, py, ly⟩ := I1.list hqy
      have la : @LT.lt Nat instLTNat a s1.heap.objs.size := px.lt
      have lb : @LT.lt Nat instLTNat b s1.heap.objs.size := py.lt
      refine call_zip_2 px.isList py.isList fun g hz hTI hTO h1 h2 hsz hk => ?_
      refine Calls.spliced_nil ?_
      have ap := PySem.W.ktu_apart s1.heap.objs.size a b la lb
      have nx : ix.toArray.size = xs.length := by simpa using (Paired.length vx).symm
      have ny : iy.toArray.size = xs.length := by rw [hl]; simpa using (Paired.length vy).symm
      refine sorted_end (n := xs.length) (h := g) hu I1 hk (src_zip2 (A := X.A.in1.in1) (S := g.objs.size) (show X.A.in1.in1.handled = none from I1.ok.hd hc) ap nx ny ?_) hlim hz ⟨hTI, h1, h2, px.isList.at fun o e => hk _ o e, py.isList.at fun o e => hk _ o e, .inl ⟨hz, _, _, hTO⟩⟩ (fun c hcm => ?_) (by rw [hsz]; omega) (fun g' lo as k4 k5 => made2 rfl hl.symm vx vy k4 k5) (by simp [rows2, hl]) hf ok q
      · rw [hsz]
        intro z
        simp only [List.mem_cons, List.not_mem_nil, or_false] at z
        rcases z with z | z | z | z | z | z | z <;> exact absurd z (neq (by omega))
      · rw [hsz]
        simp only [List.mem_cons, List.not_mem_nil, or_false] at hcm
        rcases hcm with z | z | z | z <;> subst z <;> exact ⟨leA (by omega), ltA (by omega)⟩
theorem pe_szip3 (hc : X.calm = true) (hu : X.A.units + 64 < cLine) (g1 : Gl X "sorted") (m1 : X.mg "sorted" = none) (g2 : Gl X "zip") (m2 : X.mg "zip" = none) (ha : PA X [e, e2, e3] ta)
    (hs : starEach [e, e2, e3] X.env = (false, eval e X.env) :: starEach [e2, e3] X.env) (hpl : (backTo pos (starEach [e2, e3] X.env)).any (·.1) = false) : PE X (.Call (.Name "sorted" p0) [.Call (.Name "zip" p) [e, e2, e3] [] pos] [] pos0) (tSz3 X.K ta) := by
  refine ⟨fun pins s σ H Q I h => ?_⟩
  refine Call_ (ld_blt I g1 m1 boot_sorted (PyProof.Rows.callWith_builtin1 (Calls.spliced_cons ?_) rfl rfl))
  refine Call_ (ld_blt I g2 m2 PyProof.Rows.boot_zip (PyProof.Rows.callWith_type1 (thn (ha.run pos pins s σ H _ I h) fun us s1 ⟨vs, H1, I1, r1, q1⟩ => ?_) hs hpl))
  obtain ⟨a, b, c, xs, ys, ws, ex, hqx, hqy, hqw, hl, hl', h0, hlim, hf, ok, q⟩ := q1
  subst ex
  cases r1 with
  | cons r rr =>
    cases rr with
    | cons r' rr =>
      cases rr with
      | cons r'' rr =>
        cases rr
        cases r
        cases r'
        cases r''
        obtain ⟨ix, vx, px, lx⟩ := I1.list hqx
        obtain ⟨iy, vy, py, ly⟩ := I1.list hqy
        obtain ⟨iw, vw, pw, lw⟩ := I1.list hqw
        have la : @LT.lt Nat instLTNat a s1.heap.objs.size := px.lt
        have lb : @LT.lt Nat instLTNat b s1.heap.objs.size := py.lt
        have lc : @LT.lt Nat instLTNat c s1.heap.objs.size := pw.lt
        refine zip_begins3 (begins_list a ix.toArray) (begins_list b iy.toArray) (begins_list c iw.toArray) px.isList py.isList pw.isList fun g hz hTI hTO h1 h2 h3 hsz hk => ?_
        refine Calls.spliced_nil ?_
        have ap := ap3 s1.heap.objs.size a b c la lb lc
        have nx : ix.toArray.size = xs.length := by simpa using (Paired.length vx).symm
        have ny : iy.toArray.size = xs.length := by rw [hl]; simpa using (Paired.length vy).symm
        have nw : iw.toArray.size = xs.length := by rw [hl']; simpa using (Paired.length vw).symm
        refine sorted_end (n := xs.length) (h := g) hu I1 hk (src_zip3 (A := X.A.in1.in1) (S := g.objs.size) (show X.A.in1.in1.handled = none from I1.ok.hd hc) ap h0 nx ny nw ?_) hlim hz ⟨hTI, ⟨_, h1, rfl, rfl⟩, ⟨_, h2, rfl, rfl⟩, ⟨_, h3, rfl, rfl⟩, px.isList.at fun o e => hk _ o e, py.isList.at fun o e => hk _ o e, pw.isList.at fun o e => hk _ o e, .inl ⟨rfl, hz, _, _, _, hTO⟩⟩ (fun c hcm => ?_) (by rw [hsz]; omega) (fun g' lo as k4 k5 => made3 rfl hl.symm hl'.symm vx vy vw k4 k5) (by simp [rows3, rows2, ← hl, ← hl']) hf ok q
        · rw [hsz]
          intro z
          simp only [List.mem_cons, List.not_mem_nil, or_false] at z
          rcases z with z | z | z | z | z | z | z | z | z <;> exact absurd z (neq (by omega))
        · rw [hsz]
          simp only [List.mem_cons, List.not_mem_nil, or_false] at hcm
          rcases hcm with z | z | z | z | z <;> subst z <;> exact ⟨leA (by omega), ltA (by omega)⟩
end
end Tl
end
section
set_option Elab.async false
set_option linter.all false
set_option autoImplicit false
set_option maxRecDepth 100000
namespace Tl
open PySem PySem.Spec PyProof.Rows L2
theorem al_updT : ∀ (as : List Addr) (rows : List (List V)) {F H : Hp}, Same F H → as.Nodup → (∀ a ∈ as, H a = none) → Al F H (updT F as rows) (updT H as rows)
  | [], _, _, _, s, _, _ => Al.refl s
  | _ :: _, [], _, _, s, _, _ => Al.refl s
  | a :: as, r :: rows, F, H, s, nd, h => by
    obtain ⟨n1, n2⟩ := List.nodup_cons.mp nd
    have al := Al.one (o := .tup r) s (h a (.head _))
    exact al.trans (al_updT as rows al.sub n2 fun b hb => by
      have nb : b ≠ a := fun z => n1 (by rw [← z]; exact hb)
      rw [upd_ne nb]
      exact h b (.tail _ hb))
theorem updT_get {as : List Addr} {rows : List (List V)} {H : Hp} {j : Nat} {a : Addr} {r : List V} (nd : as.Nodup) (e1 : as[j]? = some a) (e2 : rows[j]? = some r) : updT H as rows a = some (.tup r) :=
  updT_at (x := (a, r)) nd (List.mem_iff_getElem?.mpr ⟨j, by rw [List.getElem?_zip_eq_some]; exact ⟨e1, e2⟩⟩)
theorem two_le : 2 ≤ lim := by unfold lim; decide
theorem three_le : 3 ≤ lim := by unfold lim; decide
theorem rp_two {F : Hp} : ∀ {us ws : List V} {xs ys : List D}, RpAll F us xs → RpAll F ws ys → Paired (fun r ds => RpAll F r ds ∧ ds.length ≤ 2) (rows2 us ws) (zp2 xs ys)
  | _, _, _, _, .nil, _ => .nil
  | _, _, _, _, .cons _ _, .nil => .nil
  | _, _, _, _, .cons h t, .cons h' t' => .cons ⟨.cons h (.cons h' .nil), by simp⟩ (rp_two t t')
theorem rp_three {F : Hp} : ∀ {us : List V} {rs : List (List V)} {xs : List D} {dss : List (List D)}, RpAll F us xs → Paired (fun r ds => RpAll F r ds ∧ ds.length ≤ 2) rs dss → Paired (fun r ds => RpAll F r ds ∧ ds.length ≤ 3) (List.zipWith (fun x r => x :: r) us rs) (List.zipWith (fun x r => x :: r) xs dss)
  | _, _, _, _, .nil, _ => .nil
  | _, _, _, _, .cons _ _, .nil => .nil
  | _, _, _, _, .cons h t, .cons h' t' => .cons ⟨.cons h h'.1, by have := h'.2; simp; omega⟩ (rp_three t t')
theorem rp_zp3 {F : Hp} {us vs ws : List V} {xs ys zs : List D} (h1 : RpAll F us xs) (h2 : RpAll F vs ys) (h3 : RpAll F ws zs) : Paired (fun r ds => RpAll F r ds ∧ ds.length ≤ 3) (rows3 us vs ws) (zp3 xs ys zs) := rp_three h1 (rp_two h2 h3)
theorem rp_made {G : Hp} {n : Nat} (hn : n ≤ lim) : ∀ {rows : List (List V)} {as : List Addr} {dss : List (List D)}, Paired (fun r a => G a = some (.tup r)) rows as → Paired (fun r ds => RpAll G r ds ∧ ds.length ≤ n) rows dss → RpAll G (as.map V.ref) (dss.map .tuple)
  | _, _, _, .nil, .nil => .nil
  | _, _, _, .cons h t, .cons h' t' => .cons (.tup h h'.1 (Nat.le_trans h'.2 hn)) (rp_made hn t t')
theorem paired_mono {G G' : Hp} {n : Nat} (s : Same G G') : ∀ {rows : List (List V)} {dss : List (List D)}, Paired (fun r ds => RpAll G r ds ∧ ds.length ≤ n) rows dss → Paired (fun r ds => RpAll G' r ds ∧ ds.length ≤ n) rows dss
  | _, _, .nil => .nil
  | _, _, .cons h t => .cons ⟨h.1.mono s, h.2⟩ (paired_mono s t)
theorem rp_flat {F : Hp} : ∀ {r : List V} {ds : List D}, RpAll F r ds → ds.all flD = true → r.map vD = ds ∧ ∀ v ∈ r, fltV v = true
  | _, _, .nil, _ => ⟨rfl, fun _ h => by cases h⟩
  | _, _, .cons (d := d) h t, e => by
    rw [List.all_cons, Bool.and_eq_true] at e
    obtain ⟨h1, h2⟩ := rp_flat t e.2
    cases h with
    | int i => exact ⟨by rw [List.map_cons, h1]; rfl, fun v hv => (List.mem_cons.mp hv).elim (fun z => by rw [z]; rfl) (h2 v)⟩
    | str x _ _ => exact ⟨by rw [List.map_cons, h1]; rfl, fun v hv => (List.mem_cons.mp hv).elim (fun z => by rw [z]; rfl) (h2 v)⟩
    | _ => simp [flD] at e
theorem rows_flat {F : Hp} {n : Nat} : ∀ {rows : List (List V)} {dss : List (List D)}, Paired (fun r ds => RpAll F r ds ∧ ds.length ≤ n) rows dss → (dss.all fun ds => ds.all flD) = true → rows.map rowD = dss.map .tuple ∧ (∀ r ∈ rows, ∀ v ∈ r, fltV v = true) ∧ ∀ r ∈ rows, RpAll F r (r.map vD) ∧ r.length ≤ n
  | _, _, .nil, _ => ⟨rfl, (fun _ h => by cases h), fun _ h => by cases h⟩
  | _, _, .cons h t, e => by
    rw [List.all_cons, Bool.and_eq_true] at e
    obtain ⟨h1, h2, h3⟩ := rows_flat t e.2
    obtain ⟨k1, k2⟩ := rp_flat h.1 e.1
    refine ⟨by rw [List.map_cons, List.map_cons, h1]; simp only [rowD, k1], fun r hr => ?_, fun r hr => ?_⟩
    · rcases List.mem_cons.mp hr with z | z
      · rw [z]; exact k2
      · exact h2 r z
    · rcases List.mem_cons.mp hr with z | z
      · rw [z, k1]; exact ⟨h.1, by rw [h.1.length]; exact h.2⟩
      · exact h3 r z
theorem rp_items {G : Hp} : ∀ (items : List (Addr × List V)), (∀ x ∈ items, G x.1 = some (.tup x.2) ∧ RpAll G x.2 (x.2.map vD) ∧ x.2.length ≤ lim) → RpAll G (items.map fun x => V.ref x.1) (items.map fun x => rowD x.2)
  | [], _ => .nil
  | x :: items, h => by
    obtain ⟨h1, h2, h3⟩ := h x (.head _)
    exact .cons (.tup h1 h2 (by rw [List.length_map]; exact h3)) (rp_items items fun y hy => h y (.tail _ hy))
theorem zp2_len (xs ys : List D) : (zp2 xs ys).length ≤ xs.length := by
  unfold zp2
  rw [List.length_zipWith]
  exact Nat.min_le_left _ _
theorem zp3_len (xs ys us : List D) : (zp3 xs ys us).length ≤ xs.length := by
  unfold zp3
  rw [List.length_zipWith]
  exact Nat.min_le_left _ _
/-- what is sorted is there -/
theorem srt_rp {F H : Hp} {rows : List (List V)} {dss : List (List D)} {n : Nat} {p : Addr} {as : List Addr} (s : Same F H) (hn : n ≤ lim) (hp : Paired (fun r ds => RpAll F r ds ∧ ds.length ≤ n) rows dss) (hf : (dss.all fun ds => ds.all flD) = true) (hl : as.length = rows.length) (hl2 : dss.length ≤ lim) (nd : (p :: as).Nodup) (hN : ∀ c ∈ p :: as, H c = none) :
    ∃ F', Al F H F' (upd (updT H as rows) p (.lst ((srtR as rows).map fun x => V.ref x.1))) ∧ Rp F' (.ref p) (.list (sortD (dss.map .tuple))) := by
  obtain ⟨f1, f2, f3⟩ := rows_flat hp hf
  obtain ⟨n1, n2⟩ := List.nodup_cons.mp nd
  have al1 := al_updT as rows s n2 fun a ha => hN a (.tail _ ha)
  have hpN : updT H as rows p = none := by rw [updT_old n1]; exact hN p (.head _)
  have al2 := Al.one (o := .lst ((srtR as rows).map fun x => V.ref x.1)) al1.sub hpN
  have es : (as.zip rows).map (·.2) = rows := List.map_snd_zip (by omega)
  have e1 : sortD (dss.map .tuple) = (srtR as rows).map fun x => rowD x.2 := by
    rw [← f1, ← es, List.map_map]
    rw [sortD_eq]
    unfold srtR
    rw [es]
    exact (List.map_mergeSort (r := PySem.W.dataLe false fun x : Addr × List V => rowD x.2) (s := PySem.W.dataLe false id) (f := fun x => rowD x.2) fun a _ b _ => rfl).symm
  refine ⟨_, al1.trans al2, ?_⟩
  have hlen : (srtR as rows).length = dss.length := by
    have := congrArg List.length e1
    rw [sortD_eq, List.length_mergeSort, List.length_map, List.length_map] at this
    exact this.symm
  rw [e1]
  refine .lst upd_same (RpAll.mono al2.fr (rp_items _ fun x hx => ?_)) (by rw [List.length_map, hlen]; exact hl2)
  have hx' : x ∈ as.zip rows := (List.mergeSort_perm _ _).mem_iff.mp hx
  obtain ⟨k1, k2⟩ := f3 x.2 (by rw [← es]; exact List.mem_map_of_mem hx')
  exact ⟨updT_at n2 hx', k1.mono al1.fr, Nat.le_trans k2 hn⟩
section
variable {T : Tab} {cl : Cls} {Φ : Nat → Fn} {k : Nat} {W : WX} {S : Stat} {X : Cx}
theorem snd_lzip (h : XOk T cl Φ k W S X) {a b : E} {f g : Str} {p p1 pos pos0 : Pos} {y y2 : Expr} (ia : ∀ y, okE T a S y = true → PE X y (tE X.K cl W Φ a)) (ib : ∀ y, okE T b S y = true → PE X y (tE X.K cl W Φ b))
    (q : (okB S f "list" && okB S g "zip" && noStar y && noStar y2 && okE T a S y && okE T b S y2) = true) : PE X (.Call (.Name f p) [.Call (.Name g p1) [y, y2] [] pos] [] pos0) (tE X.K cl W Φ (.lzip a b)) := by
  obtain ⟨q, q6⟩ := and2 q
  obtain ⟨q, q5⟩ := and2 q
  obtain ⟨q, q4⟩ := and2 q
  obtain ⟨q, q3⟩ := and2 q
  obtain ⟨q1, q2⟩ := and2 q
  obtain ⟨rfl, g1, m1⟩ := h.bl q1 (by decide +kernel)
  obtain ⟨rfl, g2, m2⟩ := h.bl q2 (by decide +kernel)
  refine impE (pe_lzip h.calm g1 m1 g2 m2 (pa_cons (ia _ q5) (pa_cons (ib _ q6) pa_nil (star_ok q4)) (star_ok q3)) (star_ok q3) (stars_ok (by simp [q4]))) fun σ H Q hq => ?_
  obtain ⟨F, da, r, g, Rr, z⟩ := hq
  refine ⟨F, da, r, g, Rr, Post.bind z fun d g1 v F1 H1 n rp p => ?_⟩
  refine ⟨F1, da, r, g1, Rr.nx n, Post.bind p fun e g2 u F2 H2 n2 rp2 p2 => ?_⟩
  cases d with
  | list xs =>
    cases e with
    | list ys =>
      cases rp with
      | @lst a1 us _ h1 h2 h3 =>
        cases rp2 with
        | @lst a2 ws _ h1' h2' h3' =>
          have s1 := n2.fr _ _ h1
          simp only at p2
          split at p2
          · rename_i hl
            refine ⟨_, _, _, _, rfl, .inl (.inl (n2.sub _ _ s1)), .inl (.inl (n2.sub _ _ h1')), by rw [h2.length, h2'.length]; exact hl, fun Sx as k4 nd hN => ?_⟩
            obtain ⟨nd1, nd2⟩ := List.nodup_cons.mp nd
            have al1 := Al.one (o := .lst (as.map V.ref)) n2.sub (hN Sx (.head _))
            have al2 := al_updT as (rows2 us ws) al1.sub nd2 fun b hb => by
              have nb : b ≠ Sx := fun z => nd1 (by rw [← z]; exact hb)
              rw [upd_ne nb]
              exact hN b (.tail _ hb)
            refine p2 _ _ _ (Nx.of_al n2.gok (al1.trans al2)) ?_
            have pr := rp_two (h2.mono n2.fr) h2'
            refine .lst (al2.fr _ _ upd_same) (rp_made two_le ?_ (paired_mono (al1.trans al2).fr pr)) (by rw [List.length_map]; exact Nat.le_trans (zp2_len _ _) h3)
            refine paired_ix ?_ fun j r a e1 e2 => updT_get nd2 e2 e1
            rw [k4]
            unfold rows2
            rw [List.length_zipWith, h2.length, h2'.length]
            omega
          · exact p2.elim
    | _ => exact False.elim p2
  | _ => exact False.elim p2
theorem snd_szip (h : XOk T cl Φ k W S X) {a b : E} {f g : Str} {p p1 pos pos0 : Pos} {y y2 : Expr} (ia : ∀ y, okE T a S y = true → PE X y (tE X.K cl W Φ a)) (ib : ∀ y, okE T b S y = true → PE X y (tE X.K cl W Φ b))
    (q : (okB S f "sorted" && okB S g "zip" && noStar y && noStar y2 && okE T a S y && okE T b S y2) = true) : PE X (.Call (.Name f p) [.Call (.Name g p1) [y, y2] [] pos] [] pos0) (tE X.K cl W Φ (.szip a b)) := by
  obtain ⟨q, q6⟩ := and2 q
  obtain ⟨q, q5⟩ := and2 q
  obtain ⟨q, q4⟩ := and2 q
  obtain ⟨q, q3⟩ := and2 q
  obtain ⟨q1, q2⟩ := and2 q
  obtain ⟨rfl, g1, m1⟩ := h.bl q1 (by decide +kernel)
  obtain ⟨rfl, g2, m2⟩ := h.bl q2 (by decide +kernel)
  refine impE (pe_szip h.calm (by have := h.units; omega) g1 m1 g2 m2 (pa_cons (ia _ q5) (pa_cons (ib _ q6) pa_nil (star_ok q4)) (star_ok q3)) (star_ok q3) (stars_ok (by simp [q4]))) fun σ H Q hq => ?_
  obtain ⟨F, da, r, g, Rr, z⟩ := hq
  refine ⟨F, da, r, g, Rr, Post.bind z fun d g1 v F1 H1 n rp p => ?_⟩
  refine ⟨F1, da, r, g1, Rr.nx n, Post.bind p fun e g2 u F2 H2 n2 rp2 p2 => ?_⟩
  cases d with
  | list xs =>
    cases e with
    | list ys =>
      cases rp with
      | lst h1 h2 h3 =>
        cases rp2 with
        | lst h1' h2' h3' =>
          have s1 := n2.fr _ _ h1
          simp only at p2
          split at p2
          · rename_i hl
            obtain ⟨hl, hf, ok⟩ := hl
            have pr := rp_two (h2.mono n2.fr) h2'
            obtain ⟨f1, f2, f3⟩ := rows_flat pr hf
            refine ⟨_, _, _, _, rfl, .inl (.inl (n2.sub _ _ s1)), .inl (.inl (n2.sub _ _ h1')), by rw [h2.length, h2'.length]; exact hl, by rw [h2.length]; exact h3, f2, by rw [f1]; exact ok, fun px as k4 nd hN => ?_⟩
            obtain ⟨F', al, rr⟩ := srt_rp n2.sub two_le pr hf (by rw [k4]; unfold rows2; rw [List.length_zipWith, h2.length, h2'.length]; omega) (Nat.le_trans (zp2_len _ _) h3) nd hN
            exact p2 _ _ _ (Nx.of_al n2.gok al) rr
          · exact p2.elim
    | _ => exact False.elim p2
  | _ => exact False.elim p2
theorem snd_szip3 (h : XOk T cl Φ k W S X) {a b c : E} {f g : Str} {p p1 pos pos0 : Pos} {y y2 y3 : Expr} (ia : ∀ y, okE T a S y = true → PE X y (tE X.K cl W Φ a)) (ib : ∀ y, okE T b S y = true → PE X y (tE X.K cl W Φ b)) (ic : ∀ y, okE T c S y = true → PE X y (tE X.K cl W Φ c))
    (q : (okB S f "sorted" && okB S g "zip" && noStar y && noStar y2 && noStar y3 && okE T a S y && okE T b S y2 && okE T c S y3) = true) : PE X (.Call (.Name f p) [.Call (.Name g p1) [y, y2, y3] [] pos] [] pos0) (tE X.K cl W Φ (.szip3 a b c)) := by
  obtain ⟨q, q8⟩ := and2 q
  obtain ⟨q, q7⟩ := and2 q
  obtain ⟨q, q6⟩ := and2 q
  obtain ⟨q, q5⟩ := and2 q
  obtain ⟨q, q4⟩ := and2 q
  obtain ⟨q, q3⟩ := and2 q
  obtain ⟨q1, q2⟩ := and2 q
  obtain ⟨rfl, g1, m1⟩ := h.bl q1 (by decide +kernel)
  obtain ⟨rfl, g2, m2⟩ := h.bl q2 (by decide +kernel)
  refine impE (pe_szip3 h.calm (by have := h.units; omega) g1 m1 g2 m2 (pa_cons (ia _ q6) (pa_cons (ib _ q7) (pa_cons (ic _ q8) pa_nil (star_ok q5)) (star_ok q4)) (star_ok q3)) (star_ok q3) (stars_ok (by simp [q4, q5]))) fun σ H Q hq => ?_
  obtain ⟨F, da, r, g, Rr, z⟩ := hq
  refine ⟨F, da, r, g, Rr, Post.bind z fun d g1 v F1 H1 n rp p => ?_⟩
  refine ⟨F1, da, r, g1, Rr.nx n, Post.bind p fun e g2 u F2 H2 n2 rp2 p2 => ?_⟩
  refine ⟨F2, da, r, g2, (Rr.nx n).nx n2, Post.bind p2 fun e3 g3 u3 F3 H3 n3 rp3 p3 => ?_⟩
  cases d with
  | list xs =>
    cases e with
    | list ys =>
      cases e3 with
      | list us =>
        cases rp with
        | lst h1 h2 h3 =>
          cases rp2 with
          | lst h1' h2' h3' =>
            cases rp3 with
            | lst k1 k2 k3 =>
              have s1 := n3.fr _ _ (n2.fr _ _ h1)
              have s2 := n3.fr _ _ h1'
              simp only at p3
              split at p3
              · rename_i hl
                obtain ⟨⟨hl, hl', h0⟩, hf, ok⟩ := hl
                have pr := rp_zp3 ((h2.mono n2.fr).mono n3.fr) (h2'.mono n3.fr) k2
                obtain ⟨f1, f2, f3⟩ := rows_flat pr hf
                refine ⟨_, _, _, _, _, _, rfl, .inl (.inl (n3.sub _ _ s1)), .inl (.inl (n3.sub _ _ s2)), .inl (.inl (n3.sub _ _ k1)), by rw [h2.length, h2'.length]; exact hl, by rw [h2.length, k2.length]; exact hl', by rw [h2.length]; exact h0, by rw [h2.length]; exact h3, f2, by rw [f1]; exact ok, fun px as k4 nd hN => ?_⟩
                obtain ⟨F', al, rr⟩ := srt_rp n3.sub three_le pr hf (by rw [k4]; unfold rows3 rows2; rw [List.length_zipWith, List.length_zipWith, h2.length, h2'.length, k2.length]; omega) (Nat.le_trans (zp3_len _ _ _) h3) nd hN
                exact p3 _ _ _ (Nx.of_al n3.gok al) rr
              · exact p3.elim
      | _ => exact False.elim p3
    | _ => exact False.elim p3
  | _ => exact False.elim p3
end
end Tl
end
section
set_option Elab.async false
set_option linter.all false
set_option autoImplicit false
set_option maxRecDepth 100000
namespace Tl
open PySem PySem.Spec PyProof.Rows L2
/-! ### readers: the state -/
theorem rdA_some {g : G} {j : Nat} {x : Rd} (h : rdA g j = some x) : ∃ ns c rs, g = some (ns, c, rs) ∧ rs[j]? = some x := by
  cases g with
  | none => cases h
  | some p => exact ⟨p.1, p.2.1, p.2.2, rfl, h⟩
theorem GOk.rd {H : Hp} {g : G} {da : DA} {a n : Addr} {zs : List (Addr × Addr)} {j : Nat} {q s : Addr} {x : Rd} (h : GOk H g da) (e : da = some (a, n, zs)) (ez : zs[j]? = some (q, s)) (ex : rdA g j = some x) :
    H q = some (.lst [.int x.1, .int x.2.1]) ∧ H s = some (.lst (x.2.2.map V.int)) ∧ x.2.2.length ≤ 1000 ∧ q ≠ s ∧ isDr da q ∧ isDr da s := by
  obtain ⟨ns, c, rs, rfl, hx⟩ := rdA_some ex
  subst e
  obtain ⟨h1, _, _, _, h5⟩ := h
  obtain ⟨z, e1, e2, e3, e4⟩ := h5.at hx
  rw [ez] at e1
  cases e1
  obtain ⟨m1, m2⟩ := flat2_mem (List.mem_of_getElem? ez)
  refine ⟨e2, e3, e4, fun z => ?_, ⟨_, rfl, .tail _ (.tail _ m1)⟩, ⟨_, rfl, .tail _ (.tail _ m2)⟩⟩
  subst z
  have nd : (flat2 zs).Nodup := (List.nodup_cons.mp (List.nodup_cons.mp h1).2).2
  clear h1 e2 e3 e4 h5 m1 m2 hx ex
  induction zs generalizing j with
  | nil => simp at ez
  | cons w zs ih =>
    rw [flat2, List.flatMap_cons, List.nodup_append] at nd
    cases j with
    | zero =>
      simp at ez
      subst ez
      simp at nd
    | succ j => exact ih (by simpa using ez) nd.2.1
theorem GOk.rset {H H' : Hp} {g : G} {da : DA} {a n : Addr} {zs : List (Addr × Addr)} {j : Nat} {q s : Addr} {x y : Rd} (h : GOk H g da) (e : da = some (a, n, zs)) (ez : zs[j]? = some (q, s)) (ex : rdA g j = some x)
    (h1 : H' q = some (.lst [.int y.1, .int y.2.1])) (h2 : H' s = some (.lst (y.2.2.map V.int))) (hl : y.2.2.length ≤ 1000) (hk : ∀ b, b ≠ q → b ≠ s → H' b = H b) : GOk H' (rdPut g j y) da := by
  obtain ⟨ns, c, rs, rfl, hx⟩ := rdA_some ex
  subst e
  obtain ⟨g1, g2, g3, g4, g5⟩ := h
  obtain ⟨m1, m2⟩ := flat2_mem (List.mem_of_getElem? ez)
  obtain ⟨n1, n2⟩ := List.nodup_cons.mp g1
  obtain ⟨n3, n4⟩ := List.nodup_cons.mp n2
  have a1 : a ≠ q := fun z => n1 (z ▸ .tail _ m1)
  have a2 : a ≠ s := fun z => n1 (z ▸ .tail _ m2)
  have b1 : n ≠ q := fun z => n3 (z ▸ m1)
  have b2 : n ≠ s := fun z => n3 (z ▸ m2)
  exact ⟨g1, by rw [hk a a1 a2]; exact g2, by rw [hk n b1 b2]; exact g3, g4, RdOk.set hl n4 g5 ez h1 h2 hk⟩
/-- a reader's list is written -/
theorem Nx.rput {da : DA} {F H : Hp} {g : G} {a n : Addr} {zs : List (Addr × Addr)} {j : Nat} {q s b : Addr} {x y : Rd} {o : HO} (sm : Same F H) (h : GOk H g da) (nod : ∀ b, isDr da b → F b = none) (e : da = some (a, n, zs)) (ez : zs[j]? = some (q, s)) (ex : rdA g j = some x)
    (hb : b = q ∨ b = s) (h1 : upd H b o q = some (.lst [.int y.1, .int y.2.1])) (h2 : upd H b o s = some (.lst (y.2.2.map V.int))) (hl : y.2.2.length ≤ 1000) : Nx da F H F (upd H b o) (rdPut g j y) := by
  obtain ⟨_, _, _, _, d1, d2⟩ := h.rd e ez ex
  have db : isDr da b := by rcases hb with rfl | rfl <;> assumption
  refine ⟨Same.refl F, fun c o' e' => ?_, fun c o' e' nd => ?_, fun _ _ _ z => .inl z, h.rset e ez ex h1 h2 hl fun c c1 c2 => ?_, fun c o' e' => ?_⟩
  · rw [upd_ne (ne_of_none e' (nod b db))]
    exact sm c o' e'
  · rw [upd_ne (fun z => nd (by rw [z]; exact db))]
    exact e'
  · rcases hb with rfl | rfl
    · exact upd_ne c1
    · exact upd_ne c2
  · by_cases hc : c = b
    · subst hc
      exact ⟨o, upd_same⟩
    · exact ⟨o', by rw [upd_ne hc]; exact e'⟩
theorem Nx.less {da : DA} {F H1 H F' H' : Hp} {g' : G} (s : Same H1 H) (n : Nx da F H F' H' g') : Nx da F H1 F' H' g' :=
  ⟨n.fr, n.sub, fun b o e nd => n.keep b o (s b o e) nd, fun b o e nf => n.new b o (s b o e) nf, n.gok, fun b o e => n.tho b o (s b o e)⟩
/-- the readers with a new one -/
theorem GOk.more {H : Hp} {ns : List Int} {c : Int} {rs : List Rd} {a n p q : Addr} {zs : List (Addr × Addr)} (h : GOk H (some (ns, c, rs)) (some (a, n, zs))) (hp : H p = some (.lst [.int 0, .int 0])) (hq : H q = some (.lst [])) (np : ¬ isDr (some (a, n, zs)) p) (nq : ¬ isDr (some (a, n, zs)) q) (pq : p ≠ q) :
    GOk H (some (ns, c, rs ++ [(0, 0, [])])) (some (a, n, zs ++ [(p, q)])) := by
  obtain ⟨g1, g2, g3, g4, g5⟩ := h
  refine ⟨?_, g2, g3, g4, RdOk.add hp hq (Nat.zero_le _) g5⟩
  have e : dAll (a, n, zs ++ [(p, q)]) = dAll (a, n, zs) ++ [p, q] := by simp [dAll, List.flatMap_append]
  rw [e, List.nodup_append]
  refine ⟨g1, by simp [pq], fun x hx y hy => ?_⟩
  rintro rfl
  simp only [List.mem_cons, List.not_mem_nil, or_false] at hy
  rcases hy with rfl | rfl
  · exact np ⟨_, rfl, hx⟩
  · exact nq ⟨_, rfl, hx⟩
theorem GOk.len {H : Hp} {g : G} {da : DA} (h : GOk H g da) : rdN g = (match da with | some p => p.2.2.length | none => 0) := by
  unfold GOk at h
  split at h
  · rfl
  · exact h.2.2.2.2.len
  · exact h.elim
/-! ### calls with what was raised told by the slots -/
section
variable {X : Cx} {CX : CXT} {k : Nat} {f C : Addr} {fd : FuncData} {ps : List Str} {sp : Sp} {E : L2.St → XK} {x m : Str} {p pos apos : Pos} {e o : Expr} {es : List Expr} {ta : TE} {t : TA}
def tMethK (C : Addr) (m : Str) (sp : Sp) (E : L2.St → XK) (ta : TE) (t : TA) : TE := fun σ H Q => ta σ H fun x H1 => ∃ a dx fs, x = .ref a ∧ H1 a = some (.ins C dx fs) ∧ fs.lookup m = none ∧
  t σ H1 fun vs H2 => sp (x :: vs) H2 Q (E σ)
theorem pe_methK0 (he : PE X o ta) (c : L2.Cls X.K C) (hm : Meth X.K C m f) (F : FnOk X.prog X.w X.K X.mg X.base CX k f fd ps sp) (hr : Room k X.A) (hb : Binds X.K fd ps []) (hx : ∀ σ, PassesAt CX X σ (E σ))
    (hbase : attributeBase o m X.env (eval o X.env) = eval o X.env) (hline : (apos.endLine == pos.line) = true) : PE X (.Call (.Attribute o m apos) [] [] pos) (tMethK C m sp E ta tNil) := by
  refine ⟨fun pins s σ H Q I h => ?_⟩
  rw [arm_eval_Call, hbase]
  refine wpAny_bind (thn (he.run pins s σ H _ I h) fun u s1 ⟨x, H1, I1, rx, a, dx, fs, ex, ea, l, q⟩ => ?_)
  subst ex
  obtain rfl : u = Value.ref a := rx
  refine wpAny_bind (wpAny_standAt ?_)
  have hform : methodCallForm (([] : List Expr).length + ([] : List Keyword).length) (backTo pos (starEach [] X.env)) (backToKw pos (keywordEach [] X.env)) = true := rfl
  have hpos : methodCallPos true o X.env apos pos = pure pos := by unfold methodCallPos; simp [hline]
  unfold methodCall
  rw [hform]
  refine wpAny_bind (wpAny_holding (getmeth_ok I1 ea c hm l ?_))
  refine wpAny_bind (wpAny_of_eq hpos ?_)
  exact PySem.W.callWith_K0 (first := [.ref a]) I1.kIn hm.kp (run_fnS (us := [.ref a]) (vs := [.ref a]) F hr hb (hx σ) I1 (.cons rfl .nil) q)
theorem pe_methK1 (he : PE X o ta) (c : L2.Cls X.K C) (hm : Meth X.K C m f) (F : FnOk X.prog X.w X.K X.mg X.base CX k f fd ps sp) (hr : Room k X.A) (hb : Binds X.K fd ps []) (hx : ∀ σ, PassesAt CX X σ (E σ)) (ha : PA X [e] t) (hs : starEach [e] X.env = [(false, eval e X.env)])
    (hbase : attributeBase o m X.env (eval o X.env) = eval o X.env) (hline : (apos.endLine == pos.line) = true) : PE X (.Call (.Attribute o m apos) [e] [] pos) (tMethK C m sp E ta t) := by
  refine ⟨fun pins s σ H Q I h => ?_⟩
  rw [arm_eval_Call, hbase]
  refine wpAny_bind (thn (he.run pins s σ H _ I h) fun u s1 ⟨x, H1, I1, rx, a, dx, fs, ex, ea, l, q⟩ => ?_)
  subst ex
  obtain rfl : u = Value.ref a := rx
  refine wpAny_bind (wpAny_standAt ?_)
  have hform : methodCallForm ([e].length + ([] : List Keyword).length) (backTo pos (starEach [e] X.env)) (backToKw pos (keywordEach [] X.env)) = true := by rw [hs]; rfl
  have hpos : methodCallPos true o X.env apos pos = pure pos := by unfold methodCallPos; simp [hline]
  unfold methodCall
  rw [hform]
  refine wpAny_bind (wpAny_holding (getmeth_ok I1 ea c hm l ?_))
  refine wpAny_bind (wpAny_of_eq hpos ?_)
  refine PySem.W.callWith_K (first := [.ref a]) (h₀ := X.base) I.ok.mod.kin hm.kp (thn (ha.run pos pins s1 σ H1 _ I1 q) fun us s2 ⟨vs, H2, I2, r, q2⟩ => ⟨I2.kIn, ?_⟩) hs rfl
  exact run_fnS (us := .ref a :: us) (vs := .ref a :: vs) F hr hb (hx σ) I2 (.cons rfl r) q2
def tMakeK (C : Addr) (sp : Sp) (E : L2.St → XK) (t : TA) : TE := fun σ H Q => t σ H fun vs H1 => ∀ x dx, H1 x = none → H1 dx = none → dx ≠ x →
  sp (.ref x :: vs) (upd (upd H1 dx (.own x)) x (.ins C dx [])) (fun v H2 => v = .non ∧ Q (.ref x) H2) (E σ)
theorem run_makeK {pins : List (Addr × Obj)} {σ : L2.St} {H : Hp} {s : Shared} {Q : VK} {us : List Value} {vs : List V} (M : Mk X.K C f) (F : FnOk X.prog X.w X.K X.mg X.base CX k f fd ps sp) (hr : Room (k + 1) X.A) (hb : Binds X.K fd ps [])
    (hx : PassesAt CX X σ (E σ)) (I : Inv X pins σ H s) (r : L2.Vals vs us)
    (h : ∀ x dx, H x = none → H dx = none → dx ≠ x → sp (.ref x :: vs) (upd (upd H dx (.own x)) x (.ins C dx [])) (fun v H2 => v = .non ∧ Q (.ref x) H2) (E σ)) :
    wpAny (model X.prog X.w) X.A (call (.ref C) us) (EP X pins σ Q) X.xe s := by
  have hq := h (s.heap.objs.size + 1) s.heap.objs.size (I.hok.fresh (Nat.le_succ _)) (I.hok.fresh (Nat.le_refl _)) (Nat.ne_of_lt (Nat.lt_succ_self _))
  have I2 := Inv.made (C := C) I
  have r2 : L2.Vals (V.ref (s.heap.objs.size + 1) :: vs) (Value.ref (s.heap.objs.size + 1) :: us) := .cons rfl r
  have hl : (Value.ref (s.heap.objs.size + 1) :: us).length = ps.length := by
    have e := r2.length
    rw [F.len _ _ _ _ hq] at e
    exact e.symm
  have b := hb _ (Value.ref (s.heap.objs.size + 1) :: us) I2.kIn (by rw [List.append_nil]; exact hl)
  rw [List.append_nil] at b
  refine wpAny_call (make_map (f := f) I.kIn M.makes M.init (beq_iff_eq.mp M.fn) (codeAny_mono (F.run _ X.stack _ _ ⟨Value.ref (s.heap.objs.size + 1) :: us, []⟩ (Value.ref (s.heap.objs.size + 1) :: us) _ _ (E σ) (hr.make C us [])
    (I2.env0.make C us []) b r2 hq) fun r s' hq' => ?_))
  cases r with
  | error e => exact hx pins _ _ e s' I2 hq'
  | ok fl =>
    cases fl with
    | ret u =>
      obtain ⟨v, H', I3, rv, ev, q3⟩ := I2.after hq'
      subst ev
      exact ⟨rv, ⟨V.ref (s.heap.objs.size + 1), H', I3, rfl, q3⟩⟩
    | next => exact False.elim hq'
    | brk => exact False.elim hq'
    | cont => exact False.elim hq'
theorem pe_makeK (M : Mk X.K C f) (F : FnOk X.prog X.w X.K X.mg X.base CX k f fd ps sp) (hr : Room (k + 1) X.A) (hg : Gl X x) (hm : X.mg x = some (.ref C)) (hb : Binds X.K fd ps []) (hx : ∀ σ, PassesAt CX X σ (E σ))
    (ha : PA X (e :: es) t) (hdb : (x == ("__debug__" : Str)) = false) (he : starEach (e :: es) X.env = (false, eval e X.env) :: starEach es X.env) (hpl : (backTo pos (starEach es X.env)).any (·.1) = false) :
    PE X (.Call (.Name x p) (e :: es) [] pos) (tMakeK C sp E t) := by
  refine ⟨fun pins s σ H Q I h => ?_⟩
  refine wpAny_Call_Name_kw (ld_glob I hg hm ?_ hdb)
  refine PySem.W.callWith_K (h₀ := X.base) I.ok.mod.kin M.kp (thn (ha.run pos pins s σ H _ I h) fun us s1 ⟨vs, H1, I1, r, q⟩ => ⟨I1.kIn, ?_⟩) he hpl
  exact run_makeK M F hr hb (hx σ) I1 r q
/-- a promise that is never given -/
theorem pe_makeN (M : Mk X.K C f) (no : ∀ vs H Q E, ¬ sp vs H Q E) (hg : Gl X x) (hm : X.mg x = some (.ref C))
    (ha : PA X (e :: es) t) (hdb : (x == ("__debug__" : Str)) = false) (he : starEach (e :: es) X.env = (false, eval e X.env) :: starEach es X.env) (hpl : (backTo pos (starEach es X.env)).any (·.1) = false) :
    PE X (.Call (.Name x p) (e :: es) [] pos) (tMakeK C sp E t) := by
  refine ⟨fun pins s σ H Q I h => ?_⟩
  refine wpAny_Call_Name_kw (ld_glob I hg hm ?_ hdb)
  refine PySem.W.callWith_K (h₀ := X.base) I.ok.mod.kin M.kp (thn (ha.run pos pins s σ H _ I h) fun us s1 ⟨vs, H1, I1, r, q⟩ => ⟨I1.kIn, ?_⟩) he hpl
  exact (no _ _ _ _ (q (s1.heap.objs.size + 1) s1.heap.objs.size (I1.hok.fresh (Nat.le_succ _)) (I1.hok.fresh (Nat.le_refl _)) (Nat.ne_of_lt (Nat.lt_succ_self _)))).elim
/-! ### len(x), by __len__ -/
def rLenK (C : Addr) (sp : Sp) : List V → Hp → VK → Prop := fun xs H Q => ∃ a dx fs, xs = [.ref a] ∧ H a = some (.ins C dx fs) ∧ sp [.ref a] H (fun v H' => ∃ n : Int, v = .int n ∧ 0 ≤ n ∧ n < 2 ^ 63 ∧ Q (.int n) H') E0
theorem call_lenK (c : Meth X.K C "__len__" f) (F : FnOk X.prog X.w X.K X.mg X.base (L2.CX X.prog X.w) k f fd ps sp) (hr : Room (k + 1) X.A) (hb : Binds X.K fd ps []) : CallR X (.builtin "len") (rLenK C sp) := by
  intro pins s σ H xs us Q I rr h
  obtain ⟨a, dx, fs, rfl, ea, h⟩ := h
  obtain ⟨u, rfl, ru⟩ := rr.one
  obtain rfl : u = Value.ref a := ru
  obtain ⟨mA, O, _, _, _, _⟩ := ins_get I.hok ea
  have sp' : PySem.W.Looks (model X.prog X.w) s.heap (specialOf (.ref a) "__len__") (some (.ref f)) := ((PySem.W.Looks.ld O.obj).andThen (by exact .now)).andThen (PySem.W.looks_findIn I.kIn c.at_)
  have hf : PySem.W.typeIn X.K (.ref f) = some (.type "function") := beq_iff_eq.mp c.fn
  obtain ⟨ob, hfo, hfc⟩ : ∃ ob, s.heap.get? f = some ob ∧ ob.cls = .type "function" := by
    have q : (X.K.lookup f).map (·.cls) = some (.type "function") := hf
    cases e : X.K.lookup f with
    | none => rw [e] at q; cases q
    | some ob => rw [e] at q; exact ⟨ob, I.kIn _ _ e, Option.some.inj q⟩
  have b := hb s [.ref a] I.kIn (by have := F.len _ _ _ _ h; simpa using this)
  rw [List.append_nil] at b
  have hcall : wpAny (model X.prog X.w) X.A.in1 (call (.ref f) [.ref a]) (EP X pins σ (fun v H' => ∃ n : Int, v = .int n ∧ 0 ≤ n ∧ n < 2 ^ 63 ∧ Q (.int n) H')) X.xe s := by
    refine wpAny_call (codeAny_mono (F.run X.A.in1 X.stack s H ⟨[.ref a], []⟩ [.ref a] [.ref a] _ E0 hr.in1 I.env0.in1 b (.cons rfl .nil) h) fun r s' hq => ?_)
    cases r with
    | error e => exact passL pins σ H s e s' I hq
    | ok fl =>
      cases fl with
      | ret u => exact I.after hq
      | next => exact False.elim hq
      | brk => exact False.elim hq
      | cont => exact False.elim hq
  refine Calls.call_function_entry kind_len plain_len entry_len (args_len1 _) ?_
  unfold Builtin.«len»
  refine wpAny_bind (m := oneArg "len" _) (wpAny_pure ?_)
  refine wpAny_bind (m := callSpecial? (.ref a) (Str.ofString "__len__")) ?_
  unfold callSpecial?
  refine wpAny_bind (sp'.here ?_)
  refine wpAny_holding (wpAny_bind (wpAny_bindSpecial_def hfo hfc ?_))
  refine wpAny_bind (wpAny_mono hcall (fun v s' h' => wpAny_pure ?_) fun _ _ h' => h')
  obtain ⟨w, H', I', rw', n, rfl, h0, h1, q⟩ := h'
  obtain ⟨t, rfl⟩ := rw'
  refine wpAny_bind (wpAny_holding (wpAny_pure ?_))
  refine wpAny_bind (wpAny_letGo ?_)
  show wpAny _ _ (if n < 0 then _ else _) _ _ _
  rw [if_neg (by omega)]
  show wpAny _ _ (if n ≥ 2 ^ 63 then _ else _) _ _ _
  rw [if_neg (by omega)]
  exact wpAny_bind (wpAny_mkInt (wpAny_pure ⟨_, rfl, ⟨.int n, H', I'.tok _, ⟨_, rfl⟩, q⟩⟩))
end
end Tl
end
section
set_option Elab.async false
set_option linter.all false
set_option autoImplicit false
set_option maxRecDepth 100000
namespace Tl
open PySem PySem.Spec PyProof.Rows L2
/-! ### readers: expressions -/
theorem dp_ints {K : PySem.W.Frag} {H : Hp} : ∀ ns : List Int, DpAll K H (ns.map V.int) (ns.map PyData.int)
  | [] => .nil
  | n :: ns => .cons (.int n) (dp_ints ns)
theorem lay_ints : ∀ ns : List Int, PyData.canLayAll0 (ns.map PyData.int) = true
  | [] => rfl
  | n :: ns => by simp [PyData.canLayAll0, PyData.canLay0, lay_ints ns]
theorem depth_ints (ns : List Int) : (PyData.list (ns.map PyData.int)).depth ≤ 60 := by
  have h : ∀ l : List Int, PyData.depthAll (l.map PyData.int) ≤ 1 := fun l => by
    induction l with
    | nil => simp [PyData.depthAll]
    | cons x r ih => simp [PyData.depthAll, PyData.depth]; omega
  have := h ns
  simp [PyData.depth]
  omega
section
variable {T : Tab} {cl : Cls} {Φ : Nat → Fn} {k : Nat} {W : WX} {S : Stat} {X : Cx} {K : PySem.W.Frag}
abbrev insR (cl : Cls) (dx : Addr) (lv : V) (q s : Addr) : HO := .ins (cl 9) dx [("lists", lv), ("depths", .ref q), ("made", .ref s)]
theorem Rep.rdr {F H : Hp} {da : DA} {σ : St} {r : Env} {g : G} {i j : Nat} {A B : List D} (R : Rep K cl F H da σ r g) (e : r[i]? = some (.rdr j A B)) : ∃ x dx lv q s a n zs, σ[i]? = some (some (.ref x)) ∧ F x = some (insR cl dx lv q s) ∧ H x = some (insR cl dx lv q s) ∧ Rp F lv (.tuple [.list A, .list B]) ∧ da = some (a, n, zs) ∧ zs[j]? = some (q, s) := by
  obtain ⟨v, e1, x, dx, lv, q, s, a, n, zs, rfl, h2, h3, h4, h5⟩ := R.slot i _ e
  exact ⟨x, dx, lv, q, s, a, n, zs, e1, h2, R.sub _ _ h2, h3, h4, h5⟩
theorem look_l {lv : V} {q s : Addr} : List.lookup ("lists" : Str) [(("lists" : Str), lv), ("depths", .ref q), ("made", .ref s)] = some lv := by
  simp [List.lookup]
theorem look_d {lv : V} {q s : Addr} : List.lookup ("depths" : Str) [(("lists" : Str), lv), ("depths", .ref q), ("made", .ref s)] = some (.ref q) := by
  rw [List.lookup, show (("depths" : Str) == "lists") = false from by decide]
  simp [List.lookup]
theorem look_m {lv : V} {q s : Addr} : List.lookup ("made" : Str) [(("lists" : Str), lv), ("depths", .ref q), ("made", .ref s)] = some (.ref s) := by
  rw [List.lookup, show (("made" : Str) == "lists") = false from by decide]
  show List.lookup ("made" : Str) [(("depths" : Str), V.ref q), ("made", V.ref s)] = some (.ref s)
  rw [List.lookup, show (("made" : Str) == "depths") = false from by decide]
  simp [List.lookup]
theorem look_no {lv : V} {q s : Addr} {m : Str} (h : m = "lists" ∨ m = "depths" ∨ m = "made" → False) : List.lookup m [(("lists" : Str), lv), ("depths", .ref q), ("made", .ref s)] = none := by
  have h1 : (m == ("lists" : Str)) = false := beq_eq_false_iff_ne.mpr fun z => h (.inl z)
  have h2 : (m == ("depths" : Str)) = false := beq_eq_false_iff_ne.mpr fun z => h (.inr (.inl z))
  have h3 : (m == ("made" : Str)) = false := beq_eq_false_iff_ne.mpr fun z => h (.inr (.inr z))
  simp [List.lookup, h1, h2, h3]
theorem okF_is {i : Nat} {f : Str} {x : Expr} (q : okF S i f x = true) : ∃ a p pos, x = .Attribute (.Name a p) f pos ∧ okV S i a = true := by
  unfold okF at q
  split at q
  · obtain ⟨q1, q2⟩ := and2 q
    have e := of_decide_eq_true q1
    subst e
    exact ⟨_, _, _, rfl, q2⟩
  · cases q
theorem XOk.fld (h : XOk T cl Φ k W S X) {i : Nat} {a f : Str} {p pos : Pos} (q : okV S i a = true) : PE X (.Attribute (.Name a p) f pos) (tFld X.K (tVar i) f) := pe_fld (h.var q) (base_ok rfl)
theorem snd_rls (h : XOk T cl Φ k W S X) {i : Nat} {x : Expr} (q : okF S i "lists" x = true) : PE X x (tE X.K cl W Φ (.rls i)) := by
  obtain ⟨a, p, pos, rfl, q⟩ := okF_is q
  refine impE (h.fld q) fun σ H Q hq => ?_
  obtain ⟨F, da, r, g, Rr, p⟩ := hq
  simp only [evE] at p
  cases e : r[i]? with
  | none => rw [e] at p; exact False.elim p
  | some c =>
    rw [e] at p
    cases c with
    | rdr j A B =>
      obtain ⟨y, dx, lv, q, s, a, n, zs, e1, e2, e3, e4, e5, e6⟩ := Rr.rdr e
      exact ⟨_, e1, y, _, dx, _, lv, rfl, e3, h.rdx.rc, h.rdx.n1, look_l, p lv F H (Nx.refl Rr.sub Rr.gok) e4⟩
    | _ => exact False.elim p
theorem dp_at {x : Rd} {kk v : Int} (h : dpA x kk = some v) : L2.atI [V.int x.1, V.int x.2.1] kk = some (.int v) := by
  unfold dpA at h
  split at h
  · rename_i e
    subst e
    cases h
    rfl
  · split at h
    · rename_i e
      subst e
      cases h
      rfl
    · cases h
theorem snd_rdep (h : XOk T cl Φ k W S X) {i : Nat} {e : E} {y ix : Expr} {pos : Pos} (ie : ∀ z, okE T e S z = true → PE X z (tE X.K cl W Φ e)) (q : (okF S i "depths" y && noSlice ix && okE T e S ix) = true) : PE X (.Subscript y ix pos) (tE X.K cl W Φ (.rdep i e)) := by
  obtain ⟨q, q3⟩ := and2 q
  obtain ⟨q1, q2⟩ := and2 q
  obtain ⟨a, p, pos', rfl, q1⟩ := okF_is q1
  refine impE (pe_ix ix_list (h.fld q1) (ie ix q3) (slice_ok q2)) fun σ H Q hq => ?_
  obtain ⟨F, da, r, g, Rr, p⟩ := hq
  simp only [evE] at p
  cases er : r[i]? with
  | none => rw [er] at p; exact False.elim p
  | some c =>
    rw [er] at p
    cases c with
    | rdr j A B =>
      obtain ⟨y, dx, lv, q, s, a, n, zs, e1, e2, e3, e4, e5, e6⟩ := Rr.rdr er
      refine ⟨_, e1, y, _, dx, _, .ref q, rfl, e3, h.rdx.rc, h.rdx.n2, look_d, F, da, r, g, Rr, Post.bind p fun d g1 v F1 H1 n1 rp p1 => ?_⟩
      cases d with
      | int kk =>
        cases rp
        cases ex : rdA g1 j with
        | none => simp only [ex] at p1; exact False.elim p1
        | some x =>
          simp only [ex, Option.bind_some] at p1
          cases ed : dpA x kk with
          | none => simp only [ed] at p1; exact False.elim p1
          | some vv =>
            simp only [ed, Option.map_some, R.of] at p1
            obtain ⟨k1, _⟩ := n1.gok.rd e5 e6 ex
            exact ⟨q, _, kk, .int vv, rfl, rfl, .inl (.inl k1), dp_at ed, p1 _ F1 H1 (Nx.refl n1.sub n1.gok) (.int vv)⟩
      | _ => exact False.elim p1
    | _ => exact False.elim p
theorem snd_rdt (h : XOk T cl Φ k W S X) {i : Nat} {f : Str} {p pos : Pos} {y : Expr} (q : (okB S f "tuple" && okF S i "depths" y) = true) : PE X (.Call (.Name f p) [y] [] pos) (tE X.K cl W Φ (.rdt i)) := by
  obtain ⟨q1, q2⟩ := and2 q
  obtain ⟨rfl, g, m⟩ := h.bl q1 (by decide +kernel)
  obtain ⟨a, p', pos', rfl, q2⟩ := okF_is q2
  refine impE (pe_callTy call_tuple_of g m boot_tuple (pa_cons (h.fld q2) pa_nil)) fun σ H Q hq => ?_
  obtain ⟨F, da, r, g, Rr, p⟩ := hq
  simp only [evE] at p
  cases er : r[i]? with
  | none => rw [er] at p; exact False.elim p
  | some c =>
    rw [er] at p
    cases c with
    | rdr j A B =>
      obtain ⟨y, dx, lv, q, s, a, n, zs, e1, e2, e3, e4, e5, e6⟩ := Rr.rdr er
      simp only at p
      cases ex : rdA g j with
      | none => rw [ex] at p; exact False.elim p
      | some x =>
        rw [ex] at p
        simp only [Option.map_some, R.of] at p
        obtain ⟨k1, _⟩ := Rr.gok.rd e5 e6 ex
        refine ⟨_, e1, y, _, dx, _, .ref q, rfl, e3, h.rdx.rc, h.rdx.n2, look_d, q, _, rfl, .inl ⟨.inl (.inl k1), fun l hl => ?_⟩⟩
        exact new_tup (ds := [.int x.1, .int x.2.1]) Rr.sub (.cons (.int _) (.cons (.int _) .nil)) (by simp [lim]) (fun v F' H' al rp => p v F' H' (Nx.of_al Rr.gok al) rp) l hl
    | _ => exact False.elim p
theorem snd_rme (h : XOk T cl Φ k W S X) {i : Nat} {y : Expr} {p1 pos : Pos} (q : okF S i "made" y = true) : PT X (.Compare y [.Eq] [.List [] p1] pos) (tT X.K cl W Φ (.rme i)) := by
  obtain ⟨a, p', pos', rfl, q⟩ := okF_is q
  refine impT (pt_cmpR (op_eqD (by have := h.units; omega)) (h.fld q) (pe_lst pa_nil) (nomark _)) fun σ H Q hq => ?_
  have hq := tT_tE hq
  obtain ⟨F, da, r, g, Rr, p⟩ := hq
  simp only [evE] at p
  cases er : r[i]? with
  | none => rw [er] at p; exact False.elim p
  | some c =>
    rw [er] at p
    cases c with
    | rdr j A B =>
      obtain ⟨y, dx, lv, q, s, a, n, zs, e1, e2, e3, e4, e5, e6⟩ := Rr.rdr er
      simp only at p
      cases ex : rdA g j with
      | none => rw [ex] at p; exact False.elim p
      | some x =>
        rw [ex] at p
        simp only [Option.map_some, R.of] at p
        obtain ⟨_, k2, _⟩ := Rr.gok.rd e5 e6 ex
        refine ⟨_, e1, y, _, dx, _, .ref s, rfl, e3, h.rdx.rc, h.rdx.n3, look_m, Nat.zero_le _, fun l hl => ?_⟩
        have s1 : Same H (upd H l (.lst [])) := same_upd hl
        have al : Al F H F (upd H l (.lst [])) := Al.side Rr.sub hl
        have ee : x.2.2.isEmpty = PyData.eqv (.list (x.2.2.map PyData.int)) (.list []) := by cases x.2.2 <;> rfl
        rw [ee] at p
        exact ⟨.list (x.2.2.map PyData.int), .list [], .lst (.inl (.inl (s1 _ _ k2))) (dp_ints _), .lst (.inl (.inl upd_same)) .nil, shp_shaped (by simp [PyData.canLay0, lay_ints]) (decide_eq_true (depth_ints _)), by decide, p _ F _ (Nx.of_al Rr.gok al) (.bl _)⟩
    | _ => exact False.elim p
theorem snd_mth (h : XOk T cl Φ k W S X) {f i : Nat} {as : E} {a m : Str} {p1 ap cp : Pos} {es : List Expr} (ia : okA T as S es = true → PA X es (tA X.K cl W Φ as)) (q : (okV S i a && decide ((f, m) ∈ T.ms) && (ap.endLine == cp.line) && decide (es.length ≤ 1) && okA T as S es) = true) :
    PE X (.Call (.Attribute (.Name a p1) m ap) es [] cp) (tE X.K cl W Φ (.mth f i as)) := by
  obtain ⟨q, q5⟩ := and2 q
  obtain ⟨q, q4⟩ := and2 q
  obtain ⟨q, q3⟩ := and2 q
  obtain ⟨q1, q2⟩ := and2 q
  obtain ⟨fa, fd, ps, hm, hno, hb, hF⟩ := h.rdx.mth f m (of_decide_eq_true q2)
  have rd : ∀ σ H Q, tE X.K cl W Φ (.mth f i as) σ H Q → tMethK (cl 9) m (spF cl (Φ f)) (WE W) (tVar i) (tA X.K cl W Φ as) σ H Q := fun σ H Q hq => by
    obtain ⟨F, da, r, g, Rr, p⟩ := hq
    simp only [evE] at p
    cases er : r[i]? with
    | none => rw [er] at p; exact False.elim p
    | some c =>
      rw [er] at p
      cases c with
      | rdr j A B =>
        obtain ⟨y, dx, lv, q, s, a, n, zs, e1, e2, e3, e4, e5, e6⟩ := Rr.rdr er
        refine ⟨_, e1, y, dx, _, rfl, e3, look_no hno, F, da, r, g, Rr, Post.bind p fun cs g1 vs F1 H1 n1 ao p1 => ?_⟩
        refine ⟨F1, da, g1, .rdr j A B :: cs, n1.sub, n1.gok, (Rr.nx n1).nod, .cons ⟨y, dx, lv, q, s, a, n, zs, rfl, n1.fr _ _ e2, e4.mono n1.fr, e5, e6⟩ ao, ?_⟩
        cases q : Φ f (.rdr j A B :: cs) g1 with
        | ok d g2 => rw [q] at p1; exact p1
        | exc c g2 => rw [q] at p1; exact p1
        | bad => rw [q] at p1; exact p1
      | _ => exact False.elim p
  match es, ia, q4, q5 with
  | [], ia, _, q5 =>
    refine impE (pe_methK0 (h.var q1) h.rdx.rc hm hF h.room hb h.pass (base_ok rfl) q3) fun σ H Q hq => ?_
    obtain ⟨v, e1, a, dx, fs, e2, e3, e4, F, da, r, g, Rr, z⟩ := rd σ H Q hq
    refine ⟨v, e1, a, dx, fs, e2, e3, e4, ?_⟩
    cases as with
    | nil => exact z [] F H (Nx.refl Rr.sub Rr.gok) .nil
    | _ => simp [okA] at q5
  | [y], ia, _, q5 =>
    have hs : noStar y = true := by
      cases as with
      | cons u us =>
        simp only [okA] at q5
        exact (and2 (and2 q5).1).1
      | _ => simp [okA] at q5
    exact impE (pe_methK1 (h.var q1) h.rdx.rc hm hF h.room hb h.pass (ia q5) (star_ok hs) (base_ok rfl) q3) rd
  | _ :: _ :: _, _, q4, _ => simp at q4
theorem snd_mlen (h : XOk T cl Φ k W S X) {i : Nat} {f a : Str} {p p1 pos : Pos} (q : (okB S f "len" && okV S i a) = true) : PE X (.Call (.Name f p) [.Name a p1] [] pos) (tE X.K cl W Φ (.mlen i)) := by
  obtain ⟨q1, q2⟩ := and2 q
  obtain ⟨rfl, gl, m⟩ := h.bl q1 (by decide +kernel)
  rcases h.rdx.lng with bad | ⟨fa, fd, ps, jj, hj, hm, hb, hF⟩
  · refine ⟨fun pins s σ H Q I hq => ?_⟩
    obtain ⟨F, da, r, g, Rr, p⟩ := hq
    simp only [evE] at p
    cases er : r[i]? with
    | none => rw [er] at p; exact False.elim p
    | some c =>
      rw [er] at p
      cases c with
      | rdr j A B => simp only [bad] at p; exact False.elim p
      | _ => exact False.elim p
  · refine impE (pe_callB (call_lenK hm hF (h.room.mono hj) hb) gl m boot_len (pa_cons (h.var q2) pa_nil)) fun σ H Q hq => ?_
    obtain ⟨F, da, r, g, Rr, p⟩ := hq
    simp only [evE] at p
    cases er : r[i]? with
    | none => rw [er] at p; exact False.elim p
    | some c =>
      rw [er] at p
      cases c with
      | rdr j A B =>
        obtain ⟨y, dx, lv, q, s, a, n, zs, e1, e2, e3, e4, e5, e6⟩ := Rr.rdr er
        simp only at p
        refine ⟨_, e1, y, dx, _, rfl, e3, F, da, g, [.rdr j A B], Rr.sub, Rr.gok, Rr.nod, .cons ⟨y, dx, lv, q, s, a, n, zs, rfl, e2, e4, e5, e6⟩ .nil, ?_⟩
        cases eq : Φ 901 [.rdr j A B] g with
        | ok d g2 =>
          rw [eq] at p
          cases d with
          | int nn =>
            simp only at p
            split at p
            · rename_i hn
              intro v F' H' n1 rp
              cases rp
              exact ⟨nn, rfl, hn.1, by omega, p _ F' H' n1 (.int nn)⟩
            · exact False.elim p
          | _ => exact False.elim p
        | exc c g2 => rw [eq] at p; exact False.elim p
        | bad => rw [eq] at p; exact False.elim p
      | _ => exact False.elim p
end
end Tl
end
section
set_option Elab.async false
set_option linter.all false
set_option autoImplicit false
set_option maxRecDepth 100000
namespace Tl
open PySem PySem.Spec PyProof.Rows L2
/-- an expression's evaluation is sound, as a value, a test, arguments, something walked -/
structure Snd (T : Tab) (cl : Cls) (Φ : Nat → Fn) (a : E) : Prop where
  e : ∀ {k : Nat} {W : WX} {S : Stat} {X : Cx}, XOk T cl Φ k W S X → ∀ x, okE T a S x = true → PE X x (tE X.K cl W Φ a)
  t : ∀ {k : Nat} {W : WX} {S : Stat} {X : Cx}, XOk T cl Φ k W S X → ∀ x, okT T a S x = true → PT X x (tT X.K cl W Φ a)
  s : ∀ {k : Nat} {W : WX} {S : Stat} {X : Cx}, XOk T cl Φ k W S X → ∀ xs, okA T a S xs = true → PA X xs (tA X.K cl W Φ a)
  i : ∀ {k : Nat} {W : WX} {S : Stat} {X : Cx}, XOk T cl Φ k W S X → ∀ tg x, okI T a S tg x = true → PI X tg x (tI X.K cl W Φ a)
section
variable {T : Tab} {cl : Cls} {Φ : Nat → Fn}
theorem Snd.c {a : E} (h : Snd T cl Φ a) {k : Nat} {W : WX} {S : Stat} {X : Cx} (o : XOk T cl Φ k W S X) (x : Expr) (q : okE T a S x = true) : PE X x (tC X.K cl W Φ a) := to_C o q (h.e o x q)
theorem noT {p : Prop} (h : false = true) : p := nomatch h
theorem plain_call {f : Expr} {as : List Expr} {ks : List Keyword} {p : Pos} : plainT (.Call f as ks p) = true := rfl
theorem snd (a : E) : Snd T cl Φ a := by
  induction a with
  | var i =>
    refine ⟨@fun k W S X o x q => ?_, @fun k W S X o x q => ?_, @fun k W S X o x q => ?_, @fun k W S X o tg x q => ?_⟩
    · simp only [okE] at q
      split at q
      · exact snd_var o q
      · cases q
    · simp only [okT] at q
      split at q
      · exact pt_of (snd_var o q) rfl
      · cases q
    · simp [okA] at q
    · simp [okI] at q
  | con d =>
    refine ⟨@fun k W S X o x q => ?_, @fun k W S X o x q => ?_, @fun k W S X o x q => ?_, @fun k W S X o tg x q => ?_⟩
    · simp only [okE] at q
      split at q
      · exact snd_con q
      · cases q
    · simp [okT] at q
    · simp [okA] at q
    · simp [okI] at q
  | glo n d =>
    refine ⟨@fun k W S X o x q => ?_, @fun k W S X o x q => ?_, @fun k W S X o x q => ?_, @fun k W S X o tg x q => ?_⟩
    · simp only [okE] at q
      split at q
      · exact snd_glo o q
      · cases q
    · simp [okT] at q
    · simp [okA] at q
    · simp [okI] at q
  | un op a ih =>
    refine ⟨@fun k W S X o x q => ?_, @fun k W S X o x q => ?_, @fun k W S X o x q => ?_, @fun k W S X o tg x q => ?_⟩
    · simp only [okE] at q
      exact snd_un o (ih.c o) q
    · by_cases hn : op = .notv
      · subst hn
        simp only [okT] at q
        split at q
        · exact impT (pt_not (ih.t o _ q)) fun σ H Q hq => rd_notT hq
        · cases q
      · have q' : (plainT x && okU op (fun y => okE T a S y) S x) = true := by
          cases op <;> first | exact absurd rfl hn | (simp only [okT] at q; exact q)
        obtain ⟨q1, q2⟩ := and2 q'
        exact pt_of (snd_un o (ih.c o) q2) q1
    · simp [okA] at q
    · simp [okI] at q
  | bi op a b iha ihb =>
    refine ⟨@fun k W S X o x q => ?_, @fun k W S X o x q => ?_, @fun k W S X o x q => ?_, @fun k W S X o tg x q => ?_⟩
    · simp only [okE] at q
      exact snd_bi o (iha.c o) (ihb.c o) q
    · simp only [okT] at q
      split at q
      · obtain ⟨q, q4⟩ := and2 q
        obtain ⟨q, q3⟩ := and2 q
        obtain ⟨q1, q2⟩ := and2 q
        obtain ⟨r, h1, h2⟩ := opR_cmp o q1
        exact impT (pt_cmpR h1 (iha.c o _ q3) (ihb.c o _ q4) (behind_ok q2)) fun σ H Q hq => rd_bi h2 (tT_tE hq)
      · obtain ⟨q1, q2⟩ := and2 q
        exact pt_of (snd_bi o (iha.c o) (ihb.c o) q2) q1
    · simp [okA] at q
    · simp [okI] at q
  | le2 a b c iha ihb ihc =>
    refine ⟨@fun k W S X o x q => ?_, @fun k W S X o x q => ?_, @fun k W S X o x q => ?_, @fun k W S X o tg x q => ?_⟩
    · simp only [okE] at q
      split at q
      · obtain ⟨q, q4⟩ := and2 q
        obtain ⟨q, q3⟩ := and2 q
        obtain ⟨q1, q2⟩ := and2 q
        exact impE (pe_chain op_le op_le (iha.e o _ q2) (ihb.e o _ q3) (ihc.e o _ q4) (by unfold lastMarks; exact behind_ok q1)) fun σ H Q hq => rd_le2 hq
      · cases q
    · simp only [okT] at q
      split at q
      · obtain ⟨q, q4⟩ := and2 q
        obtain ⟨q, q3⟩ := and2 q
        obtain ⟨q1, q2⟩ := and2 q
        exact impT (pt_chain op_le op_le (iha.e o _ q2) (ihb.e o _ q3) (ihc.e o _ q4) (by unfold lastMarks; exact behind_ok q1)) fun σ H Q hq => rd_le2 (tT_tE hq)
      · cases q
    · simp [okA] at q
    · simp [okI] at q
  | le3 a b c d iha ihb ihc ihd =>
    refine ⟨@fun k W S X o x q => ?_, @fun k W S X o x q => ?_, @fun k W S X o x q => ?_, @fun k W S X o tg x q => ?_⟩
    · simp only [okE] at q
      split at q
      · obtain ⟨q, q5⟩ := and2 q
        obtain ⟨q, q4⟩ := and2 q
        obtain ⟨q, q3⟩ := and2 q
        obtain ⟨q1, q2⟩ := and2 q
        exact impE (pe_chain3 (iha.e o _ q2) (ihb.e o _ q3) (ihc.e o _ q4) (ihd.e o _ q5) (by unfold lastMarks; exact behind_ok q1)) fun σ H Q hq => rd_le3 hq
      · cases q
    · simp only [okT] at q
      split at q
      · obtain ⟨q, q5⟩ := and2 q
        obtain ⟨q, q4⟩ := and2 q
        obtain ⟨q, q3⟩ := and2 q
        obtain ⟨q1, q2⟩ := and2 q
        exact impT (pt_chain3 (iha.e o _ q2) (ihb.e o _ q3) (ihc.e o _ q4) (ihd.e o _ q5) (by unfold lastMarks; exact behind_ok q1)) fun σ H Q hq => rd_le3 (tT_tE hq)
      · cases q
    · simp [okA] at q
    · simp [okI] at q
  | isc a d ih =>
    refine ⟨@fun k W S X o x q => ?_, @fun k W S X o x q => ?_, @fun k W S X o x q => ?_, @fun k W S X o tg x q => ?_⟩
    · simp only [okE] at q
      split at q
      · obtain ⟨q1, q2⟩ := and2 q
        exact (snd_isc (ih.e o _ q2) q1).1
      · cases q
    · simp only [okT] at q
      split at q
      · obtain ⟨q1, q2⟩ := and2 q
        exact (snd_isc (ih.e o _ q2) q1).2.1
      · cases q
    · simp [okA] at q
    · simp [okI] at q
  | isnc a d ih =>
    refine ⟨@fun k W S X o x q => ?_, @fun k W S X o x q => ?_, @fun k W S X o x q => ?_, @fun k W S X o tg x q => ?_⟩
    · simp only [okE] at q
      split at q
      · obtain ⟨q1, q2⟩ := and2 q
        exact (snd_isc (ih.e o _ q2) q1).2.2.1
      · cases q
    · simp only [okT] at q
      split at q
      · obtain ⟨q1, q2⟩ := and2 q
        exact (snd_isc (ih.e o _ q2) q1).2.2.2
      · cases q
    · simp [okA] at q
    · simp [okI] at q
  | and a b iha ihb =>
    refine ⟨@fun k W S X o x q => ?_, @fun k W S X o x q => ?_, @fun k W S X o x q => ?_, @fun k W S X o tg x q => ?_⟩
    · simp only [okE] at q
      split at q
      · obtain ⟨q1, q2⟩ := and2 q
        exact impE (pe_and (iha.e o _ q1) (pe_one (ihb.e o _ q2))) fun σ H Q hq => rd_and hq
      · obtain ⟨q1, q2⟩ := and2 q
        exact impE (pe_and (iha.e o _ q1) (ihb.e o _ q2)) fun σ H Q hq => rd_and hq
      · cases q
    · simp only [okT] at q
      split at q
      · obtain ⟨q1, q2⟩ := and2 q
        exact impT (PW.pt (pw_and (iha.t o _ q1) (pw_and1 (ihb.t o _ q2)))) fun σ H Q hq => rd_andT hq
      · obtain ⟨q1, q2⟩ := and2 q
        exact impT (PW.pt (pw_and (iha.t o _ q1) (pt_bool (ihb.t o _ q2)))) fun σ H Q hq => rd_andT hq
      · cases q
    · simp [okA] at q
    · simp [okI] at q
  | or a b iha ihb =>
    refine ⟨@fun k W S X o x q => ?_, @fun k W S X o x q => ?_, @fun k W S X o x q => ?_, @fun k W S X o tg x q => ?_⟩
    · simp only [okE] at q
      split at q
      · obtain ⟨q1, q2⟩ := and2 q
        exact impE (pe_or (iha.e o _ q1) (pe_one (ihb.e o _ q2))) fun σ H Q hq => rd_or hq
      · obtain ⟨q1, q2⟩ := and2 q
        exact impE (pe_or (iha.e o _ q1) (ihb.e o _ q2)) fun σ H Q hq => rd_or hq
      · cases q
    · simp only [okT] at q
      split at q
      · obtain ⟨q1, q2⟩ := and2 q
        exact impT (PW.pt (pw_or (iha.t o _ q1) (pw_or1 (ihb.t o _ q2)))) fun σ H Q hq => rd_orT hq
      · obtain ⟨q1, q2⟩ := and2 q
        exact impT (PW.pt (pw_or (iha.t o _ q1) (pt_bool (ihb.t o _ q2)))) fun σ H Q hq => rd_orT hq
      · cases q
    · simp [okA] at q
    · simp [okI] at q
  | ite c a b ihc iha ihb =>
    refine ⟨@fun k W S X o x q => ?_, @fun k W S X o x q => ?_, @fun k W S X o x q => ?_, @fun k W S X o tg x q => ?_⟩
    · simp only [okE] at q
      split at q
      · obtain ⟨q, q3⟩ := and2 q
        obtain ⟨q1, q2⟩ := and2 q
        exact impE (pe_ifExp (ihc.t o _ q1) (iha.e o _ q2) (ihb.e o _ q3)) fun σ H Q hq => rd_ite hq
      · cases q
    · simp [okT] at q
    · simp [okA] at q
    · simp [okI] at q
  | lst as ih =>
    refine ⟨@fun k W S X o x q => ?_, @fun k W S X o x q => ?_, @fun k W S X o x q => ?_, @fun k W S X o tg x q => ?_⟩
    · simp only [okE] at q
      split at q
      · exact snd_lst (ih.s o _ q)
      · cases q
    · simp [okT] at q
    · simp [okA] at q
    · simp [okI] at q
  | tup as ih =>
    refine ⟨@fun k W S X o x q => ?_, @fun k W S X o x q => ?_, @fun k W S X o x q => ?_, @fun k W S X o tg x q => ?_⟩
    · simp only [okE] at q
      split at q
      · exact snd_tup (ih.s o _ q)
      · cases q
    · simp [okT] at q
    · simp [okA] at q
    · simp [okI] at q
  | nil =>
    refine ⟨@fun k W S X o x q => ?_, @fun k W S X o x q => ?_, @fun k W S X o x q => ?_, @fun k W S X o tg x q => ?_⟩
    · simp [okE] at q
    · simp [okT] at q
    · simp only [okA] at q
      cases x with
      | nil => exact snd_nil
      | cons _ _ => cases q
    · simp [okI] at q
  | cons a as iha ihs =>
    refine ⟨@fun k W S X o x q => ?_, @fun k W S X o x q => ?_, @fun k W S X o x q => ?_, @fun k W S X o tg x q => ?_⟩
    · simp [okE] at q
    · simp [okT] at q
    · simp only [okA] at q
      split at q
      · obtain ⟨q, q3⟩ := and2 q
        obtain ⟨q1, q2⟩ := and2 q
        exact snd_cons (snd_arg o q2 (iha.e o _ q2)) (ihs.s o _ q3) q1
      · cases q
    · simp [okI] at q
  | call f as ih =>
    refine ⟨@fun k W S X o x q => ?_, @fun k W S X o x q => ?_, @fun k W S X o x q => ?_, @fun k W S X o tg x q => ?_⟩
    · simp only [okE] at q
      split at q
      · obtain ⟨q1, q2⟩ := and2 q
        exact snd_call o (ih.s o _ q2) q2 q1
      · cases q
    · simp only [okT] at q
      split at q
      · obtain ⟨q1, q2⟩ := and2 q
        exact pt_of (snd_call o (ih.s o _ q2) q2 q1) rfl
      · cases q
    · simp [okA] at q
    · simp [okI] at q
  | isi a t ih =>
    refine ⟨@fun k W S X o x q => ?_, @fun k W S X o x q => ?_, @fun k W S X o x q => ?_, @fun k W S X o tg x q => ?_⟩
    · simp only [okE] at q
      split at q
      · obtain ⟨q1, q2⟩ := and2 q
        exact snd_isi o (ih.e o _ q2) q1
      · cases q
    · simp only [okT] at q
      split at q
      · obtain ⟨q1, q2⟩ := and2 q
        exact pt_of (snd_isi o (ih.e o _ q2) q1) rfl
      · cases q
    · simp [okA] at q
    · simp [okI] at q
  | isx i c =>
    refine ⟨@fun k W S X o x q => ?_, @fun k W S X o x q => ?_, @fun k W S X o x q => ?_, @fun k W S X o tg x q => ?_⟩
    · simp only [okE] at q
      exact (snd_isx o q).1
    · simp only [okT] at q
      exact (snd_isx o q).2
    · simp [okA] at q
    · simp [okI] at q
  | dsort i =>
    refine ⟨@fun k W S X o x q => ?_, @fun k W S X o x q => ?_, @fun k W S X o x q => ?_, @fun k W S X o tg x q => ?_⟩
    · simp only [okE] at q
      split at q
      · exact snd_dsort o q
      · cases q
    · simp [okT] at q
    · simp [okA] at q
    · simp [okI] at q
  | dget i e ih =>
    refine ⟨@fun k W S X o x q => ?_, @fun k W S X o x q => ?_, @fun k W S X o x q => ?_, @fun k W S X o tg x q => ?_⟩
    · simp only [okE] at q
      split at q
      · exact snd_dget o (fun y hy => ih.e o y hy) q
      · cases q
    · simp [okT] at q
    · simp [okA] at q
    · simp [okI] at q
  | lzip a b iha ihb =>
    refine ⟨@fun k W S X o x q => ?_, @fun k W S X o x q => ?_, @fun k W S X o x q => ?_, @fun k W S X o tg x q => ?_⟩
    · simp only [okE] at q
      split at q
      · exact snd_lzip o (fun y hy => iha.e o y hy) (fun y hy => ihb.e o y hy) q
      · cases q
    · simp [okT] at q
    · simp [okA] at q
    · simp [okI] at q
  | szip a b iha ihb =>
    refine ⟨@fun k W S X o x q => ?_, @fun k W S X o x q => ?_, @fun k W S X o x q => ?_, @fun k W S X o tg x q => ?_⟩
    · simp only [okE] at q
      split at q
      · exact snd_szip o (fun y hy => iha.e o y hy) (fun y hy => ihb.e o y hy) q
      · cases q
    · simp [okT] at q
    · simp [okA] at q
    · simp [okI] at q
  | szip3 a b c iha ihb ihc =>
    refine ⟨@fun k W S X o x q => ?_, @fun k W S X o x q => ?_, @fun k W S X o x q => ?_, @fun k W S X o tg x q => ?_⟩
    · simp only [okE] at q
      split at q
      · exact snd_szip3 o (fun y hy => iha.e o y hy) (fun y hy => ihb.e o y hy) (fun y hy => ihc.e o y hy) q
      · cases q
    · simp [okT] at q
    · simp [okA] at q
    · simp [okI] at q
  | rls i =>
    refine ⟨@fun k W S X o x q => ?_, @fun k W S X o x q => ?_, @fun k W S X o x q => ?_, @fun k W S X o tg x q => ?_⟩
    · simp only [okE] at q
      exact snd_rls o q
    · simp [okT] at q
    · simp [okA] at q
    · simp [okI] at q
  | rdep i e ih =>
    refine ⟨@fun k W S X o x q => ?_, @fun k W S X o x q => ?_, @fun k W S X o x q => ?_, @fun k W S X o tg x q => ?_⟩
    · simp only [okE] at q
      split at q
      · exact snd_rdep o (fun y hy => ih.e o y hy) q
      · cases q
    · simp [okT] at q
    · simp [okA] at q
    · simp [okI] at q
  | rdt i =>
    refine ⟨@fun k W S X o x q => ?_, @fun k W S X o x q => ?_, @fun k W S X o x q => ?_, @fun k W S X o tg x q => ?_⟩
    · simp only [okE] at q
      split at q
      · exact snd_rdt o q
      · cases q
    · simp [okT] at q
    · simp [okA] at q
    · simp [okI] at q
  | rln i =>
    refine ⟨@fun k W S X o x q => ?_, @fun k W S X o x q => ?_, @fun k W S X o x q => ?_, @fun k W S X o tg x q => ?_⟩
    · simp [okE] at q
    · simp [okT] at q
    · simp [okA] at q
    · simp [okI] at q
  | rme i =>
    refine ⟨@fun k W S X o x q => ?_, @fun k W S X o x q => ?_, @fun k W S X o x q => ?_, @fun k W S X o tg x q => ?_⟩
    · simp [okE] at q
    · simp only [okT] at q
      split at q
      · exact snd_rme o q
      · cases q
    · simp [okA] at q
    · simp [okI] at q
  | mth f i as ih =>
    refine ⟨@fun k W S X o x q => ?_, @fun k W S X o x q => ?_, @fun k W S X o x q => ?_, @fun k W S X o tg x q => ?_⟩
    · simp only [okE] at q
      split at q
      · exact snd_mth o (fun hy => ih.s o _ hy) q
      · cases q
    · simp [okT] at q
    · simp [okA] at q
    · simp [okI] at q
  | mlen i =>
    refine ⟨@fun k W S X o x q => ?_, @fun k W S X o x q => ?_, @fun k W S X o x q => ?_, @fun k W S X o tg x q => ?_⟩
    · simp only [okE] at q
      split at q
      · exact snd_mlen o q
      · cases q
    · simp [okT] at q
    · simp [okA] at q
    · simp [okI] at q
  | lc t it c e ihi ihc ihe =>
    refine ⟨@fun k W S X o x q => ?_, @fun k W S X o x q => ?_, @fun k W S X o x q => ?_, @fun k W S X o tg x q => ?_⟩
    · simp only [okE] at q
      split at q
      · rename_i el tg iter ifs scope pos
        obtain ⟨q, q6⟩ := and2 q
        obtain ⟨q, q5⟩ := and2 q
        obtain ⟨q, q4⟩ := and2 q
        obtain ⟨q, q3⟩ := and2 q
        obtain ⟨q1, q2⟩ := and2 q
        obtain ⟨w1, w2⟩ := tg_own q4
        have bk : BlkOk _ _ scope (tgOwn t tg) := blkOk_by q3
        rw [← o.hN, ← o.hsc] at bk
        have pg := fun (s : Shared) (H : Hp) (C : Addr) (cs : List (Str × Addr)) (fp : List Addr) => pg_T (o.blk scope s H C cs fp) q4
        have pe := fun (s : Shared) (H : Hp) (C : Addr) (cs : List (Str × Addr)) (fp : List Addr) => ihe.e (o.blk scope s H C cs fp) _ q6
        split at q5
        · refine impE (pe_lc (g := gT X.K t) (tt := tYes) (te := tE X.K cl W0 Φ e) o.calm o.ndX (ihi.i o _ _ q1) bk pg (fun _ _ _ _ _ => pts_nil) pe (iter_ok q2)) fun σ H Q hq => ?_
          rw [w1]
          exact rd_lc w2 (rd_yes q5) hq
        · refine impE (pe_lc (g := gT X.K t) (tt := tT X.K cl W0 Φ c) (te := tE X.K cl W0 Φ e) o.calm o.ndX (ihi.i o _ _ q1) bk pg (fun s H C cs fp => pts_one (ihc.t (o.blk scope s H C cs fp) _ q5)) pe (iter_ok q2)) fun σ H Q hq => ?_
          rw [w1]
          exact rd_lc w2 (fun _ _ _ z => z) hq
        · cases q5
      · cases q
    · simp [okT] at q
    · simp [okA] at q
    · simp [okI] at q
  | itl a ih =>
    refine ⟨@fun k W S X o x q => ?_, @fun k W S X o x q => ?_, @fun k W S X o x q => ?_, @fun k W S X o tg x q => ?_⟩
    · simp [okE] at q
    · simp [okT] at q
    · simp [okA] at q
    · simp only [okI] at q
      exact snd_itl (ih.e o _ q)
  | itt a ih =>
    refine ⟨@fun k W S X o x q => ?_, @fun k W S X o x q => ?_, @fun k W S X o x q => ?_, @fun k W S X o tg x q => ?_⟩
    · simp [okE] at q
    · simp [okT] at q
    · simp [okA] at q
    · simp only [okI] at q
      exact snd_itt (ih.e o _ q)
  | its a ih =>
    refine ⟨@fun k W S X o x q => ?_, @fun k W S X o x q => ?_, @fun k W S X o x q => ?_, @fun k W S X o tg x q => ?_⟩
    · simp [okE] at q
    · simp [okT] at q
    · simp [okA] at q
    · simp only [okI] at q
      exact snd_its (ih.e o _ q)
  | rng1 a ih =>
    refine ⟨@fun k W S X o x q => ?_, @fun k W S X o x q => ?_, @fun k W S X o x q => ?_, @fun k W S X o tg x q => ?_⟩
    · simp [okE] at q
    · simp [okT] at q
    · simp [okA] at q
    · simp only [okI] at q
      split at q
      · obtain ⟨q1, q2⟩ := and2 q
        exact snd_rng1 o (ih.e o _ q2) q1
      · cases q
  | rng2 a b iha ihb =>
    refine ⟨@fun k W S X o x q => ?_, @fun k W S X o x q => ?_, @fun k W S X o x q => ?_, @fun k W S X o tg x q => ?_⟩
    · simp [okE] at q
    · simp [okT] at q
    · simp [okA] at q
    · simp only [okI] at q
      split at q
      · obtain ⟨q, q3⟩ := and2 q
        obtain ⟨q1, q2⟩ := and2 q
        exact snd_rng2 o (iha.e o _ q2) (ihb.e o _ q3) q1
      · cases q
  | enum a ih =>
    refine ⟨@fun k W S X o x q => ?_, @fun k W S X o x q => ?_, @fun k W S X o x q => ?_, @fun k W S X o tg x q => ?_⟩
    · simp [okE] at q
    · simp [okT] at q
    · simp [okA] at q
    · simp only [okI] at q
      split at q
      · obtain ⟨q1, q2⟩ := and2 q
        exact snd_enum o (ih.e o _ q2) q1
      · cases q
  | zip a b iha ihb =>
    refine ⟨@fun k W S X o x q => ?_, @fun k W S X o x q => ?_, @fun k W S X o x q => ?_, @fun k W S X o tg x q => ?_⟩
    · simp [okE] at q
    · simp [okT] at q
    · simp [okA] at q
    · simp only [okI] at q
      split at q
      · obtain ⟨q, q3⟩ := and2 q
        obtain ⟨q1, q2⟩ := and2 q
        exact snd_zip o (iha.e o _ q2) (ihb.e o _ q3) q1
      · cases q
  | bor e ih =>
    refine ⟨@fun k W S X o x q => ?_, @fun k W S X o x q => ?_, @fun k W S X o x q => ?_, @fun k W S X o tg x q => ?_⟩
    · simp only [okE] at q
      exact snd_bor (ih.e o _ (and2 q).2)
    · simp only [okT] at q
      obtain ⟨q1, q2⟩ := and2 q
      exact pt_of (snd_bor (ih.e o _ q2)) q1
    · simp [okA] at q
    · simp [okI] at q
end
end Tl
end
section
set_option Elab.async false
set_option linter.all false
set_option autoImplicit false
set_option maxRecDepth 100000
namespace Tl
open PySem PySem.Spec PyProof.Rows L2
variable {cl : Cls}
/-- readers may have been made since -/
def DaLe (H0 : Hp) (da0 da : DA) : Prop := da = da0 ∨ ∃ a n zs us, da0 = some (a, n, zs) ∧ da = some (a, n, zs ++ us) ∧ ∀ b ∈ flat2 us, H0 b = none
theorem DaLe.dr {H0 : Hp} {da0 da : DA} {b : Addr} (h : DaLe H0 da0 da) (d : isDr da b) : isDr da0 b ∨ H0 b = none := by
  rcases h with rfl | ⟨a, n, zs, us, rfl, rfl, h⟩
  · exact .inl d
  · obtain ⟨p, e, hb⟩ := d
    cases e
    have e : dAll (a, n, zs ++ us) = dAll (a, n, zs) ++ flat2 us := by simp [dAll, flat2, List.flatMap_append]
    rw [e, List.mem_append] at hb
    rcases hb with hb | hb
    · exact .inl ⟨_, rfl, hb⟩
    · exact .inr (h b hb)
theorem DaLe.up {H0 : Hp} {da0 da : DA} {b : Addr} (h : DaLe H0 da0 da) (d : isDr da0 b) : isDr da b := by
  rcases h with rfl | ⟨a, n, zs, us, rfl, rfl, h⟩
  · exact d
  · obtain ⟨p, e, hb⟩ := d
    cases e
    refine ⟨_, rfl, ?_⟩
    have e : dAll (a, n, zs ++ us) = dAll (a, n, zs) ++ flat2 us := by simp [dAll, flat2, List.flatMap_append]
    rw [e, List.mem_append]
    exact .inl hb
/-! ### the state within a def's body: F0, H0, da0 at its entry -/
structure RepS (K : PySem.W.Frag) (cl : Cls) (F0 H0 : Hp) (da0 : DA) (F H : Hp) (da : DA) (σ : St) (r : Env) (g : G) : Prop where
  rep : Rep K cl F H da σ r g
  fr0 : Same F0 F
  keep0 : ∀ b o, H0 b = some o → ¬ isDr da0 b → H b = some o
  new0 : ∀ b o, H0 b = some o → F0 b = none → F b = none ∨ TupI o
  tho0 : ∀ b o, H0 b = some o → ∃ o', H b = some o'
  own0 : ∀ (i : Nat) (ds : List D) (a : Addr), r[i]? = some (.own ds) → σ[i]? = some (some (.ref a)) → H0 a = none
  dah : DaLe H0 da0 da
  own0t : ∀ (i : Nat) (x y z : List D) (t p q s : Addr), r[i]? = some (.ot x y z) → σ[i]? = some (some (.ref t)) → H t = some (.tup [.ref p, .ref q, .ref s]) → H0 t = none ∧ H0 p = none ∧ H0 q = none ∧ H0 s = none
  own0d : ∀ (i : Nat) (x : List (List Int × Int)) (a : Addr), r[i]? = some (.dct x) → σ[i]? = some (some (.ref a)) → H0 a = none
section
variable {K : PySem.W.Frag} {F0 H0 : Hp} {da0 : DA} {F H : Hp} {da : DA} {σ : St} {r : Env} {g : G}
theorem set_lt {α : Type} {l : List α} {i j : Nat} {x y : α} (h : (l.set i x)[j]? = some y) : (i = j ∧ y = x ∧ i < l.length) ∨ (i ≠ j ∧ l[j]? = some y) := by
  by_cases hj : i = j
  · subst hj
    by_cases hl : i < l.length
    · rw [List.getElem?_set_self hl] at h
      cases h
      exact .inl ⟨rfl, rfl, hl⟩
    · rw [List.getElem?_eq_none (by simpa using hl)] at h
      cases h
  · rw [List.getElem?_set_ne hj] at h
    exact .inr ⟨hj, h⟩
theorem RepS.nx {F' H' : Hp} {g' : G} (h : RepS K cl F0 H0 da0 F H da σ r g) (n : Nx da F H F' H' g') : RepS K cl F0 H0 da0 F' H' da σ r g' := by
  refine ⟨h.rep.nx n, h.fr0.trans n.fr, fun b o e nd => ?_, fun b o e nf => ?_, fun b o e => ?_, h.own0, h.dah, fun i x y z t p q s e1 e2 e3 => by
    obtain ⟨t', p', q', s', f1, f2, _, f4, _⟩ := h.rep.slot i _ e1
    rw [f1] at e2
    cases e2
    rw [n.keep _ _ f2 f4] at e3
    cases e3
    exact h.own0t i x y z t p q s e1 f1 f2, h.own0d⟩
  · refine n.keep b o (h.keep0 b o e nd) fun z => ?_
    rcases h.dah.dr z with z | z
    · exact nd z
    · rw [z] at e
      cases e
  · rcases h.new0 b o e nf with z | z
    · by_cases hd : isDr da b
      · obtain ⟨xs, e'⟩ := h.rep.gok.lst hd
        exact .inl ((n.new b _ e' z).resolve_right TupI.noL)
      · have e' := h.keep0 b o e (fun z => hd (h.dah.up z))
        exact n.new b o e' z
    · exact .inr z
  · obtain ⟨o', e'⟩ := h.tho0 b o e
    exact n.tho b o' e'
theorem RepS.set {i : Nat} {v : V} {d : D} (h : RepS K cl F0 H0 da0 F H da σ r g) (q : Rp F v d) : RepS K cl F0 H0 da0 F H da (σ.set i (some v)) (r.set i (.val d)) g :=
  ⟨h.rep.set q, h.fr0, h.keep0, h.new0, h.tho0, fun j ds a e1 e2 => by
    rcases set_lt e1 with ⟨_, z, _⟩ | ⟨hj, e1⟩
    · cases z
    · rw [List.getElem?_set_ne hj] at e2
      exact h.own0 j ds a e1 e2, h.dah, fun j x y z t p q s e1 e2 e3 => by
    rcases set_lt e1 with ⟨_, z, _⟩ | ⟨hj, e1⟩
    · cases z
    · rw [List.getElem?_set_ne hj] at e2
      exact h.own0t j x y z t p q s e1 e2 e3, fun j x a e1 e2 => by
    rcases set_lt e1 with ⟨_, z, _⟩ | ⟨hj, e1⟩
    · cases z
    · rw [List.getElem?_set_ne hj] at e2
      exact h.own0d j x a e1 e2⟩
theorem RepS.wipe (h : RepS K cl F0 H0 da0 F H da σ r g) (i : Nat) (o : Option V) : RepS K cl F0 H0 da0 F H da (σ.set i o) (r.set i .und) g :=
  ⟨h.rep.wipe i o, h.fr0, h.keep0, h.new0, h.tho0, fun j ds a e1 e2 => by
    rcases set_lt e1 with ⟨_, z, _⟩ | ⟨hj, e1⟩
    · cases z
    · rw [List.getElem?_set_ne hj] at e2
      exact h.own0 j ds a e1 e2, h.dah, fun j x y z t p q s e1 e2 e3 => by
    rcases set_lt e1 with ⟨_, z, _⟩ | ⟨hj, e1⟩
    · cases z
    · rw [List.getElem?_set_ne hj] at e2
      exact h.own0t j x y z t p q s e1 e2 e3, fun j x a e1 e2 => by
    rcases set_lt e1 with ⟨_, z, _⟩ | ⟨hj, e1⟩
    · cases z
    · rw [List.getElem?_set_ne hj] at e2
      exact h.own0d j x a e1 e2⟩
/-- a new list of one's own -/
theorem RepS.mk' {i : Nat} {p : Addr} {xs : List V} {ds : List D} (h : RepS K cl F0 H0 da0 F H da σ r g) (hp : H p = none) (ra : RpAll F xs ds) (l : ds.length ≤ lim) : RepS K cl F0 H0 da0 F (upd H p (.lst xs)) da (σ.set i (some (.ref p))) (r.set i (.own ds)) g := by
  have hF : F p = none := h.rep.sub.free hp
  have nd : ¬ isDr da p := h.rep.gok.notDr hp
  have s := same_upd (o := .lst xs) hp
  have slotK : ∀ {sv : Option (Option V)} {c : Cell}, SlotOk K cl F H da sv c → SlotOk K cl F (upd H p (.lst xs)) da sv c := fun {sv c} q => by
    cases c with
    | own es =>
      obtain ⟨a, e, ys, h1, h2⟩ := q
      exact ⟨a, e, ys, s _ _ h1, h2⟩
    | ot x y z =>
      obtain ⟨t, p1, q1, s1, e, k1, k2, k3, ⟨us, u1, u2⟩, ⟨vs, v1, v2⟩, ⟨ws, w1, w2⟩, k7⟩ := q
      exact ⟨t, p1, q1, s1, e, s _ _ k1, k2, k3, ⟨us, s _ _ u1, u2⟩, ⟨vs, s _ _ v1, v2⟩, ⟨ws, s _ _ w1, w2⟩, k7⟩
    | dct kvs => obtain ⟨a, e, k1, k2, k3⟩ := q; exact ⟨a, e, s _ _ k1, k2, k3⟩
    | _ => exact q
  have neT : ∀ (j : Nat) (x y z : List D) (t p1 q1 s1 : Addr), r[j]? = some (.ot x y z) → σ[j]? = some (some (.ref t)) → H t = some (.tup [.ref p1, .ref q1, .ref s1]) → p ≠ p1 ∧ p ≠ q1 ∧ p ≠ s1 := fun j x y z t p1 q1 s1 e1 e2 e3 => by
    obtain ⟨t', p', q', s', f1, f2, _, _, ⟨us, u1, _⟩, ⟨vs, v1, _⟩, ⟨ws, w1, _⟩, _⟩ := h.rep.slot j _ e1
    rw [f1] at e2
    cases e2
    rw [f2] at e3
    cases e3
    exact ⟨(ne_of_none u1 hp).symm, (ne_of_none v1 hp).symm, (ne_of_none w1 hp).symm⟩
  have oldT : ∀ (t p1 q1 s1 : Addr), upd H p (.lst xs) t = some (.tup [.ref p1, .ref q1, .ref s1]) → H t = some (.tup [.ref p1, .ref q1, .ref s1]) := fun t p1 q1 s1 e => by
    by_cases z : t = p
    · subst z
      rw [upd_same] at e
      cases e
    · rw [upd_ne z] at e
      exact e
  refine ⟨⟨h.rep.sub.trans s, h.rep.gok.upd nd, fun j c e => ?_, by rw [List.length_set, List.length_set]; exact h.rep.len, fun j k a es fs e1 e2 e3 e4 => ?_, h.rep.nod, fun j x y z t p1 q1 s1 e1 e2 e3 => ?_, h.rep.apd.set fun _ z => by cases z⟩, h.fr0, fun b o e q => s _ _ (h.keep0 b o e q), h.new0, fun b o e => ?_, fun j es a e1 e2 => ?_, h.dah, fun j x y z t p1 q1 s1 e1 e2 e3 => ?_, fun j x a e1 e2 => by
    rcases set_lt e1 with ⟨_, z, _⟩ | ⟨hj, e1⟩
    · cases z
    · rw [List.getElem?_set_ne hj] at e2
      exact h.own0d j x a e1 e2⟩
  · rcases set_lt e with ⟨rfl, rfl, hl⟩ | ⟨hj, e⟩
    · rw [List.getElem?_set_self (by rw [← h.rep.len]; exact hl)]
      exact ⟨p, rfl, xs, upd_same, hF, nd, ra, l⟩
    · rw [List.getElem?_set_ne hj]
      exact slotK (h.rep.slot j c e)
  · have ne : ∀ (m : Nat) (gs : List D) (b : Addr), r[m]? = some (.own gs) → σ[m]? = some (some (.ref b)) → b ≠ p := fun m gs b q1 q2 => by
      obtain ⟨b', z1, ys, z2, _⟩ := h.rep.slot m _ q1
      rw [z1] at q2
      cases q2
      exact ne_of_none z2 hp
    rcases set_lt e1 with ⟨z1, _, hl⟩ | ⟨hj, e1'⟩
    · rcases set_lt e2 with ⟨z2, _, _⟩ | ⟨hk, e2'⟩
      · exact z1.symm.trans z2
      · rw [List.getElem?_set_ne hk] at e4
        subst z1
        rw [List.getElem?_set_self (by rw [← h.rep.len]; exact hl)] at e3
        cases e3
        exact absurd rfl (ne k fs p e2' e4)
    · rw [List.getElem?_set_ne hj] at e3
      rcases set_lt e2 with ⟨z2, _, hl⟩ | ⟨hk, e2'⟩
      · subst z2
        rw [List.getElem?_set_self (by rw [← h.rep.len]; exact hl)] at e4
        cases e4
        exact absurd rfl (ne j es p e1' e3)
      · rw [List.getElem?_set_ne hk] at e4
        exact h.rep.apart j k a es fs e1' e2' e3 e4
  · rcases set_lt e1 with ⟨_, z, _⟩ | ⟨hj, e1⟩
    · cases z
    · rw [List.getElem?_set_ne hj] at e2
      have e3 := oldT t p1 q1 s1 e3
      obtain ⟨k1, k2⟩ := h.rep.apt j x y z t p1 q1 s1 e1 e2 e3
      refine ⟨fun m ds w f1 f2 => ?_, fun m a' b' c' f1 => ?_⟩
      · rcases set_lt f1 with ⟨hm, _, hl⟩ | ⟨hm, f1⟩
        · subst hm
          rw [List.getElem?_set_self (by rw [← h.rep.len]; exact hl)] at f2
          cases f2
          exact neT j x y z t p1 q1 s1 e1 e2 e3
        · rw [List.getElem?_set_ne hm] at f2
          exact k1 m ds w f1 f2
      · rcases set_lt f1 with ⟨_, z, _⟩ | ⟨hm, f1⟩
        · cases z
        · exact k2 m a' b' c' f1
  · obtain ⟨o', e'⟩ := h.tho0 b o e
    exact ⟨o', s _ _ e'⟩
  · rcases set_lt e1 with ⟨rfl, _, hl⟩ | ⟨hj, e1'⟩
    · rw [List.getElem?_set_self (by rw [← h.rep.len]; exact hl)] at e2
      cases e2
      cases q : H0 p with
      | none => rfl
      | some o =>
        obtain ⟨o', e'⟩ := h.tho0 _ o q
        rw [hp] at e'
        cases e'
    · rw [List.getElem?_set_ne hj] at e2
      exact h.own0 j es a e1' e2
  · rcases set_lt e1 with ⟨_, z, _⟩ | ⟨hj, e1⟩
    · cases z
    · rw [List.getElem?_set_ne hj] at e2
      exact h.own0t j x y z t p1 q1 s1 e1 e2 (oldT t p1 q1 s1 e3)
/-- one's own list is changed -/
theorem RepS.put {i : Nat} {a : Addr} {ds es : List D} {xs : List V} (h : RepS K cl F0 H0 da0 F H da σ r g) (e1 : r[i]? = some (.own ds)) (e2 : σ[i]? = some (some (.ref a))) (ra : RpAll F xs es) (l : es.length ≤ lim) : RepS K cl F0 H0 da0 F (upd H a (.lst xs)) da σ (r.set i (.own es)) g := by
  obtain ⟨a', z1, ys, z2, hF, nd, _⟩ := h.rep.slot i _ e1
  rw [z1] at e2
  cases e2
  have h0 := h.own0 i ds a e1 z1
  have ne0 : ∀ b o, H0 b = some o → b ≠ a := fun b o q => ne_of_none q h0
  have oldT : ∀ (t p1 q1 s1 : Addr), upd H a (.lst xs) t = some (.tup [.ref p1, .ref q1, .ref s1]) → H t = some (.tup [.ref p1, .ref q1, .ref s1]) := fun t p1 q1 s1 e => by
    by_cases z : t = a
    · subst z
      rw [upd_same] at e
      cases e
    · rw [upd_ne z] at e
      exact e
  refine ⟨⟨fun b o q => ?_, h.rep.gok.upd nd, fun j c e => ?_, by rw [List.length_set]; exact h.rep.len, fun j k b fs gs q1 q2 q3 q4 => ?_, h.rep.nod, fun j x y z t p1 q1 s1 f1 f2 f3 => ?_, h.rep.apd.set fun _ z => by cases z⟩, h.fr0, fun b o q n => ?_, h.new0, fun b o q => ?_, fun j fs b q1 q2 => ?_, h.dah, fun j x y z t p1 q1 s1 f1 f2 f3 => ?_, fun j x b f1 f2 => by
    rcases set_lt f1 with ⟨_, z, _⟩ | ⟨hj, f1⟩
    · cases z
    · exact h.own0d j x b f1 f2⟩
  · rw [upd_ne (ne_of_none q hF)]
    exact h.rep.sub b o q
  · rcases set_lt e with ⟨rfl, rfl, hl⟩ | ⟨hj, e⟩
    · exact ⟨a, z1, xs, upd_same, hF, nd, ra, l⟩
    · have sl := h.rep.slot j c e
      cases c with
      | own fs =>
        obtain ⟨b, y1, us, y2, y3⟩ := sl
        refine ⟨b, y1, us, ?_, y3⟩
        rw [upd_ne (fun z => hj ?_)]
        · exact y2
        · subst z
          exact h.rep.apart i j b ds fs e1 e z1 y1
      | ot x y z =>
        obtain ⟨t, p1, q1, s1, y1, k1, k2, k3, ⟨us, u1, u2⟩, ⟨vs, v1, v2⟩, ⟨ws, w1, w2⟩, k7⟩ := sl
        obtain ⟨n1, n2, n3⟩ := (h.rep.apt j x y z t p1 q1 s1 e y1 k1).1 i ds a e1 z1
        have nt : t ≠ a := fun w => by
          rw [w, z2] at k1
          cases k1
        exact ⟨t, p1, q1, s1, y1, by rw [upd_ne nt]; exact k1, k2, k3, ⟨us, by rw [upd_ne (Ne.symm n1)]; exact u1, u2⟩, ⟨vs, by rw [upd_ne (Ne.symm n2)]; exact v1, v2⟩, ⟨ws, by rw [upd_ne (Ne.symm n3)]; exact w1, w2⟩, k7⟩
      | dct kvs =>
        obtain ⟨b, y1, k1, k2, k3⟩ := sl
        have nb : b ≠ a := fun w => by
          rw [w, z2] at k1
          cases k1
        exact ⟨b, y1, (upd_ne nb).trans k1, k2, k3⟩
      | _ => exact sl
  · rcases set_lt q1 with ⟨rfl, z, _⟩ | ⟨hj, q1'⟩
    · rcases set_lt q2 with ⟨rfl, _, _⟩ | ⟨hk, q2'⟩
      · rfl
      · exact h.rep.apart i k b ds gs e1 q2' q3 q4
    · rcases set_lt q2 with ⟨rfl, _, _⟩ | ⟨hk, q2'⟩
      · exact h.rep.apart j i b fs ds q1' e1 q3 q4
      · exact h.rep.apart j k b fs gs q1' q2' q3 q4
  · rcases set_lt f1 with ⟨_, z, _⟩ | ⟨hj, f1⟩
    · cases z
    · have f3 := oldT t p1 q1 s1 f3
      obtain ⟨k1, k2⟩ := h.rep.apt j x y z t p1 q1 s1 f1 f2 f3
      refine ⟨fun m gs w g1 g2 => ?_, fun m a' b' c' g1 => ?_⟩
      · rcases set_lt g1 with ⟨hm, _, hl⟩ | ⟨hm, g1⟩
        · subst hm
          exact k1 i ds w e1 g2
        · exact k1 m gs w g1 g2
      · rcases set_lt g1 with ⟨_, z, _⟩ | ⟨hm, g1⟩
        · cases z
        · exact k2 m a' b' c' g1
  · rw [upd_ne (ne0 b o q)]
    exact h.keep0 b o q n
  · rw [upd_ne (ne0 b o q)]
    exact h.tho0 b o q
  · rcases set_lt q1 with ⟨rfl, _, _⟩ | ⟨hj, q1'⟩
    · exact h.own0 i ds b e1 q2
    · exact h.own0 j fs b q1' q2
  · rcases set_lt f1 with ⟨_, z, _⟩ | ⟨hj, f1⟩
    · cases z
    · exact h.own0t j x y z t p1 q1 s1 f1 f2 (oldT t p1 q1 s1 f3)
/-- one's own list is frozen -/
theorem RepS.frz {i : Nat} {ds : List D} (h : RepS K cl F0 H0 da0 F H da σ r g) (e1 : r[i]? = some (.own ds)) : ∃ F', RepS K cl F0 H0 da0 F' H da σ (r.set i (.val (.list ds))) g := by
  obtain ⟨a, z1, xs, z2, hF, nd, ra, l⟩ := h.rep.slot i _ e1
  have h0 := h.own0 i ds a e1 z1
  have s := same_upd (o := .lst xs) hF
  refine ⟨upd F a (.lst xs), ⟨⟨fun b o q => ?_, h.rep.gok, fun j c e => ?_, by rw [List.length_set]; exact h.rep.len, fun j k b fs gs q1 q2 q3 q4 => ?_, fun b d => by
    have hb : b ≠ a := fun z => by
      rw [z] at d
      exact nd d
    rw [upd_ne hb]
    exact h.rep.nod b d, h.rep.apt.cell (fun _ z => by cases z) (fun _ _ _ z => by cases z), h.rep.apd.set fun _ z => by cases z⟩, h.fr0.trans s, h.keep0, fun b o q n => ?_, h.tho0, fun j fs b q1 q2 => ?_, h.dah, fun j x y z t p1 q1 s1 f1 f2 f3 => by
    rcases set_lt f1 with ⟨_, z, _⟩ | ⟨hj, f1⟩
    · cases z
    · exact h.own0t j x y z t p1 q1 s1 f1 f2 f3, fun j x b f1 f2 => by
    rcases set_lt f1 with ⟨_, z, _⟩ | ⟨hj, f1⟩
    · cases z
    · exact h.own0d j x b f1 f2⟩⟩
  · by_cases hb : b = a
    · subst hb
      rw [upd_same] at q
      cases q
      exact z2
    · rw [upd_ne hb] at q
      exact h.rep.sub b o q
  · rcases set_lt e with ⟨rfl, rfl, hl⟩ | ⟨hj, e⟩
    · exact ⟨.ref a, z1, .lst upd_same (ra.mono s) l⟩
    · have sl := h.rep.slot j c e
      cases c with
      | und => trivial
      | val d => obtain ⟨v, y1, y2⟩ := sl; exact ⟨v, y1, y2.mono s⟩
      | own fs =>
        obtain ⟨b, y1, us, y2, y3, y4, y5, y6⟩ := sl
        refine ⟨b, y1, us, y2, ?_, y4, y5.mono s, y6⟩
        rw [upd_ne (fun z => hj ?_)]
        · exact y3
        · subst z
          exact h.rep.apart i j b ds fs e1 e z1 y1
      | drw => exact sl
      | exn _ => obtain ⟨b, y1, y2⟩ := sl; exact ⟨b, y1, s _ _ y2⟩
      | scr ns => obtain ⟨b, y1, y2, y3⟩ := sl; exact ⟨b, y1, s.seq y2, y3⟩
      | ot x y z =>
        obtain ⟨t, p1, q1, s1, y1, k1, k2, k3, ⟨us, u1, u2, u3, u4, u5⟩, ⟨vs, v1, v2, v3, v4, v5⟩, ⟨ws, w1, w2, w3, w4, w5⟩, k7⟩ := sl
        obtain ⟨n1, n2, n3⟩ := (h.rep.apt j x y z t p1 q1 s1 e y1 k1).1 i ds a e1 z1
        have nt : t ≠ a := fun w => by
          rw [w, z2] at k1
          cases k1
        exact ⟨t, p1, q1, s1, y1, k1, by rw [upd_ne nt]; exact k2, k3, ⟨us, u1, by rw [upd_ne (Ne.symm n1)]; exact u2, u3, u4.mono s, u5⟩, ⟨vs, v1, by rw [upd_ne (Ne.symm n2)]; exact v2, v3, v4.mono s, v5⟩, ⟨ws, w1, by rw [upd_ne (Ne.symm n3)]; exact w2, w3, w4.mono s, w5⟩, k7⟩
      | dct kvs =>
        obtain ⟨b, y1, k1, k2, k3⟩ := sl
        have nb : b ≠ a := fun w => by
          rw [w, z2] at k1
          cases k1
        exact ⟨b, y1, k1, (upd_ne nb).trans k2, k3⟩
      | rdr j' A B => obtain ⟨v, y1, y2⟩ := sl; exact ⟨v, y1, y2.mono s⟩
  · rcases set_lt q1 with ⟨_, z, _⟩ | ⟨hj, q1'⟩
    · cases z
    · rcases set_lt q2 with ⟨_, z, _⟩ | ⟨hk, q2'⟩
      · cases z
      · exact h.rep.apart j k b fs gs q1' q2' q3 q4
  · rw [upd_ne (ne_of_none q h0)]
    exact h.new0 b o q n
  · rcases set_lt q1 with ⟨_, z, _⟩ | ⟨hj, q1'⟩
    · cases z
    · exact h.own0 j fs b q1' q2
/-- three lists in a tuple are frozen -/
theorem RepS.frzT {i : Nat} {x y z : List D} (h : RepS K cl F0 H0 da0 F H da σ r g) (e1 : r[i]? = some (.ot x y z)) : ∃ F', RepS K cl F0 H0 da0 F' H da σ (r.set i (.val (.tuple [.list x, .list y, .list z]))) g := by
  obtain ⟨t, p, q, s, z1, ht, hFt, ndt, ⟨us, u1, u2, u3, u4, u5⟩, ⟨vs, v1, v2, v3, v4, v5⟩, ⟨ws, w1, w2, w3, w4, w5⟩, pq, ps, qs⟩ := h.rep.slot i _ e1
  obtain ⟨ap1, ap2⟩ := h.rep.apt i x y z t p q s e1 z1 ht
  obtain ⟨ht0, hp0, hq0, hs0⟩ := h.own0t i x y z t p q s e1 z1 ht
  have tp : t ≠ p := fun e => by rw [e, u1] at ht; cases ht
  have tq : t ≠ q := fun e => by rw [e, v1] at ht; cases ht
  have ts : t ≠ s := fun e => by rw [e, w1] at ht; cases ht
  let F1 := upd F p (.lst us)
  let F2 := upd F1 q (.lst vs)
  let F3 := upd F2 s (.lst ws)
  let F4 := upd F3 t (.tup [.ref p, .ref q, .ref s])
  have s1 : Same F F1 := same_upd u2
  have s2 : Same F1 F2 := same_upd ((upd_ne (Ne.symm pq)).trans v2)
  have s3 : Same F2 F3 := same_upd ((upd_ne (Ne.symm qs)).trans ((upd_ne (Ne.symm ps)).trans w2))
  have s4 : Same F3 F4 := same_upd ((upd_ne ts).trans ((upd_ne tq).trans ((upd_ne tp).trans hFt)))
  have sm : Same F F4 := ((s1.trans s2).trans s3).trans s4
  have out : ∀ b, b ≠ p → b ≠ q → b ≠ s → b ≠ t → F4 b = F b := fun b b1 b2 b3 b4 => by
    exact (upd_ne b4).trans ((upd_ne b3).trans ((upd_ne b2).trans (upd_ne b1)))
  have f4t : F4 t = some (.tup [.ref p, .ref q, .ref s]) := upd_same
  have f4p : F4 p = some (.lst us) := s4 _ _ (s3 _ _ (s2 _ _ upd_same))
  have f4q : F4 q = some (.lst vs) := s4 _ _ (s3 _ _ upd_same)
  have f4s : F4 s = some (.lst ws) := s4 _ _ upd_same
  refine ⟨F4, ⟨⟨fun b o e => ?_, h.rep.gok, fun j c e => ?_, by rw [List.length_set]; exact h.rep.len, fun j k b fs gs q1 q2 q3 q4 => ?_, fun b d => ?_, h.rep.apt.cell (fun _ z => by cases z) (fun _ _ _ z => by cases z), h.rep.apd.set fun _ z => by cases z⟩, h.fr0.trans sm, h.keep0, fun b o e n => ?_, h.tho0, fun j fs b q1 q2 => ?_, h.dah, fun j x' y' z' t' p' q' s' g1 g2 g3 => ?_, fun j x b f1 f2 => by
    rcases set_lt f1 with ⟨_, z, _⟩ | ⟨hj, f1⟩
    · cases z
    · exact h.own0d j x b f1 f2⟩⟩
  · by_cases c1 : b = t
    · subst c1; rw [f4t] at e; cases e; exact ht
    · by_cases c2 : b = p
      · subst c2; rw [f4p] at e; cases e; exact u1
      · by_cases c3 : b = q
        · subst c3; rw [f4q] at e; cases e; exact v1
        · by_cases c4 : b = s
          · subst c4; rw [f4s] at e; cases e; exact w1
          · rw [out b c2 c3 c4 c1] at e
            exact h.rep.sub b o e
  · rcases set_lt e with ⟨rfl, rfl, hl⟩ | ⟨hj, e⟩
    · exact ⟨.ref t, z1, .tup f4t (.cons (.lst f4p (u4.mono sm) u5) (.cons (.lst f4q (v4.mono sm) v5) (.cons (.lst f4s (w4.mono sm) w5) .nil))) (by simp [lim])⟩
    · have sl := h.rep.slot j c e
      cases c with
      | und => trivial
      | val d => obtain ⟨v, y1, y2⟩ := sl; exact ⟨v, y1, y2.mono sm⟩
      | own fs =>
        obtain ⟨b, y1, us', y2, y3, y4, y5, y6⟩ := sl
        obtain ⟨b1, b2, b3⟩ := ap1 j fs b e y1
        have b4 : b ≠ t := fun w => by rw [w, ht] at y2; cases y2
        exact ⟨b, y1, us', y2, by rw [out b b1 b2 b3 b4]; exact y3, y4, y5.mono sm, y6⟩
      | drw => exact sl
      | exn _ => obtain ⟨b, y1, y2⟩ := sl; exact ⟨b, y1, sm _ _ y2⟩
      | scr ns => obtain ⟨b, y1, y2, y3⟩ := sl; exact ⟨b, y1, sm.seq y2, y3⟩
      | ot a' b' c' => exact absurd (ap2 j a' b' c' e) (Ne.symm hj)
      | dct kvs =>
        obtain ⟨b, y1, k1, k2, k3⟩ := sl
        have n1 : b ≠ p := fun w => by rw [w, u1] at k1; cases k1
        have n2 : b ≠ q := fun w => by rw [w, v1] at k1; cases k1
        have n3 : b ≠ s := fun w => by rw [w, w1] at k1; cases k1
        have n4 : b ≠ t := fun w => by rw [w, ht] at k1; cases k1
        exact ⟨b, y1, k1, (out b n1 n2 n3 n4).trans k2, k3⟩
      | rdr j' A B => obtain ⟨v, y1, y2⟩ := sl; exact ⟨v, y1, y2.mono sm⟩
  · rcases set_lt q1 with ⟨_, z, _⟩ | ⟨hj, q1'⟩
    · cases z
    · rcases set_lt q2 with ⟨_, z, _⟩ | ⟨hk, q2'⟩
      · cases z
      · exact h.rep.apart j k b fs gs q1' q2' q3 q4
  · have n1 : b ≠ p := fun w => u3 (w ▸ d)
    have n2 : b ≠ q := fun w => v3 (w ▸ d)
    have n3 : b ≠ s := fun w => w3 (w ▸ d)
    have n4 : b ≠ t := fun w => ndt (w ▸ d)
    rw [out b n1 n2 n3 n4]
    exact h.rep.nod b d
  · rw [out b (ne_of_none e hp0) (ne_of_none e hq0) (ne_of_none e hs0) (ne_of_none e ht0)]
    exact h.new0 b o e n
  · rcases set_lt q1 with ⟨_, z, _⟩ | ⟨hj, q1'⟩
    · cases z
    · exact h.own0 j fs b q1' q2
  · rcases set_lt g1 with ⟨_, z, _⟩ | ⟨hj, g1⟩
    · cases z
    · exact h.own0t j x' y' z' t' p' q' s' g1 g2 g3
/-- one of three lists is changed -/
theorem RepS.putC {i : Nat} {x y z x' y' z' : List D} {t p q s a : Addr} {ys : List V} (h : RepS K cl F0 H0 da0 F H da σ r g) (e1 : r[i]? = some (.ot x y z)) (z1 : σ[i]? = some (some (.ref t))) (ht : H t = some (.tup [.ref p, .ref q, .ref s])) (ha : a = p ∨ a = q ∨ a = s)
    (hs : SlotOk K cl F (upd H a (.lst ys)) da σ[i]? (.ot x' y' z')) : RepS K cl F0 H0 da0 F (upd H a (.lst ys)) da σ (r.set i (.ot x' y' z')) g := by
  obtain ⟨t', p', q', s', z1', ht', hFt, ndt, ⟨us, u1, u2, u3, u4, u5⟩, ⟨vs, v1, v2, v3, v4, v5⟩, ⟨ws, w1, w2, w3, w4, w5⟩, pq, ps, qs⟩ := h.rep.slot i _ e1
  rw [z1] at z1'
  cases z1'
  rw [ht] at ht'
  cases ht'
  obtain ⟨ap1, ap2⟩ := h.rep.apt i x y z t p q s e1 z1 ht
  obtain ⟨ht0, hp0, hq0, hs0⟩ := h.own0t i x y z t p q s e1 z1 ht
  obtain ⟨k1, k2, k3, k4, k5⟩ : (∃ l, H a = some (.lst l)) ∧ F a = none ∧ ¬ isDr da a ∧ H0 a = none ∧ ∀ (j : Nat) (ds : List D) (b : Addr), r[j]? = some (.own ds) → σ[j]? = some (some (.ref b)) → b ≠ a := by
    rcases ha with rfl | rfl | rfl
    · exact ⟨⟨_, u1⟩, u2, u3, hp0, fun j ds b f1 f2 => (ap1 j ds b f1 f2).1⟩
    · exact ⟨⟨_, v1⟩, v2, v3, hq0, fun j ds b f1 f2 => (ap1 j ds b f1 f2).2.1⟩
    · exact ⟨⟨_, w1⟩, w2, w3, hs0, fun j ds b f1 f2 => (ap1 j ds b f1 f2).2.2⟩
  have ta : t ≠ a := fun e => by
    obtain ⟨l, k1⟩ := k1
    rw [e, k1] at ht
    cases ht
  refine ⟨⟨fun b o e => ?_, h.rep.gok.upd k3, fun j c e => ?_, by rw [List.length_set]; exact h.rep.len, fun j k b fs gs q1 q2 q3 q4 => ?_, h.rep.nod, fun j a1 b1 c1 t1 p1 q1 s1 f1 f2 f3 => ?_, h.rep.apd.set fun _ z => by cases z⟩, h.fr0, fun b o e n => ?_, h.new0, fun b o e => ?_, fun j fs b q1 q2 => ?_, h.dah, fun j a1 b1 c1 t1 p1 q1 s1 f1 f2 f3 => ?_, fun j x b f1 f2 => by
    rcases set_lt f1 with ⟨_, z, _⟩ | ⟨hj, f1⟩
    · cases z
    · exact h.own0d j x b f1 f2⟩
  · rw [upd_ne (ne_of_none e k2)]
    exact h.rep.sub b o e
  · rcases set_lt e with ⟨rfl, rfl, hl⟩ | ⟨hj, e⟩
    · exact hs
    · have sl := h.rep.slot j c e
      cases c with
      | own fs =>
        obtain ⟨b, y1, us', y2, y3⟩ := sl
        exact ⟨b, y1, us', by rw [upd_ne (k5 j fs b e y1)]; exact y2, y3⟩
      | ot a' b' c' => exact absurd (ap2 j a' b' c' e) (Ne.symm hj)
      | dct kvs =>
        obtain ⟨b, y1, j1, j2, j3⟩ := sl
        obtain ⟨lx, k1⟩ := k1
        have nb : b ≠ a := fun w => by
          rw [w, k1] at j1
          cases j1
        exact ⟨b, y1, (upd_ne nb).trans j1, j2, j3⟩
      | _ => exact sl
  · rcases set_lt q1 with ⟨_, z, _⟩ | ⟨hj, q1'⟩
    · cases z
    · rcases set_lt q2 with ⟨_, z, _⟩ | ⟨hk, q2'⟩
      · cases z
      · exact h.rep.apart j k b fs gs q1' q2' q3 q4
  · have hji : j = i := by
      rcases set_lt f1 with ⟨z, _, _⟩ | ⟨hj, f1⟩
      · exact z.symm
      · exact ap2 j a1 b1 c1 f1
    subst hji
    rw [z1] at f2
    cases f2
    rw [upd_ne ta, ht] at f3
    cases f3
    refine ⟨fun m ds b g1 g2 => ?_, fun m a' b' c' g1 => ?_⟩
    · rcases set_lt g1 with ⟨_, z, _⟩ | ⟨hm, g1⟩
      · cases z
      · exact ap1 m ds b g1 g2
    · rcases set_lt g1 with ⟨z, _, _⟩ | ⟨hm, g1⟩
      · exact z.symm
      · exact ap2 m a' b' c' g1
  · rw [upd_ne (ne_of_none e k4)]
    exact h.keep0 b o e n
  · rw [upd_ne (ne_of_none e k4)]
    exact h.tho0 b o e
  · rcases set_lt q1 with ⟨_, z, _⟩ | ⟨hj, q1'⟩
    · cases z
    · exact h.own0 j fs b q1' q2
  · have hji : j = i := by
      rcases set_lt f1 with ⟨z, _, _⟩ | ⟨hj, f1⟩
      · exact z.symm
      · exact ap2 j a1 b1 c1 f1
    subst hji
    rw [z1] at f2
    cases f2
    rw [upd_ne ta, ht] at f3
    cases f3
    exact ⟨ht0, hp0, hq0, hs0⟩
/-- a new tuple of three lists -/
theorem RepS.addT {i : Nat} {t p q s : Addr} (h : RepS K cl F0 H0 da0 F H da σ r g) (hno : ∀ (j : Nat) (a b c : List D), r[j]? ≠ some (.ot a b c)) (ht : H t = some (.tup [.ref p, .ref q, .ref s])) (hp : H p = some (.lst [])) (hq : H q = some (.lst [])) (hs : H s = some (.lst []))
    (ft : F t = none) (fp : F p = none) (fq : F q = none) (fs : F s = none) (nt : ¬ isDr da t) (np : ¬ isDr da p) (nq : ¬ isDr da q) (ns : ¬ isDr da s) (t0 : H0 t = none) (p0 : H0 p = none) (q0 : H0 q = none) (s0 : H0 s = none) (pq : p ≠ q) (ps : p ≠ s) (qs : q ≠ s)
    (hd : ∀ (j : Nat) (ds : List D) (b : Addr), r[j]? = some (.own ds) → σ[j]? = some (some (.ref b)) → b ≠ p ∧ b ≠ q ∧ b ≠ s) : RepS K cl F0 H0 da0 F H da (σ.set i (some (.ref t))) (r.set i (.ot [] [] [])) g := by
  refine ⟨⟨h.rep.sub, h.rep.gok, fun j c e => ?_, by rw [List.length_set, List.length_set]; exact h.rep.len, fun j k b fs gs q1 q2 q3 q4 => ?_, h.rep.nod, fun j a1 b1 c1 t1 p1 q1 s1 f1 f2 f3 => ?_, h.rep.apd.set fun _ z => by cases z⟩, h.fr0, h.keep0, h.new0, h.tho0, fun j fs b q1 q2 => ?_, h.dah, fun j a1 b1 c1 t1 p1 q1 s1 f1 f2 f3 => ?_, fun j x b f1 f2 => by
    rcases set_lt f1 with ⟨_, z, _⟩ | ⟨hj, f1⟩
    · cases z
    · rw [List.getElem?_set_ne hj] at f2
      exact h.own0d j x b f1 f2⟩
  · rcases set_lt e with ⟨rfl, rfl, hl⟩ | ⟨hj, e⟩
    · rw [List.getElem?_set_self (by rw [← h.rep.len]; exact hl)]
      exact ⟨t, p, q, s, rfl, ht, ft, nt, ⟨[], hp, fp, np, .nil, Nat.zero_le _⟩, ⟨[], hq, fq, nq, .nil, Nat.zero_le _⟩, ⟨[], hs, fs, ns, .nil, Nat.zero_le _⟩, pq, ps, qs⟩
    · rw [List.getElem?_set_ne hj]
      exact h.rep.slot j c e
  · rcases set_lt q1 with ⟨_, z, _⟩ | ⟨hj, q1'⟩
    · cases z
    · rcases set_lt q2 with ⟨_, z, _⟩ | ⟨hk, q2'⟩
      · cases z
      · rw [List.getElem?_set_ne hj] at q3
        rw [List.getElem?_set_ne hk] at q4
        exact h.rep.apart j k b fs gs q1' q2' q3 q4
  · rcases set_lt f1 with ⟨hj, _, hl⟩ | ⟨hj, f1⟩
    · subst hj
      rw [List.getElem?_set_self (by rw [← h.rep.len]; exact hl)] at f2
      cases f2
      rw [ht] at f3
      cases f3
      refine ⟨fun m ds b g1 g2 => ?_, fun m a' b' c' g1 => ?_⟩
      · rcases set_lt g1 with ⟨_, z, _⟩ | ⟨hm, g1⟩
        · cases z
        · rw [List.getElem?_set_ne hm] at g2
          exact hd m ds b g1 g2
      · rcases set_lt g1 with ⟨z, _, _⟩ | ⟨hm, g1⟩
        · exact z.symm
        · exact absurd g1 (hno m a' b' c')
    · exact absurd f1 (hno j a1 b1 c1)
  · rcases set_lt q1 with ⟨_, z, _⟩ | ⟨hj, q1'⟩
    · cases z
    · rw [List.getElem?_set_ne hj] at q2
      exact h.own0 j fs b q1' q2
  · rcases set_lt f1 with ⟨hj, _, hl⟩ | ⟨hj, f1⟩
    · subst hj
      rw [List.getElem?_set_self (by rw [← h.rep.len]; exact hl)] at f2
      cases f2
      rw [ht] at f3
      cases f3
      exact ⟨t0, p0, q0, s0⟩
    · exact absurd f1 (hno j a1 b1 c1)
/-- a new dict -/
theorem RepS.mkD {i : Nat} {p : Addr} (h : RepS K cl F0 H0 da0 F H da σ r g) (hno : ∀ (j : Nat) (x : List (List Int × Int)), r[j]? ≠ some (.dct x)) (hp : H p = none) : RepS K cl F0 H0 da0 F (upd H p (.dT [])) da (σ.set i (some (.ref p))) (r.set i (.dct [])) g := by
  have al : Al F H F (upd H p (.dT [])) := Al.side h.rep.sub hp
  have h1 := h.nx (Nx.of_al h.rep.gok al)
  have p0 : H0 p = none := by
    cases q : H0 p with
    | none => rfl
    | some o =>
      obtain ⟨o', e'⟩ := h.tho0 _ o q
      rw [hp] at e'
      cases e'
  refine ⟨⟨h1.rep.sub, h1.rep.gok, fun j c e => ?_, by rw [List.length_set, List.length_set]; exact h.rep.len, fun j k b fs gs q1 q2 q3 q4 => ?_, h1.rep.nod, h1.rep.apt.set (fun _ z => by cases z) (fun _ _ _ z => by cases z), fun j k x y e1 e2 => ?_⟩, h1.fr0, h1.keep0, h1.new0, h1.tho0, fun j fs b q1 q2 => ?_, h1.dah, fun j a1 b1 c1 t1 p1 q1 s1 f1 f2 f3 => ?_, fun j x b f1 f2 => ?_⟩
  · rcases set_lt e with ⟨rfl, rfl, hl⟩ | ⟨hj, e⟩
    · rw [List.getElem?_set_self (by rw [← h.rep.len]; exact hl)]
      exact ⟨p, rfl, upd_same, h.rep.sub.free hp, h.rep.gok.notDr hp⟩
    · rw [List.getElem?_set_ne hj]
      exact h1.rep.slot j c e
  · rcases set_lt q1 with ⟨_, z, _⟩ | ⟨hj, q1'⟩
    · cases z
    · rcases set_lt q2 with ⟨_, z, _⟩ | ⟨hk, q2'⟩
      · cases z
      · rw [List.getElem?_set_ne hj] at q3
        rw [List.getElem?_set_ne hk] at q4
        exact h.rep.apart j k b fs gs q1' q2' q3 q4
  · rcases set_lt e1 with ⟨z1, _, _⟩ | ⟨_, e1⟩
    · rcases set_lt e2 with ⟨z2, _, _⟩ | ⟨_, e2⟩
      · rw [← z1, ← z2]
      · exact absurd e2 (hno k y)
    · exact absurd e1 (hno j x)
  · rcases set_lt q1 with ⟨_, z, _⟩ | ⟨hj, q1'⟩
    · cases z
    · rw [List.getElem?_set_ne hj] at q2
      exact h.own0 j fs b q1' q2
  · rcases set_lt f1 with ⟨_, z, _⟩ | ⟨hj, f1⟩
    · cases z
    · rw [List.getElem?_set_ne hj] at f2
      exact h1.own0t j a1 b1 c1 t1 p1 q1 s1 f1 f2 f3
  · rcases set_lt f1 with ⟨hj, _, hl⟩ | ⟨hj, f1⟩
    · subst hj
      rw [List.getElem?_set_self (by rw [← h.rep.len]; exact hl)] at f2
      cases f2
      exact p0
    · exact absurd f1 (hno j x)
/-- the dict is changed -/
theorem RepS.putD {i : Nat} {a : Addr} {x y : List (List Int × Int)} (h : RepS K cl F0 H0 da0 F H da σ r g) (e1 : r[i]? = some (.dct x)) (z1 : σ[i]? = some (some (.ref a))) : RepS K cl F0 H0 da0 F (upd H a (.dT (encT y))) da σ (r.set i (.dct y)) g := by
  obtain ⟨a', z1', ha, hF, nd⟩ := h.rep.slot i _ e1
  rw [z1] at z1'
  cases z1'
  have a0 := h.own0d i x a e1 z1
  have ne : ∀ {b : Addr} {o : HO}, H b = some o → (∀ kvs, o ≠ .dT kvs) → b ≠ a := fun {b o} e hn w => by
    rw [w, ha] at e
    cases e
    exact hn _ rfl
  have oldT : ∀ (t p1 q1 s1 : Addr), upd H a (.dT (encT y)) t = some (.tup [.ref p1, .ref q1, .ref s1]) → H t = some (.tup [.ref p1, .ref q1, .ref s1]) := fun t p1 q1 s1 e => by
    by_cases z : t = a
    · subst z
      rw [upd_same] at e
      cases e
    · rw [upd_ne z] at e
      exact e
  refine ⟨⟨fun b o e => ?_, h.rep.gok.upd nd, fun j c e => ?_, by rw [List.length_set]; exact h.rep.len, fun j k b fs gs q1 q2 q3 q4 => ?_, h.rep.nod, fun j a1 b1 c1 t1 p1 q1 s1 f1 f2 f3 => ?_, h.rep.apd.put e1⟩, h.fr0, fun b o e n => ?_, h.new0, fun b o e => ?_, fun j fs b q1 q2 => ?_, h.dah, fun j a1 b1 c1 t1 p1 q1 s1 f1 f2 f3 => ?_, fun j w b f1 f2 => ?_⟩
  · rw [upd_ne (ne_of_none e hF)]
    exact h.rep.sub b o e
  · rcases set_lt e with ⟨rfl, rfl, hl⟩ | ⟨hj, e⟩
    · exact ⟨a, z1, upd_same, hF, nd⟩
    · have sl := h.rep.slot j c e
      cases c with
      | own fs =>
        obtain ⟨b, y1, us', y2, y3⟩ := sl
        exact ⟨b, y1, us', (upd_ne (ne y2 fun _ z => by cases z)).trans y2, y3⟩
      | ot x' y' z' =>
        obtain ⟨t, p1, q1, s1, y1, k1, k2, k3, ⟨us, u1, u2⟩, ⟨vs, v1, v2⟩, ⟨ws, w1, w2⟩, k7⟩ := sl
        exact ⟨t, p1, q1, s1, y1, (upd_ne (ne k1 fun _ z => by cases z)).trans k1, k2, k3, ⟨us, (upd_ne (ne u1 fun _ z => by cases z)).trans u1, u2⟩, ⟨vs, (upd_ne (ne v1 fun _ z => by cases z)).trans v1, v2⟩, ⟨ws, (upd_ne (ne w1 fun _ z => by cases z)).trans w1, w2⟩, k7⟩
      | dct w => exact absurd (h.rep.apd i j _ _ e1 e) hj
      | _ => exact sl
  · rcases set_lt q1 with ⟨_, z, _⟩ | ⟨hj, q1'⟩
    · cases z
    · rcases set_lt q2 with ⟨_, z, _⟩ | ⟨hk, q2'⟩
      · cases z
      · exact h.rep.apart j k b fs gs q1' q2' q3 q4
  · rcases set_lt f1 with ⟨_, z, _⟩ | ⟨hj, f1⟩
    · cases z
    · obtain ⟨k1, k2⟩ := h.rep.apt j a1 b1 c1 t1 p1 q1 s1 f1 f2 (oldT _ _ _ _ f3)
      refine ⟨fun m ds b g1 g2 => ?_, fun m a' b' c' g1 => ?_⟩
      · rcases set_lt g1 with ⟨_, z, _⟩ | ⟨hm, g1⟩
        · cases z
        · exact k1 m ds b g1 g2
      · rcases set_lt g1 with ⟨_, z, _⟩ | ⟨hm, g1⟩
        · cases z
        · exact k2 m a' b' c' g1
  · rw [upd_ne (ne_of_none e a0)]
    exact h.keep0 b o e n
  · rw [upd_ne (ne_of_none e a0)]
    exact h.tho0 b o e
  · rcases set_lt q1 with ⟨_, z, _⟩ | ⟨hj, q1'⟩
    · cases z
    · exact h.own0 j fs b q1' q2
  · rcases set_lt f1 with ⟨_, z, _⟩ | ⟨hj, f1⟩
    · cases z
    · exact h.own0t j a1 b1 c1 t1 p1 q1 s1 f1 f2 (oldT _ _ _ _ f3)
  · rcases set_lt f1 with ⟨hj, _, hl⟩ | ⟨hj, f1⟩
    · subst hj
      exact h.own0d i x b e1 f2
    · exact h.own0d j w b f1 f2
end
/-- from another frozen heap at the entry -/
theorem RepS.base {K : PySem.W.Frag} {F0 F1 H0 F H : Hp} {da0 da : DA} {σ : St} {r : Env} {g : G} (s : Same F0 F1) (n : ∀ b o, H0 b = some o → F0 b = none → F1 b = none ∨ TupI o) (h : RepS K cl F1 H0 da0 F H da σ r g) : RepS K cl F0 H0 da0 F H da σ r g :=
  ⟨h.rep, s.trans h.fr0, h.keep0, fun b o e q => (n b o e q).elim (h.new0 b o e) .inr, h.tho0, h.own0, h.dah, h.own0t, h.own0d⟩
theorem RepS.rebase {K : PySem.W.Frag} {F0 H0 F H : Hp} {da0 da : DA} {σ : St} {r : Env} {g : G} (h : RepS K cl F0 H0 da0 F H da σ r g) : RepS K cl F H0 da0 F H da σ r g :=
  ⟨h.rep, Same.refl F, h.keep0, fun _ _ _ q => .inl q, h.tho0, h.own0, h.dah, h.own0t, h.own0d⟩
/-! ### a statement's reading from its evaluation -/
section
variable (K : PySem.W.Frag) (cl : Cls) (W : WX) (F0 H0 : Hp) (da0 : DA)
def PostS (D : Ends) : O → Prop
  | .nx r g => ∀ σ' F' H' da', RepS K cl F0 H0 da0 F' H' da' σ' r g → D.nx σ' H'
  | .bk r g => ∀ σ' F' H' da', RepS K cl F0 H0 da0 F' H' da' σ' r g → D.bk σ' H'
  | .ct r g => ∀ σ' F' H' da', RepS K cl F0 H0 da0 F' H' da' σ' r g → D.ct σ' H'
  | .rt d g => ∀ v σ' r' F' H' da', RepS K cl F0 H0 da0 F' H' da' σ' r' g → Rp F' v d → D.rt v H'
  | .ro g => ∀ v σ' r' F' H' da', RepS K cl F0 H0 da0 F' H' da' σ' r' g → D.rt v H'
  | .ex c r g => ∀ σ' F' H' da', RepS K cl F0 H0 da0 F' H' da' σ' r g → W (.ref (cl c)) none σ' H'
  | .bad => False
end
def tO (K : PySem.W.Frag) (cl : Cls) (W : WX) (m : Env → G → O) : TS := fun D σ H => ∃ F0 H0 da0 F da r g, RepS K cl F0 H0 da0 F H da σ r g ∧ PostS K cl W F0 H0 da0 D (m r g)
section
variable {K : PySem.W.Frag} {cl : Cls} {W : WX} {F0 H0 : Hp} {da0 : DA}
/-- an expression, then more -/
theorem PostS.st {α β : Type} {rel : Hp → Hp → DA → β → α → Prop} {F H : Hp} {da : DA} {σ : St} {r : Env} {g : G} {x : R α} {f : α → G → O} {D : Ends} {Q : β → Hp → Prop} (RS : RepS K cl F0 H0 da0 F H da σ r g) (h : PostS K cl W F0 H0 da0 D (x.st r f))
    (k : ∀ (a : α) (g1 : G) (v : β) (F1 H1 : Hp), Nx da F H F1 H1 g1 → rel F1 H1 da v a → RepS K cl F0 H0 da0 F1 H1 da σ r g1 → PostS K cl W F0 H0 da0 D (f a g1) → Q v H1) : Post cl W σ rel da F H Q x := by
  cases x with
  | ok a g1 => exact fun v F1 H1 n rl => k a g1 v F1 H1 n rl (RS.nx n) h
  | exc c g1 => exact fun F' H' n => h σ F' H' da (RS.nx n)
  | bad => exact h
theorem PostS.mono {D D' : Ends} {o : O} (h : PostS K cl W F0 H0 da0 D o) (h1 : ∀ σ H, D.nx σ H → D'.nx σ H) (h2 : ∀ v H, D.rt v H → D'.rt v H) (h3 : ∀ σ H, D.bk σ H → D'.bk σ H) (h4 : ∀ σ H, D.ct σ H → D'.ct σ H) : PostS K cl W F0 H0 da0 D' o := by
  cases o with
  | nx r g => exact fun σ' F' H' da' q => h1 _ _ (h σ' F' H' da' q)
  | bk r g => exact fun σ' F' H' da' q => h3 _ _ (h σ' F' H' da' q)
  | ct r g => exact fun σ' F' H' da' q => h4 _ _ (h σ' F' H' da' q)
  | rt d g => exact fun v σ' r' F' H' da' q rp => h2 _ _ (h v σ' r' F' H' da' q rp)
  | ro g => exact fun v σ' r' F' H' da' q => h2 _ _ (h v σ' r' F' H' da' q)
  | ex c r g => exact h
  | bad => exact h
end
end Tl
end
section
set_option Elab.async false
set_option linter.all false
set_option autoImplicit false
set_option maxRecDepth 100000
namespace Tl
open PySem PySem.Spec PyProof.Rows L2
/-! ### what is checked of statements -/
def isFn : ScopeKind → Bool
  | .function => true
  | _ => false
def isComp : Expr → Bool
  | .ListComp _ _ _ _ => true
  | .SetComp _ _ _ _ => true
  | .DictComp _ _ _ _ _ => true
  | _ => false
def isTupE : Expr → Bool
  | .Tuple _ _ _ => true
  | _ => false
/-- y = [..]: the stores are exchanged -/
def sw (S : Stat) (x : Str) (p : Pos) (v : Expr) : Bool := match v with
  | .ListComp _ _ scope lp => isLo (S.sc.names.lookup x) && (p.line == lp.line) && !(scope.names.any fun (n, k) => n == x && (k == .local || k == .cell))
  | _ => false
def isLC : Expr → Bool
  | .ListComp _ _ _ _ => true
  | _ => false
/-- a list that is new -/
def okFr (T : Tab) (S : Stat) (e : E) (v : Expr) : Bool := match e, v with
  | .lst as, .List es _ => okA T as S es
  | .bi .mul a b, .BinOp x .Mult y _ => okE T a S x && okE T b S y
  | .bi .from_ a b, .Subscript x (.Slice (some y) none none _) _ => okE T a S x && okE T b S y
  | .un .list a, .Call (.Name f _) [y] [] _ => okB S f "list" && noStar y && okE T a S y
  | .un .lstr a, .Call (.Name f _) [y] [] _ => okB S f "list" && noStar y && okE T a S y
  | .un .lrange a, .Call (.Name f _) [.Call (.Name h _) [y] [] _] [] _ => okB S f "list" && okB S h "range" && noStar y && okE T a S y
  | _, _ => false
def okAug (o : Bi) (op : Operator) : Bool := match o, op with
  | .add, .Add => true
  | .sub, .Sub => true
  | .mul, .Mult => true
  | _, _ => false
mutual
def okS1 (T : Tab) : Sm → Stat → Stmt → Bool
  | .asg i e, S, x => match x with
    | .Assign [.Name a p] v _ => okL S i a && okE T e S v && (!isComp v || isLC v)
    | _ => false
  | .mk i e, S, x => match x with
    | .Assign [.Name a _] v _ => okL S i a && okFr T S e v
    | _ => false
  | .par t o as, S, x => match x with
    | .Assign [.Tuple ts k p] (.Tuple es _ _) _ => okTg S t (.Tuple ts k p) && okA T as S es && o.all (! ·) && !(es.all (foldedForSure 8)) && !(es.all (constantsAlone 8)) && (es.length == ts.length) && (o.length == ts.length)
    | _ => false
  | .mk3 i j l, S, x => match x with
    | .Assign [.Tuple [.Name a pa, .Name b pb, .Name c pc] _ _] (.Tuple [.List [] _, .List [] _, .List [] _] _ _) _ => okL S i a && okL S j b && okL S l c && decide (i ≠ j) && decide (i ≠ l) && decide (j ≠ l) && (isLo (S.sc.names.lookup a) && ((isLo (S.sc.names.lookup b) && (pb.line == pa.line)) && (isLo (S.sc.names.lookup c) && (pc.line == pa.line))))
    | _ => false
  | .unp t e, S, x => match x with
    | .Assign [.Tuple ts k p] v _ => okTg S t (.Tuple ts k p) && okE T e S v && !isTupE v
    | _ => false
  | .aug i o e, S, x => match x with
    | .AugAssign (.Name a _) op v _ => okL S i a && okAug o op && okE T e S v
    | _ => false
  | .drop e, S, x => match x with
    | .Expr v _ => okE T e S v && !isComp v
    | _ => false
  | .app i e, S, x => match x with
    | .Expr (.Call (.Attribute (.Name a _) m ap) [y] [] cp) _ => decide (m = ("append" : Str)) && okV S i a && noStar y && (ap.endLine == cp.line) && okE T e S y
    | _ => false
  | .mkd i, S, x => match x with
    | .Assign [.Name a _] (.Dict [] [] _) _ => okL S i a
    | _ => false
  | .cntd i j, S, x => match x with
    | .Assign [.Subscript (.Name a _) (.Name y _) _] (.BinOp (.Call (.Attribute (.Name a' _) m ap) [.Name y' _, .Constant (.int c0) _ _] [] cp) .Add (.Constant (.int c1) _ _) _) _ => decide (m = ("get" : Str)) && decide (c0 = 0) && decide (c1 = 1) && (okV S i a && okV S i a' && okV S j y && okV S j y' && (ap.endLine == cp.line))
    | _ => false
  | .mkt i, S, x => match x with
    | .Assign [.Name a _] (.Tuple [.List [] _, .List [] _, .List [] _] _ _) _ => okL S i a
    | _ => false
  | .appt i kx e, S, x => match x with
    | .Expr (.Call (.Attribute (.Subscript (.Name a _) ix _) m ap) [y] [] cp) _ => decide (m = ("append" : Str)) && okV S i a && noSlice ix && okE T kx S ix && noStar y && (ap.endLine == cp.line) && okE T e S y
    | _ => false
  | .rem i e, S, x => match x with
    | .Expr (.Call (.Attribute (.Name a _) m ap) [y] [] cp) _ => decide (m = ("remove" : Str)) && okV S i a && noStar y && (ap.endLine == cp.line) && okE T e S y
    | _ => false
  | .seti i k e, S, x => match x with
    | .Assign [.Subscript (.Name a _) ix _] v _ => okV S i a && noSlice ix && okE T k S ix && okE T e S v
    | _ => false
  | .seti2 i k1 k2 a b, S, x => match x with
    | .Assign [.Tuple [.Subscript (.Name x1 _) i1 _, .Subscript (.Name x2 _) i2 _] _ _] (.Tuple [v1, v2] _ _) _ => okV S i x1 && okV S i x2 && noSlice i1 && noSlice i2 && okE T k1 S i1 && okE T k2 S i2 && noStar v1 && noStar v2 && okE T a S v1 && okE T b S v2
    | _ => false
  | .augi i kx .add e, S, x => match x with
    | .AugAssign (.Subscript (.Name a _) ix _) .Add v _ => okV S i a && noSlice ix && okE T kx S ix && okE T e S v
    | _ => false
  | .ite c a b, S, x => match x with
    | .If u v w _ => okT T c S u && okSs T a S v && okSs T b S w
    | _ => false
  | .for_ t it b, S, x => match x with
    | .For tg iter body [] _ => okI T it S tg iter && noSet iter && okTg S t tg && okSs T b S body
    | _ => false
  | .whl _ c b, S, x => match x with
    | .While u body [] _ => okT T c S u && okSs T b S body
    | _ => false
  | .ret e, S, x => match x with
    | .Return (some v) _ => okE T e S v
    | _ => false
  | .brk, _, x => match x with
    | .Break _ => true
    | _ => false
  | .cont, _, x => match x with
    | .Continue _ => true
    | _ => false
  | .raise c, S, x => match x with
    | .Raise (some (.Call (.Name a _) [.Constant (.str _) _ _] [] _)) none _ => decide (T.cn[c]? = some a) && okG S a
    | _ => false
  | .try_ b i j, S, x => match x with
    | .Try body [.ExceptHandler (some (.Name u _)) (some n) [.Assign [.Name y _] (.Name n' _) _] _] [] [] _ => decide (T.cn.length = 6) && decide (u = ("ListError" : Str)) && okG S u && decide (n' = n) && decide (S.N[i]? = some n) && isLo (S.sc.names.lookup n) && decide (S.N[j]? = some y) && isLo (S.sc.names.lookup y) && decide (i ≠ j) && !(n == ("__debug__" : Str)) && !(n == ("__classdict__" : Str)) && okSs T b S body
    | _ => false
  | .radd i e up, S, x => match x with
    | .AugAssign (.Subscript y ix _) op (.Constant (.int c1) _ _) _ => okF S i "depths" y && noSlice ix && okE T e S ix && decide (c1 = 1) && (match up, op with | true, .Add => true | false, .Sub => true | _, _ => false)
    | _ => false
  | .rapp i e, S, x => match x with
    | .Expr (.Call (.Attribute y m ap) [z] [] cp) _ => decide (m = ("append" : Str)) && okF S i "made" y && noStar z && (ap.endLine == cp.line) && okE T e S z
    | _ => false
  | .rpop t i, S, x => match x with
    | .Assign [.Name a _] (.Call (.Attribute y m ap) [] [] cp) _ => decide (m = ("pop" : Str)) && okF S i "made" y && okL S t a && (ap.endLine == cp.line)
    | _ => false
  | .mkr i a b, S, x => match x with
    | .Assign [.Name n _] (.Call (.Name f _) [y, z] [] _) _ => okL S i n && decide (f = ("Reader" : Str)) && okG S f && noStar y && noStar z && okE T a S y && okE T b S z
    | _ => false
  | .mkr3 i j k a b as, S, x => match x with
    | .Assign [.Tuple [.Name n1 p1, .Name n2 p2, .Name n3 p3] _ _] (.Tuple [.Call (.Name f _) [y, z] [] _, .List es _, .List [] _] _ _) _ => okL S i n1 && okL S j n2 && okL S k n3 && decide (i ≠ j) && decide (i ≠ k) && decide (j ≠ k) && (isLo (S.sc.names.lookup n1) && ((isLo (S.sc.names.lookup n2) && (p2.line == p1.line)) && (isLo (S.sc.names.lookup n3) && (p3.line == p1.line)))) && decide (f = ("Reader" : Str)) && okG S f && noStar y && noStar z && okE T a S y && okE T b S z && okA T as S es
    | _ => false
  | .retr a b, S, x => match x with
    | .Return (some (.Call (.Name f _) [y, z] [] _)) _ => decide (f = ("Reader" : Str)) && okG S f && noStar y && noStar z && okE T a S y && okE T b S z
    | _ => false
  | .dropc f as, S, x => match x with
    | .Expr (.Call (.Name a _) es [] _) _ => okG S a && decide (T.nm[f]? = some a) && decide (f ∈ T.os) && es.all noStar && okA T as S es
    | _ => false
  | _, _, _ => false
def okSs (T : Tab) : Sm → Stat → List Stmt → Bool
  | .nil, _, xs => xs.isEmpty
  | .cons s r, S, xs => match s with
    | .frz _ => okSs T r S xs
    | _ => match xs with
      | x :: xs => okS1 T s S x && okSs T r S xs
      | [] => false
  | _, _, _ => false
end
/- the equations, one for each, by computing: what Lean finds by itself for so large a definition takes minutes -/
theorem okS1_asg (T : Tab) (i : Nat) (e : E) (S : Stat) (x : Stmt) : okS1 T (.asg i e) S x = (match x with
    | .Assign [.Name a p] v _ => okL S i a && okE T e S v && (!isComp v || isLC v)
    | _ => false) := rfl
theorem okS1_mk (T : Tab) (i : Nat) (e : E) (S : Stat) (x : Stmt) : okS1 T (.mk i e) S x = (match x with
    | .Assign [.Name a _] v _ => okL S i a && okFr T S e v
    | _ => false) := rfl
theorem okS1_par (T : Tab) (t : Tg) (o : List Bool) (as : E) (S : Stat) (x : Stmt) : okS1 T (.par t o as) S x = (match x with
    | .Assign [.Tuple ts k p] (.Tuple es _ _) _ => okTg S t (.Tuple ts k p) && okA T as S es && o.all (! ·) && !(es.all (foldedForSure 8)) && !(es.all (constantsAlone 8)) && (es.length == ts.length) && (o.length == ts.length)
    | _ => false) := rfl
theorem okS1_mk3 (T : Tab) (i : Nat) (j : Nat) (l : Nat) (S : Stat) (x : Stmt) : okS1 T (.mk3 i j l) S x = (match x with
    | .Assign [.Tuple [.Name a pa, .Name b pb, .Name c pc] _ _] (.Tuple [.List [] _, .List [] _, .List [] _] _ _) _ => okL S i a && okL S j b && okL S l c && decide (i ≠ j) && decide (i ≠ l) && decide (j ≠ l) && (isLo (S.sc.names.lookup a) && ((isLo (S.sc.names.lookup b) && (pb.line == pa.line)) && (isLo (S.sc.names.lookup c) && (pc.line == pa.line))))
    | _ => false) := rfl
theorem okS1_unp (T : Tab) (t : Tg) (e : E) (S : Stat) (x : Stmt) : okS1 T (.unp t e) S x = (match x with
    | .Assign [.Tuple ts k p] v _ => okTg S t (.Tuple ts k p) && okE T e S v && !isTupE v
    | _ => false) := rfl
theorem okS1_aug (T : Tab) (i : Nat) (o : Bi) (e : E) (S : Stat) (x : Stmt) : okS1 T (.aug i o e) S x = (match x with
    | .AugAssign (.Name a _) op v _ => okL S i a && okAug o op && okE T e S v
    | _ => false) := rfl
theorem okS1_drop (T : Tab) (e : E) (S : Stat) (x : Stmt) : okS1 T (.drop e) S x = (match x with
    | .Expr v _ => okE T e S v && !isComp v
    | _ => false) := rfl
theorem okS1_app (T : Tab) (i : Nat) (e : E) (S : Stat) (x : Stmt) : okS1 T (.app i e) S x = (match x with
    | .Expr (.Call (.Attribute (.Name a _) m ap) [y] [] cp) _ => decide (m = ("append" : Str)) && okV S i a && noStar y && (ap.endLine == cp.line) && okE T e S y
    | _ => false) := rfl
theorem okS1_mkd (T : Tab) (i : Nat) (S : Stat) (x : Stmt) : okS1 T (.mkd i) S x = (match x with
    | .Assign [.Name a _] (.Dict [] [] _) _ => okL S i a
    | _ => false) := rfl
theorem okS1_cntd (T : Tab) (i : Nat) (j : Nat) (S : Stat) (x : Stmt) : okS1 T (.cntd i j) S x = (match x with
    | .Assign [.Subscript (.Name a _) (.Name y _) _] (.BinOp (.Call (.Attribute (.Name a' _) m ap) [.Name y' _, .Constant (.int c0) _ _] [] cp) .Add (.Constant (.int c1) _ _) _) _ => decide (m = ("get" : Str)) && decide (c0 = 0) && decide (c1 = 1) && (okV S i a && okV S i a' && okV S j y && okV S j y' && (ap.endLine == cp.line))
    | _ => false) := rfl
theorem okS1_mkt (T : Tab) (i : Nat) (S : Stat) (x : Stmt) : okS1 T (.mkt i) S x = (match x with
    | .Assign [.Name a _] (.Tuple [.List [] _, .List [] _, .List [] _] _ _) _ => okL S i a
    | _ => false) := rfl
theorem okS1_appt (T : Tab) (i : Nat) (kx : E) (e : E) (S : Stat) (x : Stmt) : okS1 T (.appt i kx e) S x = (match x with
    | .Expr (.Call (.Attribute (.Subscript (.Name a _) ix _) m ap) [y] [] cp) _ => decide (m = ("append" : Str)) && okV S i a && noSlice ix && okE T kx S ix && noStar y && (ap.endLine == cp.line) && okE T e S y
    | _ => false) := rfl
theorem okS1_rem (T : Tab) (i : Nat) (e : E) (S : Stat) (x : Stmt) : okS1 T (.rem i e) S x = (match x with
    | .Expr (.Call (.Attribute (.Name a _) m ap) [y] [] cp) _ => decide (m = ("remove" : Str)) && okV S i a && noStar y && (ap.endLine == cp.line) && okE T e S y
    | _ => false) := rfl
theorem okS1_seti (T : Tab) (i : Nat) (k : E) (e : E) (S : Stat) (x : Stmt) : okS1 T (.seti i k e) S x = (match x with
    | .Assign [.Subscript (.Name a _) ix _] v _ => okV S i a && noSlice ix && okE T k S ix && okE T e S v
    | _ => false) := rfl
theorem okS1_seti2 (T : Tab) (i : Nat) (k1 : E) (k2 : E) (a : E) (b : E) (S : Stat) (x : Stmt) : okS1 T (.seti2 i k1 k2 a b) S x = (match x with
    | .Assign [.Tuple [.Subscript (.Name x1 _) i1 _, .Subscript (.Name x2 _) i2 _] _ _] (.Tuple [v1, v2] _ _) _ => okV S i x1 && okV S i x2 && noSlice i1 && noSlice i2 && okE T k1 S i1 && okE T k2 S i2 && noStar v1 && noStar v2 && okE T a S v1 && okE T b S v2
    | _ => false) := rfl
theorem okS1_augi (T : Tab) (i : Nat) (kx : E) (e : E) (S : Stat) (x : Stmt) : okS1 T (.augi i kx .add e) S x = (match x with
    | .AugAssign (.Subscript (.Name a _) ix _) .Add v _ => okV S i a && noSlice ix && okE T kx S ix && okE T e S v
    | _ => false) := rfl
theorem okS1_ite (T : Tab) (c : E) (a : Sm) (b : Sm) (S : Stat) (x : Stmt) : okS1 T (.ite c a b) S x = (match x with
    | .If u v w _ => okT T c S u && okSs T a S v && okSs T b S w
    | _ => false) := rfl
theorem okS1_for (T : Tab) (t : Tg) (it : E) (b : Sm) (S : Stat) (x : Stmt) : okS1 T (.for_ t it b) S x = (match x with
    | .For tg iter body [] _ => okI T it S tg iter && noSet iter && okTg S t tg && okSs T b S body
    | _ => false) := rfl
theorem okS1_whl (T : Tab) (w0 : Nat) (c : E) (b : Sm) (S : Stat) (x : Stmt) : okS1 T (.whl w0 c b) S x = (match x with
    | .While u body [] _ => okT T c S u && okSs T b S body
    | _ => false) := rfl
theorem okS1_ret (T : Tab) (e : E) (S : Stat) (x : Stmt) : okS1 T (.ret e) S x = (match x with
    | .Return (some v) _ => okE T e S v
    | _ => false) := rfl
theorem okS1_brk (T : Tab)  (S0 : Stat) (x : Stmt) : okS1 T (.brk ) S0 x = (match x with
    | .Break _ => true
    | _ => false) := rfl
theorem okS1_cont (T : Tab)  (S0 : Stat) (x : Stmt) : okS1 T (.cont ) S0 x = (match x with
    | .Continue _ => true
    | _ => false) := rfl
theorem okS1_raise (T : Tab) (c : Nat) (S : Stat) (x : Stmt) : okS1 T (.raise c) S x = (match x with
    | .Raise (some (.Call (.Name a _) [.Constant (.str _) _ _] [] _)) none _ => decide (T.cn[c]? = some a) && okG S a
    | _ => false) := rfl
theorem okS1_try (T : Tab) (b : Sm) (i : Nat) (j : Nat) (S : Stat) (x : Stmt) : okS1 T (.try_ b i j) S x = (match x with
    | .Try body [.ExceptHandler (some (.Name u _)) (some n) [.Assign [.Name y _] (.Name n' _) _] _] [] [] _ => decide (T.cn.length = 6) && decide (u = ("ListError" : Str)) && okG S u && decide (n' = n) && decide (S.N[i]? = some n) && isLo (S.sc.names.lookup n) && decide (S.N[j]? = some y) && isLo (S.sc.names.lookup y) && decide (i ≠ j) && !(n == ("__debug__" : Str)) && !(n == ("__classdict__" : Str)) && okSs T b S body
    | _ => false) := rfl
theorem okS1_radd (T : Tab) (i : Nat) (e : E) (up : Bool) (S : Stat) (x : Stmt) : okS1 T (.radd i e up) S x = (match x with
    | .AugAssign (.Subscript y ix _) op (.Constant (.int c1) _ _) _ => okF S i "depths" y && noSlice ix && okE T e S ix && decide (c1 = 1) && (match up, op with | true, .Add => true | false, .Sub => true | _, _ => false)
    | _ => false) := rfl
theorem okS1_rapp (T : Tab) (i : Nat) (e : E) (S : Stat) (x : Stmt) : okS1 T (.rapp i e) S x = (match x with
    | .Expr (.Call (.Attribute y m ap) [z] [] cp) _ => decide (m = ("append" : Str)) && okF S i "made" y && noStar z && (ap.endLine == cp.line) && okE T e S z
    | _ => false) := rfl
theorem okS1_rpop (T : Tab) (t : Nat) (i : Nat) (S : Stat) (x : Stmt) : okS1 T (.rpop t i) S x = (match x with
    | .Assign [.Name a _] (.Call (.Attribute y m ap) [] [] cp) _ => decide (m = ("pop" : Str)) && okF S i "made" y && okL S t a && (ap.endLine == cp.line)
    | _ => false) := rfl
theorem okS1_mkr (T : Tab) (i : Nat) (a : E) (b : E) (S : Stat) (x : Stmt) : okS1 T (.mkr i a b) S x = (match x with
    | .Assign [.Name n _] (.Call (.Name f _) [y, z] [] _) _ => okL S i n && decide (f = ("Reader" : Str)) && okG S f && noStar y && noStar z && okE T a S y && okE T b S z
    | _ => false) := rfl
theorem okS1_mkr3 (T : Tab) (i : Nat) (j : Nat) (k : Nat) (a : E) (b : E) (as : E) (S : Stat) (x : Stmt) : okS1 T (.mkr3 i j k a b as) S x = (match x with
    | .Assign [.Tuple [.Name n1 p1, .Name n2 p2, .Name n3 p3] _ _] (.Tuple [.Call (.Name f _) [y, z] [] _, .List es _, .List [] _] _ _) _ => okL S i n1 && okL S j n2 && okL S k n3 && decide (i ≠ j) && decide (i ≠ k) && decide (j ≠ k) && (isLo (S.sc.names.lookup n1) && ((isLo (S.sc.names.lookup n2) && (p2.line == p1.line)) && (isLo (S.sc.names.lookup n3) && (p3.line == p1.line)))) && decide (f = ("Reader" : Str)) && okG S f && noStar y && noStar z && okE T a S y && okE T b S z && okA T as S es
    | _ => false) := rfl
theorem okS1_retr (T : Tab) (a : E) (b : E) (S : Stat) (x : Stmt) : okS1 T (.retr a b) S x = (match x with
    | .Return (some (.Call (.Name f _) [y, z] [] _)) _ => decide (f = ("Reader" : Str)) && okG S f && noStar y && noStar z && okE T a S y && okE T b S z
    | _ => false) := rfl
theorem okS1_dropc (T : Tab) (f : Nat) (as : E) (S : Stat) (x : Stmt) : okS1 T (.dropc f as) S x = (match x with
    | .Expr (.Call (.Name a _) es [] _) _ => okG S a && decide (T.nm[f]? = some a) && decide (f ∈ T.os) && es.all noStar && okA T as S es
    | _ => false) := rfl
structure YOk (T : Tab) (cl : Cls) (Φ : Nat → Fn) (k : Nat) (W : WX) (S : Stat) (X : Cx) : Prop where
  x : XOk T cl Φ k W S X
  fk : S.sc.kind = .function
  hp : PassesOwn (model X.prog X.w) X.A X.env X.xe
  tk : Takes X W
  exc : ∀ c x, T.cn[c]? = some x → X.mg x = some (.ref (cl c)) ∧ PySem.W.excIn X.K (cl c) [.type "ValueError", .type "Exception", .type "BaseException", .type "object"] "ValueError.__new__" = true ∧ PySem.W.keepIn X.K (.ref (cl c)) = true ∧ Raises X (.ref (cl c))
  st : X.stack = X.env :: X.outer
  fr : X.env.frame = some X.env.locals
  ex0 : X.ex = []
theorem YOk.tr {T : Tab} {cl : Cls} {Φ : Nat → Fn} {k : Nat} {W W' : WX} {S : Stat} {X : Cx} {pn : List (Addr × Obj)} {xe : Value → Shared → Prop} (h : YOk T cl Φ k W S X) (tk : Takes (X.tr pn xe) W') (hp : PassesOwn (model X.prog X.w) X.A X.env xe) : YOk T cl Φ k W' S (X.tr pn xe) :=
  ⟨⟨h.x.hN, h.x.hsc, h.x.hfn, h.x.nd, h.x.calm, h.x.room, h.x.blt, h.x.glo, fun σ => passAt tk σ, h.x.fun_, h.x.exf, h.x.rdx⟩, h.fk, hp, tk, h.exc, h.st, h.fr, h.ex0⟩
section
variable {T : Tab} {cl : Cls} {Φ : Nat → Fn} {k : Nat} {W : WX} {S : Stat} {X : Cx}
theorem swaps_no {v t : Expr} {l : Nat} {env : PySem.Env} (h : isComp v = false) : swapsWith v (some t) l env = pure false := by
  cases v <;> first | rfl | simp [isComp] at h
theorem swaps_no0 {v : Expr} {l : Nat} {env : PySem.Env} (h : isComp v = false) : swapsWith v none l env = pure false := by
  cases v <;> first | rfl | simp [isComp] at h
theorem swaps_noT {v : Expr} {ts : List Expr} {j l : Nat} {p : Pos} {env : PySem.Env} : swapsWith v (some (.Tuple ts j p)) l env = pure false := by
  cases v <;> rfl
theorem swaps_noS {v a b : Expr} {l : Nat} {p : Pos} {env : PySem.Env} : swapsWith v (some (.Subscript a b p)) l env = pure false := by
  cases v <;> rfl
theorem blockFn {env : PySem.Env} (h : env.scope.kind = .function) : env.blockKind = .function := by
  unfold Env.blockKind
  rw [h]
  rfl
theorem isLo_iff {o : Option NameKind} : isLo o = true ↔ o = some .local := by
  constructor
  · intro h
    unfold isLo at h
    split at h
    · rfl
    · cases h
  · rintro rfl
    rfl
theorem isLo_beq (o : Option NameKind) : (o == some NameKind.local) = isLo o := by
  cases o with
  | none => rfl
  | some k => cases k <;> rfl
theorem swaps_lc (h : YOk T cl Φ k W S X) {el : Expr} {gs : List Comprehension} {scope : Scope} {lp p : Pos} {x : Str} {l : Nat} : swapsWith (.ListComp el gs scope lp) (some (.Name x p)) l X.env = pure (sw S x p (.ListComp el gs scope lp)) := by
  have hk : X.env.scope.kind = .function := by rw [h.x.hsc]; exact h.fk
  have hb := blockFn hk
  have ky : X.env.kindOf x = S.sc.names.lookup x := by
    show X.env.scope.names.lookup x = _
    rw [h.x.hsc]
  unfold swapsWith sw
  simp only [hb, ky, isLo_beq, Expr.pos]
  rfl
/-- the readings of a block from those of its parts -/
theorem rd_cons {s t : Sm} {D : Ends} {σ : St} {H : Hp} (h : tO X.K cl W (evS Φ (.cons s t)) D σ H) : tSeq (tO X.K cl W (evS Φ s)) (tO X.K cl W (evS Φ t)) D σ H := by
  obtain ⟨F0, H0, da0, F, da, r, g, RS, p⟩ := h
  refine ⟨F0, H0, da0, F, da, r, g, RS, ?_⟩
  have p : PostS X.K cl W F0 H0 da0 D ((evS Φ s r g).andThen fun r g => evS Φ t r g) := p
  cases e : evS Φ s r g with
  | nx r1 g1 =>
    rw [e] at p
    exact fun σ' F' H' da' q => ⟨F0, H0, da0, F', da', r1, g1, q, p⟩
  | rt d g1 => rw [e] at p; exact p
  | ro g1 => rw [e] at p; exact p
  | bk r1 g1 => rw [e] at p; exact p
  | ct r1 g1 => rw [e] at p; exact p
  | ex c r1 g1 => rw [e] at p; exact p
  | bad => rw [e] at p; exact p
theorem rd_frz {i : Nat} {t : Sm} {D : Ends} {σ : St} {H : Hp} (h : tO X.K cl W (evS Φ (.cons (.frz i) t)) D σ H) : tO X.K cl W (evS Φ t) D σ H := by
  obtain ⟨F0, H0, da0, F, da, r, g, RS, p⟩ := h
  have p : PostS X.K cl W F0 H0 da0 D ((match (r[i]?).bind frzC with
    | some c => O.nx (r.set i c) g
    | none => .bad).andThen fun r g => evS Φ t r g) := p
  cases e : r[i]? with
  | none => rw [e] at p; exact False.elim p
  | some c =>
    rw [e] at p
    cases c with
    | own ds =>
      obtain ⟨F', RS'⟩ := RS.frz e
      exact ⟨F0, H0, da0, F', da, _, g, RS', p⟩
    | ot x y z =>
      obtain ⟨F', RS'⟩ := RS.frzT e
      exact ⟨F0, H0, da0, F', da, _, g, RS', p⟩
    | val d =>
      have hs : r.set i (.val d) = r := by
        refine List.ext_getElem? fun j => ?_
        by_cases hj : i = j
        · subst hj
          have hl : i < r.length := (List.getElem?_eq_some_iff.mp e).1
          rw [List.getElem?_set_self hl, e]
        · rw [List.getElem?_set_ne hj]
      have p : PostS X.K cl W F0 H0 da0 D (evS Φ t (r.set i (.val d)) g) := p
      rw [hs] at p
      exact ⟨F0, H0, da0, F, da, r, g, RS, p⟩
    | _ => exact False.elim p
theorem rd_asg {i : Nat} {e : E} {D : Ends} {σ : St} {H : Hp} (h : tO X.K cl W (evS Φ (.asg i e)) D σ H) : tE X.K cl W Φ e σ H (fun v H1 => D.nx (σ.set i (some v)) H1) := by
  obtain ⟨F0, H0, da0, F, da, r, g, RS, p⟩ := h
  exact ⟨F, da, r, g, RS.rep, PostS.st RS p fun a g1 v F1 H1 n rl RS1 p1 => p1 _ F1 H1 da (RS1.set rl)⟩
theorem snd_asg (h : YOk T cl Φ k W S X) {i : Nat} {e : E} {a : Str} {p pos : Pos} {v : Expr} (q : (okL S i a && okE T e S v && (!isComp v || isLC v)) = true) : PS X (.Assign [.Name a p] v pos) (tO X.K cl W (evS Φ (.asg i e))) := by
  obtain ⟨q, q3⟩ := and2 q
  obtain ⟨q1, q2⟩ := and2 q
  obtain ⟨l1, l2, l3⟩ := h.x.loc q1
  have plain : swapsWith v (some (.Name a p)) pos.line X.env = pure false → PS X (.Assign [.Name a p] v pos) (tO X.K cl W (evS Φ (.asg i e))) := fun hs =>
    impS (ps_set h.x.ndX l1 l2 ((snd e).e h.x v q2) hs l3) fun D σ H hq => rd_asg hq
  cases hc : isComp v with
  | false => exact plain (swaps_no hc)
  | true =>
    rw [hc] at q3
    have q3 : isLC v = true := by simpa using q3
    cases v with
    | ListComp el gs scope lp =>
      cases hs : sw S a p (.ListComp el gs scope lp) with
      | false => exact plain (by rw [swaps_lc h, hs])
      | true =>
        cases e with
        | lc t it c e =>
          simp only [okE] at q2
          split at q2
          · rename_i el' tg iter ifs scope' pos' heq
            cases heq
            obtain ⟨q, q6⟩ := and2 q2
            obtain ⟨q, q5⟩ := and2 q
            obtain ⟨q, q4⟩ := and2 q
            obtain ⟨q, q3⟩ := and2 q
            obtain ⟨q1', q2'⟩ := and2 q
            obtain ⟨w1, w2⟩ := tg_own q4
            have bk : BlkOk _ _ scope (tgOwn t tg) := blkOk_by q3
            rw [← h.x.hN, ← h.x.hsc] at bk
            have pg := fun (s : Shared) (H : Hp) (C : Addr) (cs : List (Str × Addr)) (fp : List Addr) => pg_T (h.x.blk scope s H C cs fp) q4
            have pe := fun (s : Shared) (H : Hp) (C : Addr) (cs : List (Str × Addr)) (fp : List Addr) => (snd e).e (h.x.blk scope s H C cs fp) _ q6
            have hyl : X.env.scope.names.lookup a = some .local := by
              rw [h.x.hsc]
              have hs' := hs
              unfold sw at hs'
              obtain ⟨z, _⟩ := and2 hs'
              obtain ⟨z, _⟩ := and2 z
              exact isLo_iff.mp z
            have hsw : swapsWith (.ListComp el [⟨tg, iter, ifs, 0⟩] scope lp) (some (.Name a p)) pos.line X.env = pure true := by rw [swaps_lc h, hs]
            split at q5
            · refine impS (ps_setLc (g := gT X.K t) (tt := tYes) (te := tE X.K cl W0 Φ e) h.x.calm h.x.ndX l1 hyl hsw ((snd it).i h.x _ _ q1') bk pg (fun _ _ _ _ _ => pts_nil) pe (iter_ok q2')) fun D σ H hq => ?_
              rw [w1]
              exact rd_lc w2 (rd_yes q5) (rd_asg hq)
            · refine impS (ps_setLc (g := gT X.K t) (tt := tT X.K cl W0 Φ c) (te := tE X.K cl W0 Φ e) h.x.calm h.x.ndX l1 hyl hsw ((snd it).i h.x _ _ q1') bk pg (fun s H C cs fp => pts_one ((snd c).t (h.x.blk scope s H C cs fp) _ q5)) pe (iter_ok q2')) fun D σ H hq => ?_
              rw [w1]
              exact rd_lc w2 (fun _ _ _ z => z) (rd_asg hq)
            · cases q5
          · cases q2
        | var i => simp [okE] at q2
        | con d => simp [okE] at q2
        | glo n d => simp [okE] at q2
        | un o a => cases o <;> simp [okE, okU] at q2
        | bi o a b => simp [okE, okBi] at q2
        | bor e => simp [okE, noLC] at q2
        | isx i c => simp [okE, okX] at q2
        | rls i => simp [okE, okF] at q2
        | _ => simp [okE] at q2
    | _ => simp [isLC] at q3
end
end Tl
end
section
set_option Elab.async false
set_option linter.all false
set_option autoImplicit false
set_option maxRecDepth 100000
namespace Tl
open PySem PySem.Spec PyProof.Rows L2
section
variable {T : Tab} {cl : Cls} {Φ : Nat → Fn} {k : Nat} {W : WX} {S : Stat} {X : Cx} {K : PySem.W.Frag}
/-! ### new lists of one's own -/
theorem rd_mk_lst {i : Nat} {as : E} {D : Ends} {σ : St} {H : Hp} (h : tO X.K cl W (evS Φ (.mk i (.lst as))) D σ H) : tA X.K cl W Φ as σ H (fun vs H1 => vs.length ≤ sizeLine ∧ ∀ p, H1 p = none → D.nx (σ.set i (some (.ref p))) (upd H1 p (.lst vs))) := by
  obtain ⟨F0, H0, da0, F, da, r, g, RS, p⟩ := h
  refine ⟨F, da, r, g, RS.rep, ?_⟩
  have p : PostS X.K cl W F0 H0 da0 D (((evA Φ as r g).bind fun cs g => R.of g ((vals? cs).bind fun ds => if ds.length ≤ lim then some (PyData.list ds) else none)).st r fun (d : PyData) (g : G) => match d with
    | .list ds => O.nx (r.set i (.own ds)) g
    | _ => O.bad) := p
  cases e : evA Φ as r g with
  | ok cs g1 =>
    rw [e] at p
    intro vs F1 H1 n ao
    cases q : vals? cs with
    | none => simp only [R.bind, q, Option.bind_none, R.of, R.st] at p; exact False.elim p
    | some ds =>
      by_cases hl : ds.length ≤ lim
      · simp only [R.bind, q, Option.bind_some, if_pos hl, R.of, R.st] at p
        have ra := args_vals ao q
        exact ⟨by rw [ra.length]; exact lim_line' hl, fun pp hp => p _ F1 _ da ((RS.nx n).mk' hp ra hl)⟩
      · simp only [R.bind, q, Option.bind_some, if_neg hl, R.of, R.st] at p
        exact False.elim p
  | exc c g1 =>
    rw [e] at p
    exact fun F' H' n => p σ F' H' da (RS.nx n)
  | bad => rw [e] at p; exact p
/-- an operation that lays a new list -/
def FS2 (o : Bi) (r : R2) : Prop := ∀ (F H : Hp) (da : DA) (x y : V) (d e : D) (ds : List D) (Q : VK), Same F H → Cp F H da x d → Cp F H da y e → bop o d e = some (.list ds) → (∀ p xs, H p = none → RpAll F xs ds → ds.length ≤ lim → Q (.ref p) (upd H p (.lst xs))) → r x y H Q
def FS1 (o : Un) (r : V → Hp → VK → Prop) : Prop := ∀ (F H : Hp) (da : DA) (x : V) (d : D) (ds : List D) (Q : VK), Same F H → Cp F H da x d → uop o d = some (.list ds) → (∀ p xs, H p = none → RpAll F xs ds → ds.length ≤ lim → Q (.ref p) (upd H p (.lst xs))) → r x H Q
theorem fs2_mul : FS2 .mul rMulA := by
  intro F H da x y d e ds Q s c1 c2 q kk
  cases d with
  | int i =>
    cases e with
    | int j =>
      simp only [bop] at q
      split at q <;> cases q
    | _ => simp [bop] at q
  | list xs =>
    cases e with
    | int j =>
      simp only [bop] at q
      split at q
      · rename_i hm
        cases q
        obtain ⟨a, us, h1, h2, h3, h4⟩ := c1.list s
        obtain ⟨m1, m2, m3⟩ := hm
        refine .inr ⟨a, j, us, h1, cp_int c2, h2, by omega, by omega, by rw [h3.length]; exact lim_line' m3, fun p hp => kk p _ hp (h3.flat _) ?_⟩
        simp only [List.length_flatten, List.map_replicate, List.sum_replicate_nat]
        rw [Nat.mul_comm]
        exact m3
      · cases q
    | _ => simp [bop] at q
  | _ => simp [bop] at q
theorem fs2_from {K : PySem.W.Frag} : FS2 .from_ (fun x y H Q => ∃ i, y = .int i ∧ rSlA K x (some i) none H Q) := by
  intro F H da x y d e ds Q s c1 c2 q kk
  cases d with
  | list xs =>
    cases e with
    | int i =>
      simp only [bop] at q
      cases q
      obtain ⟨a, us, h1, h2, h3, h4⟩ := c1.list s
      exact ⟨i, cp_int c2, .inl ⟨a, us, h1, .inl (.inl h2), fun p hp => kk p _ hp (cut_rp h3 _ _) (Nat.le_trans (cut_len _ _ _) h4)⟩⟩
    | _ => simp [bop] at q
  | str z =>
    cases e with
    | int i => simp [bop] at q
    | _ => simp [bop] at q
  | _ => simp [bop] at q
theorem fs1_list : FS1 .list (fun x H Q => ∃ p ys, [x] = [.ref p] ∧ (SqL K H p ys ∨ SqT K H p ys) ∧ ∀ l, H l = none → Q (.ref l) (upd H l (.lst ys))) := by
  intro F H da x d ds Q s c e kk
  cases d with
  | list ds =>
    cases e
    obtain ⟨a, xs, h1, h2, h3, h4⟩ := c.list s
    subst h1
    exact ⟨a, xs, rfl, .inl (.inl (.inl h2)), fun p hp => kk p xs hp h3 h4⟩
  | tuple ds =>
    cases e
    obtain ⟨a, xs, h1, h2, h3, h4⟩ := cp_tup s c
    subst h1
    exact ⟨a, xs, rfl, .inr (.inl (.inl h2)), fun p hp => kk p xs hp h3 h4⟩
  | _ => simp [uop] at e
theorem fs1_lrange : FS1 .lrange (fun x H Q => ∃ n, x = .int n ∧ RgOk 0 n ∧ ∀ q, H q = none → Q (.ref q) (upd H q (.lst (rgV 0 n)))) := by
  intro F H da x d ds Q s c e k
  cases d with
  | int n =>
    simp only [uop] at e
    split at e
    · rename_i hn
      cases e
      refine ⟨n, cp_int c, RgOk.of_le (by omega) (by omega) (by omega) hn.1, fun p hp => k p _ hp (rg_rp n) ?_⟩
      rw [rangeD_len]
      unfold lim
      omega
    · cases e
  | _ => simp [uop] at e
theorem fs1_lstr : FS1 .lstr (fun x H Q => ∃ z : Str, [x] = [V.str z] ∧ z.length ≤ lim ∧ ∀ p, H p = none → Q (.ref p) (upd H p (.lst (z.cps.toList.map fun c => .str ⟨#[c]⟩)))) := by
  intro F H da x d ds Q s c e k
  cases d with
  | str z =>
    cases e
    obtain ⟨h1, h2, h3⟩ := cp_str c
    refine ⟨z, by rw [h1], h2, fun p hp => k p _ hp (chars_rp h3) ?_⟩
    unfold chars
    rw [List.length_map, Array.length_toList]
    exact h2
  | _ => simp [uop] at e
theorem rd_mk_bi {i : Nat} {o : Bi} {a b : E} {r2 : R2} (f2 : FS2 o r2) {D : Ends} {σ : St} {H : Hp} (h : tO X.K cl W (evS Φ (.mk i (.bi o a b))) D σ H) : tC X.K cl W Φ a σ H (fun x H1 => tC X.K cl W Φ b σ H1 fun y H2 => r2 x y H2 fun v H3 => D.nx (σ.set i (some v)) H3) := by
  obtain ⟨F0, H0, da0, F, da, r, g, RS, p⟩ := h
  have p : PostS X.K cl W F0 H0 da0 D (((evC Φ a r g).bind fun x g => match preB o x with
    | true => (evC Φ b r g).bind fun y g => R.of g (bop o x y)
    | false => .bad).st r fun (d : PyData) (g : G) => match d with
    | .list ds => O.nx (r.set i (.own ds)) g
    | _ => O.bad) := p
  refine ⟨F, da, r, g, RS.rep, ?_⟩
  cases e : evC Φ a r g with
  | ok d g1 =>
    rw [e] at p
    intro x F1 H1 n c
    refine ⟨F1, da, r, g1, RS.rep.nx n, ?_⟩
    simp only [R.bind] at p
    cases pb : preB o d with
    | false => rw [pb] at p; exact False.elim p
    | true =>
    rw [pb] at p
    simp only at p
    cases e2 : evC Φ b r g1 with
    | ok d2 g2 =>
      rw [e2] at p
      intro y F2 H2 n2 c2
      cases eb : bop o d d2 with
      | none => simp only [R.bind, eb, R.of, R.st] at p; exact False.elim p
      | some dz =>
        simp only [R.bind, eb, R.of, R.st] at p
        cases dz with
        | list ds => exact f2 F2 H2 da x y d d2 ds _ n2.sub (c.nx n2) c2 eb fun pp xs hp ra hl => p _ F2 _ da (((RS.nx n).nx n2).mk' hp ra hl)
        | _ => exact False.elim p
    | exc cc g2 =>
      rw [e2] at p
      exact fun F' H' n2 => p σ F' H' da ((RS.nx n).nx n2)
    | bad => rw [e2] at p; exact p
  | exc c g1 =>
    rw [e] at p
    exact fun F' H' n => p σ F' H' da (RS.nx n)
  | bad => rw [e] at p; exact p
theorem rd_mk_un {i : Nat} {o : Un} {a : E} {r1 : V → Hp → VK → Prop} (f1 : FS1 o r1) {D : Ends} {σ : St} {H : Hp} (h : tO X.K cl W (evS Φ (.mk i (.un o a))) D σ H) : tC X.K cl W Φ a σ H (fun x H1 => r1 x H1 fun v H3 => D.nx (σ.set i (some v)) H3) := by
  obtain ⟨F0, H0, da0, F, da, r, g, RS, p⟩ := h
  have p : PostS X.K cl W F0 H0 da0 D (((evC Φ a r g).bind fun d g => R.of g (uop o d)).st r fun (d : PyData) (g : G) => match d with
    | .list ds => O.nx (r.set i (.own ds)) g
    | _ => O.bad) := p
  refine ⟨F, da, r, g, RS.rep, ?_⟩
  cases e : evC Φ a r g with
  | ok d g1 =>
    rw [e] at p
    intro x F1 H1 n c
    cases eb : uop o d with
    | none => simp only [R.bind, eb, R.of, R.st] at p; exact False.elim p
    | some dz =>
      simp only [R.bind, eb, R.of, R.st] at p
      cases dz with
      | list ds => exact f1 F1 H1 da x d ds _ n.sub c eb fun pp xs hp ra hl => p _ F1 _ da ((RS.nx n).mk' hp ra hl)
      | _ => exact False.elim p
  | exc c g1 =>
    rw [e] at p
    exact fun F' H' n => p σ F' H' da (RS.nx n)
  | bad => rw [e] at p; exact p
theorem snd_mk (h : YOk T cl Φ k W S X) {i : Nat} {e : E} {a : Str} {p pos : Pos} {v : Expr} (q : (okL S i a && okFr T S e v) = true) : PS X (.Assign [.Name a p] v pos) (tO X.K cl W (evS Φ (.mk i e))) := by
  obtain ⟨q1, q2⟩ := and2 q
  obtain ⟨l1, l2, l3⟩ := h.x.loc q1
  unfold okFr at q2
  split at q2
  · exact impS (ps_set h.x.ndX l1 l2 (pe_lst ((snd _).s h.x _ q2)) rfl l3) fun D σ H hq => rd_mk_lst hq
  · obtain ⟨q3, q4⟩ := and2 q2
    exact impS (ps_set h.x.ndX l1 l2 (pe_op op_mulA ((snd _).c h.x _ q3) ((snd _).c h.x _ q4)) rfl l3) fun D σ H hq => rd_mk_bi fs2_mul hq
  · obtain ⟨q3, q4⟩ := and2 q2
    exact impS (ps_set h.x.ndX l1 l2 (pe_slice sl_A ((snd _).c h.x _ q3) (po_some ((snd _).c h.x _ q4)) po_none) rfl l3) fun D σ H hq => rd_mk_bi (fs2_from (K := X.K)) hq
  · obtain ⟨q3, q5⟩ := and2 q2
    obtain ⟨q3, q4⟩ := and2 q3
    obtain ⟨rfl, g, m⟩ := h.x.bl q3 (by decide +kernel)
    exact impS (ps_set h.x.ndX l1 l2 (pe_callTy call_list_of g m boot_list (pa_cons ((snd _).c h.x _ q5) pa_nil (star_ok q4)) (he := star_ok q4)) rfl l3) fun D σ H hq => rd_mk_un (fs1_list (K := X.K)) hq
  · obtain ⟨q3, q5⟩ := and2 q2
    obtain ⟨q3, q4⟩ := and2 q3
    obtain ⟨rfl, g, m⟩ := h.x.bl q3 (by decide +kernel)
    exact impS (ps_set h.x.ndX l1 l2 (pe_callTy (cr_lstr h.x.calm) g m boot_list (pa_cons ((snd _).c h.x _ q5) pa_nil (star_ok q4)) (he := star_ok q4)) rfl l3) fun D σ H hq => rd_mk_un fs1_lstr hq
  · obtain ⟨q3, q6⟩ := and2 q2
    obtain ⟨q3, q5⟩ := and2 q3
    obtain ⟨q3, q4⟩ := and2 q3
    obtain ⟨rfl, g, m⟩ := h.x.bl q3 (by decide +kernel)
    obtain ⟨rfl, g', m'⟩ := h.x.bl q4 (by decide +kernel)
    exact impS (ps_set h.x.ndX l1 l2 (pe_listRg h.x.calm g m (prg_1 g' m' ((snd _).c h.x _ q6) (star_ok q5))) rfl l3) fun D σ H hq => rd_mk_un fs1_lrange hq
  · cases q2
/-! ### targets, in a body -/
theorem rd_TS {F0 H0 : Hp} {da0 : DA} {t : Tg} {F H : Hp} {da : DA} {g : G} {σ : St} {r r1 : Env} {v : V} {d : D} {Q : St → Hp → Prop} (RS : RepS K cl F0 H0 da0 F H da σ r g) (rp : Rp F v d) (e : setT t d r = some r1)
    (kk : ∀ σ1, RepS K cl F0 H0 da0 F H da σ1 r1 g → Q σ1 H) : gT K t v σ H Q := by
  cases t with
  | nm i =>
    cases e
    exact kk _ (RS.set rp)
  | two i j =>
    obtain ⟨a, b, rfl, rfl⟩ := setT_two e
    cases rp with
    | tup h1 h2 h3 =>
      cases h2 with
      | cons r1 h2 =>
        cases h2 with
        | cons r2 h2 =>
          cases h2
          exact ⟨_, _, rfl, .inl (.inl (RS.rep.sub _ _ h1)), rfl, _, _, rfl, _, _, rfl, rfl, kk _ ((RS.set r1).set r2)⟩
  | three i j l =>
    obtain ⟨a, b, c, rfl, rfl⟩ := setT_three e
    cases rp with
    | tup h1 h2 h3 =>
      cases h2 with
      | cons r1 h2 =>
        cases h2 with
        | cons r2 h2 =>
          cases h2 with
          | cons r3 h2 =>
            cases h2
            exact ⟨_, _, rfl, .inl (.inl (RS.rep.sub _ _ h1)), rfl, _, _, rfl, _, _, rfl, _, _, rfl, rfl, kk _ (((RS.set r1).set r2).set r3)⟩
theorem rd_unp {t : Tg} {e : E} {D : Ends} {σ : St} {H : Hp} (h : tO X.K cl W (evS Φ (.unp t e)) D σ H) : tE X.K cl W Φ e σ H (fun v H1 => gT X.K t v σ H1 D.nx) := by
  obtain ⟨F0, H0, da0, F, da, r, g, RS, p⟩ := h
  refine ⟨F, da, r, g, RS.rep, PostS.st RS p fun a g1 v F1 H1 n rl RS1 p1 => ?_⟩
  cases es : setT t a r with
  | none => rw [es] at p1; exact False.elim p1
  | some r1 =>
    rw [es] at p1
    exact rd_TS RS1 rl es fun σ1 RS2 => p1 σ1 F1 H1 da RS2
theorem sole_T {v : Expr} {ts : List Expr} {j l : Nat} {p : Pos} {env : PySem.Env} : swapsWithSole [.Tuple ts j p] v l env = pure false := by
  cases v <;> rfl
theorem sole_S {v a b : Expr} {l : Nat} {p : Pos} {env : PySem.Env} : swapsWithSole [.Subscript a b p] v l env = pure false := by
  cases v <;> rfl
theorem stores_no {ts : List Expr} {j : Nat} {p : Pos} {v : Expr} {env : PySem.Env} (h : isTupE v = false) : swappedStores [.Tuple ts j p] v env = pure none := by
  cases v <;> first | rfl | simp [isTupE] at h
theorem snd_unp (h : YOk T cl Φ k W S X) {t : Tg} {e : E} {ts : List Expr} {j : Nat} {p pos : Pos} {v : Expr} (q : (okTg S t (.Tuple ts j p) && okE T e S v && !isTupE v) = true) : PS X (.Assign [.Tuple ts j p] v pos) (tO X.K cl W (evS Φ (.unp t e))) := by
  obtain ⟨q, q3⟩ := and2 q
  obtain ⟨q1, q2⟩ := and2 q
  exact impS (ps_asg ((snd e).e h.x v q2) (pg_T h.x q1) sole_T (stores_no (by simpa using q3)) rfl) fun D σ H hq => rd_unp hq
/-! ### small statements -/
theorem pip_of {op : Operator} {r : R2} (h : OpR X (inplaceOp op) r) : PIp X op r := h
theorem rd_aug {i : Nat} {o : Bi} {e : E} {r2 : R2} (s2 : ∀ (x y : Int) (dz : D) (H : Hp) (Q : VK), bop o (.int x) (.int y) = some dz → (∀ v, (∀ F, Rp F v dz) → Q v H) → r2 (.int x) (.int y) H Q) {D : Ends} {σ : St} {H : Hp} (h : tO X.K cl W (evS Φ (.aug i o e)) D σ H) : tAug i (tE X.K cl W Φ e) r2 D σ H := by
  obtain ⟨F0, H0, da0, F, da, r, g, RS, p⟩ := h
  simp only [evS] at p
  cases ei : r[i]? with
  | none => rw [ei] at p; exact False.elim p
  | some c =>
    rw [ei] at p
    cases c with
    | val d =>
      cases d with
      | int x =>
        obtain ⟨v, e1, rp⟩ := RS.rep.slot i _ ei
        cases rp
        refine ⟨_, e1, F, da, r, g, RS.rep, PostS.st RS p fun a g1 v F1 H1 n rl RS1 p1 => ?_⟩
        cases a with
        | int y =>
          cases rl
          cases eb : bop o (.int x) (.int y) with
          | none => simp only [eb] at p1; exact False.elim p1
          | some dz =>
            simp only [eb] at p1
            exact s2 x y dz H1 _ eb fun v rv => p1 _ F1 H1 da (RS1.set (rv F1))
        | _ => exact False.elim p1
      | _ => exact False.elim p
    | _ => exact False.elim p
theorem snd_aug (h : YOk T cl Φ k W S X) {i : Nat} {o : Bi} {e : E} {a : Str} {p pos : Pos} {op : Operator} {v : Expr} (q : (okL S i a && okAug o op && okE T e S v) = true) : PS X (.AugAssign (.Name a p) op v pos) (tO X.K cl W (evS Φ (.aug i o e))) := by
  obtain ⟨q, q3⟩ := and2 q
  obtain ⟨q1, q2⟩ := and2 q
  obtain ⟨l1, l2, l3⟩ := h.x.loc q1
  have pe := (snd (T := T) (cl := cl) (Φ := Φ) e).e h.x v q3
  unfold okAug at q2
  split at q2
  · exact impS (ps_aug h.x.ndX l1 l2 pe (pip_of iop_add) l3) fun D σ H hq => rd_aug (fun x y dz H Q eb kk => by cases eb; exact ⟨x, y, rfl, rfl, kk _ fun _ => .int _⟩) hq
  · exact impS (ps_aug h.x.ndX l1 l2 pe (pip_of iop_sub) l3) fun D σ H hq => rd_aug (fun x y dz H Q eb kk => by cases eb; exact ⟨x, y, rfl, rfl, kk _ fun _ => .int _⟩) hq
  · exact impS (ps_aug h.x.ndX l1 l2 pe (pip_of iop_mul) l3) fun D σ H hq => rd_aug (fun x y dz H Q eb kk => by
      simp only [bop] at eb
      split at eb
      · rename_i hm
        cases eb
        exact ⟨x, y, rfl, rfl, mulOk_is hm, kk _ fun _ => .int _⟩
      · cases eb) hq
  · cases q2
theorem snd_drop (h : YOk T cl Φ k W S X) {e : E} {v : Expr} {pos : Pos} (q : (okE T e S v && !isComp v) = true) : PS X (.Expr v pos) (tO X.K cl W (evS Φ (.drop e))) := by
  obtain ⟨q1, q2⟩ := and2 q
  refine impS (ps_expr ((snd e).e h.x v q1) (swaps_no0 (by simpa using q2))) fun D σ H hq => ?_
  obtain ⟨F0, H0, da0, F, da, r, g, RS, p⟩ := hq
  exact ⟨F, da, r, g, RS.rep, PostS.st RS p fun a g1 v F1 H1 n rl RS1 p1 => p1 σ F1 H1 da RS1⟩
theorem snd_ret (h : YOk T cl Φ k W S X) {e : E} {v : Expr} {pos : Pos} (q : okE T e S v = true) : PS X (.Return (some v) pos) (tO X.K cl W (evS Φ (.ret e))) := by
  refine impS (ps_ret ((snd e).e h.x v q)) fun D σ H hq => ?_
  obtain ⟨F0, H0, da0, F, da, r, g, RS, p⟩ := hq
  exact ⟨F, da, r, g, RS.rep, PostS.st RS p fun a g1 v F1 H1 n rl RS1 p1 => p1 v σ r F1 H1 da RS1 rl⟩
theorem snd_app (h : YOk T cl Φ k W S X) {i : Nat} {e : E} {a m : Str} {p ap cp pos : Pos} {y : Expr} (q : (decide (m = ("append" : Str)) && okV S i a && noStar y && (ap.endLine == cp.line) && okE T e S y) = true) :
    PS X (.Expr (.Call (.Attribute (.Name a p) m ap) [y] [] cp) pos) (tO X.K cl W (evS Φ (.app i e))) := by
  obtain ⟨q, q5⟩ := and2 q
  obtain ⟨q, q4⟩ := and2 q
  obtain ⟨q, q3⟩ := and2 q
  obtain ⟨q1, q2⟩ := and2 q
  have em := of_decide_eq_true q1
  subst em
  refine impS (ps_expr (pe_bm PySem.F.plainAttrs_list PySem.F.slot_list_append PySem.F.type_list_append mt_append (h.x.var q2) (pa_cons ((snd e).e h.x y q5) pa_nil (star_ok q3)) rfl (by rw [star_ok q3]; rfl) q4 (star_ok q3) rfl) rfl) fun D σ H hq => ?_
  obtain ⟨F0, H0, da0, F, da, r, g, RS, p⟩ := hq
  simp only [evS] at p
  cases ei : r[i]? with
  | none => rw [ei] at p; exact False.elim p
  | some c =>
    rw [ei] at p
    cases c with
    | own ds =>
      obtain ⟨ad, e1, xs, e2, e3, e4, e5, e6⟩ := RS.rep.slot i _ ei
      refine ⟨.ref ad, e1, .inl ⟨rfl, xs, .inl (.inl e2)⟩, F, da, r, g, RS.rep, PostS.st RS p fun d g1 v F1 H1 n rl RS1 p1 => ?_⟩
      split at p1
      · rename_i hl
        have k1 := n.keep _ _ e2 e4
        refine ⟨ad, xs, v, rfl, rfl, k1, by rw [e5.length]; exact lim_line (Nat.le_of_lt hl), ?_⟩
        exact p1 σ F1 _ da (RS1.put ei e1 ((e5.mono n.fr).append (.cons rl .nil)) (by rw [List.length_append]; exact hl))
      · exact False.elim p1
    | _ => exact False.elim p
theorem snd_seti (h : YOk T cl Φ k W S X) {i : Nat} {kx e : E} {a : Str} {p sp pos : Pos} {ix v : Expr} (q : (okV S i a && noSlice ix && okE T kx S ix && okE T e S v) = true) :
    PS X (.Assign [.Subscript (.Name a p) ix sp] v pos) (tO X.K cl W (evS Φ (.seti i kx e))) := by
  obtain ⟨q, q4⟩ := and2 q
  obtain ⟨q, q3⟩ := and2 q
  obtain ⟨q1, q2⟩ := and2 q
  have ha : ∀ u, assign (.Subscript (.Name a p) ix sp) X.env u = (do
      let ov ← holding [u] (eval (.Name a p) X.env)
      let iv ← holding [u, ov] (eval ix X.env)
      standAt sp
      holding [u, ov, iv] (setItem ov iv u)
      release [u, ov, iv] []) := by
    intro u
    cases ix <;> first | rfl | simp [noSlice] at q2
  refine impS (ps_asg ((snd e).e h.x v q4) (pg_sub (h.x.var q1) ((snd kx).e h.x ix q3) set_list ha) sole_S (by cases v <;> rfl) rfl) fun D σ H hq => ?_
  obtain ⟨F0, H0, da0, F, da, r, g, RS, p⟩ := hq
  simp only [evS] at p
  cases ei : r[i]? with
  | none => rw [ei] at p; exact False.elim p
  | some c =>
    rw [ei] at p
    cases c with
    | own ds =>
      obtain ⟨ad, e1, xs, e2, e3, e4, e5, e6⟩ := RS.rep.slot i _ ei
      refine ⟨F, da, r, g, RS.rep, PostS.st RS p fun d g1 v F1 H1 n rl RS1 p1 => ?_⟩
      refine ⟨.ref ad, e1, F1, da, r, g1, RS1.rep, PostS.st RS1 p1 fun kd g2 kv F2 H2 n2 rl2 RS2 p2 => ?_⟩
      cases kd with
      | int kk =>
        cases rl2
        cases eb : ixN ds.length kk with
        | none => simp only [eb] at p2; exact False.elim p2
        | some j =>
          simp only [eb] at p2
          have k2 := n2.keep _ _ (n.keep _ _ e2 e4) e4
          refine ⟨ad, xs, kk, j, rfl, rfl, k2, by rw [e5.length]; exact eb, ?_⟩
          exact p2 σ F2 _ da (RS2.put ei e1 (((e5.mono n.fr).mono n2.fr).set (rl.mono n2.fr) j) (by rw [List.length_set]; exact e6))
      | _ => exact False.elim p2
    | _ => exact False.elim p
theorem snd_raise (h : YOk T cl Φ k W S X) {c : Nat} {a m : Str} {p p2 p3 pos : Pos} {j : Nat} (q : (decide (T.cn[c]? = some a) && okG S a) = true) : PS X (.Raise (some (.Call (.Name a p) [.Constant (.str m) j p2] [] p3)) none pos) (tO X.K cl W (evS Φ (.raise c))) := by
  obtain ⟨q1, q2⟩ := and2 q
  obtain ⟨e1, e2, e3, e4⟩ := h.exc c a (of_decide_eq_true q1)
  obtain ⟨g1, g2⟩ := h.x.gl q2
  refine impS (ps_raise h.x.calm h.tk (pmk_own PySem.F.excBase_ValueError e2 e1 e3 e4 g1 g2)) fun D σ H hq => ?_
  obtain ⟨F0, H0, da0, F, da, r, g, RS, p⟩ := hq
  exact p σ F H da RS
end
end Tl
end
section
set_option Elab.async false
set_option linter.all false
set_option autoImplicit false
set_option maxRecDepth 100000
namespace Tl
open PySem PySem.Spec PyProof.Rows L2
section
variable {T : Tab} {cl : Cls} {Φ : Nat → Fn} {k : Nat} {W : WX} {S : Stat} {X : Cx} {K : PySem.W.Frag}
/-! ### a, b = x, y -/
theorem any2 {a b : Expr} (na : noStar a = true) (nb : noStar b = true) (f : Expr → Bool) (h : ∀ e, noStar e = true → f e = false) : [a, b].any f = false := by
  simp only [List.any_cons, List.any_nil, h a na, h b nb, Bool.or_false]
theorem any3 {a b c : Expr} (na : noStar a = true) (nb : noStar b = true) (nc : noStar c = true) (f : Expr → Bool) (h : ∀ e, noStar e = true → f e = false) : [a, b, c].any f = false := by
  simp only [List.any_cons, List.any_nil, h a na, h b nb, h c nc, Bool.or_false]
theorem dups2 {x y : Str} (h : x ≠ y) : ([x, y].eraseDups).length = 2 := by
  have : (y == x) = false := by simpa using Ne.symm h
  simp [List.eraseDups_cons, this, h, Ne.symm h]
theorem dups3 {x y z : Str} (h : x ≠ y) (h2 : x ≠ z) (h3 : y ≠ z) : ([x, y, z].eraseDups).length = 3 := by
  simp [List.eraseDups_cons, h, h2, h3, Ne.symm h, Ne.symm h2, Ne.symm h3]
theorem stores_two {env : PySem.Env} {x y : Str} {px py pt pt2 : Pos} {kt k2 : Nat} {a b : Expr} (hb : env.blockKind = .function) (na : noStar a = true) (nb : noStar b = true) (hxy : x ≠ y)
    (f1 : [a, b].all (foldedForSure 8) = false) (f2 : [a, b].all (constantsAlone 8) = false) :
    swappedStores [.Tuple [.Name x px, .Name y py] kt pt] (.Tuple [a, b] k2 pt2) env = pure (if isLo (env.kindOf x) && (isLo (env.kindOf y) && (py.line == px.line)) then some [x, y] else none) := by
  unfold swappedStores
  dsimp only
  rw [any2 na nb _ (fun e he => by cases e <;> first | rfl | simp [noStar] at he)]
  simp only [hb, List.length_cons, List.length_nil, isLo_beq, f1, f2, List.filterMap_cons, List.filterMap_nil, List.head?_cons, Option.map_some, Option.getD_some, Expr.pos]
  cases h1 : isLo (env.kindOf x) <;> cases h2 : isLo (env.kindOf y) <;> cases h3 : (py.line == px.line) <;> simp only [Bool.and_true, Bool.and_false, Bool.true_and, Bool.false_and, beq_self_eq_true, List.length_cons, List.length_nil, dups2 hxy, ite_true, ite_false, reduceIte] <;> rfl
theorem stores_three {env : PySem.Env} {x y z : Str} {px py pz pt pt2 : Pos} {kt k2 : Nat} {a b c : Expr} (hb : env.blockKind = .function) (na : noStar a = true) (nb : noStar b = true) (nc : noStar c = true) (hxy : x ≠ y) (hxz : x ≠ z) (hyz : y ≠ z)
    (f1 : [a, b, c].all (foldedForSure 8) = false) (f2 : [a, b, c].all (constantsAlone 8) = false) :
    swappedStores [.Tuple [.Name x px, .Name y py, .Name z pz] kt pt] (.Tuple [a, b, c] k2 pt2) env = pure (if isLo (env.kindOf x) && ((isLo (env.kindOf y) && (py.line == px.line)) && (isLo (env.kindOf z) && (pz.line == px.line))) then some [x, y, z] else none) := by
  unfold swappedStores
  dsimp only
  rw [any3 na nb nc _ (fun e he => by cases e <;> first | rfl | simp [noStar] at he)]
  simp only [hb, List.length_cons, List.length_nil, isLo_beq, f1, f2, List.filterMap_cons, List.filterMap_nil, List.head?_cons, Option.map_some, Option.getD_some, Expr.pos]
  cases h1 : isLo (env.kindOf x) <;> cases h2 : isLo (env.kindOf y) <;> cases h3 : (py.line == px.line) <;> cases h4 : isLo (env.kindOf z) <;> cases h5 : (pz.line == px.line) <;> simp only [Bool.and_true, Bool.and_false, Bool.true_and, Bool.false_and, beq_self_eq_true, List.length_cons, List.length_nil, dups3 hxy hxz hyz, ite_true, ite_false, reduceIte] <;> rfl

theorem okA_star : ∀ {as : E} {es : List Expr}, okA T as S es = true → ∀ x ∈ es, noStar x = true
  | as, [], _ => fun x hx => by cases hx
  | as, e :: es, q => by
    cases as with
    | cons a as =>
      simp only [okA] at q
      obtain ⟨q, q3⟩ := and2 q
      obtain ⟨q1, q2⟩ := and2 q
      intro x hx
      rcases List.mem_cons.mp hx with rfl | hx
      · exact q1
      · exact okA_star q3 x hx
    | nil => simp [okA] at q
    | _ => simp [okA] at q
theorem not_same {i j : Nat} {x y : Str} {N : List Str} (hn : N.Nodup) (h1 : N[i]? = some x) (h2 : N[j]? = some y) (h : i ≠ j) : x ≠ y := fun z => by
  subst z
  exact h ((List.getElem?_inj (List.getElem?_eq_some_iff.mp h1).1 hn).mp (h1.trans h2.symm))
theorem setPar_two {i j : Nat} {o : List Bool} {cs : List Cell} {r r1 : Env} (ho : o.all (! ·) = true) (h : setPar (.two i j) o cs r = some r1) : ∃ a b, cs = [.val a, .val b] ∧ r1 = (r.set i (.val a)).set j (.val b) := by
  rcases o with _ | ⟨o1, _ | ⟨o2, _ | ⟨_, _⟩⟩⟩ <;> try (simp [setPar] at h; done)
  rcases cs with _ | ⟨c1, _ | ⟨c2, _ | ⟨_, _⟩⟩⟩ <;> try (simp [setPar] at h; done)
  simp only [List.all_cons, List.all_nil, Bool.and_true, Bool.and_eq_true, Bool.not_eq_true'] at ho
  obtain ⟨rfl, rfl⟩ := ho
  cases c1 <;> simp only [setPar, setO, Option.bind_none, Option.bind_some, reduceCtorEq] at h
  cases c2 <;> simp only [setPar, setO, Option.bind_none, Option.bind_some, reduceCtorEq] at h
  cases h
  exact ⟨_, _, rfl, rfl⟩
theorem setPar_three {i j l : Nat} {o : List Bool} {cs : List Cell} {r r1 : Env} (ho : o.all (! ·) = true) (h : setPar (.three i j l) o cs r = some r1) : ∃ a b c, cs = [.val a, .val b, .val c] ∧ r1 = ((r.set i (.val a)).set j (.val b)).set l (.val c) := by
  rcases o with _ | ⟨o1, _ | ⟨o2, _ | ⟨o3, _ | ⟨_, _⟩⟩⟩⟩ <;> try (simp [setPar] at h; done)
  rcases cs with _ | ⟨c1, _ | ⟨c2, _ | ⟨c3, _ | ⟨_, _⟩⟩⟩⟩ <;> try (simp [setPar] at h; done)
  simp only [List.all_cons, List.all_nil, Bool.and_true, Bool.and_eq_true, Bool.not_eq_true'] at ho
  obtain ⟨rfl, rfl, rfl⟩ := ho
  cases c1 <;> simp only [setPar, setO, Option.bind_none, Option.bind_some, reduceCtorEq] at h
  cases c2 <;> simp only [setPar, setO, Option.bind_none, Option.bind_some, reduceCtorEq] at h
  cases c3 <;> simp only [setPar, setO, Option.bind_none, Option.bind_some, reduceCtorEq] at h
  cases h
  exact ⟨_, _, _, rfl, rfl⟩
/-- by way of a tuple -/
theorem rd_par_tup {t : Tg} {as : E} {o : List Bool} (hs : ∀ cs (r r1 : Env), setPar t o cs r = some r1 → ∃ ds, vals? cs = some ds ∧ ds.length ≤ lim ∧ setT t (.tuple ds) r = some r1) {D : Ends} {σ : St} {H : Hp} (h : tO X.K cl W (evS Φ (.par t o as)) D σ H) :
    tA X.K cl W Φ as σ H (fun vs H1 => vs.length ≤ sizeLine ∧ ∀ p, H1 p = none → gT X.K t (.ref p) σ (upd H1 p (.tup vs)) D.nx) := by
  obtain ⟨F0, H0, da0, F, da, r, g, RS, p⟩ := h
  refine ⟨F, da, r, g, RS.rep, PostS.st RS p fun cs g1 vs F1 H1 n ao RS1 p1 => ?_⟩
  cases es : setPar t o cs r with
  | none => simp only [es] at p1; exact False.elim p1
  | some r1 =>
    simp only [es] at p1
    obtain ⟨ds, e1, e2, e3⟩ := hs cs r r1 es
    have ra := args_vals ao e1
    refine ⟨by rw [ra.length]; exact lim_line' e2, fun pp hp => ?_⟩
    have al := Al.one (o := .tup vs) RS1.rep.sub hp
    have RS2 := RS1.nx (Nx.of_al RS1.rep.gok al)
    exact rd_TS RS2 (.tup upd_same (ra.mono al.fr) e2) e3 fun σ1 RS3 => p1 σ1 _ _ da RS3
theorem snd_par (h : YOk T cl Φ k W S X) {t : Tg} {o : List Bool} {as : E} {ts es : List Expr} {j j2 : Nat} {p p2 pos : Pos}
    (q : (okTg S t (.Tuple ts j p) && okA T as S es && o.all (! ·) && !(es.all (foldedForSure 8)) && !(es.all (constantsAlone 8)) && (es.length == ts.length) && (o.length == ts.length)) = true) : PS X (.Assign [.Tuple ts j p] (.Tuple es j2 p2) pos) (tO X.K cl W (evS Φ (.par t o as))) := by
  obtain ⟨y6, q7⟩ := and2 q
  obtain ⟨y5, q6⟩ := and2 y6
  obtain ⟨y4, q5⟩ := and2 y5
  obtain ⟨y3, q4⟩ := and2 y4
  obtain ⟨y2, q3⟩ := and2 y3
  obtain ⟨q1, q2⟩ := and2 y2
  clear q y6 y5 y4 y3 y2
  have pa := (snd (T := T) (cl := cl) (Φ := Φ) as).s h.x es q2
  have pg := pg_T h.x q1
  have hk : X.env.scope.kind = .function := by rw [h.x.hsc]; exact h.fk
  have hb := blockFn hk
  have ky : ∀ x, X.env.kindOf x = X.env.scope.names.lookup x := fun x => rfl
  have f1 : es.all (foldedForSure 8) = false := by simpa using q4
  have f2 : es.all (constantsAlone 8) = false := by simpa using q5
  have st := okA_star q2
  have q1' := q1
  unfold okTg at q1'
  split at q1'
  · rename_i heq; cases heq
  · rename_i i1 i2 a1 pa1 a2 pa2 _ _ heq
    cases heq
    obtain ⟨z, z3⟩ := and2 q1'
    obtain ⟨z1, z2⟩ := and2 z
    obtain ⟨m1, m2, m3⟩ := h.x.loc z1
    obtain ⟨n1, n2, n3⟩ := h.x.loc z2
    have hij := of_decide_eq_true z3
    match es, q6, st, pa, f1, f2 with
    | [u, v], _, st, pa, f1, f2 =>
      have sw := stores_two (px := pa1) (py := pa2) (pt := p) (pt2 := p2) (kt := j) (k2 := j2) hb (st u (.head _)) (st v (.tail _ (.head _))) (not_same h.x.ndX m1 n1 hij) f1 f2
      split at sw
      · rename_i hc
        obtain ⟨c1, c2⟩ := and2 hc
        obtain ⟨c2, _⟩ := and2 c2
        refine impS (ps_par h.x.calm h.x.ndX m1 n1 hij (isLo_iff.mp c1) (isLo_iff.mp c2) pa sw) fun D σ H hq => ?_
        obtain ⟨F0, H0, da0, F, da, r, g, RS, p⟩ := hq
        refine ⟨F, da, r, g, RS.rep, PostS.st RS p fun cs g1 vs F1 H1 n ao RS1 p1 => ?_⟩
        cases es : setPar (.two i1 i2) o cs r with
        | none => simp only [es] at p1; exact False.elim p1
        | some r1 =>
          simp only [es] at p1
          obtain ⟨a, b, rfl, rfl⟩ := setPar_two q3 es
          cases args_vals ao rfl with
          | cons r1 h2 => cases h2 with
            | cons r2 h2 => cases h2; exact ⟨_, _, rfl, p1 _ F1 H1 da ((RS1.set r1).set r2)⟩
      · refine impS (ps_asg (pe_tup pa) pg sole_T sw rfl) fun D σ H hq => rd_par_tup (fun cs r r1 e => ?_) hq
        obtain ⟨a, b, rfl, rfl⟩ := setPar_two q3 e
        exact ⟨[a, b], rfl, by simp [lim], rfl⟩
  · rename_i i1 i2 i3 a1 pa1 a2 pa2 a3 pa3 _ _ heq
    cases heq
    obtain ⟨z, z6⟩ := and2 q1'
    obtain ⟨z, z5⟩ := and2 z
    obtain ⟨z, z4⟩ := and2 z
    obtain ⟨z, z3⟩ := and2 z
    obtain ⟨z1, z2⟩ := and2 z
    obtain ⟨m1, m2, m3⟩ := h.x.loc z1
    obtain ⟨n1, n2, n3⟩ := h.x.loc z2
    obtain ⟨l1, l2, l3⟩ := h.x.loc z3
    have h12 := of_decide_eq_true z4
    have h13 := of_decide_eq_true z5
    have h23 := of_decide_eq_true z6
    match es, q6, st, pa, f1, f2 with
    | [u, v, w], _, st, pa, f1, f2 =>
      have sw := stores_three (px := pa1) (py := pa2) (pz := pa3) (pt := p) (pt2 := p2) (kt := j) (k2 := j2) hb (st u (.head _)) (st v (.tail _ (.head _))) (st w (.tail _ (.tail _ (.head _)))) (not_same h.x.ndX m1 n1 h12) (not_same h.x.ndX m1 l1 h13) (not_same h.x.ndX n1 l1 h23) f1 f2
      split at sw
      · rename_i hc
        obtain ⟨c1, c2⟩ := and2 hc
        obtain ⟨c2, c3⟩ := and2 c2
        obtain ⟨c2, _⟩ := and2 c2
        obtain ⟨c3, _⟩ := and2 c3
        refine impS (ps_par3 h.x.calm h.x.ndX m1 n1 l1 h12 h13 h23 (isLo_iff.mp c1) (isLo_iff.mp c2) (isLo_iff.mp c3) pa sw) fun D σ H hq => ?_
        obtain ⟨F0, H0, da0, F, da, r, g, RS, p⟩ := hq
        refine ⟨F, da, r, g, RS.rep, PostS.st RS p fun cs g1 vs F1 H1 n ao RS1 p1 => ?_⟩
        cases es : setPar (.three i1 i2 i3) o cs r with
        | none => simp only [es] at p1; exact False.elim p1
        | some r1 =>
          simp only [es] at p1
          obtain ⟨a, b, c, rfl, rfl⟩ := setPar_three q3 es
          cases args_vals ao rfl with
          | cons r1 h2 => cases h2 with
            | cons r2 h2 => cases h2 with
              | cons r3 h2 => cases h2; exact ⟨_, _, _, rfl, p1 _ F1 H1 da (((RS1.set r1).set r2).set r3)⟩
      · refine impS (ps_asg (pe_tup pa) pg sole_T sw rfl) fun D σ H hq => rd_par_tup (fun cs r r1 e => ?_) hq
        obtain ⟨a, b, c, rfl, rfl⟩ := setPar_three q3 e
        exact ⟨[a, b, c], rfl, by simp [lim], rfl⟩
  · cases q1'
theorem snd_mk3 (h : YOk T cl Φ k W S X) {i j l : Nat} {a b c : Str} {pa pb pc pt pt2 p1 p2 p3 pos : Pos} {kt k2 : Nat}
    (q : (okL S i a && okL S j b && okL S l c && decide (i ≠ j) && decide (i ≠ l) && decide (j ≠ l) && (isLo (S.sc.names.lookup a) && ((isLo (S.sc.names.lookup b) && (pb.line == pa.line)) && (isLo (S.sc.names.lookup c) && (pc.line == pa.line))))) = true) :
    PS X (.Assign [.Tuple [.Name a pa, .Name b pb, .Name c pc] kt pt] (.Tuple [.List [] p1, .List [] p2, .List [] p3] k2 pt2) pos) (tO X.K cl W (evS Φ (.mk3 i j l))) := by
  obtain ⟨q, q7⟩ := and2 q
  obtain ⟨q, q6⟩ := and2 q
  obtain ⟨q, q5⟩ := and2 q
  obtain ⟨q, q4⟩ := and2 q
  obtain ⟨q, q3⟩ := and2 q
  obtain ⟨q1, q2⟩ := and2 q
  obtain ⟨m1, m2, m3⟩ := h.x.loc q1
  obtain ⟨n1, n2, n3⟩ := h.x.loc q2
  obtain ⟨l1, l2, l3⟩ := h.x.loc q3
  have h12 := of_decide_eq_true q4
  have h13 := of_decide_eq_true q5
  have h23 := of_decide_eq_true q6
  have hk : X.env.scope.kind = .function := by rw [h.x.hsc]; exact h.fk
  have hb := blockFn hk
  have sw := stores_three (px := pa) (py := pb) (pz := pc) (pt := pt) (pt2 := pt2) (kt := kt) (k2 := k2) (a := .List [] p1) (b := .List [] p2) (c := .List [] p3) hb rfl rfl rfl (not_same h.x.ndX m1 n1 h12) (not_same h.x.ndX m1 l1 h13) (not_same h.x.ndX n1 l1 h23) rfl rfl
  have hc : (isLo (X.env.kindOf a) && ((isLo (X.env.kindOf b) && (pb.line == pa.line)) && (isLo (X.env.kindOf c) && (pc.line == pa.line)))) = true := by
    show (isLo (X.env.scope.names.lookup a) && ((isLo (X.env.scope.names.lookup b) && (pb.line == pa.line)) && (isLo (X.env.scope.names.lookup c) && (pc.line == pa.line)))) = true
    rw [h.x.hsc]
    exact q7
  rw [if_pos hc] at sw
  obtain ⟨c1, c2⟩ := and2 hc
  obtain ⟨c2, c3⟩ := and2 c2
  obtain ⟨c2, _⟩ := and2 c2
  obtain ⟨c3, _⟩ := and2 c3
  refine impS (ps_par3 h.x.calm h.x.ndX m1 n1 l1 h12 h13 h23 (isLo_iff.mp c1) (isLo_iff.mp c2) (isLo_iff.mp c3) (pa_cons (pe_lst pa_nil) (pa_cons (pe_lst pa_nil) (pa_cons (pe_lst pa_nil) pa_nil))) sw) fun D σ H hq => ?_
  obtain ⟨F0, H0, da0, F, da, r, g, RS, p⟩ := hq
  refine ⟨Nat.zero_le _, fun y1 e1 => ⟨Nat.zero_le _, fun y2 e2 => ⟨Nat.zero_le _, fun y3 e3 => ⟨_, _, _, rfl, ?_⟩⟩⟩⟩
  exact p _ F _ da (((RS.mk' e1 .nil (Nat.zero_le _)).mk' e2 .nil (Nat.zero_le _)).mk' e3 .nil (Nat.zero_le _))
end
end Tl
end
section
set_option Elab.async false
set_option linter.all false
set_option autoImplicit false
set_option maxRecDepth 100000
namespace Tl
open PySem PySem.Spec PyProof.Rows L2
section
variable {T : Tab} {cl : Cls} {Φ : Nat → Fn} {k : Nat} {W : WX} {S : Stat} {X : Cx} {K : PySem.W.Frag}
/-! ### l.remove(x) -/
theorem erase_mapS : ∀ (l : List Str) (j : Nat), (l.map V.str).eraseIdx j = (l.eraseIdx j).map V.str
  | [], j => by simp
  | a :: r, 0 => by simp
  | a :: r, j + 1 => by
    have ih := erase_mapS r j
    simp [ih]
def rRemS : V → List V → Hp → VK → Prop := fun x xs H Q => ∃ (l : Addr) (ns : List Str) (k : Str) (j : Nat), x = .ref l ∧ xs = [.str k] ∧ H l = some (.lst (ns.map V.str)) ∧ ns[j]? = some k ∧ (∀ m : Nat, m < j → ns[m]? ≠ some k) ∧ Q .non (upd H l (.lst ((ns.eraseIdx j).map V.str)))
theorem mt_removeS : MtM X "list.remove" rRemS := by
  intro pins s σ H x xs v us Q I rx rxs h
  obtain ⟨l, ns, k, j, rfl, rfl, hH, hj, hno, q⟩ := h
  cases rx
  obtain ⟨u, rfl, ru⟩ := rxs.one
  obtain ⟨t, rfl⟩ := ru
  obtain ⟨z, its, n, r, hl, e⟩ := I.lstM hH
  have hi := r.strs
  rw [List.length_map] at hl z
  have at_ : ∀ (m : Nat) (y : Str), ns[m]? = some y → ∃ tm, its[m]? = some (.str y tm) := fun m y hm => by
    obtain ⟨u, hu, ru⟩ := r.get (i := m) (x := .str y) (by rw [List.getElem?_map, hm]; rfl)
    obtain ⟨tm, rfl⟩ := ru
    exact ⟨tm, hu⟩
  have hjn : j < ns.length := (List.getElem?_eq_some_iff.mp hj).1
  have hjl : j < its.toArray.size := by rw [List.size_toArray]; omega
  refine call_meets PySem.F.slot_list_remove ⟨_, e, rfl⟩ PySem.F.entry_list_remove (PySem.F.args_list_remove_2 _ _)
    (MeetsSeq.list_remove l its.toArray n (.str k t) (isStrOf k) (fun y hy => eq_isStrOf k t hi y (by simpa using hy)) j hjl ?_ ?_ (by rw [List.size_toArray]; omega)) ⟨e, ?_⟩
  · obtain ⟨tj, hjt⟩ := at_ j k hj
    obtain ⟨h1, h2⟩ := List.getElem?_eq_some_iff.mp hjt
    have e1 : its.toArray[j] = .str k tj := by simpa using h2
    rw [e1]
    exact beq_self_eq_true k
  · intro m hm hmj
    have hmn : m < ns.length := by omega
    obtain ⟨tm, hmt⟩ := at_ m _ (List.getElem?_eq_getElem hmn)
    obtain ⟨h1, h2⟩ := List.getElem?_eq_some_iff.mp hmt
    have e1 : its.toArray[m] = .str ns[m] tm := by simpa using h2
    rw [e1]
    refine beq_eq_false_iff_ne.mpr fun e2 => hno m hmj ?_
    rw [List.getElem?_eq_getElem hmn, e2]
  · have rr := r.eraseIdx j
    rw [erase_mapS] at rr
    refine ⟨.non, _, I.lset (its' := its.eraseIdx j) (t' := s.toks) hH e ?_ rr ?_, rfl, q⟩
    · show its.toArray.eraseIdxIfInBounds j = (its.eraseIdx j).toArray
      rw [List.eraseIdxIfInBounds_toArray]
    · have z2 : (ns.eraseIdx j).length ≤ ns.length := by rw [List.length_eraseIdx]; split <;> omega
      rw [List.length_map]
      omega
def rRem : V → List V → Hp → VK → Prop := fun x xs H Q => rRemI x xs H Q ∨ rRemS x xs H Q
theorem mt_rem : MtM X "list.remove" rRem := fun pins s σ H x xs v us Q I rx rxs h => by
  rcases h with h | h
  · exact mt_remove pins s σ H x xs v us Q I rx rxs h
  · exact mt_removeS pins s σ H x xs v us Q I rx rxs h
theorem ra_ints {F : Hp} : ∀ {ds : List D} {ns : List Int} {xs : List V}, toInts ds = some ns → RpAll F xs ds → xs = ns.map V.int
  | [], ns, xs, h, ra => by cases h; cases ra; rfl
  | d :: ds, ns, xs, h, ra => by
    cases ra with
    | cons r t =>
      cases d with
      | int i =>
        simp only [toInts] at h
        cases q : toInts ds with
        | none => rw [q] at h; cases h
        | some ms =>
          rw [q] at h
          cases h
          cases r
          rw [ra_ints q t]
          rfl
      | _ => simp [toInts] at h
theorem ra_strs {F : Hp} : ∀ {ds : List D} {ns : List Str} {xs : List V}, toStrs ds = some ns → RpAll F xs ds → xs = ns.map V.str
  | [], ns, xs, h, ra => by cases h; cases ra; rfl
  | d :: ds, ns, xs, h, ra => by
    cases ra with
    | cons r t =>
      cases d with
      | str i =>
        simp only [toStrs] at h
        cases q : toStrs ds with
        | none => rw [q] at h; cases h
        | some ms =>
          rw [q] at h
          cases h
          cases r
          rw [ra_strs q t]
          rfl
      | _ => simp [toStrs] at h
theorem ra_erase {F : Hp} : ∀ {ds : List D} {xs : List V} (j : Nat), RpAll F xs ds → RpAll F (xs.eraseIdx j) (ds.eraseIdx j)
  | _, _, _, .nil => by simp; exact .nil
  | _, _, 0, .cons r t => t
  | _, _, j + 1, .cons r t => .cons r (ra_erase j t)
theorem snd_rem (h : YOk T cl Φ k W S X) {i : Nat} {e : E} {a m : Str} {p ap cp pos : Pos} {y : Expr} (q : (decide (m = ("remove" : Str)) && okV S i a && noStar y && (ap.endLine == cp.line) && okE T e S y) = true) :
    PS X (.Expr (.Call (.Attribute (.Name a p) m ap) [y] [] cp) pos) (tO X.K cl W (evS Φ (.rem i e))) := by
  obtain ⟨q, q5⟩ := and2 q
  obtain ⟨q, q4⟩ := and2 q
  obtain ⟨q, q3⟩ := and2 q
  obtain ⟨q1, q2⟩ := and2 q
  have em := of_decide_eq_true q1
  subst em
  refine impS (ps_expr (pe_bm PySem.F.plainAttrs_list PySem.F.slot_list_remove PySem.F.type_list_remove mt_rem (h.x.var q2) (pa_cons ((snd e).e h.x y q5) pa_nil (star_ok q3)) rfl (by rw [star_ok q3]; rfl) q4 (star_ok q3) rfl) rfl) fun D σ H hq => ?_
  obtain ⟨F0, H0, da0, F, da, r, g, RS, p⟩ := hq
  simp only [evS] at p
  cases ei : r[i]? with
  | none => rw [ei] at p; exact False.elim p
  | some c =>
    rw [ei] at p
    cases c with
    | own ds =>
      obtain ⟨ad, e1, xs, e2, e3, e4, e5, e6⟩ := RS.rep.slot i _ ei
      refine ⟨.ref ad, e1, .inl ⟨rfl, xs, .inl (.inl e2)⟩, F, da, r, g, RS.rep, PostS.st RS p fun d g1 v F1 H1 n rl RS1 p1 => ?_⟩
      have k1 := n.keep _ _ e2 e4
      have ll : ∀ j, (ds.eraseIdx j).length ≤ lim := fun j => by
        have : (ds.eraseIdx j).length ≤ ds.length := by rw [List.length_eraseIdx]; split <;> omega
        omega
      cases d with
      | int kk =>
        cases rl
        cases eq : remD ds (.int kk) with
        | none => simp only [eq] at p1; exact False.elim p1
        | some es =>
          simp only [eq] at p1
          simp only [remD] at eq
          cases en : toInts ds with
          | none => rw [en] at eq; cases eq
          | some ns =>
            rw [en] at eq
            simp only [Option.bind_some] at eq
            cases ej : ns.findIdx? (· == kk) with
            | none => rw [ej] at eq; cases eq
            | some j =>
              rw [ej] at eq
              cases eq
              have ex := ra_ints en e5
              subst ex
              obtain ⟨⟨z, hz, hz2⟩, hno⟩ := findIdx_spec ej
              have hz3 : z = kk := by simpa using hz2
              subst hz3
              refine .inl ⟨ad, ns, z, j, rfl, rfl, k1, hz, fun m hm hz4 => by simpa using hno m _ hm hz4, ?_⟩
              rw [← erase_mapI]
              exact p1 σ F1 _ da (RS1.put ei e1 (ra_erase j (e5.mono n.fr)) (ll j))
      | str kk =>
        cases rl
        cases eq : remD ds (.str kk) with
        | none => simp only [eq] at p1; exact False.elim p1
        | some es =>
          simp only [eq] at p1
          simp only [remD] at eq
          cases en : toStrs ds with
          | none => rw [en] at eq; cases eq
          | some ns =>
            rw [en] at eq
            simp only [Option.bind_some] at eq
            cases ej : ns.findIdx? (· == kk) with
            | none => rw [ej] at eq; cases eq
            | some j =>
              rw [ej] at eq
              cases eq
              have ex := ra_strs en e5
              subst ex
              obtain ⟨⟨z, hz, hz2⟩, hno⟩ := findIdx_spec ej
              have hz3 : z = kk := by simpa using hz2
              subst hz3
              refine .inr ⟨ad, ns, z, j, rfl, rfl, k1, hz, fun m hm hz4 => by simpa using hno m _ hm hz4, ?_⟩
              rw [← erase_mapS]
              exact p1 σ F1 _ da (RS1.put ei e1 (ra_erase j (e5.mono n.fr)) (ll j))
      | _ => exact False.elim p1
    | _ => exact False.elim p
end
end Tl
end
section
set_option Elab.async false
set_option linter.all false
set_option autoImplicit false
set_option maxRecDepth 100000
namespace Tl
open PySem PySem.Spec PyProof.Rows L2
section
variable {T : Tab} {cl : Cls} {Φ : Nat → Fn} {k : Nat} {W : WX} {S : Stat} {X : Cx}
theorem sub_asg {o ix : Expr} {sp : Pos} {env : PySem.Env} (q : noSlice ix = true) : ∀ u, assign (.Subscript o ix sp) env u = (do
      let ov ← holding [u] (eval o env)
      let iv ← holding [u, ov] (eval ix env)
      standAt sp
      holding [u, ov, iv] (setItem ov iv u)
      release [u, ov, iv] []) := by
  intro u
  cases ix <;> first | rfl | simp [noSlice] at q
theorem stores_sub {env : PySem.Env} {o1 o2 i1 i2 : Expr} {s1 s2 pt pt2 : Pos} {kt k2 : Nat} {a b : Expr} : swappedStores [.Tuple [.Subscript o1 i1 s1, .Subscript o2 i2 s2] kt pt] (.Tuple [a, b] k2 pt2) env = pure none := by
  unfold swappedStores
  dsimp only
  split
  · rfl
  · split
    · rfl
    · rfl
theorem snd_seti2 (h : YOk T cl Φ k W S X) {i : Nat} {k1 k2 a b : E} {x1 x2 : Str} {p1 p2 s1 s2 pt pt2 pos : Pos} {kt kt2 : Nat} {i1 i2 v1 v2 : Expr}
    (q : (okV S i x1 && okV S i x2 && noSlice i1 && noSlice i2 && okE T k1 S i1 && okE T k2 S i2 && noStar v1 && noStar v2 && okE T a S v1 && okE T b S v2) = true) :
    PS X (.Assign [.Tuple [.Subscript (.Name x1 p1) i1 s1, .Subscript (.Name x2 p2) i2 s2] kt pt] (.Tuple [v1, v2] kt2 pt2) pos) (tO X.K cl W (evS Φ (.seti2 i k1 k2 a b))) := by
  obtain ⟨q, y10⟩ := and2 q
  obtain ⟨q, y9⟩ := and2 q
  obtain ⟨q, y8⟩ := and2 q
  obtain ⟨q, y7⟩ := and2 q
  obtain ⟨q, y6⟩ := and2 q
  obtain ⟨q, y5⟩ := and2 q
  obtain ⟨q, y4⟩ := and2 q
  obtain ⟨q, y3⟩ := and2 q
  obtain ⟨y1, y2⟩ := and2 q
  have sn := fun e => snd (T := T) (cl := cl) (Φ := Φ) e
  refine impS (ps_asg (pe_tup (pa_cons ((sn a).e h.x v1 y9) (pa_cons ((sn b).e h.x v2 y10) pa_nil (star_ok y8)) (star_ok y7))) (pg_tup h.x.calm (pgs_cons (pg_sub (h.x.var y1) ((sn k1).e h.x i1 y5) set_list (sub_asg y3)) (pgs_cons (pg_sub (h.x.var y2) ((sn k2).e h.x i2 y6) set_list (sub_asg y4)) pgs_nil))) sole_T stores_sub rfl) fun D σ H hq => ?_
  obtain ⟨F0, H0, da0, F, da, r, g, RS, p⟩ := hq
  simp only [evS] at p
  cases ei : r[i]? with
  | none => rw [ei] at p; exact False.elim p
  | some c =>
    rw [ei] at p
    cases c with
    | own ds =>
      obtain ⟨ad, e1, xs, e2, e3, e4, e5, e6⟩ := RS.rep.slot i _ ei
      refine ⟨F, da, r, g, RS.rep, PostS.st RS p fun d g1 v F1 H1 n rl RS1 p1 => ?_⟩
      refine ⟨F1, da, r, g1, RS1.rep, PostS.st RS1 p1 fun d2 g2 w F2 H2 n2 rl2 RS2 p2 => ?_⟩
      refine ⟨by simp [sizeLine_eq], fun pp hp => ?_⟩
      have al := Al.one (o := .tup [v, w]) RS2.rep.sub hp
      have RS3 := RS2.nx (Nx.of_al RS2.rep.gok al)
      have n3 := Nx.of_al RS2.rep.gok al
      refine ⟨pp, [v, w], rfl, .inl (.inl upd_same), rfl, v, [w], rfl, ?_⟩
      refine ⟨.ref ad, e1, _, da, r, g2, RS3.rep, PostS.st RS3 p2 fun kd g4 kv F4 H4 n4 rl4 RS4 p4 => ?_⟩
      cases kd with
      | int kk =>
        cases rl4
        cases eb : ixN ds.length kk with
        | none => simp only [eb] at p4; exact False.elim p4
        | some j =>
          simp only [eb] at p4
          have kp := n4.keep _ _ (n3.keep _ _ (n2.keep _ _ (n.keep _ _ e2 e4) e4) e4) e4
          refine ⟨ad, xs, kk, j, rfl, rfl, kp, by rw [e5.length]; exact eb, ?_⟩
          have RS5 := RS4.put ei e1 (((((e5.mono n.fr).mono n2.fr).mono n3.fr).mono n4.fr).set (((rl.mono n2.fr).mono n3.fr).mono n4.fr) j) (by rw [List.length_set]; exact e6)
          have hl : i < r.length := (List.getElem?_eq_some_iff.mp ei).1
          have ei2 : (r.set i (.own (ds.set j d)))[i]? = some (.own (ds.set j d)) := List.getElem?_set_self hl
          refine ⟨w, [], rfl, .ref ad, e1, _, da, _, g4, RS5.rep, PostS.st RS5 p4 fun kd g6 kv F6 H6 n6 rl6 RS6 p6 => ?_⟩
          cases kd with
          | int kk2 =>
            cases rl6
            cases eb2 : ixN ds.length kk2 with
            | none => simp only [eb2] at p6; exact False.elim p6
            | some j2 =>
              simp only [eb2] at p6
              obtain ⟨ad', z1, ys, z2, z3, z4, z5, z6⟩ := RS6.rep.slot i _ ei2
              have ez := e1.symm.trans z1
              cases ez
              refine ⟨ad, ys, kk2, j2, rfl, rfl, z2, by rw [z5.length, List.length_set]; exact eb2, rfl, ?_⟩
              have RS7 := RS6.put ei2 e1 (z5.set ((((rl2.mono n3.fr).mono n4.fr)).mono n6.fr) j2) (by rw [List.length_set]; exact z6)
              rw [List.set_set] at RS7
              exact p6 σ F6 _ da RS7
          | _ => exact False.elim p6
      | _ => exact False.elim p4
    | _ => exact False.elim p
theorem gt_list : PGet X (rIxL X.K) := by
  intro pins s σ H o ix ov iv Q I r1 r2 h
  obtain ⟨p, xs, i, z, rfl, rfl, hq, he, q⟩ := h
  cases r1
  obtain ⟨t, rfl⟩ := r2
  obtain ⟨its, r, pl, hz⟩ := I.list hq
  obtain ⟨j, h1, h2, h3, h4, h5⟩ := atI_get he
  obtain ⟨w, ew, rw'⟩ := r.get h2
  have hl := r.length
  have hn := line63
  have fin : EP X pins σ Q w s := ⟨z, H, I, rw', q⟩
  by_cases h0 : 0 ≤ i
  · have hj : i.toNat = j := by
      rw [seqIndex_of h0 h5] at h1
      exact Option.some.inj h1
    exact wpAny_getItem_list pl.isList h0 (by omega) (by rw [hj]; simpa using ew) fin
  · have hj : (i + (its.toArray.size : Int)).toNat = j := by
      rw [seqIndex_neg (by omega) h4] at h1
      rw [List.size_toArray, ← hl]
      exact Option.some.inj h1
    exact wpAny_getItem_list_neg pl.isList (by omega) (by rw [List.size_toArray] <;> omega) (by omega) (by rw [hj]; simpa using ew) fin
theorem aug_plain {ix : Expr} (q : noSlice ix = true) : ∀ ov iv new, augStore ix ov iv new = (do holding [new, ov, iv] (setItem ov iv new); release [new, ov, iv] []; pure .next) := by
  intro ov iv new
  cases ix <;> first | rfl | simp [noSlice] at q
theorem snd_augi (h : YOk T cl Φ k W S X) {i : Nat} {kx e : E} {a : Str} {p sp pos : Pos} {ix v : Expr} (q : (okV S i a && noSlice ix && okE T kx S ix && okE T e S v) = true) :
    PS X (.AugAssign (.Subscript (.Name a p) ix sp) .Add v pos) (tO X.K cl W (evS Φ (.augi i kx .add e))) := by
  obtain ⟨q, q4⟩ := and2 q
  obtain ⟨q, q3⟩ := and2 q
  obtain ⟨q1, q2⟩ := and2 q
  refine impS (ps_augS (h.x.var q1) ((snd kx).e h.x ix q3) gt_list ((snd e).e h.x v q4) (pip_of iop_add) set_list (aug_plain q2)) fun D σ H hq => ?_
  obtain ⟨F0, H0, da0, F, da, r, g, RS, p⟩ := hq
  simp only [evS] at p
  cases ei : r[i]? with
  | none => rw [ei] at p; exact False.elim p
  | some c =>
    rw [ei] at p
    cases c with
    | own ds =>
      obtain ⟨ad, e1, xs, e2, e3, e4, e5, e6⟩ := RS.rep.slot i _ ei
      refine ⟨.ref ad, e1, F, da, r, g, RS.rep, PostS.st RS p fun kd g1 kv F1 H1 n rl RS1 p1 => ?_⟩
      cases kd with
      | int kk =>
        cases rl
        cases eb : ixN ds.length kk with
        | none => simp only [eb, Option.bind_none] at p1; exact False.elim p1
        | some j =>
          simp only [eb, Option.bind_some] at p1
          cases ex : ds[j]? with
          | none => rw [ex] at p1; exact False.elim p1
          | some dx =>
            rw [ex] at p1
            cases dx with
            | int x =>
              simp only at p1
              obtain ⟨vx, h1, h2⟩ := e5.get ex
              cases h2
              have k1 := n.keep _ _ e2 e4
              refine ⟨ad, xs, kk, .int x, rfl, rfl, .inl (.inl k1), ?_, F1, da, r, g1, RS1.rep, PostS.st RS1 p1 fun yd g2 yv F2 H2 n2 rl2 RS2 p2 => ?_⟩
              · have eb2 : L2.ixN xs.length kk = some j := by rw [e5.length]; exact eb
                unfold L2.atI
                rw [eb2]
                exact h1
              cases yd with
              | int y =>
                cases rl2
                simp only [bop] at p2
                have k2 := n2.keep _ _ k1 e4
                refine ⟨x, y, rfl, rfl, ad, xs, kk, j, rfl, rfl, k2, by rw [e5.length]; exact eb, ?_⟩
                exact p2 σ F2 _ da (RS2.put ei e1 (((e5.mono n.fr).mono n2.fr).set (.int _) j) (by rw [List.length_set]; exact e6))
              | _ => exact False.elim p2
            | _ => exact False.elim p1
      | _ => exact False.elim p1
    | _ => exact False.elim p
end
end Tl
end
section
set_option Elab.async false
set_option linter.all false
set_option autoImplicit false
set_option maxRecDepth 100000
namespace Tl
open PySem PySem.Spec PyProof.Rows L2
/-! ### an exception is caught and kept -/
section
variable {K : PySem.W.Frag} {cl : Cls} {F0 H0 : Hp} {da0 : DA} {F H : Hp} {da : DA} {σ : St} {r : Env} {g : G}
theorem RepS.setX {j c : Nat} {a : Addr} (h : RepS K cl F0 H0 da0 F H da σ r g) (q : F a = some (ExH (.ref (cl c)) none a)) : RepS K cl F0 H0 da0 F H da (σ.set j (some (.ref a))) (r.set j (.exn c)) g := by
  refine ⟨⟨h.rep.sub, h.rep.gok, fun i x e => ?_, by rw [List.length_set, List.length_set]; exact h.rep.len, fun i k b ds es e1 e2 e3 e4 => ?_, h.rep.nod, h.rep.apt.set (fun _ z => by cases z) (fun _ _ _ z => by cases z), h.rep.apd.set fun _ z => by cases z⟩, h.fr0, h.keep0, h.new0, h.tho0, fun i ds b e1 e2 => ?_, h.dah, fun i x y z t p q s e1 e2 e3 => by
    rcases set_lt e1 with ⟨_, z, _⟩ | ⟨hi, e1⟩
    · cases z
    · rw [List.getElem?_set_ne hi] at e2
      exact h.own0t i x y z t p q s e1 e2 e3, fun i x b e1 e2 => by
    rcases set_lt e1 with ⟨_, z, _⟩ | ⟨hi, e1⟩
    · cases z
    · rw [List.getElem?_set_ne hi] at e2
      exact h.own0d i x b e1 e2⟩
  · rcases set_lt e with ⟨rfl, rfl, hl⟩ | ⟨hj, e⟩
    · rw [List.getElem?_set_self (by rw [← h.rep.len]; exact hl)]
      exact ⟨a, rfl, q⟩
    · rw [List.getElem?_set_ne hj]
      exact h.rep.slot i x e
  · rcases set_lt e1 with ⟨_, z, _⟩ | ⟨hi, e1'⟩
    · cases z
    · rcases set_lt e2 with ⟨_, z, _⟩ | ⟨hk, e2'⟩
      · cases z
      · rw [List.getElem?_set_ne hi] at e3
        rw [List.getElem?_set_ne hk] at e4
        exact h.rep.apart i k b ds es e1' e2' e3 e4
  · rcases set_lt e1 with ⟨_, z, _⟩ | ⟨hi, e1'⟩
    · cases z
    · rw [List.getElem?_set_ne hi] at e2
      exact h.own0 i ds b e1' e2
/-- the state behind the clause -/
theorem RepS.caught {i j c : Nat} {a : Addr} (h : RepS K cl F0 H0 da0 F H da σ r g) (hij : i ≠ j) (ha : H a = none) :
    ∃ F', RepS K cl F0 H0 da0 F' (upd H a (ExH (.ref (cl c)) none a)) da (((σ.set i (some (.ref a))).set j (some (.ref a))).set i none) ((r.set i .und).set j (.exn c)) g := by
  have al := Al.one (o := ExH (.ref (cl c)) none a) h.rep.sub ha
  have h1 := h.nx (Nx.of_al h.rep.gok al)
  have h2 := (h1.wipe i (some (.ref a))).setX (j := j) (c := c) (a := a) upd_same
  have h3 := h2.wipe i none
  have e : ((r.set i .und).set j (.exn c)).set i .und = (r.set i .und).set j (.exn c) := by
    rw [List.set_comm _ _ (Ne.symm hij), List.set_set]
  rw [e] at h3
  exact ⟨_, h3⟩
end
section
variable {T : Tab} {cl : Cls} {Φ : Nat → Fn} {k : Nat} {W : WX} {S : Stat} {X : Cx}
theorem snd_try (h : YOk T cl Φ k W S X) {b : Sm} {i j : Nat} {x : Stmt} (hb : ∀ {W' : WX} {X' : Cx}, YOk T cl Φ k W' S X' → ∀ xs, okSs T b S xs = true → PSs X' xs (tO X'.K cl W' (evS Φ b))) (q : okS1 T (.try_ b i j) S x = true) : PS X x (tO X.K cl W (evS Φ (.try_ b i j))) := by
  simp only [okS1_asg, okS1_mk, okS1_par, okS1_mk3, okS1_unp, okS1_aug, okS1_drop, okS1_app, okS1_mkd, okS1_cntd, okS1_mkt, okS1_appt, okS1_rem, okS1_seti, okS1_seti2, okS1_augi, okS1_ite, okS1_for, okS1_whl, okS1_ret, okS1_brk, okS1_cont, okS1_raise, okS1_try, okS1_radd, okS1_rapp, okS1_rpop, okS1_mkr, okS1_mkr3, okS1_retr, okS1_dropc] at q
  split at q
  · rename_i body u pu n y py n' pn' ps pos' pos
    obtain ⟨q, q12⟩ := and2 q
    obtain ⟨q, q11⟩ := and2 q
    obtain ⟨q, q10⟩ := and2 q
    obtain ⟨q, q9⟩ := and2 q
    obtain ⟨q, q8⟩ := and2 q
    obtain ⟨q, q7⟩ := and2 q
    obtain ⟨q, q6⟩ := and2 q
    obtain ⟨q, q5⟩ := and2 q
    obtain ⟨q, q4⟩ := and2 q
    obtain ⟨q, q3⟩ := and2 q
    obtain ⟨q1, q2⟩ := and2 q
    have h6 := of_decide_eq_true q1
    have e := of_decide_eq_true q2
    subst e
    have e := of_decide_eq_true q4
    subst e
    have hij := of_decide_eq_true q9
    obtain ⟨L, mL, mV, mC, fx⟩ := h.x.exf h6
    obtain ⟨gl, dbg⟩ := h.x.gl q3
    have hk : ∀ {z : Str}, isLo (S.sc.names.lookup z) = true → X.env.kindOf z = some .local := fun {z} hz => by
      show X.env.scope.names.lookup z = _
      rw [h.x.hsc]
      exact isLo_iff.mp hz
    refine impS (ps_try_keep (x := ("ListError" : Str)) (c := .ref L) (i := i) (j := j) (tb := fun W' => tO X.K cl W' (evS Φ b)) (Wout := W) h.st h.fr h.x.ndX (by rw [h.x.hN]; exact of_decide_eq_true q5) (hk q6) (by rw [h.x.hN]; exact of_decide_eq_true q7) (hk q8) (by simpa using q10) (by simpa using q11) ⟨gl, dbg, .inl mL⟩ h.tk h.ex0
      fun W' pn xe tk hp => hb (h.tr tk hp) _ q12) fun D σ H hq => ?_
    obtain ⟨F0, H0, da0, F, da, r, g, RS, p⟩ := hq
    refine ⟨F0, H0, da0, F, da, r, g, RS, ?_⟩
    simp only [evS] at p
    cases e : evS Φ b r g with
    | ex c r1 g1 =>
      rw [e] at p
      have p : PostS X.K cl W F0 H0 da0 D (if c < 6 then .nx ((r1.set i .und).set j (.exn c)) g1 else .bad) := p
      intro σ' F' H' da' q
      by_cases hc : c < 6
      · rw [if_pos hc] at p
        refine ⟨true, (fx c hc).2.2.2.1, fun _ a ha => ?_, fun z => nomatch z⟩
        obtain ⟨F2, R2⟩ := q.caught (i := i) (j := j) (c := c) hij ha
        exact p _ _ _ _ R2
      · rw [if_neg hc] at p
        exact p.elim
    | nx r1 g1 => rw [e] at p; exact p
    | rt d g1 => rw [e] at p; exact p
    | ro g1 => rw [e] at p; exact p
    | bk r1 g1 => rw [e] at p; exact p
    | ct r1 g1 => rw [e] at p; exact p
    | bad => rw [e] at p; exact p
  · cases q
end
end Tl
end
section
set_option Elab.async false
set_option linter.all false
set_option autoImplicit false
set_option maxRecDepth 100000
namespace Tl
open PySem PySem.Spec PyProof.Rows L2
section
variable {T : Tab} {cl : Cls} {Φ : Nat → Fn} {k : Nat} {W : WX} {S : Stat} {X : Cx}
theorem snd_mkt (h : YOk T cl Φ k W S X) {i : Nat} {a : Str} {p p1 p2 p3 pt pos : Pos} {kt : Nat} (q : okL S i a = true) :
    PS X (.Assign [.Name a p] (.Tuple [.List [] p1, .List [] p2, .List [] p3] kt pt) pos) (tO X.K cl W (evS Φ (.mkt i))) := by
  obtain ⟨l1, l2, l3⟩ := h.x.loc q
  refine impS (ps_set h.x.ndX l1 l2 (pe_tup (pa_cons (pe_lst pa_nil) (pa_cons (pe_lst pa_nil) (pa_cons (pe_lst pa_nil) pa_nil)))) rfl l3) fun D σ H hq => ?_
  obtain ⟨F0, H0, da0, F, da, r, g, RS, p⟩ := hq
  simp only [evS] at p
  split at p
  · rename_i hno
    have hno : ∀ (j : Nat) (a b c : List Tl.D), r[j]? ≠ some (.ot a b c) := fun j a b c e => by
      have := List.all_eq_true.mp hno _ (List.mem_of_getElem? e)
      cases this
    refine ⟨Nat.zero_le _, fun y1 e1 => ⟨Nat.zero_le _, fun y2 e2 => ⟨Nat.zero_le _, fun y3 e3 => ⟨by rw [sizeLine_eq]; simp, fun y4 e4 => ?_⟩⟩⟩⟩
    have f1 : H y1 = none := e1
    have s1 := same_upd (o := .lst []) e1
    have s2 := same_upd (o := .lst []) e2
    have s3 := same_upd (o := .lst []) e3
    have s4 := same_upd (o := .tup [.ref y1, .ref y2, .ref y3]) e4
    have n21 : y2 ≠ y1 := fun z => by rw [z, upd_same] at e2; cases e2
    have n32 : y3 ≠ y2 := fun z => by rw [z, upd_same] at e3; cases e3
    have n31 : y3 ≠ y1 := fun z => by rw [z, upd_ne (Ne.symm n21), upd_same] at e3; cases e3
    have n43 : y4 ≠ y3 := fun z => by rw [z, upd_same] at e4; cases e4
    have n42 : y4 ≠ y2 := fun z => by rw [z, upd_ne (Ne.symm n32), upd_same] at e4; cases e4
    have n41 : y4 ≠ y1 := fun z => by rw [z, upd_ne (Ne.symm n31), upd_ne (Ne.symm n21), upd_same] at e4; cases e4
    have f2 : H y2 = none := by rw [← e2, upd_ne n21]
    have f3 : H y3 = none := by rw [← e3, upd_ne n32, upd_ne n31]
    have f4 : H y4 = none := by rw [← e4, upd_ne n43, upd_ne n42, upd_ne n41]
    have ss := ((s1.trans s2).trans s3).trans s4
    have al : Al F H F _ := ⟨Same.refl F, RS.rep.sub.trans ss, fun b o e => ss b o e, fun _ _ _ n => .inl n⟩
    have RS1 := RS.nx (Nx.of_al RS.rep.gok al)
    have z0 : ∀ b, H b = none → H0 b = none := fun b hb => by
      cases q : H0 b with
      | none => rfl
      | some o =>
        obtain ⟨o', e'⟩ := RS.tho0 _ o q
        rw [hb] at e'
        cases e'
    refine p _ F _ da (RS1.addT hno upd_same (s4 _ _ (s3 _ _ (s2 _ _ upd_same))) (s4 _ _ (s3 _ _ upd_same)) (s4 _ _ upd_same) (RS.rep.sub.free f4) (RS.rep.sub.free f1) (RS.rep.sub.free f2) (RS.rep.sub.free f3) (RS.rep.gok.notDr f4) (RS.rep.gok.notDr f1) (RS.rep.gok.notDr f2) (RS.rep.gok.notDr f3) (z0 _ f4) (z0 _ f1) (z0 _ f2) (z0 _ f3) (Ne.symm n21) (Ne.symm n31) (Ne.symm n32) fun j ds b g1 g2 => ?_)
    obtain ⟨b', w1, xs, w2, _⟩ := RS.rep.slot j _ g1
    rw [w1] at g2
    cases g2
    exact ⟨ne_of_none w2 f1, ne_of_none w2 f2, ne_of_none w2 f3⟩
  · exact False.elim p
theorem snd_appt (h : YOk T cl Φ k W S X) {i : Nat} {kx e : E} {a m : Str} {p sp ap cp pos : Pos} {ix y : Expr} (q : (decide (m = ("append" : Str)) && okV S i a && noSlice ix && okE T kx S ix && noStar y && (ap.endLine == cp.line) && okE T e S y) = true) :
    PS X (.Expr (.Call (.Attribute (.Subscript (.Name a p) ix sp) m ap) [y] [] cp) pos) (tO X.K cl W (evS Φ (.appt i kx e))) := by
  obtain ⟨q, q7⟩ := and2 q
  obtain ⟨q, q6⟩ := and2 q
  obtain ⟨q, q5⟩ := and2 q
  obtain ⟨q, q4⟩ := and2 q
  obtain ⟨q, q3⟩ := and2 q
  obtain ⟨q1, q2⟩ := and2 q
  have em := of_decide_eq_true q1
  subst em
  refine impS (ps_expr (pe_bm PySem.F.plainAttrs_list PySem.F.slot_list_append PySem.F.type_list_append mt_append (pe_ix ix_seq (h.x.var q2) ((snd kx).e h.x ix q4) (slice_ok q3)) (pa_cons ((snd e).e h.x y q7) pa_nil (star_ok q5)) rfl (by rw [star_ok q5]; rfl) q6 (star_ok q5) rfl) rfl) fun D σ H hq => ?_
  obtain ⟨F0, H0, da0, F, da, r, g, RS, p⟩ := hq
  simp only [evS] at p
  cases ei : r[i]? with
  | none => rw [ei] at p; exact False.elim p
  | some c =>
    rw [ei] at p
    cases c with
    | ot dx dy dz =>
      obtain ⟨t, A, B, C, e1, ht, hFt, ndt, O1, O2, O3, pq, ps, qs⟩ := RS.rep.slot i _ ei
      refine ⟨.ref t, e1, F, da, r, g, RS.rep, PostS.st RS p fun kv g1 v F1 H1 n rl RS1 p1 => ?_⟩
      cases kv with
      | int kk =>
        cases rl
        simp only at p1
        cases ej : ixN 3 kk with
        | none => rw [ej] at p1; exact False.elim p1
        | some j =>
          rw [ej] at p1
          have p1 : PostS X.K cl W F0 H0 da0 D ((evE Φ e r g1).st r fun d g => match appO dx dy dz j d with
            | some cc => O.nx (r.set i cc) g
            | none => .bad) := p1
          have ht1 := n.keep _ _ ht ndt
          have P1 := O1.nx n
          have P2 := O2.nx n
          have P3 := O3.nx n
          match j, ej, p1 with
          | 0, ej, p1 =>
              obtain ⟨us, u1, u2, u3, u4, u5⟩ := P1
              have hat : atI [V.ref A, V.ref B, V.ref C] kk = some (.ref A) := by
                unfold atI
                show (ixN 3 kk).bind _ = _
                rw [ej]
                rfl
              refine .inr (.inl ⟨t, _, kk, .ref A, rfl, rfl, .inl (.inl ht1), hat, ?_⟩)
              refine ⟨.inl ⟨rfl, us, .inl (.inl u1)⟩, F1, da, r, g1, RS1.rep, PostS.st RS1 p1 fun d g2 v2 F2 H2 n2 rl2 RS2 p2 => ?_⟩
              simp only [appO] at p2
              split at p2
              · rename_i cc hcc
                split at hcc
                · rename_i hl
                  cases hcc
                  have k1 := n2.keep _ _ u1 u3
                  refine ⟨A, us, v2, rfl, rfl, k1, by rw [u4.length]; exact lim_line (Nat.le_of_lt hl), ?_⟩
                  obtain ⟨t', A', B', C', w1, w2, w3, w4, ⟨a1, a2, a3⟩, ⟨b1, b2, b3⟩, ⟨c1, c2, c3⟩, w8⟩ := RS2.rep.slot i _ ei
                  rw [e1] at w1
                  cases w1
                  rw [n2.keep _ _ ht1 ndt] at w2
                  cases w2
                  have ht2 := n2.keep _ _ ht1 ndt
                  have nt : t ≠ A := fun z => by rw [z, k1] at ht2; cases ht2
                  have nw : Ow F2 (upd H2 A (.lst (us ++ [v2]))) da A (dx ++ [d]) := ⟨us ++ [v2], upd_same, (n2.new _ _ u1 u2).resolve_right TupI.noL, u3, (u4.mono n2.fr).append (.cons rl2 .nil), by rw [List.length_append]; exact hl⟩
                  exact p2 σ F2 _ da (RS2.putC ei e1 ht2 (.inl rfl) ⟨t, A, B, C, e1, (upd_ne nt).trans ht2, w3, ndt, nw, ⟨b1, (upd_ne (Ne.symm pq)).trans b2, b3⟩, ⟨c1, (upd_ne (Ne.symm ps)).trans c2, c3⟩, pq, ps, qs⟩)
                · cases hcc
              · exact False.elim p2
          | 1, ej, p1 =>
              obtain ⟨us, u1, u2, u3, u4, u5⟩ := P2
              have hat : atI [V.ref A, V.ref B, V.ref C] kk = some (.ref B) := by
                unfold atI
                show (ixN 3 kk).bind _ = _
                rw [ej]
                rfl
              refine .inr (.inl ⟨t, _, kk, .ref B, rfl, rfl, .inl (.inl ht1), hat, ?_⟩)
              refine ⟨.inl ⟨rfl, us, .inl (.inl u1)⟩, F1, da, r, g1, RS1.rep, PostS.st RS1 p1 fun d g2 v2 F2 H2 n2 rl2 RS2 p2 => ?_⟩
              simp only [appO] at p2
              split at p2
              · rename_i cc hcc
                split at hcc
                · rename_i hl
                  cases hcc
                  have k1 := n2.keep _ _ u1 u3
                  refine ⟨B, us, v2, rfl, rfl, k1, by rw [u4.length]; exact lim_line (Nat.le_of_lt hl), ?_⟩
                  obtain ⟨t', A', B', C', w1, w2, w3, w4, ⟨a1, a2, a3⟩, ⟨b1, b2, b3⟩, ⟨c1, c2, c3⟩, w8⟩ := RS2.rep.slot i _ ei
                  rw [e1] at w1
                  cases w1
                  rw [n2.keep _ _ ht1 ndt] at w2
                  cases w2
                  have ht2 := n2.keep _ _ ht1 ndt
                  have nt : t ≠ B := fun z => by rw [z, k1] at ht2; cases ht2
                  have nw : Ow F2 (upd H2 B (.lst (us ++ [v2]))) da B (dy ++ [d]) := ⟨us ++ [v2], upd_same, (n2.new _ _ u1 u2).resolve_right TupI.noL, u3, (u4.mono n2.fr).append (.cons rl2 .nil), by rw [List.length_append]; exact hl⟩
                  exact p2 σ F2 _ da (RS2.putC ei e1 ht2 (.inr (.inl rfl)) ⟨t, A, B, C, e1, (upd_ne nt).trans ht2, w3, ndt, ⟨a1, (upd_ne pq).trans a2, a3⟩, nw, ⟨c1, (upd_ne (Ne.symm qs)).trans c2, c3⟩, pq, ps, qs⟩)
                · cases hcc
              · exact False.elim p2
          | 2, ej, p1 =>
              obtain ⟨us, u1, u2, u3, u4, u5⟩ := P3
              have hat : atI [V.ref A, V.ref B, V.ref C] kk = some (.ref C) := by
                unfold atI
                show (ixN 3 kk).bind _ = _
                rw [ej]
                rfl
              refine .inr (.inl ⟨t, _, kk, .ref C, rfl, rfl, .inl (.inl ht1), hat, ?_⟩)
              refine ⟨.inl ⟨rfl, us, .inl (.inl u1)⟩, F1, da, r, g1, RS1.rep, PostS.st RS1 p1 fun d g2 v2 F2 H2 n2 rl2 RS2 p2 => ?_⟩
              simp only [appO] at p2
              split at p2
              · rename_i cc hcc
                split at hcc
                · rename_i hl
                  cases hcc
                  have k1 := n2.keep _ _ u1 u3
                  refine ⟨C, us, v2, rfl, rfl, k1, by rw [u4.length]; exact lim_line (Nat.le_of_lt hl), ?_⟩
                  obtain ⟨t', A', B', C', w1, w2, w3, w4, ⟨a1, a2, a3⟩, ⟨b1, b2, b3⟩, ⟨c1, c2, c3⟩, w8⟩ := RS2.rep.slot i _ ei
                  rw [e1] at w1
                  cases w1
                  rw [n2.keep _ _ ht1 ndt] at w2
                  cases w2
                  have ht2 := n2.keep _ _ ht1 ndt
                  have nt : t ≠ C := fun z => by rw [z, k1] at ht2; cases ht2
                  have nw : Ow F2 (upd H2 C (.lst (us ++ [v2]))) da C (dz ++ [d]) := ⟨us ++ [v2], upd_same, (n2.new _ _ u1 u2).resolve_right TupI.noL, u3, (u4.mono n2.fr).append (.cons rl2 .nil), by rw [List.length_append]; exact hl⟩
                  exact p2 σ F2 _ da (RS2.putC ei e1 ht2 (.inr (.inr rfl)) ⟨t, A, B, C, e1, (upd_ne nt).trans ht2, w3, ndt, ⟨a1, (upd_ne ps).trans a2, a3⟩, ⟨b1, (upd_ne qs).trans b2, b3⟩, nw, pq, ps, qs⟩)
                · cases hcc
              · exact False.elim p2
          | n + 3, ej, p1 =>
            unfold ixN at ej
            split at ej
            · split at ej
              · have := Option.some.inj ej
                omega
              · cases ej
            · split at ej
              · have := Option.some.inj ej
                omega
              · cases ej
      | _ => cases rl <;> exact False.elim p1
    | _ => exact False.elim p
end
end Tl
end
section
set_option Elab.async false
set_option linter.all false
set_option autoImplicit false
set_option maxRecDepth 100000
namespace Tl
open PySem PySem.Spec PyProof.Rows L2
section
variable {T : Tab} {cl : Cls} {Φ : Nat → Fn} {k : Nat} {W : WX} {S : Stat} {X : Cx}
theorem snd_mkd (h : YOk T cl Φ k W S X) {i : Nat} {a : Str} {p p1 pos : Pos} (q : okL S i a = true) :
    PS X (.Assign [.Name a p] (.Dict [] [] p1) pos) (tO X.K cl W (evS Φ (.mkd i))) := by
  obtain ⟨l1, l2, l3⟩ := h.x.loc q
  refine impS (ps_set h.x.ndX l1 l2 pe_dnewT rfl l3) fun D σ H hq => ?_
  obtain ⟨F0, H0, da0, F, da, r, g, RS, p⟩ := hq
  simp only [evS] at p
  split at p
  · rename_i hno
    have hno : ∀ (j : Nat) (x : List (List Int × Int)), r[j]? ≠ some (.dct x) := fun j x e => by
      have := List.all_eq_true.mp hno _ (List.mem_of_getElem? e)
      cases this
    exact fun y e => p _ F _ da (RS.mkD hno e)
  · exact False.elim p
theorem putK_enc (kvs : List (List Int × Int)) (k : List Int) (v : Int) : putK (encT kvs) (k.map Sum.inl) (V.int v) = encT (putI kvs k v) := by
  have e : ∀ p : List Int × Int, decide ((p.1.map (Sum.inl : Int → Key)) = k.map Sum.inl) = decide (p.1 = k) := fun p => by
    rw [decide_eq_decide]
    exact ⟨inl_inj, fun h => by rw [h]⟩
  have e2 : ((encT kvs).any fun kv => decide (kv.1 = k.map Sum.inl)) = kvs.any fun p => decide (p.1 = k) := by
    unfold encT
    rw [List.any_map]
    congr 1
    funext p
    exact e p
  unfold putK putI
  rw [e2]
  split
  · unfold encT
    rw [List.map_map, List.map_map]
    refine List.map_congr_left fun p _ => ?_
    simp only [Function.comp]
    by_cases c : p.1 = k
    · rw [if_pos c, if_pos (by rw [c])]
    · rw [if_neg c, if_neg (fun z => c (inl_inj z))]
  · unfold encT
    rw [List.map_append]
    rfl
theorem snd_cntd (h : YOk T cl Φ k W S X) {i j : Nat} {a a' x x' : Str} {p p' px px' sp ap cp pc pc1 bp pos : Pos} {c0 c1 : Nat}
    (q : (okV S i a && okV S i a' && okV S j x && okV S j x' && (ap.endLine == cp.line)) = true) :
    PS X (.Assign [.Subscript (.Name a p) (.Name x px) sp] (.BinOp (.Call (.Attribute (.Name a' p') "get" ap) [.Name x' px', .Constant (.int 0) c0 pc] [] cp) .Add (.Constant (.int 1) c1 pc1) bp) pos) (tO X.K cl W (evS Φ (.cntd i j))) := by
  obtain ⟨q, q5⟩ := and2 q
  obtain ⟨q, q4⟩ := and2 q
  obtain ⟨q, q3⟩ := and2 q
  obtain ⟨q1, q2⟩ := and2 q
  have hu := h.x.units
  refine impS (ps_dput (by omega) (h.x.var q1) (h.x.var q3) (pe_op op_add (pe_dget2 (by omega) (h.x.var q2) (h.x.var q4) pe_int ⟨rfl, rfl, q5, rfl⟩) pe_int) rfl) fun D σ H hq => ?_
  obtain ⟨F0, H0, da0, F, da, r, g, RS, p⟩ := hq
  simp only [evS] at p
  cases ei : r[i]? with
  | none => rw [ei] at p; exact False.elim p
  | some c =>
    rw [ei] at p
    cases c with
    | dct kvs =>
      cases ej : r[j]? with
      | none => rw [ej] at p; exact False.elim p
      | some c2 =>
        rw [ej] at p
        cases c2 with
        | val d =>
          simp only at p
          cases ek : toTI d with
          | none => rw [ek] at p; exact False.elim p
          | some kz =>
            rw [ek] at p
            simp only at p
            split at p
            · rename_i hl
              obtain ⟨ad, e1, e2, e3, e4⟩ := RS.rep.slot i _ ei
              obtain ⟨v, f1, rp⟩ := RS.rep.slot j _ ej
              cases d with
              | tuple ds =>
                simp only [toTI] at ek
                cases rp with
                | @tup b xs _ h1 h2 h3 =>
                  obtain ⟨h5, h6⟩ := rp_ints h2 ek
                  subst h5
                  have hb : H b = some (.tup ((kz.map Sum.inl).map kV)) := by
                    rw [List.map_map]
                    exact RS.rep.sub _ _ h1
                  have dg := DGet.t e2 hb
                  rw [valV_enc] at dg
                  refine ⟨.ref ad, e1, ad, rfl, .inr ⟨_, .inl e2⟩, .ref b, f1, _, dg, ?_⟩
                  refine ⟨(valI kvs kz).getD 0, 1, ?_, rfl, .ref ad, e1, .ref b, f1, ad, _, rfl, DPut.t e2 hb ?_, ?_⟩
                  · cases valI kvs kz <;> rfl
                  · unfold encT
                    rw [List.length_map]
                    exact lim_line (Nat.le_of_lt hl)
                  · rw [putK_enc]
                    exact p _ F _ da (RS.putD ei e1)
              | _ => simp [toTI] at ek
            · exact False.elim p
        | _ => exact False.elim p
    | _ => exact False.elim p
end
end Tl
end
section
set_option Elab.async false
set_option linter.all false
set_option autoImplicit false
set_option maxRecDepth 100000
namespace Tl
open PySem PySem.Spec PyProof.Rows L2
/-! ### readers: statements -/
section
variable {K : PySem.W.Frag} {cl : Cls} {F0 H0 : Hp} {da0 : DA} {F H : Hp} {da : DA} {σ : St} {r : Env} {g : G}
theorem RepS.setR {i j : Nat} {v : V} {A B : List D} (h : RepS K cl F0 H0 da0 F H da σ r g) (q : RdrAt cl F da v j A B) : RepS K cl F0 H0 da0 F H da (σ.set i (some v)) (r.set i (.rdr j A B)) g := by
  refine ⟨⟨h.rep.sub, h.rep.gok, fun i' x e => ?_, by rw [List.length_set, List.length_set]; exact h.rep.len, fun i' k b ds es e1 e2 e3 e4 => ?_, h.rep.nod, h.rep.apt.set (fun _ z => by cases z) (fun _ _ _ z => by cases z), h.rep.apd.set fun _ z => by cases z⟩, h.fr0, h.keep0, h.new0, h.tho0, fun i' ds b e1 e2 => ?_, h.dah, fun i' x y z t p q s e1 e2 e3 => by
    rcases set_lt e1 with ⟨_, z, _⟩ | ⟨hi, e1⟩
    · cases z
    · rw [List.getElem?_set_ne hi] at e2
      exact h.own0t i' x y z t p q s e1 e2 e3, fun i' x b e1 e2 => by
    rcases set_lt e1 with ⟨_, z, _⟩ | ⟨hi, e1⟩
    · cases z
    · rw [List.getElem?_set_ne hi] at e2
      exact h.own0d i' x b e1 e2⟩
  · rcases set_lt e with ⟨rfl, rfl, hl⟩ | ⟨hj, e⟩
    · rw [List.getElem?_set_self (by rw [← h.rep.len]; exact hl)]
      exact ⟨v, rfl, q⟩
    · rw [List.getElem?_set_ne hj]
      exact h.rep.slot i' x e
  · rcases set_lt e1 with ⟨_, z, _⟩ | ⟨hi, e1'⟩
    · cases z
    · rcases set_lt e2 with ⟨_, z, _⟩ | ⟨hk, e2'⟩
      · cases z
      · rw [List.getElem?_set_ne hi] at e3
        rw [List.getElem?_set_ne hk] at e4
        exact h.rep.apart i' k b ds es e1' e2' e3 e4
  · rcases set_lt e1 with ⟨_, z, _⟩ | ⟨hi, e1'⟩
    · cases z
    · rw [List.getElem?_set_ne hi] at e2
      exact h.own0 i' ds b e1' e2
theorem isDr_more {a n p q b : Addr} {zs : List (Addr × Addr)} (h : isDr (some (a, n, zs ++ [(p, q)])) b) : isDr (some (a, n, zs)) b ∨ b = p ∨ b = q := by
  obtain ⟨y, e, hb⟩ := h
  cases e
  have e : dAll (a, n, zs ++ [(p, q)]) = dAll (a, n, zs) ++ [p, q] := by simp [dAll, List.flatMap_append]
  rw [e, List.mem_append] at hb
  rcases hb with hb | hb
  · exact .inl ⟨_, rfl, hb⟩
  · simp only [List.mem_cons, List.not_mem_nil, or_false] at hb
    exact .inr hb
/-- one more reader -/
theorem RepS.more {F2 H2 : Hp} {ns : List Int} {c : Int} {rs : List Rd} {a n p q : Addr} {zs : List (Addr × Addr)} (h : RepS K cl F0 H0 da0 F H (some (a, n, zs)) σ r g) (nx : Nx (some (a, n, zs)) F H F2 H2 (some (ns, c, rs))) (np : H p = none) (nq : H q = none)
    (hp : H2 p = some (.lst [.int 0, .int 0])) (hq : H2 q = some (.lst [])) (fp : F2 p = none) (fq : F2 q = none) (pq : p ≠ q) : RepS K cl F0 H0 da0 F2 H2 (some (a, n, zs ++ [(p, q)])) σ r (some (ns, c, rs ++ [(0, 0, [])])) := by
  have h2 := h.nx nx
  have dp : ¬ isDr (some (a, n, zs)) p := h.rep.gok.notDr np
  have dq : ¬ isDr (some (a, n, zs)) q := h.rep.gok.notDr nq
  have h0 : ∀ b, H b = none → H0 b = none := fun b e => by
    cases z : H0 b with
    | none => rfl
    | some o =>
      obtain ⟨o', e'⟩ := h.tho0 b o z
      rw [e] at e'
      cases e'
  have ow : ∀ {b : Addr} {ds : List D}, Ow F H (some (a, n, zs)) b ds → Ow F2 H2 (some (a, n, zs ++ [(p, q)])) b ds := fun {b ds} o => by
    have o2 := o.nx nx
    obtain ⟨xs, k1, k2, k3, k4, k5⟩ := o2
    obtain ⟨ys, j1, _⟩ := o
    refine ⟨xs, k1, k2, fun z => ?_, k4, k5⟩
    rcases isDr_more z with z | rfl | rfl
    · exact k3 z
    · rw [np] at j1; cases j1
    · rw [nq] at j1; cases j1
  refine ⟨⟨h2.rep.sub, h2.rep.gok.more hp hq dp dq pq, fun i cc e => ?_, h2.rep.len, h2.rep.apart, fun b d => ?_, h2.rep.apt, h2.rep.apd⟩, h2.fr0, h2.keep0, h2.new0, h2.tho0, h2.own0, ?_, h2.own0t, h2.own0d⟩
  · have sl := h2.rep.slot i cc e
    have sl0 := h.rep.slot i cc e
    cases cc with
    | und => trivial
    | val d => exact sl
    | own ds =>
      obtain ⟨b, e1, o⟩ := sl0
      exact ⟨b, e1, ow o⟩
    | drw =>
      obtain ⟨y, e1, e2⟩ := sl
      cases e1
      exact ⟨_, rfl, e2⟩
    | exn _ => exact sl
    | scr _ => exact sl
    | ot x y z =>
      obtain ⟨t, p1, q1, s1, e1, k1, k2, k3, k4, k5, k6, k7⟩ := sl0
      obtain ⟨t', p1', q1', s1', e1', k1', k2', k3', _⟩ := sl
      rw [e1] at e1'
      cases e1'
      rw [nx.keep _ _ k1 k3] at k1'
      cases k1'
      refine ⟨t, p1, q1, s1, e1, nx.keep _ _ k1 k3, k2', fun z => ?_, ow k4, ow k5, ow k6, k7⟩
      rcases isDr_more z with z | rfl | rfl
      · exact k3 z
      · rw [np] at k1; cases k1
      · rw [nq] at k1; cases k1
    | dct kvs =>
      obtain ⟨b, e1, k1, k2, k3⟩ := sl0
      obtain ⟨b', e1', k1', k2', k3'⟩ := sl
      rw [e1] at e1'
      cases e1'
      refine ⟨b, e1, k1', k2', fun z => ?_⟩
      rcases isDr_more z with z | rfl | rfl
      · exact k3 z
      · rw [np] at k1; cases k1
      · rw [nq] at k1; cases k1
    | rdr j A B =>
      obtain ⟨v, e1, x, dx, lv, q', s', a', n', zs', h1, h2, h3, h4, h5⟩ := sl
      cases h4
      refine ⟨v, e1, x, dx, lv, q', s', a, n, _, h1, h2, h3, rfl, ?_⟩
      have hj : j < zs.length := (List.getElem?_eq_some_iff.mp h5).1
      rw [List.getElem?_append_left hj]
      exact h5
  · rcases isDr_more d with d | rfl | rfl
    · exact h2.rep.nod b d
    · exact fp
    · exact fq
  · rcases h.dah with z | ⟨a', n', zs', us, e1, e2, e3⟩
    · refine .inr ⟨a, n, zs, [(p, q)], z.symm, rfl, fun b hb => ?_⟩
      simp [flat2] at hb
      rcases hb with rfl | rfl
      · exact h0 _ np
      · exact h0 _ nq
    · cases e2
      refine .inr ⟨a, n, zs', us ++ [(p, q)], e1, by rw [List.append_assoc], fun b hb => ?_⟩
      have e : flat2 (us ++ [(p, q)]) = flat2 us ++ [p, q] := by simp [flat2, List.flatMap_append]
      rw [e, List.mem_append] at hb
      rcases hb with hb | hb
      · exact e3 b hb
      · simp only [List.mem_cons, List.not_mem_nil, or_false] at hb
        rcases hb with rfl | rfl
        · exact h0 _ np
        · exact h0 _ nq
end
section
variable {T : Tab} {cl : Cls} {Φ : Nat → Fn} {k : Nat} {W : WX} {S : Stat} {X : Cx} {K : PySem.W.Frag}
/-! ### a reader is made -/
theorem NewR.nx {da : DA} {F H F' H' : Hp} {g' : G} {x dx p q : Addr} {lv : V} {A B : List D} {o1 : HO} (hx : H x = none) (hd : H dx = none) (N : NewR cl da F (upd (upd H dx (.own x)) x o1) F' H' g' x dx p q lv A B) : Nx da F H (upd F' x (insR cl dx lv p q)) H' g' := by
  have up : ∀ b o, H b = some o → upd (upd H dx (.own x)) x o1 b = some o := fun b o e => by
    rw [upd_ne (ne_of_none e hx), upd_ne (ne_of_none e hd)]
    exact e
  refine ⟨N.fr.trans (same_upd N.fx), fun b o e => ?_, fun b o e nd => N.keep b o (up b o e) (ne_of_none e hx) nd, fun b o e nf => ?_, N.gok, fun b o e => N.tho b o (up b o e)⟩
  · by_cases hb : b = x
    · subst hb
      rw [upd_same] at e
      cases e
      exact N.hx
    · rw [upd_ne hb] at e
      exact N.sub b o e
  · rw [upd_ne (ne_of_none e hx)]
    exact N.new b o (up b o e) nf
abbrev t2 (t1 t2 : TE) : TA := tCons t1 (tCons t2 tNil)
theorem mk_core {a b : E} {F0 H0 : Hp} {da0 : DA} {F H : Hp} {da : DA} {σ : St} {r : Env} {g : G} {f : List D × List D → G → O} {D : Ends} {Q : VK} (RS : RepS K cl F0 H0 da0 F H da σ r g) (p : PostS K cl W F0 H0 da0 D ((evMk Φ a b r g).st r f))
    (kk : ∀ (A B : List PyData) (g2 : G) (v : V) (F2 H2 : Hp) (da2 : DA), RepS K cl F0 H0 da0 F2 H2 da σ r g2 → RepS K cl F0 H0 da0 F2 H2 da2 σ r (rdNew g2) → RdrAt cl F2 da2 v (rdN g2) A B → PostS K cl W F0 H0 da0 D (f (A, B) g2) → Q v H2) :
    tMakeK (cl 9) (spI cl (Φ 900)) (WE W) (t2 (tE K cl W Φ a) (tE K cl W Φ b)) σ H Q := by
  refine ⟨F, da, r, g, RS.rep, ?_⟩
  unfold evMk at p
  cases ea : evE Φ a r g with
  | bad => rw [ea] at p; exact p
  | exc c g1 =>
    rw [ea] at p
    exact fun F' H' n => p σ F' H' da (RS.nx n)
  | ok d1 g1 =>
  rw [ea] at p
  intro v1 F1 H1 n1 rp1
  have RS1 := RS.nx n1
  refine ⟨F1, da, r, g1, RS1.rep, ?_⟩
  simp only [R.bind] at p
  cases eb : evE Φ b r g1 with
  | bad => rw [eb] at p; exact p
  | exc c g2 =>
    rw [eb] at p
    exact fun F' H' n => p σ F' H' da (RS1.nx n)
  | ok d2 g2 =>
  rw [eb] at p
  intro v2 F2 H2 n2 rp2
  have RS2 := RS1.nx n2
  intro x dx hx hd hxd
  have s1 : Same H2 (upd (upd H2 dx (.own x)) x (.ins (cl 9) dx [])) := fun b o e => by
    rw [upd_ne (ne_of_none e hx), upd_ne (ne_of_none e hd)]
    exact e
  refine ⟨F2, da, g2, x, dx, v1, v2, d1, d2, rfl, upd_same, RS2.rep.sub.free hx, RS2.rep.sub.trans s1, RS2.rep.gok.same s1, RS2.rep.nod, rp1.mono n2.fr, rp2, ?_⟩
  simp only at p
  cases ef : Φ 900 [.val d1, .val d2] g2 with
  | bad => rw [ef] at p; exact p
  | exc c g3 =>
    rw [ef] at p
    exact fun F' H' n => p σ F' H' da (RS2.nx (n.less s1))
  | ok d g3 =>
    rw [ef] at p
    simp only at p
    cases d1 with
    | list A =>
      cases d2 with
      | list B =>
        cases g3 with
        | none => exact False.elim p
        | some y =>
          obtain ⟨ns, c, rs⟩ := y
          refine ⟨A, B, rfl, rfl, fun F' H' pp qq lv N => ⟨rfl, ?_⟩⟩
          have nx := N.nx hx hd
          have np : H2 pp = none := by
            cases z : H2 pp with
            | none => rfl
            | some o => exact absurd N.np (by rw [s1 _ _ z]; exact fun w => nomatch w)
          have nq : H2 qq = none := by
            cases z : H2 qq with
            | none => rfl
            | some o => exact absurd N.nq (by rw [s1 _ _ z]; exact fun w => nomatch w)
          have gk := N.gok
          cases da with
          | none => exact False.elim gk
          | some y =>
            obtain ⟨a0, n0, zs⟩ := y
            have px : pp ≠ x := fun z => by
              have := N.hp
              rw [z, N.hx] at this
              cases this
            have qx : qq ≠ x := fun z => by
              have := N.hq
              rw [z, N.hx] at this
              cases this
            have RSm := RS2.more nx np nq N.hp N.hq ((upd_ne px).trans N.fp) ((upd_ne qx).trans N.fq) N.pq
            refine kk A B (some (ns, c, rs)) (.ref x) _ H' _ (RS2.nx nx) RSm ⟨x, dx, lv, pp, qq, a0, n0, _, rfl, upd_same, N.rp.mono (same_upd N.fx), rfl, ?_⟩ p
            have el : rdN (some (ns, c, rs)) = zs.length := gk.len
            rw [el, List.getElem?_append_right (Nat.le_refl _), Nat.sub_self]
            rfl
      | _ => exact False.elim p
    | _ => exact False.elim p
theorem pe_rdr (h : XOk T cl Φ k W S X) {a b : E} {f : Str} {y z : Expr} {p pos : Pos} (q : (decide (f = ("Reader" : Str)) && okG S f && noStar y && noStar z && okE T a S y && okE T b S z) = true) :
    PE X (.Call (.Name f p) [y, z] [] pos) (tMakeK (cl 9) (spI cl (Φ 900)) (WE W) (t2 (tE X.K cl W Φ a) (tE X.K cl W Φ b))) := by
  obtain ⟨q, q6⟩ := and2 q
  obtain ⟨q, q5⟩ := and2 q
  obtain ⟨q, q4⟩ := and2 q
  obtain ⟨q, q3⟩ := and2 q
  obtain ⟨q1, q2⟩ := and2 q
  have e := of_decide_eq_true q1
  subst e
  obtain ⟨g1, g2⟩ := h.gl q2
  obtain ⟨fa, hg, hM, bad | ⟨fd, ps, jj, hj, hb, hF⟩⟩ := h.rdx.ini
  · refine pe_makeN hM (fun vs H Q E ⟨_, _, _, _, _, _, _, _, _, _, _, _, _, _, _, _, _, z⟩ => ?_) g1 hg (pa_cons ((snd a).e h _ q5) (pa_cons ((snd b).e h _ q6) pa_nil (star_ok q4)) (star_ok q3)) g2 (star_ok q3) (stars_ok (by simp [q4]))
    rw [bad] at z
    exact z
  · exact pe_makeK hM hF (h.room.mono hj) g1 hg hb h.pass (pa_cons ((snd a).e h _ q5) (pa_cons ((snd b).e h _ q6) pa_nil (star_ok q4)) (star_ok q3)) g2 (star_ok q3) (stars_ok (by simp [q4]))
theorem snd_mkr (h : YOk T cl Φ k W S X) {i : Nat} {a b : E} {n f : Str} {y z : Expr} {p p1 p2 pos : Pos} (q : (okL S i n && decide (f = ("Reader" : Str)) && okG S f && noStar y && noStar z && okE T a S y && okE T b S z) = true) :
    PS X (.Assign [.Name n p] (.Call (.Name f p1) [y, z] [] p2) pos) (tO X.K cl W (evS Φ (.mkr i a b))) := by
  have q0 : okL S i n = true ∧ (decide (f = ("Reader" : Str)) && okG S f && noStar y && noStar z && okE T a S y && okE T b S z) = true := by
    simp only [Bool.and_eq_true] at q ⊢
    exact ⟨q.1.1.1.1.1.1, ⟨⟨⟨⟨q.1.1.1.1.1.2, q.1.1.1.1.2⟩, q.1.1.1.2⟩, q.1.1.2⟩, q.1.2⟩, q.2⟩
  obtain ⟨l1, l2, l3⟩ := h.x.loc q0.1
  refine impS (ps_set h.x.ndX l1 l2 (pe_rdr h.x q0.2) rfl l3) fun D σ H hq => ?_
  obtain ⟨F0, H0, da0, F, da, r, g, RS, p⟩ := hq
  exact mk_core RS p fun A B g2 v F2 H2 da2 _ RSx rd p1 => p1 _ F2 H2 da2 (RSx.setR rd)
theorem snd_retr (h : YOk T cl Φ k W S X) {a b : E} {f : Str} {y z : Expr} {p1 p2 pos : Pos} (q : (decide (f = ("Reader" : Str)) && okG S f && noStar y && noStar z && okE T a S y && okE T b S z) = true) :
    PS X (.Return (some (.Call (.Name f p1) [y, z] [] p2)) pos) (tO X.K cl W (evS Φ (.retr a b))) := by
  refine impS (ps_ret (pe_rdr h.x q)) fun D σ H hq => ?_
  obtain ⟨F0, H0, da0, F, da, r, g, RS, p⟩ := hq
  exact mk_core RS p fun A B g2 v F2 H2 da2 RS2 _ _ p1 => p1 v σ r F2 H2 da RS2
theorem snd_mkr3 (h : YOk T cl Φ k W S X) {i j l : Nat} {a b as : E} {n1 n2 n3 f : Str} {y z : Expr} {es : List Expr} {pa pb pc pt pt2 p1 p2 p3 p4 pos : Pos} {kt k2 : Nat}
    (q : (okL S i n1 && okL S j n2 && okL S l n3 && decide (i ≠ j) && decide (i ≠ l) && decide (j ≠ l) && (isLo (S.sc.names.lookup n1) && ((isLo (S.sc.names.lookup n2) && (pb.line == pa.line)) && (isLo (S.sc.names.lookup n3) && (pc.line == pa.line)))) && decide (f = ("Reader" : Str)) && okG S f && noStar y && noStar z && okE T a S y && okE T b S z && okA T as S es) = true) :
    PS X (.Assign [.Tuple [.Name n1 pa, .Name n2 pb, .Name n3 pc] kt pt] (.Tuple [.Call (.Name f p1) [y, z] [] p2, .List es p3, .List [] p4] k2 pt2) pos) (tO X.K cl W (evS Φ (.mkr3 i j l a b as))) := by
  have q0 : (decide (f = ("Reader" : Str)) && okG S f && noStar y && noStar z && okE T a S y && okE T b S z) = true := by
    simp only [Bool.and_eq_true] at q ⊢
    exact ⟨⟨⟨⟨⟨q.1.1.1.1.1.1.2, q.1.1.1.1.1.2⟩, q.1.1.1.1.2⟩, q.1.1.1.2⟩, q.1.1.2⟩, q.1.2⟩
  obtain ⟨q, qA⟩ := and2 q
  obtain ⟨q, _⟩ := and2 q
  obtain ⟨q, _⟩ := and2 q
  obtain ⟨q, _⟩ := and2 q
  obtain ⟨q, _⟩ := and2 q
  obtain ⟨q, _⟩ := and2 q
  obtain ⟨q, _⟩ := and2 q
  obtain ⟨q, q7⟩ := and2 q
  obtain ⟨q, q6⟩ := and2 q
  obtain ⟨q, q5⟩ := and2 q
  obtain ⟨q, q4⟩ := and2 q
  obtain ⟨q, q3⟩ := and2 q
  obtain ⟨q1, q2⟩ := and2 q
  obtain ⟨m1, m2, m3⟩ := h.x.loc q1
  obtain ⟨o1, o2, o3⟩ := h.x.loc q2
  obtain ⟨l1, l2, l3⟩ := h.x.loc q3
  have h12 := of_decide_eq_true q4
  have h13 := of_decide_eq_true q5
  have h23 := of_decide_eq_true q6
  have hk : X.env.scope.kind = .function := by rw [h.x.hsc]; exact h.fk
  have hb := blockFn hk
  have sw := stores_three (px := pa) (py := pb) (pz := pc) (pt := pt) (pt2 := pt2) (kt := kt) (k2 := k2) (a := .Call (.Name f p1) [y, z] [] p2) (b := .List es p3) (c := .List [] p4) hb rfl rfl rfl (not_same h.x.ndX m1 o1 h12) (not_same h.x.ndX m1 l1 h13) (not_same h.x.ndX o1 l1 h23) rfl rfl
  have hc : (isLo (X.env.kindOf n1) && ((isLo (X.env.kindOf n2) && (pb.line == pa.line)) && (isLo (X.env.kindOf n3) && (pc.line == pa.line)))) = true := by
    show (isLo (X.env.scope.names.lookup n1) && ((isLo (X.env.scope.names.lookup n2) && (pb.line == pa.line)) && (isLo (X.env.scope.names.lookup n3) && (pc.line == pa.line)))) = true
    rw [h.x.hsc]
    exact q7
  rw [if_pos hc] at sw
  obtain ⟨c1, c2⟩ := and2 hc
  obtain ⟨c2, c3⟩ := and2 c2
  obtain ⟨c2, _⟩ := and2 c2
  obtain ⟨c3, _⟩ := and2 c3
  refine impS (ps_par3 h.x.calm h.x.ndX m1 o1 l1 h12 h13 h23 (isLo_iff.mp c1) (isLo_iff.mp c2) (isLo_iff.mp c3) (pa_cons (pe_rdr h.x q0) (pa_cons (pe_lst ((snd as).s h.x _ qA)) (pa_cons (pe_lst pa_nil) pa_nil))) sw) fun D σ H hq => ?_
  obtain ⟨F0, H0, da0, F, da, r, g, RS, p⟩ := hq
  unfold tPar3 tCons
  refine mk_core RS p fun A B g2 v F2 H2 da2 _ RSx rd p1 => ?_
  refine ⟨F2, da2, r, rdNew g2, RSx.rep, PostS.st RSx p1 fun cs g3 vs F3 H3 n3 ao RS3 p3 => ?_⟩
  cases ev : vals? cs with
  | none => simp only [ev] at p3; exact False.elim p3
  | some ds =>
    simp only [ev] at p3
    split at p3
    · rename_i hl
      have ra := args_vals ao ev
      refine ⟨by rw [ra.length]; exact lim_line' hl, fun y1 e1 => ⟨Nat.zero_le _, fun y2 e2 => ⟨_, _, _, rfl, ?_⟩⟩⟩
      have R1 := (RS3.setR (i := i) (rd.mono n3.fr)).mk' (i := j) e1 ra hl
      have al := Al.one (o := .lst []) R1.rep.sub e2
      have R2 := (R1.nx (Nx.of_al R1.rep.gok al)).set (i := l) (v := .ref y2) (d := .list []) (.lst upd_same .nil (Nat.zero_le _))
      exact p3 _ _ _ da2 R2
    · exact False.elim p3
/-! ### what changes a reader -/
theorem RepS.rdr {F0 H0 F H : Hp} {da0 da : DA} {σ : St} {r : Env} {g : G} {i j : Nat} {A B : List D} (R : RepS K cl F0 H0 da0 F H da σ r g) (e : r[i]? = some (.rdr j A B)) : ∃ x dx lv q s a n zs, σ[i]? = some (some (.ref x)) ∧ F x = some (insR cl dx lv q s) ∧ H x = some (insR cl dx lv q s) ∧ Rp F lv (.tuple [.list A, .list B]) ∧ da = some (a, n, zs) ∧ zs[j]? = some (q, s) := R.rep.rdr e
theorem dp_ix {x : Rd} {kk v : Int} (h : dpA x kk = some v) : ∃ m, L2.ixN 2 kk = some m ∧ ∀ w : Int, ([V.int x.1, V.int x.2.1].set m (.int w)) = [.int (dpPut x kk w).1, .int (dpPut x kk w).2.1] ∧ (dpPut x kk w).2.2 = x.2.2 := by
  unfold dpA at h
  split at h
  · rename_i e
    subst e
    exact ⟨0, rfl, fun w => ⟨rfl, rfl⟩⟩
  · split at h
    · rename_i e
      subst e
      exact ⟨1, rfl, fun w => ⟨rfl, rfl⟩⟩
    · cases h
theorem snd_radd (h : YOk T cl Φ k W S X) {i : Nat} {e : E} {up : Bool} {y ix : Expr} {op : Operator} {c1 : Int} {j1 : Nat} {sp cp pos : Pos}
    (q : (okF S i "depths" y && noSlice ix && okE T e S ix && decide (c1 = 1) && (match up, op with | true, .Add => true | false, .Sub => true | _, _ => false)) = true) :
    PS X (.AugAssign (.Subscript y ix sp) op (.Constant (.int c1) j1 cp) pos) (tO X.K cl W (evS Φ (.radd i e up))) := by
  obtain ⟨q, q5⟩ := and2 q
  obtain ⟨q, q4⟩ := and2 q
  obtain ⟨q, q3⟩ := and2 q
  obtain ⟨q1, q2⟩ := and2 q
  obtain ⟨a, p', pos', rfl, q1⟩ := okF_is q1
  have e1 := of_decide_eq_true q4
  subst e1
  have rd : ∀ {rop : V → V → Hp → VK → Prop} {D : Ends} {σ : St} {H : Hp}, (∀ (m : Int) (H : Hp) (Q : VK), Q (.int (if up then m + 1 else m - 1)) H → rop (.int m) (.int 1) H Q) → tO X.K cl W (evS Φ (.radd i e up)) D σ H → tAugS (tFld X.K (tVar i) "depths") (tE X.K cl W Φ e) (L2.tC (.int 1)) (rIxL X.K) rop rSetL D σ H := fun {rop D σ H} hop hq => by
    obtain ⟨F0, H0, da0, F, da, r, g, RS, p⟩ := hq
    simp only [evS] at p
    cases er : r[i]? with
    | none => rw [er] at p; exact False.elim p
    | some c =>
      rw [er] at p
      cases c with
      | rdr j A B =>
        obtain ⟨y, dx, lv, q, s, a, n, zs, e1, e2, e3, e4, e5, e6⟩ := RS.rdr er
        refine ⟨_, e1, y, _, dx, _, .ref q, rfl, e3, h.x.rdx.rc, h.x.rdx.n2, look_d, F, da, r, g, RS.rep, PostS.st RS p fun kd g1 kv F1 H1 n1 rl RS1 p1 => ?_⟩
        cases kd with
        | int kk =>
          cases rl
          cases ex : rdA g1 j with
          | none => simp only [ex] at p1; exact False.elim p1
          | some x =>
            simp only [ex] at p1
            cases ed : dpA x kk with
            | none => simp only [ed] at p1; exact False.elim p1
            | some vv =>
              simp only [ed] at p1
              obtain ⟨k1, k2, k3, k4, k5, k6⟩ := RS1.rep.gok.rd e5 e6 ex
              refine ⟨q, _, kk, .int vv, rfl, rfl, .inl (.inl k1), dp_at ed, hop _ _ _ ?_⟩
              obtain ⟨m, hm, hset⟩ := dp_ix ed
              refine ⟨q, _, kk, m, rfl, rfl, k1, hm, ?_⟩
              refine p1 σ F1 _ da (RS1.nx (Nx.rput RS1.rep.sub RS1.rep.gok RS1.rep.nod e5 e6 ex (.inl rfl) ?_ ?_ ?_))
              · rw [upd_same, (hset _).1]
              · rw [upd_ne (Ne.symm k4), k2, (hset _).2]
              · rw [(hset _).2]; exact k3
        | _ => exact False.elim p1
      | _ => exact False.elim p
  cases up with
  | true =>
    cases op with
    | Add => exact impS (ps_augS (h.x.fld q1) ((snd e).e h.x ix q3) gt_list pe_int (pip_of iop_add) set_list (aug_plain q2)) fun D σ H hq => rd (fun m H Q z => ⟨m, 1, rfl, rfl, z⟩) hq
    | _ => cases q5
  | false =>
    cases op with
    | Sub => exact impS (ps_augS (h.x.fld q1) ((snd e).e h.x ix q3) gt_list pe_int (pip_of iop_sub) set_list (aug_plain q2)) fun D σ H hq => rd (fun m H Q z => ⟨m, 1, rfl, rfl, z⟩) hq
    | _ => cases q5
theorem snd_rapp (h : YOk T cl Φ k W S X) {i : Nat} {e : E} {m : Str} {y z : Expr} {ap cp pos : Pos} (q : (decide (m = ("append" : Str)) && okF S i "made" y && noStar z && (ap.endLine == cp.line) && okE T e S z) = true) :
    PS X (.Expr (.Call (.Attribute y m ap) [z] [] cp) pos) (tO X.K cl W (evS Φ (.rapp i e))) := by
  obtain ⟨q, q5⟩ := and2 q
  obtain ⟨q, q4⟩ := and2 q
  obtain ⟨q, q3⟩ := and2 q
  obtain ⟨q1, q2⟩ := and2 q
  have em := of_decide_eq_true q1
  subst em
  obtain ⟨a, p', pos', rfl, q2⟩ := okF_is q2
  refine impS (ps_expr (pe_bm PySem.F.plainAttrs_list PySem.F.slot_list_append PySem.F.type_list_append mt_append (h.x.fld q2) (pa_cons ((snd e).e h.x z q5) pa_nil (star_ok q3)) (base_ok rfl) (by rw [star_ok q3]; rfl) q4 (star_ok q3) rfl) rfl) fun D σ H hq => ?_
  obtain ⟨F0, H0, da0, F, da, r, g, RS, p⟩ := hq
  simp only [evS] at p
  cases er : r[i]? with
  | none => rw [er] at p; exact False.elim p
  | some c =>
    rw [er] at p
    cases c with
    | rdr j A B =>
      obtain ⟨y, dx, lv, q, s, a, n, zs, e1, e2, e3, e4, e5, e6⟩ := RS.rdr er
      have s0 : ∃ xs, H s = some (.lst xs) := RS.rep.gok.lst (by rw [e5]; exact ⟨_, rfl, .tail _ (.tail _ (flat2_mem (List.mem_of_getElem? e6)).2)⟩)
      obtain ⟨xs0, s0⟩ := s0
      refine ⟨_, e1, y, _, dx, _, .ref s, rfl, e3, h.x.rdx.rc, h.x.rdx.n3, look_m, .inl ⟨rfl, xs0, .inl (.inl s0)⟩, F, da, r, g, RS.rep, PostS.st RS p fun kd g1 kv F1 H1 n1 rl RS1 p1 => ?_⟩
      cases kd with
      | int kk =>
        cases rl
        cases ex : rdA g1 j with
        | none => simp only [ex] at p1; exact False.elim p1
        | some x =>
          simp only [ex] at p1
          split at p1
          · rename_i hl
            obtain ⟨k1, k2, k3, k4, k5, k6⟩ := RS1.rep.gok.rd e5 e6 ex
            refine ⟨s, _, _, rfl, rfl, k2, by rw [List.length_map]; exact Nat.lt_of_lt_of_le hl (by decide), ?_⟩
            refine p1 σ F1 _ da (RS1.nx (Nx.rput RS1.rep.sub RS1.rep.gok RS1.rep.nod e5 e6 ex (.inr rfl) ?_ ?_ ?_))
            · rw [upd_ne k4, k1]
            · rw [upd_same, List.map_append]; rfl
            · simp only [List.length_append, List.length_cons, List.length_nil]; omega
          · exact False.elim p1
      | _ => exact False.elim p1
    | _ => exact False.elim p
theorem snd_rpop (h : YOk T cl Φ k W S X) {t i : Nat} {a m : Str} {y : Expr} {p ap cp pos : Pos} (q : (decide (m = ("pop" : Str)) && okF S i "made" y && okL S t a && (ap.endLine == cp.line)) = true) :
    PS X (.Assign [.Name a p] (.Call (.Attribute y m ap) [] [] cp) pos) (tO X.K cl W (evS Φ (.rpop t i))) := by
  obtain ⟨q, q4⟩ := and2 q
  obtain ⟨q, q3⟩ := and2 q
  obtain ⟨q1, q2⟩ := and2 q
  have em := of_decide_eq_true q1
  subst em
  obtain ⟨a, p', pos', rfl, q2⟩ := okF_is q2
  obtain ⟨l1, l2, l3⟩ := h.x.loc q3
  refine impS (ps_set h.x.ndX l1 l2 (pe_bm0 PySem.F.plainAttrs_list PySem.F.slot_list_pop PySem.F.type_list_pop mt_pop (h.x.fld q2) (base_ok rfl) q4) rfl l3) fun D σ H hq => ?_
  obtain ⟨F0, H0, da0, F, da, r, g, RS, p⟩ := hq
  simp only [evS] at p
  cases er : r[i]? with
  | none => rw [er] at p; exact False.elim p
  | some c =>
    rw [er] at p
    cases c with
    | rdr j A B =>
      obtain ⟨y, dx, lv, q, s, a, n, zs, e1, e2, e3, e4, e5, e6⟩ := RS.rdr er
      simp only at p
      cases ex : rdA g j with
      | none => rw [ex] at p; exact False.elim p
      | some x =>
        rw [ex] at p
        simp only at p
        obtain ⟨k1, k2, k3, k4, k5, k6⟩ := RS.rep.gok.rd e5 e6 ex
        cases el : x.2.2.getLast? with
        | none => rw [el] at p; exact False.elim p
        | some kk =>
          rw [el] at p
          simp only at p
          refine ⟨_, e1, y, _, dx, _, .ref s, rfl, e3, h.x.rdx.rc, h.x.rdx.n3, look_m, .inl ⟨rfl, _, .inl (.inl k2)⟩, s, _, .int kk, rfl, rfl, k2, ?_, ?_⟩
          · rw [List.getLast?_eq_getElem?] at el
            rw [List.getElem?_map, List.length_map, el]
            rfl
          · have RS2 := RS.nx (Nx.rput (y := (x.1, x.2.1, x.2.2.dropLast)) (o := .lst ((x.2.2.map V.int).dropLast)) RS.rep.sub RS.rep.gok RS.rep.nod e5 e6 ex (.inr rfl) (by rw [upd_ne k4, k1]) (by rw [upd_same, List.map_dropLast]) (by simp only [List.length_dropLast]; omega))
            exact p _ F _ da (RS2.set (.int kk))
    | _ => exact False.elim p
theorem snd_dropc (h : YOk T cl Φ k W S X) {f : Nat} {as : E} {a : Str} {p cp pos : Pos} {es : List Expr} (q : (okG S a && decide (T.nm[f]? = some a) && decide (f ∈ T.os) && es.all noStar && okA T as S es) = true) :
    PS X (.Expr (.Call (.Name a p) es [] cp) pos) (tO X.K cl W (evS Φ (.dropc f as))) := by
  obtain ⟨q, hA⟩ := and2 q
  obtain ⟨q, q4⟩ := and2 q
  obtain ⟨q, q3⟩ := and2 q
  obtain ⟨q1, q2⟩ := and2 q
  obtain ⟨g1, g2⟩ := h.x.gl q1
  obtain ⟨x, fa, fd, ps, e1, e2, e3, e4, e5⟩ := h.x.rdx.opq f (of_decide_eq_true q3)
  have e : x = a := by
    have := of_decide_eq_true q2
    rw [e1] at this
    exact Option.some.inj this
  subst e
  have ia := (snd (T := T) (cl := cl) (Φ := Φ) as).s h.x es hA
  cases es with
  | nil =>
    refine impS (ps_expr (pe_callS0 e5 h.x.room g1 e2 e3 e4 h.x.pass g2) rfl) fun D σ H hq => ?_
    obtain ⟨F0, H0, da0, F, da, r, g, RS, p⟩ := hq
    cases as with
    | nil =>
      simp only [evS, evA, R.st] at p
      refine ⟨F, da, g, [], RS.rep.sub, RS.rep.gok, RS.rep.nod, .nil, ?_⟩
      cases eq : Φ f [] g with
      | ok d g2 => rw [eq] at p; exact fun v F' H' n _ => p σ F' H' da (RS.nx n)
      | exc c g2 => rw [eq] at p; exact fun F' H' n => p σ F' H' da (RS.nx n)
      | bad => rw [eq] at p; exact p
    | _ => simp [okA] at hA
  | cons y ys =>
    rw [List.all_cons, Bool.and_eq_true] at q4
    refine impS (ps_expr (pe_callS e5 h.x.room g1 e2 e3 e4 h.x.pass ia g2 (star_ok q4.1) (stars_ok q4.2)) rfl) fun D σ H hq => ?_
    obtain ⟨F0, H0, da0, F, da, r, g, RS, p⟩ := hq
    refine ⟨F, da, r, g, RS.rep, PostS.st RS p fun cs g1 vs F1 H1 n1 ao RS1 p1 => ?_⟩
    refine ⟨F1, da, g1, cs, RS1.rep.sub, RS1.rep.gok, RS1.rep.nod, ao, ?_⟩
    cases eq : Φ f cs g1 with
    | ok d g2 => rw [eq] at p1; exact fun v F' H' n _ => p1 σ F' H' da (RS1.nx n)
    | exc c g2 => rw [eq] at p1; exact fun F' H' n => p1 σ F' H' da (RS1.nx n)
    | bad => rw [eq] at p1; exact p1
end
end Tl
end
section
set_option Elab.async false
set_option linter.all false
set_option autoImplicit false
set_option maxRecDepth 100000
namespace Tl
open PySem PySem.Spec PyProof.Rows L2
section
variable {T : Tab} {cl : Cls} {Φ : Nat → Fn} {k : Nat} {W : WX} {S : Stat} {X : Cx} {K : PySem.W.Frag}
/-! ### branches and loops -/
theorem rd_ifs {c : E} {a b : Sm} {D : Ends} {σ : St} {H : Hp} (h : tO K cl W (evS Φ (.ite c a b)) D σ H) : tIfS (tT K cl W Φ c) (tO K cl W (evS Φ a)) (tO K cl W (evS Φ b)) D σ H := by
  obtain ⟨F0, H0, da0, F, da, r, g, RS, p⟩ := h
  refine ⟨F, da, r, g, RS.rep, PostS.st RS p fun kk g1 v F1 H1 n rl RS1 p1 => ?_⟩
  cases rl
  cases kk with
  | true =>
    rw [if_pos rfl]
    exact ⟨F0, H0, da0, F1, da, r, g1, RS1, p1⟩
  | false =>
    rw [if_neg Bool.false_ne_true]
    exact ⟨F0, H0, da0, F1, da, r, g1, RS1, p1⟩
theorem rd_for {t : Tg} {it : E} {b : Sm} {D : Ends} {σ : St} {H : Hp} (h : tO K cl W (evS Φ (.for_ t it b)) D σ H) : tFor (tI K cl W Φ it) (gT K t) (tO K cl W (evS Φ b)) D σ H := by
  obtain ⟨F0, H0, da0, F, da, r, g, RS, p⟩ := h
  refine ⟨F, da, r, g, RS.rep, PostS.st RS p fun d g1 J F1 H1 n rl RS1 p1 => ?_⟩
  obtain ⟨xs, Gp, Y, rfl, hl, wk, hG, hY⟩ := rl
  dsimp only at p1
  generalize ef : (fun x r g => match setT t x r with
      | some r => evS Φ b r g
      | none => O.bad : PyData → Env → G → O) = f at p1
  refine for_it wk (fun i σ' H' => ∃ F' da' r' g', RepS K cl F1 H0 da0 F' H' da' σ' r' g' ∧ PostS K cl W F0 H0 da0 D (forL f (xs.drop i) r' g')) ?_ ?_ ?_ ?_
  · exact ⟨F1, da, r, g1, RS1.rebase, by rw [List.drop_zero]; exact p1⟩
  · rintro i σ' H' hi ⟨F', da', r', g', RS', _⟩
    exact hG F' H' RS'.fr0 RS'.rep.sub
  · rintro i x σ' H' H'' hi ⟨F', da', r', g', RS', p'⟩ y
    obtain ⟨x', F2, hx, al, rp⟩ := hY i F' H' x H'' hi RS'.fr0 RS'.rep.sub y
    have edr : xs.drop i = x' :: xs.drop (i + 1) := by
      obtain ⟨h1, h2⟩ := List.getElem?_eq_some_iff.mp hx
      rw [← List.getElem_cons_drop h1, h2]
    rw [edr] at p'
    have RS2 := RS'.nx (Nx.of_al RS'.rep.gok al)
    unfold forL at p'
    cases es : setT t x' r' with
    | none =>
      have : f x' r' g' = .bad := by rw [← ef]; simp only [es]
      rw [this] at p'
      exact False.elim p'
    | some r1 =>
      have e1 : f x' r' g' = evS Φ b r1 g' := by rw [← ef]; simp only [es]
      rw [e1] at p'
      refine rd_TS RS2 rp es fun σ1 RS3 => ⟨F1, H0, da0, F2, da', r1, g', RS3, ?_⟩
      cases eo : evS Φ b r1 g' with
      | nx r2 g2 => rw [eo] at p'; exact fun σ2 F3 H3 da3 q => ⟨F3, da3, r2, g2, q, p'⟩
      | ct r2 g2 => rw [eo] at p'; exact fun σ2 F3 H3 da3 q => ⟨F3, da3, r2, g2, q, p'⟩
      | bk r2 g2 => rw [eo] at p'; exact fun σ2 F3 H3 da3 q => p' σ2 F3 H3 da3 (RepS.base RS1.fr0 RS1.new0 q)
      | rt d2 g2 => rw [eo] at p'; exact fun v σ2 r3 F3 H3 da3 q rp3 => p' v σ2 r3 F3 H3 da3 (RepS.base RS1.fr0 RS1.new0 q) rp3
      | ro g2 => rw [eo] at p'; exact fun v σ2 r3 F3 H3 da3 q => p' v σ2 r3 F3 H3 da3 (RepS.base RS1.fr0 RS1.new0 q)
      | ex c2 r2 g2 => rw [eo] at p'; exact fun σ2 F3 H3 da3 q => p' σ2 F3 H3 da3 (RepS.base RS1.fr0 RS1.new0 q)
      | bad => rw [eo] at p'; exact p'
  · rintro σ' H' ⟨F', da', r', g', RS', p'⟩
    rw [List.drop_length] at p'
    exact p' σ' F' H' da' (RepS.base RS1.fr0 RS1.new0 RS')
theorem rd_whl {n : Nat} {c : E} {b : Sm} {D : Ends} {σ : St} {H : Hp} (h : tO K cl W (evS Φ (.whl n c b)) D σ H) : tWhile (tT K cl W Φ c) (tO K cl W (evS Φ b)) D σ H := by
  obtain ⟨F0, H0, da0, F, da, r, g, RS, p⟩ := h
  refine ⟨fun m σ' H' => ∃ F' da' r' g', RepS K cl F0 H0 da0 F' H' da' σ' r' g' ∧ PostS K cl W F0 H0 da0 D (whlL (fun r g => evT Φ c r g) (fun r g => evS Φ b r g) m r' g'), ⟨n, F, da, r, g, RS, p⟩, ?_⟩
  rintro m σ' H' ⟨F', da', r', g', RS', p'⟩
  cases m with
  | zero => exact False.elim p'
  | succ m =>
    unfold whlL at p'
    refine ⟨F', da', r', g', RS'.rep, ?_⟩
    cases et : evT Φ c r' g' with
    | ok kk g1 =>
      rw [et] at p'
      intro v F1 H1 nx rl
      cases rl
      have RS1 := RS'.nx nx
      cases kk with
      | true =>
        rw [if_pos rfl]
        refine ⟨fun σ2 H2 => ∃ F' da' r' g', RepS K cl F0 H0 da0 F' H2 da' σ2 r' g' ∧ PostS K cl W F0 H0 da0 D (whlL (fun r g => evT Φ c r g) (fun r g => evS Φ b r g) m r' g'), fun σ2 H2 w => ⟨m, Nat.lt_succ_self m, w⟩, F0, H0, da0, F1, da', r', g1, RS1, ?_⟩
        dsimp only at p'
        cases eo : evS Φ b r' g1 with
        | nx r2 g2 => rw [eo] at p'; exact fun σ2 F3 H3 da3 q => ⟨F3, da3, r2, g2, q, p'⟩
        | ct r2 g2 => rw [eo] at p'; exact fun σ2 F3 H3 da3 q => ⟨F3, da3, r2, g2, q, p'⟩
        | bk r2 g2 => rw [eo] at p'; exact p'
        | rt d2 g2 => rw [eo] at p'; exact p'
        | ro g2 => rw [eo] at p'; exact p'
        | ex c2 r2 g2 => rw [eo] at p'; exact p'
        | bad => rw [eo] at p'; exact p'
      | false =>
        rw [if_neg Bool.false_ne_true]
        exact p' σ' F1 H1 da' RS1
    | exc c1 g1 =>
      rw [et] at p'
      exact fun F1 H1 nx => p' σ' F1 H1 da' (RS'.nx nx)
    | bad => rw [et] at p'; exact p'
structure SndS (T : Tab) (cl : Cls) (Φ : Nat → Fn) (s : Sm) : Prop where
  one : ∀ {k : Nat} {W : WX} {S : Stat} {X : Cx}, YOk T cl Φ k W S X → ∀ x, okS1 T s S x = true → PS X x (tO X.K cl W (evS Φ s))
  all : ∀ {k : Nat} {W : WX} {S : Stat} {X : Cx}, YOk T cl Φ k W S X → ∀ xs, okSs T s S xs = true → PSs X xs (tO X.K cl W (evS Φ s))
theorem rd_nil {D : Ends} {σ : St} {H : Hp} (h : tO K cl W (evS Φ .nil) D σ H) : tNext D σ H := by
  obtain ⟨F0, H0, da0, F, da, r, g, RS, p⟩ := h
  exact p σ F H da RS
theorem okSs_cons {s t : Sm} {xs : List Stmt} (h : okSs T (.cons s t) S xs = true) : (∃ i, s = .frz i ∧ okSs T t S xs = true) ∨ ∃ x ys, xs = x :: ys ∧ okS1 T s S x = true ∧ okSs T t S ys = true := by
  cases s with
  | frz i => exact .inl ⟨i, rfl, h⟩
  | _ =>
    cases xs with
    | nil => exact Bool.noConfusion (show false = true from h)
    | cons x ys =>
      exact .inr ⟨x, ys, rfl, and2 h⟩
theorem noSs {s : Sm} {xs : List Stmt} (h : okSs T s S xs = true) : s = .nil ∨ ∃ a b, s = .cons a b := by
  cases s with
  | nil => exact .inl rfl
  | cons a b => exact .inr ⟨a, b, rfl⟩
  | _ => exact Bool.noConfusion (show false = true from h)
theorem sndS (s : Sm) : SndS T cl Φ s := by
  induction s with
  | nil =>
    refine ⟨@fun k W S X o x q => ?_, @fun k W S X o xs q => ?_⟩
    · exact Bool.noConfusion (show false = true from q)
    · cases xs with
      | nil => exact impSs pss_nil fun D σ H h => rd_nil h
      | cons _ _ => exact Bool.noConfusion (show false = true from q)
  | cons s t ihs iht =>
    refine ⟨@fun k W S X o x q => ?_, @fun k W S X o xs q => ?_⟩
    · exact Bool.noConfusion (show false = true from q)
    · rcases okSs_cons q with ⟨i, rfl, q⟩ | ⟨x, ys, rfl, q1, q2⟩
      · exact impSs (iht.all o _ q) fun D σ H h => rd_frz h
      · exact impSs (pss_cons (ihs.one o x q1) (iht.all o ys q2)) fun D σ H h => rd_cons h
  | asg i e =>
    refine ⟨@fun k W S X o x q => ?_, @fun k W S X o xs q => ?_⟩
    · simp only [okS1_asg, okS1_mk, okS1_par, okS1_mk3, okS1_unp, okS1_aug, okS1_drop, okS1_app, okS1_mkd, okS1_cntd, okS1_mkt, okS1_appt, okS1_rem, okS1_seti, okS1_seti2, okS1_augi, okS1_ite, okS1_for, okS1_whl, okS1_ret, okS1_brk, okS1_cont, okS1_raise, okS1_try, okS1_radd, okS1_rapp, okS1_rpop, okS1_mkr, okS1_mkr3, okS1_retr, okS1_dropc] at q
      split at q
      · exact snd_asg o q
      · cases q
    · exact Bool.noConfusion (show false = true from q)
  | mk i e =>
    refine ⟨@fun k W S X o x q => ?_, @fun k W S X o xs q => ?_⟩
    · simp only [okS1_asg, okS1_mk, okS1_par, okS1_mk3, okS1_unp, okS1_aug, okS1_drop, okS1_app, okS1_mkd, okS1_cntd, okS1_mkt, okS1_appt, okS1_rem, okS1_seti, okS1_seti2, okS1_augi, okS1_ite, okS1_for, okS1_whl, okS1_ret, okS1_brk, okS1_cont, okS1_raise, okS1_try, okS1_radd, okS1_rapp, okS1_rpop, okS1_mkr, okS1_mkr3, okS1_retr, okS1_dropc] at q
      split at q
      · exact snd_mk o q
      · cases q
    · exact Bool.noConfusion (show false = true from q)
  | par t fl as =>
    refine ⟨@fun k W S X o x q => ?_, @fun k W S X o xs q => ?_⟩
    · simp only [okS1_asg, okS1_mk, okS1_par, okS1_mk3, okS1_unp, okS1_aug, okS1_drop, okS1_app, okS1_mkd, okS1_cntd, okS1_mkt, okS1_appt, okS1_rem, okS1_seti, okS1_seti2, okS1_augi, okS1_ite, okS1_for, okS1_whl, okS1_ret, okS1_brk, okS1_cont, okS1_raise, okS1_try, okS1_radd, okS1_rapp, okS1_rpop, okS1_mkr, okS1_mkr3, okS1_retr, okS1_dropc] at q
      split at q
      · exact snd_par o q
      · cases q
    · exact Bool.noConfusion (show false = true from q)
  | mkd i =>
    refine ⟨@fun k W S X o x q => ?_, @fun k W S X o xs q => ?_⟩
    · simp only [okS1_asg, okS1_mk, okS1_par, okS1_mk3, okS1_unp, okS1_aug, okS1_drop, okS1_app, okS1_mkd, okS1_cntd, okS1_mkt, okS1_appt, okS1_rem, okS1_seti, okS1_seti2, okS1_augi, okS1_ite, okS1_for, okS1_whl, okS1_ret, okS1_brk, okS1_cont, okS1_raise, okS1_try, okS1_radd, okS1_rapp, okS1_rpop, okS1_mkr, okS1_mkr3, okS1_retr, okS1_dropc] at q
      split at q
      · exact snd_mkd o q
      · cases q
    · exact Bool.noConfusion (show false = true from q)
  | cntd i j =>
    refine ⟨@fun k W S X o x q => ?_, @fun k W S X o xs q => ?_⟩
    · simp only [okS1_asg, okS1_mk, okS1_par, okS1_mk3, okS1_unp, okS1_aug, okS1_drop, okS1_app, okS1_mkd, okS1_cntd, okS1_mkt, okS1_appt, okS1_rem, okS1_seti, okS1_seti2, okS1_augi, okS1_ite, okS1_for, okS1_whl, okS1_ret, okS1_brk, okS1_cont, okS1_raise, okS1_try, okS1_radd, okS1_rapp, okS1_rpop, okS1_mkr, okS1_mkr3, okS1_retr, okS1_dropc] at q
      split at q
      · obtain ⟨q, q4⟩ := and2 q
        obtain ⟨q, q3⟩ := and2 q
        obtain ⟨q1, q2⟩ := and2 q
        have e1 := of_decide_eq_true q1
        have e2 := of_decide_eq_true q2
        have e3 := of_decide_eq_true q3
        subst e1 e2 e3
        exact snd_cntd o q4
      · cases q
    · exact Bool.noConfusion (show false = true from q)
  | mkt i =>
    refine ⟨@fun k W S X o x q => ?_, @fun k W S X o xs q => ?_⟩
    · simp only [okS1_asg, okS1_mk, okS1_par, okS1_mk3, okS1_unp, okS1_aug, okS1_drop, okS1_app, okS1_mkd, okS1_cntd, okS1_mkt, okS1_appt, okS1_rem, okS1_seti, okS1_seti2, okS1_augi, okS1_ite, okS1_for, okS1_whl, okS1_ret, okS1_brk, okS1_cont, okS1_raise, okS1_try, okS1_radd, okS1_rapp, okS1_rpop, okS1_mkr, okS1_mkr3, okS1_retr, okS1_dropc] at q
      split at q
      · exact snd_mkt o q
      · cases q
    · exact Bool.noConfusion (show false = true from q)
  | appt i kx e =>
    refine ⟨@fun k W S X o x q => ?_, @fun k W S X o xs q => ?_⟩
    · simp only [okS1_asg, okS1_mk, okS1_par, okS1_mk3, okS1_unp, okS1_aug, okS1_drop, okS1_app, okS1_mkd, okS1_cntd, okS1_mkt, okS1_appt, okS1_rem, okS1_seti, okS1_seti2, okS1_augi, okS1_ite, okS1_for, okS1_whl, okS1_ret, okS1_brk, okS1_cont, okS1_raise, okS1_try, okS1_radd, okS1_rapp, okS1_rpop, okS1_mkr, okS1_mkr3, okS1_retr, okS1_dropc] at q
      split at q
      · exact snd_appt o q
      · cases q
    · exact Bool.noConfusion (show false = true from q)
  | mk3 i j l =>
    refine ⟨@fun k W S X o x q => ?_, @fun k W S X o xs q => ?_⟩
    · simp only [okS1_asg, okS1_mk, okS1_par, okS1_mk3, okS1_unp, okS1_aug, okS1_drop, okS1_app, okS1_mkd, okS1_cntd, okS1_mkt, okS1_appt, okS1_rem, okS1_seti, okS1_seti2, okS1_augi, okS1_ite, okS1_for, okS1_whl, okS1_ret, okS1_brk, okS1_cont, okS1_raise, okS1_try, okS1_radd, okS1_rapp, okS1_rpop, okS1_mkr, okS1_mkr3, okS1_retr, okS1_dropc] at q
      split at q
      · exact snd_mk3 o q
      · cases q
    · exact Bool.noConfusion (show false = true from q)
  | unp t e =>
    refine ⟨@fun k W S X o x q => ?_, @fun k W S X o xs q => ?_⟩
    · simp only [okS1_asg, okS1_mk, okS1_par, okS1_mk3, okS1_unp, okS1_aug, okS1_drop, okS1_app, okS1_mkd, okS1_cntd, okS1_mkt, okS1_appt, okS1_rem, okS1_seti, okS1_seti2, okS1_augi, okS1_ite, okS1_for, okS1_whl, okS1_ret, okS1_brk, okS1_cont, okS1_raise, okS1_try, okS1_radd, okS1_rapp, okS1_rpop, okS1_mkr, okS1_mkr3, okS1_retr, okS1_dropc] at q
      split at q
      · exact snd_unp o q
      · cases q
    · exact Bool.noConfusion (show false = true from q)
  | aug i op e =>
    refine ⟨@fun k W S X o x q => ?_, @fun k W S X o xs q => ?_⟩
    · simp only [okS1_asg, okS1_mk, okS1_par, okS1_mk3, okS1_unp, okS1_aug, okS1_drop, okS1_app, okS1_mkd, okS1_cntd, okS1_mkt, okS1_appt, okS1_rem, okS1_seti, okS1_seti2, okS1_augi, okS1_ite, okS1_for, okS1_whl, okS1_ret, okS1_brk, okS1_cont, okS1_raise, okS1_try, okS1_radd, okS1_rapp, okS1_rpop, okS1_mkr, okS1_mkr3, okS1_retr, okS1_dropc] at q
      split at q
      · exact snd_aug o q
      · cases q
    · exact Bool.noConfusion (show false = true from q)
  | drop e =>
    refine ⟨@fun k W S X o x q => ?_, @fun k W S X o xs q => ?_⟩
    · simp only [okS1_asg, okS1_mk, okS1_par, okS1_mk3, okS1_unp, okS1_aug, okS1_drop, okS1_app, okS1_mkd, okS1_cntd, okS1_mkt, okS1_appt, okS1_rem, okS1_seti, okS1_seti2, okS1_augi, okS1_ite, okS1_for, okS1_whl, okS1_ret, okS1_brk, okS1_cont, okS1_raise, okS1_try, okS1_radd, okS1_rapp, okS1_rpop, okS1_mkr, okS1_mkr3, okS1_retr, okS1_dropc] at q
      split at q
      · exact snd_drop o q
      · cases q
    · exact Bool.noConfusion (show false = true from q)
  | app i e =>
    refine ⟨@fun k W S X o x q => ?_, @fun k W S X o xs q => ?_⟩
    · simp only [okS1_asg, okS1_mk, okS1_par, okS1_mk3, okS1_unp, okS1_aug, okS1_drop, okS1_app, okS1_mkd, okS1_cntd, okS1_mkt, okS1_appt, okS1_rem, okS1_seti, okS1_seti2, okS1_augi, okS1_ite, okS1_for, okS1_whl, okS1_ret, okS1_brk, okS1_cont, okS1_raise, okS1_try, okS1_radd, okS1_rapp, okS1_rpop, okS1_mkr, okS1_mkr3, okS1_retr, okS1_dropc] at q
      split at q
      · exact snd_app o q
      · cases q
    · exact Bool.noConfusion (show false = true from q)
  | rem i e =>
    refine ⟨@fun k W S X o x q => ?_, @fun k W S X o xs q => ?_⟩
    · simp only [okS1_asg, okS1_mk, okS1_par, okS1_mk3, okS1_unp, okS1_aug, okS1_drop, okS1_app, okS1_mkd, okS1_cntd, okS1_mkt, okS1_appt, okS1_rem, okS1_seti, okS1_seti2, okS1_augi, okS1_ite, okS1_for, okS1_whl, okS1_ret, okS1_brk, okS1_cont, okS1_raise, okS1_try, okS1_radd, okS1_rapp, okS1_rpop, okS1_mkr, okS1_mkr3, okS1_retr, okS1_dropc] at q
      split at q
      · exact snd_rem o q
      · cases q
    · exact Bool.noConfusion (show false = true from q)
  | seti i kx e =>
    refine ⟨@fun k W S X o x q => ?_, @fun k W S X o xs q => ?_⟩
    · simp only [okS1_asg, okS1_mk, okS1_par, okS1_mk3, okS1_unp, okS1_aug, okS1_drop, okS1_app, okS1_mkd, okS1_cntd, okS1_mkt, okS1_appt, okS1_rem, okS1_seti, okS1_seti2, okS1_augi, okS1_ite, okS1_for, okS1_whl, okS1_ret, okS1_brk, okS1_cont, okS1_raise, okS1_try, okS1_radd, okS1_rapp, okS1_rpop, okS1_mkr, okS1_mkr3, okS1_retr, okS1_dropc] at q
      split at q
      · exact snd_seti o q
      · cases q
    · exact Bool.noConfusion (show false = true from q)
  | seti2 i k1 k2 a b =>
    refine ⟨@fun k W S X o x q => ?_, @fun k W S X o xs q => ?_⟩
    · simp only [okS1_asg, okS1_mk, okS1_par, okS1_mk3, okS1_unp, okS1_aug, okS1_drop, okS1_app, okS1_mkd, okS1_cntd, okS1_mkt, okS1_appt, okS1_rem, okS1_seti, okS1_seti2, okS1_augi, okS1_ite, okS1_for, okS1_whl, okS1_ret, okS1_brk, okS1_cont, okS1_raise, okS1_try, okS1_radd, okS1_rapp, okS1_rpop, okS1_mkr, okS1_mkr3, okS1_retr, okS1_dropc] at q
      split at q
      · exact snd_seti2 o q
      · cases q
    · exact Bool.noConfusion (show false = true from q)
  | augi i kx op e =>
    refine ⟨@fun k W S X o x q => ?_, @fun k W S X o xs q => ?_⟩
    · cases op with
      | add =>
        simp only [okS1_asg, okS1_mk, okS1_par, okS1_mk3, okS1_unp, okS1_aug, okS1_drop, okS1_app, okS1_mkd, okS1_cntd, okS1_mkt, okS1_appt, okS1_rem, okS1_seti, okS1_seti2, okS1_augi, okS1_ite, okS1_for, okS1_whl, okS1_ret, okS1_brk, okS1_cont, okS1_raise, okS1_try, okS1_radd, okS1_rapp, okS1_rpop, okS1_mkr, okS1_mkr3, okS1_retr, okS1_dropc] at q
        split at q
        · exact snd_augi o q
        · cases q
      | _ => exact Bool.noConfusion (show false = true from q)
    · exact Bool.noConfusion (show false = true from q)
  | ite c a b iha ihb =>
    refine ⟨@fun k W S X o x q => ?_, @fun k W S X o xs q => ?_⟩
    · simp only [okS1_asg, okS1_mk, okS1_par, okS1_mk3, okS1_unp, okS1_aug, okS1_drop, okS1_app, okS1_mkd, okS1_cntd, okS1_mkt, okS1_appt, okS1_rem, okS1_seti, okS1_seti2, okS1_augi, okS1_ite, okS1_for, okS1_whl, okS1_ret, okS1_brk, okS1_cont, okS1_raise, okS1_try, okS1_radd, okS1_rapp, okS1_rpop, okS1_mkr, okS1_mkr3, okS1_retr, okS1_dropc] at q
      split at q
      · obtain ⟨q, q3⟩ := and2 q
        obtain ⟨q1, q2⟩ := and2 q
        exact impS (ps_if ((snd c).t o.x _ q1) (iha.all o _ q2) (ihb.all o _ q3)) fun D σ H h => rd_ifs h
      · cases q
    · exact Bool.noConfusion (show false = true from q)
  | for_ t it b ih =>
    refine ⟨@fun k W S X o x q => ?_, @fun k W S X o xs q => ?_⟩
    · simp only [okS1_asg, okS1_mk, okS1_par, okS1_mk3, okS1_unp, okS1_aug, okS1_drop, okS1_app, okS1_mkd, okS1_cntd, okS1_mkt, okS1_appt, okS1_rem, okS1_seti, okS1_seti2, okS1_augi, okS1_ite, okS1_for, okS1_whl, okS1_ret, okS1_brk, okS1_cont, okS1_raise, okS1_try, okS1_radd, okS1_rapp, okS1_rpop, okS1_mkr, okS1_mkr3, okS1_retr, okS1_dropc] at q
      split at q
      · obtain ⟨q, q4⟩ := and2 q
        obtain ⟨q, q3⟩ := and2 q
        obtain ⟨q1, q2⟩ := and2 q
        exact impS (ps_for o.hp o.x.calm ((snd it).i o.x _ _ q1) (pg_T o.x q3) (ih.all o _ q4) (iter_ok q2)) fun D σ H h => rd_for h
      · cases q
    · exact Bool.noConfusion (show false = true from q)
  | whl n c b ih =>
    refine ⟨@fun k W S X o x q => ?_, @fun k W S X o xs q => ?_⟩
    · simp only [okS1_asg, okS1_mk, okS1_par, okS1_mk3, okS1_unp, okS1_aug, okS1_drop, okS1_app, okS1_mkd, okS1_cntd, okS1_mkt, okS1_appt, okS1_rem, okS1_seti, okS1_seti2, okS1_augi, okS1_ite, okS1_for, okS1_whl, okS1_ret, okS1_brk, okS1_cont, okS1_raise, okS1_try, okS1_radd, okS1_rapp, okS1_rpop, okS1_mkr, okS1_mkr3, okS1_retr, okS1_dropc] at q
      split at q
      · obtain ⟨q1, q2⟩ := and2 q
        exact impS (ps_while o.hp ((snd c).t o.x _ q1) (ih.all o _ q2)) fun D σ H h => rd_whl h
      · cases q
    · exact Bool.noConfusion (show false = true from q)
  | ret e =>
    refine ⟨@fun k W S X o x q => ?_, @fun k W S X o xs q => ?_⟩
    · simp only [okS1_asg, okS1_mk, okS1_par, okS1_mk3, okS1_unp, okS1_aug, okS1_drop, okS1_app, okS1_mkd, okS1_cntd, okS1_mkt, okS1_appt, okS1_rem, okS1_seti, okS1_seti2, okS1_augi, okS1_ite, okS1_for, okS1_whl, okS1_ret, okS1_brk, okS1_cont, okS1_raise, okS1_try, okS1_radd, okS1_rapp, okS1_rpop, okS1_mkr, okS1_mkr3, okS1_retr, okS1_dropc] at q
      split at q
      · exact snd_ret o q
      · cases q
    · exact Bool.noConfusion (show false = true from q)
  | brk =>
    refine ⟨@fun k W S X o x q => ?_, @fun k W S X o xs q => ?_⟩
    · simp only [okS1_asg, okS1_mk, okS1_par, okS1_mk3, okS1_unp, okS1_aug, okS1_drop, okS1_app, okS1_mkd, okS1_cntd, okS1_mkt, okS1_appt, okS1_rem, okS1_seti, okS1_seti2, okS1_augi, okS1_ite, okS1_for, okS1_whl, okS1_ret, okS1_brk, okS1_cont, okS1_raise, okS1_try, okS1_radd, okS1_rapp, okS1_rpop, okS1_mkr, okS1_mkr3, okS1_retr, okS1_dropc] at q
      split at q
      · refine impS ps_break fun D σ H h => ?_
        obtain ⟨F0, H0, da0, F, da, r, g, RS, p⟩ := h
        exact p σ F H da RS
      · cases q
    · exact Bool.noConfusion (show false = true from q)
  | cont =>
    refine ⟨@fun k W S X o x q => ?_, @fun k W S X o xs q => ?_⟩
    · simp only [okS1_asg, okS1_mk, okS1_par, okS1_mk3, okS1_unp, okS1_aug, okS1_drop, okS1_app, okS1_mkd, okS1_cntd, okS1_mkt, okS1_appt, okS1_rem, okS1_seti, okS1_seti2, okS1_augi, okS1_ite, okS1_for, okS1_whl, okS1_ret, okS1_brk, okS1_cont, okS1_raise, okS1_try, okS1_radd, okS1_rapp, okS1_rpop, okS1_mkr, okS1_mkr3, okS1_retr, okS1_dropc] at q
      split at q
      · refine impS ps_continue fun D σ H h => ?_
        obtain ⟨F0, H0, da0, F, da, r, g, RS, p⟩ := h
        exact p σ F H da RS
      · cases q
    · exact Bool.noConfusion (show false = true from q)
  | raise c =>
    refine ⟨@fun k W S X o x q => ?_, @fun k W S X o xs q => ?_⟩
    · simp only [okS1_asg, okS1_mk, okS1_par, okS1_mk3, okS1_unp, okS1_aug, okS1_drop, okS1_app, okS1_mkd, okS1_cntd, okS1_mkt, okS1_appt, okS1_rem, okS1_seti, okS1_seti2, okS1_augi, okS1_ite, okS1_for, okS1_whl, okS1_ret, okS1_brk, okS1_cont, okS1_raise, okS1_try, okS1_radd, okS1_rapp, okS1_rpop, okS1_mkr, okS1_mkr3, okS1_retr, okS1_dropc] at q
      split at q
      · exact snd_raise o q
      · cases q
    · exact Bool.noConfusion (show false = true from q)
  | try_ b i j ih =>
    refine ⟨@fun k W S X o x q => ?_, @fun k W S X o xs q => ?_⟩
    · exact snd_try o (fun o' xs q' => ih.all o' xs q') q
    · exact Bool.noConfusion (show false = true from q)
  | radd i e up =>
    refine ⟨@fun k W S X o x q => ?_, @fun k W S X o xs q => ?_⟩
    · simp only [okS1_asg, okS1_mk, okS1_par, okS1_mk3, okS1_unp, okS1_aug, okS1_drop, okS1_app, okS1_mkd, okS1_cntd, okS1_mkt, okS1_appt, okS1_rem, okS1_seti, okS1_seti2, okS1_augi, okS1_ite, okS1_for, okS1_whl, okS1_ret, okS1_brk, okS1_cont, okS1_raise, okS1_try, okS1_radd, okS1_rapp, okS1_rpop, okS1_mkr, okS1_mkr3, okS1_retr, okS1_dropc] at q
      split at q
      · exact snd_radd o q
      · cases q
    · exact Bool.noConfusion (show false = true from q)
  | rapp i e =>
    refine ⟨@fun k W S X o x q => ?_, @fun k W S X o xs q => ?_⟩
    · simp only [okS1_asg, okS1_mk, okS1_par, okS1_mk3, okS1_unp, okS1_aug, okS1_drop, okS1_app, okS1_mkd, okS1_cntd, okS1_mkt, okS1_appt, okS1_rem, okS1_seti, okS1_seti2, okS1_augi, okS1_ite, okS1_for, okS1_whl, okS1_ret, okS1_brk, okS1_cont, okS1_raise, okS1_try, okS1_radd, okS1_rapp, okS1_rpop, okS1_mkr, okS1_mkr3, okS1_retr, okS1_dropc] at q
      split at q
      · exact snd_rapp o q
      · cases q
    · exact Bool.noConfusion (show false = true from q)
  | rpop t i =>
    refine ⟨@fun k W S X o x q => ?_, @fun k W S X o xs q => ?_⟩
    · simp only [okS1_asg, okS1_mk, okS1_par, okS1_mk3, okS1_unp, okS1_aug, okS1_drop, okS1_app, okS1_mkd, okS1_cntd, okS1_mkt, okS1_appt, okS1_rem, okS1_seti, okS1_seti2, okS1_augi, okS1_ite, okS1_for, okS1_whl, okS1_ret, okS1_brk, okS1_cont, okS1_raise, okS1_try, okS1_radd, okS1_rapp, okS1_rpop, okS1_mkr, okS1_mkr3, okS1_retr, okS1_dropc] at q
      split at q
      · exact snd_rpop o q
      · cases q
    · exact Bool.noConfusion (show false = true from q)
  | mkr i a b =>
    refine ⟨@fun k W S X o x q => ?_, @fun k W S X o xs q => ?_⟩
    · simp only [okS1_asg, okS1_mk, okS1_par, okS1_mk3, okS1_unp, okS1_aug, okS1_drop, okS1_app, okS1_mkd, okS1_cntd, okS1_mkt, okS1_appt, okS1_rem, okS1_seti, okS1_seti2, okS1_augi, okS1_ite, okS1_for, okS1_whl, okS1_ret, okS1_brk, okS1_cont, okS1_raise, okS1_try, okS1_radd, okS1_rapp, okS1_rpop, okS1_mkr, okS1_mkr3, okS1_retr, okS1_dropc] at q
      split at q
      · exact snd_mkr o q
      · cases q
    · exact Bool.noConfusion (show false = true from q)
  | mkr3 i j l a b as =>
    refine ⟨@fun k W S X o x q => ?_, @fun k W S X o xs q => ?_⟩
    · simp only [okS1_asg, okS1_mk, okS1_par, okS1_mk3, okS1_unp, okS1_aug, okS1_drop, okS1_app, okS1_mkd, okS1_cntd, okS1_mkt, okS1_appt, okS1_rem, okS1_seti, okS1_seti2, okS1_augi, okS1_ite, okS1_for, okS1_whl, okS1_ret, okS1_brk, okS1_cont, okS1_raise, okS1_try, okS1_radd, okS1_rapp, okS1_rpop, okS1_mkr, okS1_mkr3, okS1_retr, okS1_dropc] at q
      split at q
      · exact snd_mkr3 o q
      · cases q
    · exact Bool.noConfusion (show false = true from q)
  | retr a b =>
    refine ⟨@fun k W S X o x q => ?_, @fun k W S X o xs q => ?_⟩
    · simp only [okS1_asg, okS1_mk, okS1_par, okS1_mk3, okS1_unp, okS1_aug, okS1_drop, okS1_app, okS1_mkd, okS1_cntd, okS1_mkt, okS1_appt, okS1_rem, okS1_seti, okS1_seti2, okS1_augi, okS1_ite, okS1_for, okS1_whl, okS1_ret, okS1_brk, okS1_cont, okS1_raise, okS1_try, okS1_radd, okS1_rapp, okS1_rpop, okS1_mkr, okS1_mkr3, okS1_retr, okS1_dropc] at q
      split at q
      · exact snd_retr o q
      · cases q
    · exact Bool.noConfusion (show false = true from q)
  | dropc f as =>
    refine ⟨@fun k W S X o x q => ?_, @fun k W S X o xs q => ?_⟩
    · simp only [okS1_asg, okS1_mk, okS1_par, okS1_mk3, okS1_unp, okS1_aug, okS1_drop, okS1_app, okS1_mkd, okS1_cntd, okS1_mkt, okS1_appt, okS1_rem, okS1_seti, okS1_seti2, okS1_augi, okS1_ite, okS1_for, okS1_whl, okS1_ret, okS1_brk, okS1_cont, okS1_raise, okS1_try, okS1_radd, okS1_rapp, okS1_rpop, okS1_mkr, okS1_mkr3, okS1_retr, okS1_dropc] at q
      split at q
      · exact snd_dropc o q
      · cases q
    · exact Bool.noConfusion (show false = true from q)
  | _ =>
    refine ⟨@fun k W S X o x q => ?_, @fun k W S X o xs q => ?_⟩
    · exact Bool.noConfusion (show false = true from q)
    · exact Bool.noConfusion (show false = true from q)
end
end Tl
end
section
set_option Elab.async false
set_option linter.all false
set_option autoImplicit false
set_option maxRecDepth 100000
namespace Tl
open PySem PySem.Spec PyProof.Rows L2
/-! ### __init__ of the readers -/
def okInit (S : Stat) : List Stmt → Bool
  | [.Expr (.Call (.Name f _) [.Name a _, .Name b _] [] _) _, .Assign [.Attribute (.Name s1 _) l _] (.Tuple [.Call (.Name g1 _) [.Name a2 _] [] _, .Call (.Name g2 _) [.Name b2 _] [] _] _ _) _, .Assign [.Attribute (.Name s2 _) d _] (.List [.Constant (.int z1) _ _, .Constant (.int z2) _ _] _) _, .Assign [.Attribute (.Name s3 _) m _] (.List [] _) _] =>
    decide (f = ("check_both" : Str)) && (okG S f && (okV S 1 a && (okV S 2 b && (okV S 0 s1 && (decide (l = ("lists" : Str)) && (okB S g1 "list" && (okB S g2 "list" && (okV S 1 a2 && (okV S 2 b2 && (okV S 0 s2 && (decide (d = ("depths" : Str)) && (decide (z1 = 0) && (decide (z2 = 0) && (okV S 0 s3 && decide (m = ("made" : Str))))))))))))))))
  | _ => false
theorem TupI.noI {C dx : Addr} {fs : List (Str × V)} : ¬ TupI (.ins C dx fs) := fun ⟨_, z⟩ => by cases z
section
variable {T : Tab} {cl : Cls} {Φ : Nat → Fn} {k : Nat} {W : WX} {S : Stat} {X : Cx}
theorem upd_none {H : Hp} {p b : Addr} {o : HO} (h : upd H p o b = none) : b ≠ p ∧ H b = none := by
  by_cases z : b = p
  · subst z
    rw [upd_same] at h
    cases h
  · exact ⟨z, by rw [upd_ne z] at h; exact h⟩
/-- what is laid by __init__ behind its check -/
theorem newR_of {da : DA} {F H F1 H1 : Hp} {g g' : G} {x dx l1 l2 t p q : Addr} {xs ys : List V} {A B : List D} (n : Nx da F H F1 H1 g') (gk : GOk H g da) (hx : H x = some (.ins (cl 9) dx [])) (hFx : F x = none) (ra : RpAll F1 xs A) (rb : RpAll F1 ys B) (la : A.length ≤ lim) (lb : B.length ≤ lim)
    (h1 : H1 l1 = none) (h2 : upd H1 l1 (.lst xs) l2 = none) (ht : upd (upd H1 l1 (.lst xs)) l2 (.lst ys) t = none)
    {o1 o2 o3 : HO} (hp : upd (upd (upd (upd H1 l1 (.lst xs)) l2 (.lst ys)) t (.tup [.ref l1, .ref l2])) x o1 p = none)
    (hq : upd (upd (upd (upd (upd (upd H1 l1 (.lst xs)) l2 (.lst ys)) t (.tup [.ref l1, .ref l2])) x o1) p (.lst [.int 0, .int 0])) x o2 q = none) (e3 : o3 = insR cl dx (.ref t) p q) :
    NewR cl da F H (upd (upd (upd F1 l1 (.lst xs)) l2 (.lst ys)) t (.tup [.ref l1, .ref l2])) (upd (upd (upd (upd (upd (upd (upd (upd H1 l1 (.lst xs)) l2 (.lst ys)) t (.tup [.ref l1, .ref l2])) x o1) p (.lst [.int 0, .int 0])) x o2) q (.lst [])) x o3) g' x dx p q (.ref t) A B := by
  have nd : ¬ isDr da x := fun d => by
    obtain ⟨zs, z⟩ := gk.lst d
    rw [hx] at z
    cases z
  have hx1 := n.keep _ _ hx nd
  have fx1 : F1 x = none := (n.new _ _ hx hFx).resolve_right TupI.noI
  have a1 := Al.one (o := .lst xs) n.sub h1
  have a2 := Al.one (o := .lst ys) a1.sub h2
  have a3 := Al.one (o := .tup [.ref l1, .ref l2]) a2.sub ht
  have al := a1.trans (a2.trans a3)
  have n4 := n.al al
  have hx4 := al.keep _ _ hx1
  obtain ⟨l21, _⟩ := upd_none h2
  obtain ⟨tl2, ht'⟩ := upd_none ht
  obtain ⟨tl1, _⟩ := upd_none ht'
  have xl1 : x ≠ l1 := ne_of_none hx1 h1
  have xl2 : x ≠ l2 := ne_of_none (a1.keep _ _ hx1) h2
  have xt : x ≠ t := ne_of_none (a2.keep _ _ (a1.keep _ _ hx1)) ht
  have fx4 : upd (upd (upd F1 l1 (.lst xs)) l2 (.lst ys)) t (.tup [.ref l1, .ref l2]) x = none := (upd_ne xt).trans ((upd_ne xl2).trans ((upd_ne xl1).trans fx1))
  obtain ⟨px, hp4⟩ := upd_none hp
  obtain ⟨qx, hq3⟩ := upd_none hq
  obtain ⟨qp, hq2⟩ := upd_none hq3
  obtain ⟨_, hq4⟩ := upd_none hq2
  have e9 : ∀ b o, upd (upd (upd H1 l1 (.lst xs)) l2 (.lst ys)) t (.tup [.ref l1, .ref l2]) b = some o → b ≠ x → upd (upd (upd (upd (upd (upd (upd (upd H1 l1 (.lst xs)) l2 (.lst ys)) t (.tup [.ref l1, .ref l2])) x o1) p (.lst [.int 0, .int 0])) x o2) q (.lst [])) x o3 b = some o := fun b o e bx => by
    rw [upd_ne bx, upd_ne (ne_of_none e hq4), upd_ne bx, upd_ne (ne_of_none e hp4), upd_ne bx]
    exact e
  have no : ∀ b, upd (upd (upd H1 l1 (.lst xs)) l2 (.lst ys)) t (.tup [.ref l1, .ref l2]) b = none → H b = none := fun b e => by
    cases z : H b with
    | none => rfl
    | some o =>
      obtain ⟨o', e'⟩ := n4.tho _ _ z
      rw [e] at e'
      cases e'
  refine ⟨n4.fr, fun b o e => e9 b o (n4.sub b o e) (ne_of_none e fx4), fx4, fun b o e bx nd' => e9 b o (n4.keep b o e nd') bx, n4.new, ?_, fun b o e => ?_, ?_, ?_, ?_, ?_, no p hp4, no q hq4, n4.sub.free hp4, n4.sub.free hq4, Ne.symm qp⟩
  · exact ((((n4.gok.upd nd).upd (n4.gok.notDr hp4)).upd nd).upd (n4.gok.notDr hq4)).upd nd
  · by_cases bx : b = x
    · subst bx
      exact ⟨_, upd_same⟩
    · obtain ⟨o', e'⟩ := n4.tho b o e
      exact ⟨o', e9 b o' e' bx⟩
  · rw [upd_same, e3]
  · refine .tup upd_same (.cons (.lst ((upd_ne (Ne.symm tl1)).trans ((upd_ne (Ne.symm l21)).trans upd_same)) (ra.mono al.fr) la) (.cons (.lst ((upd_ne (Ne.symm tl2)).trans upd_same) (rb.mono al.fr) lb) .nil)) (by simp [lim])
  · rw [upd_ne px, upd_ne (Ne.symm qp), upd_ne px, upd_same]
  · rw [upd_ne qx, upd_same]
theorem pf1 {v : V} : putF ("lists" : Str) v [] = [(("lists" : Str), v)] := rfl
theorem pf2 {v w : V} : putF ("depths" : Str) w [(("lists" : Str), v)] = [(("lists" : Str), v), (("depths" : Str), w)] := by
  simp only [putF]
  rw [if_neg (by decide)]
theorem pf3 {v w u : V} : putF ("made" : Str) u [(("lists" : Str), v), (("depths" : Str), w)] = [(("lists" : Str), v), (("depths" : Str), w), (("made" : Str), u)] := by
  simp only [putF]
  rw [if_neg (by decide), if_neg (by decide)]
abbrev nInit : List Str := ["self", "one", "other"]
theorem init_body (h : YOk T cl Φ k W ⟨nInit, S.sc, S.fn⟩ X) {nck : Nat} {fc : Addr} {fdc : FuncData} {pc : List Str} (gC : X.mg "check_both" = some (.ref fc)) (kC : PySem.W.keepIn X.K (.ref fc) = true) (bC : Binds X.K fdc pc []) (hC : FnOk X.prog X.w X.K X.mg X.base (L2.CX X.prog X.w) k fc fdc pc (spF cl (Φ nck)))
    {body : List Stmt} (ok : okInit ⟨nInit, S.sc, S.fn⟩ body = true) : ∃ t : TS, PSs X body t ∧ ∀ (vs : List V) (H : Hp) (Q : VK) (E : XK), (∀ c d H, E c d H → W c d (L2.start nInit vs) H) → spI cl (Φ nck) vs H Q E → t { nx := fun _ H' => Q .non H', rt := Q } (L2.start nInit vs) H := by
  unfold okInit at ok
  split at ok
  · obtain ⟨w1, ok⟩ := and2 ok
    obtain ⟨w2, ok⟩ := and2 ok
    obtain ⟨w3, ok⟩ := and2 ok
    obtain ⟨w4, ok⟩ := and2 ok
    obtain ⟨w5, ok⟩ := and2 ok
    obtain ⟨w6, ok⟩ := and2 ok
    obtain ⟨w7, ok⟩ := and2 ok
    obtain ⟨w8, ok⟩ := and2 ok
    obtain ⟨w9, ok⟩ := and2 ok
    obtain ⟨w10, ok⟩ := and2 ok
    obtain ⟨w11, ok⟩ := and2 ok
    obtain ⟨w12, ok⟩ := and2 ok
    obtain ⟨w13, ok⟩ := and2 ok
    obtain ⟨w14, ok⟩ := and2 ok
    obtain ⟨w15, w16⟩ := and2 ok
    have e1 := of_decide_eq_true w1
    have e2 := of_decide_eq_true w6
    have e3 := of_decide_eq_true w12
    have e4 := of_decide_eq_true w13
    have e5 := of_decide_eq_true w14
    have e6 := of_decide_eq_true w16
    subst e1 e2 e3 e4 e5 e6
    obtain ⟨g1, g2⟩ := h.x.gl w2
    obtain ⟨rfl, gl, ml⟩ := h.x.bl w7 (by decide +kernel)
    obtain ⟨rfl, gl', ml'⟩ := h.x.bl w8 (by decide +kernel)
    refine ⟨_, pss_cons (ps_expr (pe_callS (E := WE W) hC h.x.room g1 gC kC bC h.x.pass (pa_cons (h.x.var w3) (pa_cons (h.x.var w4) pa_nil)) g2) rfl)
      (pss_cons (ps_fld (h.x.var w5) (pe_tup (pa_cons (pe_callTy call_list_of gl ml boot_list (pa_cons (h.x.var w9) pa_nil)) (pa_cons (pe_callTy call_list_of gl ml boot_list (pa_cons (h.x.var w10) pa_nil)) pa_nil))) rfl)
      (pss_cons (ps_fld (h.x.var w11) (pe_lst (pa_cons pe_int (pa_cons pe_int pa_nil))) rfl)
      (pss_one (ps_fld (h.x.var w15) (pe_lst pa_nil) rfl)))), fun vs H Q E hE hs => ?_⟩
    obtain ⟨F, da, g, x, dx, v1, v2, d1, d2, rfl, hx, hFx, s, gk, nod, r1, r2, z⟩ := hs
    refine ⟨v1, rfl, v2, rfl, F, da, g, [.val d1, .val d2], s, gk, nod, .cons r1 (.cons r2 .nil), ?_⟩
    cases ef : Φ nck [.val d1, .val d2] g with
    | bad => rw [ef] at z; exact z
    | exc c g' =>
      rw [ef] at z
      exact fun F' H' n => hE _ _ _ (z F' H' n)
    | ok d g' =>
      rw [ef] at z
      obtain ⟨A, B, rfl, rfl, z⟩ := z
      intro v F1 H1 n _
      have nd : ¬ isDr da x := fun d => by
        obtain ⟨zs, z⟩ := gk.lst d
        rw [hx] at z
        cases z
      have hx1 := n.keep _ _ hx nd
      have q1 := r1.mono n.fr
      have q2 := r2.mono n.fr
      cases q1 with
      | lst f1 ra la =>
        cases q2 with
        | lst f2 rb lb =>
          refine ⟨_, rfl, _, _, rfl, .inl (.inl (.inl (n.sub _ _ f1))), fun l1 h1 => ⟨_, rfl, _, _, rfl, .inl (.inl (.inl (same_upd h1 _ _ (n.sub _ _ f2)))), fun l2 h2 => ⟨by simp [sizeLine], fun t ht => ?_⟩⟩⟩
          have hx4 := same_upd (o := .tup [.ref l1, .ref l2]) ht _ _ (same_upd h2 _ _ (same_upd h1 _ _ hx1))
          refine ⟨_, rfl, x, cl 9, dx, [], rfl, hx4, h.x.rdx.rc, h.x.rdx.n1, by simp, ?_⟩
          refine ⟨by simp [sizeLine], fun p hp => ⟨_, rfl, x, cl 9, dx, putF ("lists" : Str) (.ref t) [], rfl, same_upd hp _ _ upd_same, h.x.rdx.rc, h.x.rdx.n2, by rw [pf1]; simp, ?_⟩⟩
          refine ⟨Nat.zero_le _, fun q hq => ⟨_, rfl, x, cl 9, dx, putF ("depths" : Str) (.ref p) (putF ("lists" : Str) (.ref t) []), rfl, same_upd hq _ _ upd_same, h.x.rdx.rc, h.x.rdx.n3, by rw [pf1, pf2]; simp, ?_⟩⟩
          exact z _ _ p q (.ref t) (newR_of n gk hx hFx ra rb la lb h1 h2 ht hp hq (by rw [pf1, pf2, pf3]))
  · cases ok
/-! ### __len__ -/
def mLen : Fn := fun cs g => match cs with
  | [.rdr j _ _] => R.of g ((rdA g j).map fun x => .int x.2.2.length)
  | _ => .bad
def okLen (S : Stat) : List Stmt → Bool
  | [.Return (some (.Call (.Name f _) [.Attribute (.Name s _) m _] [] _)) _] => okB S f "len" && (okV S 0 s && decide (m = ("made" : Str)))
  | _ => false
theorem len_body (h : YOk T cl Φ k W ⟨["self"], S.sc, S.fn⟩ X) {body : List Stmt} (ok : okLen ⟨["self"], S.sc, S.fn⟩ body = true) : ∃ t : TS, PSs X body t ∧ ∀ (vs : List V) (H : Hp) (Q : VK) (E : XK), spF cl mLen vs H Q E → t { nx := fun _ H' => Q .non H', rt := Q } (L2.start ["self"] vs) H := by
  unfold okLen at ok
  split at ok
  · obtain ⟨w1, ok⟩ := and2 ok
    obtain ⟨w2, w3⟩ := and2 ok
    have e1 := of_decide_eq_true w3
    subst e1
    obtain ⟨rfl, gl, ml⟩ := h.x.bl w1 (by decide +kernel)
    refine ⟨_, pss_one (ps_ret (pe_callB call_len gl ml boot_len (pa_cons (h.x.fld w2) pa_nil))), fun vs H Q E hs => ?_⟩
    obtain ⟨F, da, g, cs, s, gk, nod, ao, p⟩ := hs
    unfold mLen at p
    split at p
    · rename_i j A B
      cases ao with
      | cons h1 ao =>
        cases ao
        obtain ⟨x, dx, lv, q, s', a, n, zs, rfl, e2, e3, e4, e5⟩ := h1
        cases ex : rdA g j with
        | none => rw [ex] at p; exact False.elim p
        | some y =>
          rw [ex] at p
          obtain ⟨k1, k2, k3, k4, k5, k6⟩ := gk.rd e4 e5 ex
          refine ⟨_, rfl, x, _, dx, _, .ref s', rfl, s _ _ e2, h.x.rdx.rc, h.x.rdx.n3, look_m, .ref s', (y.2.2.map V.int).length, rfl, .inl ⟨_, .inl (.inl k2), rfl⟩, ?_⟩
          have p' := p (.int y.2.2.length) F H (Nx.refl s gk) (.int _)
          rw [List.length_map]
          exact p'
    · exact False.elim p
  · cases ok
end
end Tl
end
section
set_option Elab.async false
set_option linter.all false
set_option autoImplicit false
set_option maxRecDepth 100000
namespace Tl
open PySem PySem.Spec PyProof.Rows L2
/-! ### a def from its text -/
structure Df where
  x : Str
  q : Str
  st : Stmt
  ps : List Str
  N : List Str
  b : Sm
  o : Bool
/-- a def's mirror -/
def fnX (Φ : Nat → Fn) (d : Df) : Fn := match d.o with
  | false => fnD Φ d.ps.length d.N.length d.b
  | true => fnO Φ d.ps.length d.N.length d.b
def spX (cl : Cls) (d : Df) (m : Fn) : Sp := match d.o with
  | false => spF cl m
  | true => spO cl m
structure DfOk (T : Tab) (i : Nat) (d : Df) : Prop where
  nmi : T.nm[i]? = some d.x
  bnd : ∀ (kV doc pm : Value) (an : Option Addr) (cdv ct : Value) (us : List Value), us.length = d.ps.length → bindArgs (PySem.W.fnOf d.x d.q (defArgs d.st) (defBody d.st) (defScope d.st) .none kV doc pm an cdv ct) ⟨us, []⟩ = pure (d.ps.zip us)
  sc : FnScope d.N d.ps (defScope d.st)
  ok : okSs T d.b ⟨d.N, defScope d.st, fun _ => true⟩ (defBody d.st) = true
/-- what the module's names stand for -/
structure MgOk (K : PySem.W.Frag) (mg : Str → Option Value) (cl : Cls) (T : Tab) : Prop where
  blt : ∀ x ∈ blts, mg x = none
  glo : ∀ p ∈ T.gs, ∃ v u, mg p.1 = some u ∧ RelV v u ∧ ∀ F, Rp F v p.2
  exc : ∀ c x, T.cn[c]? = some x → mg x = some (.ref (cl c)) ∧ PySem.W.excIn K (cl c) [.type "ValueError", .type "Exception", .type "BaseException", .type "object"] "ValueError.__new__" = true ∧ PySem.W.keepIn K (.ref (cl c)) = true ∧
    PySem.W.subIn K (.ref (cl c)) (.type "BaseException") = some true ∧ PySem.W.typeIn K (.ref (cl c)) = some (.type "type")
  exf : ExF K mg cl T
  rc : L2.Cls K (cl 9)
  n1 : NoAttr K (cl 9) "lists"
  n2 : NoAttr K (cl 9) "depths"
  n3 : NoAttr K (cl 9) "made"
  rd : mg "Reader" = some (.ref (cl 9))
def FnsOk (P : Program) (w : World) (K : PySem.W.Frag) (mg : Str → Option Value) (base : Heap) (cl : Cls) (nm : List Str) (fs : List Nat) (k : Nat) (Φ : Nat → Fn) : Prop :=
  ∀ i ∈ fs, ∃ x f fd ps, nm[i]? = some x ∧ mg x = some (.ref f) ∧ PySem.W.keepIn K (.ref f) = true ∧ Binds K fd ps [] ∧ FnOk P w K mg base (L2.CX P w) k f fd ps (spF cl (Φ i))
section
variable {P : Program} {w : World} {K : PySem.W.Frag} {mg : Str → Option Value} {base : Heap} {cl : Cls} {T : Tab} {k : Nat} {Φ : Nat → Fn}
theorem args_len {F : Hp} {da : DA} : ∀ {vs : List V} {cs : List Cell}, ArgsOk cl F da vs cs → vs.length = cs.length
  | _, _, .nil => rfl
  | _, _, .cons _ t => congrArg (· + 1) (args_len t)
theorem args_get {F : Hp} {da : DA} : ∀ {vs : List V} {cs : List Cell} {i : Nat} {c : Cell}, ArgsOk cl F da vs cs → cs[i]? = some c → ∃ v, vs[i]? = some v ∧ ArgOk cl F da v c
  | _, _, _, _, .nil, e => by simp at e
  | _, _, 0, _, .cons h _, e => by simp at e; subst e; exact ⟨_, rfl, h⟩
  | _, _, i + 1, _, .cons _ t, e => by simp at e; obtain ⟨v, h1, h2⟩ := args_get t e; exact ⟨v, by simpa using h1, h2⟩
/-- a body's context -/
theorem yok (M : MgOk K mg cl T) (fns : FnsOk P w K mg base cl T.nm T.fs k Φ) (rdx : RdX P w K mg base cl T k Φ) {N ps : List Str} {scope : Scope} (S : FnScope N ps scope) {qual : Str} {f : Addr} {cdv : Value} {A : Around} {outer : List PySem.Env} {s : Shared} {H : Hp} {E : XK}
    (hr : Room k (A.deeper (envOfC qual scope s.heap.objs.size f cdv))) : YOk T cl Φ k (fun c d _ H => E c d H) ⟨N, scope, fun _ => true⟩ (cxOf (L2.CX P w) P w K mg base N qual scope f cdv A outer s H E) := by
  have tk : Takes (cxOf (L2.CX P w) P w K mg base N qual scope f cdv A outer s H E) (fun c d _ H => E c d H) := takes_of rfl rfl rfl rfl
  refine ⟨⟨rfl, rfl, rfl, S.nd, rfl, hr, M.blt, M.glo, fun σ => passAt tk σ, fns, M.exf, rdx⟩, S.kind, passes_of rfl, tk, fun c x e => ?_, rfl, rfl, rfl⟩
  obtain ⟨h1, h2, h3, h4, h5⟩ := M.exc c x e
  exact ⟨h1, h2, h3, raises_own h4 h5⟩
theorem start_rep {F H : Hp} {da : DA} {g : G} {vs : List V} {cs : List Cell} {N : List Str} (s : Same F H) (gk : GOk H g da) (nod : ∀ b, isDr da b → F b = none) (ao : ArgsOk cl F da vs cs) (hn : cs.length ≤ N.length) : RepS K cl F H da F H da (start N vs) (cs ++ List.replicate (N.length - cs.length) .und) g := by
  have hl := args_len ao
  have noOwn : ∀ (i : Nat) (ds : List D), (cs ++ List.replicate (N.length - cs.length) Cell.und)[i]? ≠ some (.own ds) := fun i ds e => by
    by_cases hi : i < cs.length
    · rw [List.getElem?_append_left hi] at e
      obtain ⟨v, _, h2⟩ := args_get ao e
      exact h2
    · rw [List.getElem?_append_right (by omega), List.getElem?_replicate] at e
      split at e <;> cases e
  have noDc : ∀ (i : Nat) (x : List (List Int × Int)), (cs ++ List.replicate (N.length - cs.length) Cell.und)[i]? ≠ some (.dct x) := fun i x e => by
    by_cases hi : i < cs.length
    · rw [List.getElem?_append_left hi] at e
      obtain ⟨v, _, h2⟩ := args_get ao e
      exact h2
    · rw [List.getElem?_append_right (by omega), List.getElem?_replicate] at e
      split at e <;> cases e
  have noOt : ∀ (i : Nat) (x y z : List D), (cs ++ List.replicate (N.length - cs.length) Cell.und)[i]? ≠ some (.ot x y z) := fun i x y z e => by
    by_cases hi : i < cs.length
    · rw [List.getElem?_append_left hi] at e
      obtain ⟨v, _, h2⟩ := args_get ao e
      exact h2
    · rw [List.getElem?_append_right (by omega), List.getElem?_replicate] at e
      split at e <;> cases e
  refine ⟨⟨s, gk, fun i c e => ?_, ?_, fun i j a ds es e1 => absurd e1 (noOwn i ds), nod, ApT.no noOt, ApD.no noDc⟩, Same.refl F, fun _ _ e _ => e, fun _ _ _ n => .inl n, fun _ o e => ⟨o, e⟩, fun i ds a e => absurd e (noOwn i ds), .inl rfl, fun i x y z t p q s e => absurd e (noOt i x y z), fun i x a e => absurd e (noDc i x)⟩
  · by_cases hi : i < cs.length
    · rw [List.getElem?_append_left hi] at e
      obtain ⟨v, h1, h2⟩ := args_get ao e
      have e2 : (start N vs)[i]? = some (some v) := by
        unfold L2.start
        rw [List.getElem?_append_left (by rw [List.length_map]; omega), List.getElem?_map, h1]
        rfl
      rw [e2]
      cases c with
      | val d => exact ⟨v, rfl, h2⟩
      | drw => obtain ⟨p, q1, q2⟩ := h2; exact ⟨p, q1, by rw [q2]⟩
      | exn c => obtain ⟨a, q1, q2⟩ := h2; exact ⟨a, by rw [q1], q2⟩
      | rdr j A B => exact ⟨v, rfl, h2⟩
      | _ => exact False.elim h2
    · rw [List.getElem?_append_right (by omega), List.getElem?_replicate] at e
      split at e <;> cases e
      trivial
  · unfold L2.start
    simp only [List.length_append, List.length_map, List.length_replicate]
    omega
theorem da_same {F0 H0 F' H' : Hp} {da0 da' : DA} {σ' : St} {r' : Env} {g g' : G} (gk : GOk H0 g da0) (q : RepS K cl F0 H0 da0 F' H' da' σ' r' g') (hn : rdN g' = rdN g) : da' = da0 := by
  rcases q.dah with e | ⟨a, n, zs, us, e1, e2, _⟩
  · exact e
  · have l1 := gk.len
    have l2 := q.rep.gok.len
    subst e1 e2
    rw [l1, l2] at hn
    simp only [List.length_append] at hn
    have : us = [] := List.eq_nil_of_length_eq_zero (by omega)
    rw [this, List.append_nil]
theorem RepS.out {F0 H0 F' H' : Hp} {da0 da' : DA} {σ' : St} {r' : Env} {g g' : G} (gk : GOk H0 g da0) (q : RepS K cl F0 H0 da0 F' H' da' σ' r' g') (hn : rdN g' = rdN g) : Nx da0 F0 H0 F' H' g' :=
  ⟨q.fr0, q.rep.sub, q.keep0, q.new0, by have := q.rep.gok; rw [da_same gk q hn] at this; exact this, q.tho0⟩
theorem fin_of {Q : VK} {E : XK} {F H : Hp} {da : DA} {g : G} {cs : List Cell} {n m : Nat} {b : Sm} (gk : GOk H g da) (h : Post cl (fun c d _ H => E c d H) [] relE da F H Q (fnD Φ n m b cs g)) :
    cs.length = n ∧ PostS K cl (fun c d _ H => E c d H) F H da { nx := fun _ H' => Q .non H', rt := Q } (evS Φ b (cs ++ List.replicate (m - n) .und) g) := by
  unfold fnD at h
  split at h
  · rename_i hc
    refine ⟨hc, ?_⟩
    cases e : evS Φ b (cs ++ List.replicate (m - n) .und) g with
    | nx r1 g1 =>
      rw [e] at h
      simp only at h
      split at h
      · rename_i hn; exact fun σ' F' H' da' q => h .non F' H' (q.out gk hn) .non
      · exact False.elim h
    | rt d g1 =>
      rw [e] at h
      simp only at h
      split at h
      · rename_i hn; exact fun v σ' r' F' H' da' q rp => h v F' H' (q.out gk hn) rp
      · exact False.elim h
    | ro g1 => rw [e] at h; exact False.elim h
    | bk r1 g1 => rw [e] at h; exact False.elim h
    | ct r1 g1 => rw [e] at h; exact False.elim h
    | ex c r1 g1 =>
      rw [e] at h
      simp only at h
      split at h
      · rename_i hn; exact fun σ' F' H' da' q => h F' H' (q.out gk hn)
      · exact False.elim h
    | bad => rw [e] at h; exact False.elim h
  · exact False.elim h
theorem fin_ofO {Q : VK} {E : XK} {F H : Hp} {da : DA} {g : G} {cs : List Cell} {n m : Nat} {b : Sm} (gk : GOk H g da) (h : Post cl (fun c d _ H => E c d H) [] relN da F H Q (fnO Φ n m b cs g)) :
    cs.length = n ∧ PostS K cl (fun c d _ H => E c d H) F H da { nx := fun _ H' => Q .non H', rt := Q } (evS Φ b (cs ++ List.replicate (m - n) .und) g) := by
  unfold fnO at h
  split at h
  · rename_i hc
    refine ⟨hc, ?_⟩
    cases e : evS Φ b (cs ++ List.replicate (m - n) .und) g with
    | nx r1 g1 =>
      rw [e] at h
      simp only at h
      split at h
      · rename_i hn; exact fun σ' F' H' da' q => h .non F' H' (q.out gk hn) trivial
      · exact False.elim h
    | rt d g1 =>
      rw [e] at h
      simp only at h
      split at h
      · rename_i hn; exact fun v σ' r' F' H' da' q rp => h v F' H' (q.out gk hn) trivial
      · exact False.elim h
    | ro g1 =>
      rw [e] at h
      simp only at h
      split at h
      · rename_i hn; exact fun v σ' r' F' H' da' q => h v F' H' (q.out gk hn) trivial
      · exact False.elim h
    | bk r1 g1 => rw [e] at h; exact False.elim h
    | ct r1 g1 => rw [e] at h; exact False.elim h
    | ex c r1 g1 =>
      rw [e] at h
      simp only at h
      split at h
      · rename_i hn; exact fun σ' F' H' da' q => h F' H' (q.out gk hn)
      · exact False.elim h
    | bad => rw [e] at h; exact False.elim h
  · exact False.elim h
theorem scope_le {N ps : List Str} {sc : Scope} (S : FnScope N ps sc) : ps.length ≤ N.length := by
  have := congrArg List.length S.pre
  rw [List.length_take] at this
  omega
theorem def_ok (M : MgOk K mg cl T) (fns : FnsOk P w K mg base cl T.nm T.fs k Φ) (rdx : RdX P w K mg base cl T k Φ) {i : Nat} {d : Df} (D : DfOk T i d) {f : Addr} {fd : FuncData} {kws : List (Str × V)} (F : FunD K d.x d.q (defArgs d.st) (defBody d.st) (defScope d.st) [] kws f fd) :
    FnOk P w K mg base (L2.CX P w) (k + 1) f fd d.ps (spX cl d (fnX Φ d)) := by
  cases ho : d.o with
  | false =>
    have e : spX cl d (fnX Φ d) = spF cl (fnD Φ d.ps.length d.N.length d.b) := by unfold spX fnX; rw [ho]
    rw [e]
    refine F.ok D.sc (fun vs H Q E h => ?_) fun cdv A outer s H vs Q E hr h => ?_
    · obtain ⟨F', da, g, cs, _, gk, _, ao, p⟩ := h
      rw [args_len ao]
      exact (fin_of (K := K) gk p).1
    · obtain ⟨F', da, g, cs, s1, gk, nod, ao, p⟩ := h
      refine ⟨_, (sndS d.b).all (yok M fns rdx D.sc hr) _ D.ok, ?_⟩
      obtain ⟨hc, ps⟩ := fin_of (K := K) gk p
      refine ⟨F', H, da, F', da, _, g, start_rep s1 gk nod ao (by rw [hc]; exact scope_le D.sc), ?_⟩
      rw [hc]
      exact ps
  | true =>
    have e : spX cl d (fnX Φ d) = spO cl (fnO Φ d.ps.length d.N.length d.b) := by unfold spX fnX; rw [ho]
    rw [e]
    refine F.ok D.sc (fun vs H Q E h => ?_) fun cdv A outer s H vs Q E hr h => ?_
    · obtain ⟨F', da, g, cs, _, gk, _, ao, p⟩ := h
      rw [args_len ao]
      exact (fin_ofO (K := K) gk p).1
    · obtain ⟨F', da, g, cs, s1, gk, nod, ao, p⟩ := h
      refine ⟨_, (sndS d.b).all (yok M fns rdx D.sc hr) _ D.ok, ?_⟩
      obtain ⟨hc, ps⟩ := fin_ofO (K := K) gk p
      refine ⟨F', H, da, F', da, _, g, start_rep s1 gk nod ao (by rw [hc]; exact scope_le D.sc), ?_⟩
      rw [hc]
      exact ps
theorem init_ok (M : MgOk K mg cl T) (fns : FnsOk P w K mg base cl T.nm T.fs k Φ) (rdx : RdX P w K mg base cl T k Φ) {nck : Nat} (hck : nck ∈ T.fs) (hnm : T.nm[nck]? = some ("check_both" : Str)) {x q : Str} {params : Arguments} {body : List Stmt} {scope : Scope} (S : FnScope nInit nInit scope) (ok : okInit ⟨nInit, scope, fun _ => true⟩ body = true) {f : Addr} {fd : FuncData} {kws : List (Str × V)} (F : FunD K x q params body scope [] kws f fd) :
    FnOk P w K mg base (L2.CX P w) (k + 1) f fd nInit (spI cl (Φ nck)) := by
  obtain ⟨y, fc, fdc, pc, e1, e2, e3, e4, e5⟩ := fns nck hck
  rw [hnm] at e1
  cases e1
  refine F.ok S (fun vs H Q E h => ?_) fun cdv A outer s H vs Q E hr h => ?_
  · obtain ⟨_, _, _, _, _, _, _, _, _, rfl, _⟩ := h
    rfl
  · obtain ⟨t, h1, h2⟩ := init_body (S := ⟨nInit, scope, fun _ => true⟩) (yok M fns rdx S hr) e2 e3 e4 e5 ok
    exact ⟨t, h1, h2 vs H Q E (fun _ _ _ z => z) h⟩
theorem len_ok (M : MgOk K mg cl T) (fns : FnsOk P w K mg base cl T.nm T.fs k Φ) (rdx : RdX P w K mg base cl T k Φ) {x q : Str} {params : Arguments} {body : List Stmt} {scope : Scope} (S : FnScope ["self"] ["self"] scope) (ok : okLen ⟨["self"], scope, fun _ => true⟩ body = true) {f : Addr} {fd : FuncData} {kws : List (Str × V)} (F : FunD K x q params body scope [] kws f fd) :
    FnOk P w K mg base (L2.CX P w) (k + 1) f fd ["self"] (spF cl mLen) := by
  refine F.ok S (fun vs H Q E h => ?_) fun cdv A outer s H vs Q E hr h => ?_
  · obtain ⟨F', da, g, cs, _, gk, _, ao, p⟩ := h
    rw [args_len ao]
    unfold mLen at p
    split at p
    · rfl
    · exact False.elim p
  · obtain ⟨t, h1, h2⟩ := len_body (S := ⟨["self"], scope, fun _ => true⟩) (yok M fns rdx S hr) ok
    exact ⟨t, h1, h2 vs H Q E h⟩
end
end Tl
end
section
set_option Elab.async false
set_option linter.all false
set_option autoImplicit false
set_option maxRecDepth 100000
namespace Tl
open PySem PySem.Spec PyProof.Rows L2
/-! ### drawing -/
def drawAt (ns : List Int) (c : Int) : Nat := (c % (ns.length : Int)).toNat
def drawMix (x c l : Int) : Int :=
  (((x + 104729 * c) % 4294967291) ^ 5 % 4294967279 / 64 * 69621 + ((x + 104729 * c) % 4294967291) ^ 5 % 4294967279) % 4294967231 / 8 % l
/-- one drawing: the value, the numbers then -/
def drawV (ns : List Int) (c l : Int) : Int := if 1000000000000000000 ≤ ns.getD (drawAt ns c) 0 then ns.getD (drawAt ns c) 0 % l else drawMix (ns.getD (drawAt ns c) 0) c l
def drawN (ns : List Int) (c l : Int) : List Int := if 1000000000000000000 ≤ ns.getD (drawAt ns c) 0 then ns.set (drawAt ns c) (ns.getD (drawAt ns c) 0 / l) else ns
def mDraw : Fn := fun cs g => match cs, g with
  | [.drw, .val (.int l)], some (ns, c, rs) => if 0 < l ∧ l < 1073741824 then .ok (.int (drawV ns (c + 1) l)) (some (drawN ns (c + 1) l, c + 1, rs)) else .bad
  | _, _ => .bad
theorem drawV_lt (ns : List Int) (c l : Int) (h : 0 < l) : 0 ≤ drawV ns c l ∧ drawV ns c l < l := by
  unfold drawV drawMix
  split
  · exact ⟨Int.emod_nonneg _ (by omega), Int.emod_lt_of_pos _ h⟩
  · exact ⟨Int.emod_nonneg _ (by omega), Int.emod_lt_of_pos _ h⟩
theorem drawN_len (ns : List Int) (c l : Int) : (drawN ns c l).length = ns.length := by
  unfold drawN
  split
  · rw [List.length_set]
  · rfl
theorem drawAt_lt {ns : List Int} {c : Int} (h : ns ≠ []) : drawAt ns c < ns.length := by
  have : 0 < ns.length := List.length_pos_iff.mpr h
  unfold drawAt
  have h1 := Int.emod_nonneg c (b := (ns.length : Int)) (by omega)
  have h2 := Int.emod_lt_of_pos c (b := (ns.length : Int)) (by omega)
  omega
/-- what the drawing's promise gives -/
theorem draw_open {cl : Cls} {vs : List V} {H : Hp} {Q : VK} {E : XK} (h : spF cl mDraw vs H Q E) : ∃ (a n : Addr) (ns : List Int) (c l : Int), vs = [.ref a, .int l] ∧ a ≠ n ∧ H a = some (.lst [.ref n, .int c]) ∧ H n = some (.lst (ns.map V.int)) ∧ ns ≠ [] ∧ ns.length ≤ 1000 ∧ 0 < l ∧ l < 1073741824 ∧
    ∀ H', H' a = some (.lst [.ref n, .int (c + 1)]) → H' n = some (.lst ((drawN ns (c + 1) l).map V.int)) → (∀ b, b ≠ a → b ≠ n → H' b = H b) → Q (.int (drawV ns (c + 1) l)) H' := by
  obtain ⟨F, da, g, cs, s, gk, nod, ao, p⟩ := h
  unfold mDraw at p
  split at p
  · rename_i l ns c rs
    split at p
    · rename_i hl
      cases ao with
      | cons h1 ao =>
        cases ao with
        | cons h2 ao =>
          cases ao
          obtain ⟨q, rfl, rfl⟩ := h1
          obtain ⟨a, n, zs⟩ := q
          cases h2
          obtain ⟨g1, g2, g3, g4, g5⟩ := gk
          obtain ⟨n1, n2⟩ := List.nodup_cons.mp g1
          obtain ⟨n3, n4⟩ := List.nodup_cons.mp n2
          have an : a ≠ n := fun z => n1 (by rw [z]; exact .head _)
          have da : isDr (some (a, n, zs)) a := ⟨_, rfl, .head _⟩
          have dn : isDr (some (a, n, zs)) n := ⟨_, rfl, .tail _ (.head _)⟩
          refine ⟨a, n, ns, c, l, rfl, an, g2, g3, g4.1, g4.2, hl.1, hl.2, fun H' k1 k2 k3 => p _ F H' ⟨Same.refl F, fun b o e => ?_, fun b o e nd => ?_, fun _ _ _ z => .inl z, ⟨g1, k1, k2, ⟨?_, ?_⟩, RdOk.keep (fun z hz o => ?_) g5⟩, fun b o e => ?_⟩ (.int _)⟩
          · have ha : b ≠ a := fun z => by rw [z, nod a da] at e; cases e
            have hn : b ≠ n := fun z => by rw [z, nod n dn] at e; cases e
            rw [k3 b ha hn]
            exact s b o e
          · rw [k3 b (fun z => nd (by rw [z]; exact da)) (fun z => nd (by rw [z]; exact dn))]
            exact e
          · intro z
            have := congrArg List.length z
            rw [drawN_len] at this
            exact g4.1 (List.length_eq_zero_iff.mp this)
          · rw [drawN_len]
            exact g4.2
          · obtain ⟨m1, m2⟩ := flat2_mem hz
            rw [k3 z.1 (fun w => n1 (by rw [← w]; exact .tail _ m1)) (fun w => n3 (by rw [← w]; exact m1)), k3 z.2 (fun w => n1 (by rw [← w]; exact .tail _ m2)) (fun w => n3 (by rw [← w]; exact m2))]
            exact ⟨fun e => e, fun e => e⟩
          · by_cases ha : b = a
            · rw [ha]; exact ⟨_, k1⟩
            · by_cases hn : b = n
              · rw [hn]; exact ⟨_, k2⟩
              · rw [k3 b ha hn]; exact ⟨o, e⟩
    · exact False.elim p
  · exact False.elim p
abbrev rAddI : R2 := rI0 fun i j => .int (i + j)
abbrev rMulI : R2 := rI CMul fun i j => .int (i * j)
abbrev rModI : R2 := rI (fun _ j => 0 < j) fun i j => .int (i % j)
abbrev rDivI : R2 := rI CDiv fun i j => .int (i / j)
abbrev rPowI : R2 := rI CPow fun i j => .int (i ^ j.toNat)
def tDraw (K : PySem.W.Frag) : TS :=
  tSeq (tAsg (tOp (rIxL K) (tVar 0) (L2.tC (.int 0))) (gName 2))
  (tSeq (tAsg (tOp rAddI (tOp (rIxL K) (tVar 0) (L2.tC (.int 1))) (L2.tC (.int 1))) (gSub (tVar 0) (L2.tC (.int 1)) rSetL))
  (tSeq (tAsg (tOp rModI (tOp (rIxL K) (tVar 0) (L2.tC (.int 1))) (tCB (rLen K) (tCons (tVar 2) tNil))) (gName 3))
  (tSeq (tAsg (tOp (rIxL K) (tVar 2) (tVar 3)) (gName 4))
  (tSeq (tIfS (tB (tGe (tVar 4) (L2.tC (.int 1000000000000000000)))) (tSeq (tAsg (tOp rDivI (tVar 4) (tVar 1)) (gSub (tVar 2) (tVar 3) rSetL)) (tRet (tOp rModI (tVar 4) (tVar 1)))) tNext)
  (tSeq (tAsg (tOp rModI (tOp rAddI (tVar 4) (tOp rMulI (L2.tC (.int 104729)) (tOp (rIxL K) (tVar 0) (L2.tC (.int 1))))) (L2.tC (.int 4294967291))) (gName 5))
  (tSeq (tAsg (tOp rModI (tOp rPowI (tVar 5) (L2.tC (.int 5))) (L2.tC (.int 4294967279))) (gName 5))
  (tRet (tOp rModI (tOp rDivI (tOp rModI (tOp rAddI (tOp rMulI (tOp rDivI (tVar 5) (L2.tC (.int 64))) (L2.tC (.int 69621))) (tVar 5)) (L2.tC (.int 4294967231))) (L2.tC (.int 8))) (tVar 1)))))))))
def nDraw : List Str := ["draws", "limit", "numbers", "at", "cell", "mixed"]
theorem ns_at {ns : List Int} {j : Nat} (h : j < ns.length) : L2.atI (ns.map V.int) (j : Nat) = some (.int (ns.getD j 0)) := by
  unfold L2.atI L2.ixN
  rw [if_pos (by omega), if_pos (by rw [List.length_map]; omega)]
  simp [List.getElem?_eq_getElem h]
theorem emod_nat (x : Int) {m : Int} (h : 0 < m) : (x % m).natAbs < m.natAbs := by
  have h1 := Int.emod_nonneg x (b := m) (by omega)
  have h2 := Int.emod_lt_of_pos x h
  omega
theorem draw_run {K : PySem.W.Frag} {cl : Cls} {vs : List V} {H : Hp} {Q : VK} {E : XK} (h : spF cl mDraw vs H Q E) : tDraw K { nx := fun _ H' => Q .non H', rt := Q } (L2.start nDraw vs) H := by
  obtain ⟨a, n, ns, c, l, rfl, hne, ha, hn, hnn, hnl, hl1, hl2, hQ⟩ := draw_open h
  have hn1 : (upd H a (.lst [.ref n, .int (c + 1)])) n = some (.lst (ns.map V.int)) := by rw [upd_ne hne.symm]; exact hn
  have hpos : 0 < ns.length := List.length_pos_iff.mpr hnn
  have hat : drawAt ns (c + 1) < ns.length := drawAt_lt hnn
  have hmod : (c + 1) % ((ns.map V.int).length : Int) = (drawAt ns (c + 1) : Nat) := by
    rw [List.length_map]
    unfold drawAt
    have := Int.emod_nonneg (c + 1) (b := (ns.length : Int)) (by omega)
    omega
  have hcell := ns_at hat
  refine ⟨.ref a, rfl, a, [.ref n, .int c], 0, .ref n, rfl, rfl, .inl (.inl ha), rfl, ?_⟩
  refine ⟨.ref a, rfl, a, [.ref n, .int c], 1, .int c, rfl, rfl, .inl (.inl ha), rfl, c, 1, rfl, rfl, ?_⟩
  refine ⟨.ref a, rfl, a, [.ref n, .int c], 1, 1, rfl, rfl, ha, rfl, ?_⟩
  refine ⟨.ref a, rfl, a, _, 1, .int (c + 1), rfl, rfl, .inl (.inl upd_same), rfl, ?_⟩
  refine ⟨.ref n, rfl, .ref n, (ns.map V.int).length, rfl, .inl ⟨_, .inl (.inl hn1), rfl⟩, c + 1, ((ns.map V.int).length : Nat), rfl, rfl, by rw [List.length_map]; omega, ?_⟩
  show gName 3 (.int ((c + 1) % ((ns.map V.int).length : Nat))) _ _ _
  rw [hmod]
  refine ⟨.ref n, rfl, .int (drawAt ns (c + 1) : Nat), rfl, n, _, _, _, rfl, rfl, .inl (.inl hn1), hcell, ?_⟩
  generalize hx : ns.getD (drawAt ns (c + 1)) 0 = x at *
  refine ⟨.int x, rfl, x, 1000000000000000000, rfl, rfl, ?_⟩
  refine ⟨_, rfl, ?_⟩
  by_cases hb : 1000000000000000000 ≤ x
  · dsimp only
    rw [if_pos (by simpa using hb)]
    refine ⟨.int x, rfl, .int l, rfl, x, l, rfl, rfl, ⟨hl1, hl2⟩, ?_⟩
    refine ⟨.ref n, rfl, .int (drawAt ns (c + 1) : Nat), rfl, n, ns.map V.int, _, drawAt ns (c + 1), rfl, rfl, hn1, ?_, ?_⟩
    · unfold L2.ixN
      rw [if_pos (by omega), if_pos (by rw [List.length_map]; omega)]
      simp
    · refine ⟨.int x, rfl, .int l, rfl, x, l, rfl, rfl, hl1, ?_⟩
      have e1 : drawV ns (c + 1) l = x % l := by unfold drawV; rw [hx, if_pos hb]
      have e2 : drawN ns (c + 1) l = ns.set (drawAt ns (c + 1)) (x / l) := by unfold drawN; rw [hx, if_pos hb]
      rw [e1, e2] at hQ
      refine hQ _ ?_ ?_ ?_
      · rw [upd_ne hne]
        exact upd_same
      · rw [upd_same, List.map_set]
      · intro b h1 h2
        rw [upd_ne h2, upd_ne h1]
  · dsimp only
    rw [if_neg (by simpa using hb)]
    refine ⟨.int x, rfl, .ref a, rfl, a, _, 1, .int (c + 1), rfl, rfl, .inl (.inl upd_same), rfl, 104729, c + 1, rfl, rfl, .inl ⟨by decide, by decide⟩, x, 104729 * (c + 1), rfl, rfl, x + 104729 * (c + 1), 4294967291, rfl, rfl, (show (0 : Int) < 4294967291 by decide), ?_⟩
    refine ⟨_, rfl, _, 5, rfl, rfl, ⟨by decide, by decide, ?_⟩, _, 4294967279, rfl, rfl, (show (0 : Int) < 4294967279 by decide), ?_⟩
    · have := emod_nat (x + 104729 * (c + 1)) (m := 4294967291) (by decide)
      have z : (4294967291 : Int).natAbs = 4294967291 := rfl
      rw [z] at this
      exact Nat.lt_trans this (by decide)
    refine ⟨_, rfl, _, 64, rfl, rfl, ⟨by decide, by decide⟩, _, 69621, rfl, rfl, .inr ⟨by decide, by decide⟩, _, rfl, _, _, rfl, rfl, _, 4294967231, rfl, rfl, (show (0 : Int) < 4294967231 by decide), _, 8, rfl, rfl, ⟨by decide, by decide⟩, .int l, rfl, _, l, rfl, rfl, hl1, ?_⟩
    have e1 : drawV ns (c + 1) l = drawMix x (c + 1) l := by unfold drawV; rw [hx, if_neg hb]
    have e2 : drawN ns (c + 1) l = ns := by unfold drawN; rw [hx, if_neg hb]
    rw [e1, e2] at hQ
    exact hQ _ upd_same hn1 fun b h1 h2 => upd_ne h1
/-! ### the start, the law -/
def seedOf (ns : List Int) : List Int := if ns = [] then [0] else ns
def spStart (K : PySem.W.Frag) : Sp := fun vs H Q _ => ∃ (a : Addr) (ns : List Int), vs = [.ref a] ∧ SqL K H a (ns.map V.int) ∧ ns.length ≤ 1000 ∧
  ∀ H' A n, A ≠ n → H' A = some (.lst [.ref n, .int 0]) → H' n = some (.lst ((seedOf ns).map V.int)) → Q (.ref A) H'
abbrev rListOf (K : PySem.W.Frag) : List V → Hp → VK → Prop := fun xs H Q => ∃ p ys, xs = [.ref p] ∧ (SqL K H p ys ∨ SqT K H p ys) ∧ ∀ l, H l = none → Q (.ref l) (upd H l (.lst ys))
def tStart (K : PySem.W.Frag) : TS := tRet (tLst (tCons (tIf (tTest (tOp (rNeD K) (tVar 0) (tLst tNil))) (tCB (rListOf K) (tCons (tVar 0) tNil)) (tLst (tCons (L2.tC (.int 0)) tNil))) (tCons (L2.tC (.int 0)) tNil)))
theorem start_run {K : PySem.W.Frag} {vs : List V} {H : Hp} {Q : VK} {E : XK} (h : spStart K vs H Q E) : tStart K { nx := fun _ H' => Q .non H', rt := Q } (L2.start ["script"] vs) H := by
  obtain ⟨a, ns, rfl, hs, hl, hQ⟩ := h
  refine ⟨.ref a, rfl, Nat.zero_le _, fun p hp => ?_⟩
  have s1 : Same H (upd H p (.lst [])) := same_upd hp
  refine ⟨.list (ns.map PyData.int), .list [], .lst (s1.seq hs) (dp_ints ns), .lst (.inl (.inl upd_same)) .nil, shp_shaped (by simp [PyData.canLay0, lay_ints]) (decide_eq_true (depth_ints ns)), by decide, _, rfl, ?_⟩
  cases ns with
  | nil =>
    have e : (!PyData.eqv (.list (List.map PyData.int [])) (.list [])) = false := rfl
    rw [e, if_neg Bool.false_ne_true]
    refine ⟨by decide, fun n hn => ⟨(show 2 ≤ sizeLine by decide), fun A hA => ?_⟩⟩
    have hne : A ≠ n := fun z => by rw [z, upd_same] at hA; cases hA
    exact hQ _ A n hne upd_same (by rw [upd_ne hne.symm, upd_same]; rfl)
  | cons x r =>
    have e : (!PyData.eqv (.list (List.map PyData.int (x :: r))) (.list [])) = true := rfl
    rw [e, if_pos rfl]
    refine ⟨.ref a, rfl, a, (x :: r).map V.int, rfl, .inl (s1.seq hs), fun n hn => ⟨(show 2 ≤ sizeLine by decide), fun A hA => ?_⟩⟩
    have hne : A ≠ n := fun z => by rw [z, upd_same] at hA; cases hA
    exact hQ _ A n hne upd_same (by rw [upd_ne hne.symm, upd_same]; rfl)
def spLaw (K : PySem.W.Frag) : Sp := fun vs H Q _ => ∃ (a : Addr) (ns : List Int), vs = [.ref a] ∧ SqL K H a (ns.map V.int) ∧ ns.length ≤ 63 ∧ ∀ H', Q (.bl true) H'
def okLaw (T : Tab) (S : Stat) (b : Sm) : List Stmt → Bool
  | .Assign [.Name a _] (.Call (.Name f _) [.Name s _] [] _) _ :: rest => okL S 1 a && okV S 0 s && decide (f = ("_law_start" : Str)) && okG S f && okSs T b S rest
  | _ => false
theorem seed_ne (ns : List Int) : seedOf ns ≠ [] := by
  unfold seedOf
  split
  · exact List.cons_ne_nil _ _
  · assumption
theorem seed_le {ns : List Int} (h : ns.length ≤ 63) : (seedOf ns).length ≤ 1000 := by
  unfold seedOf
  split
  · simp
  · omega
section
variable {P : Program} {w : World} {K : PySem.W.Frag} {mg : Str → Option Value} {base : Heap} {cl : Cls} {T : Tab} {k : Nat} {Φ : Nat → Fn}
theorem law_ok (M : MgOk K mg cl T) (fns : FnsOk P w K mg base cl T.nm T.fs k Φ) (rdx : RdX P w K mg base cl T k Φ) {x qual : Str} {params : Arguments} {body : List Stmt} {scope : Scope} {N : List Str} {b : Sm} (S : FnScope N ["script"] scope) (ok : okLaw T ⟨N, scope, fun _ => true⟩ b body = true)
    {f fS : Addr} {fd fdS : FuncData} {kws : List (Str × V)} (F : FunD K x qual params body scope [] kws f fd) (gS : mg "_law_start" = some (.ref fS)) (kS : PySem.W.keepIn K (.ref fS) = true) (bS : Binds K fdS ["script"] []) (hS : FnOk P w K mg base (L2.CX P w) k fS fdS ["script"] (spStart K)) (h2 : 2 ≤ N.length)
    (hm : ∀ ns : List Int, ns ≠ [] → ns.length ≤ 1000 → ∃ g, evS Φ b (.und :: .drw :: List.replicate (N.length - 2) .und) (some (ns, 0, [])) = .rt (.bool true) g) : FnOk P w K mg base (L2.CX P w) (k + 1) f fd ["script"] (spLaw K) := by
  refine F.ok S (fun vs H Q E h => ?_) fun cdv A outer s H vs Q E hr h => ?_
  · obtain ⟨a, ns, rfl, _⟩ := h
    rfl
  · obtain ⟨a, ns, rfl, hs, hl, hQ⟩ := h
    have Y := yok (E := E) (H := H) (outer := outer) M fns rdx S hr
    unfold okLaw at ok
    split at ok
    · obtain ⟨q, q5⟩ := and2 ok
      obtain ⟨q, q4⟩ := and2 q
      obtain ⟨q, q3⟩ := and2 q
      obtain ⟨q1, q2⟩ := and2 q
      have e := of_decide_eq_true q3
      subst e
      obtain ⟨g1, g2⟩ := Y.x.gl q4
      obtain ⟨l1, l2, l3⟩ := Y.x.loc q1
      refine ⟨_, pss_cons (ps_set Y.x.ndX l1 l2 (pe_callS hS hr g1 gS kS bS Y.x.pass (pa_cons (Y.x.var q2) pa_nil) g2) rfl l3) ((sndS b).all Y _ q5), ?_⟩
      refine ⟨.ref a, rfl, a, ns, rfl, hs, by omega, fun H' A' n' hne hA hN => ?_⟩
      obtain ⟨g, hg⟩ := hm (seedOf ns) (seed_ne ns) (seed_le hl)
      refine ⟨fun _ => none, H', some (A', n', []), fun _ => none, some (A', n', []), (.und :: .drw :: List.replicate (N.length - 2) .und), some (seedOf ns, 0, []), ⟨⟨fun b o e => (by cases e), ⟨by simp [dAll, hne], hA, hN, ⟨seed_ne ns, seed_le hl⟩, trivial⟩, fun i c e => ?_, ?_, fun i j p ds es e1 => ?_, fun _ _ => rfl, ApT.no fun i x y z e1 => ?_, ApD.no fun i x e1 => ?_⟩, Same.refl _, fun _ _ e _ => e, fun _ _ _ _ => .inl rfl, fun b o e => ⟨o, e⟩, fun i ds p e1 => ?_, .inl rfl, fun i x y z t p q s e1 => ?_, fun i x p e1 => ?_⟩, ?_⟩
      · match i, e with
        | 0, e => cases e; trivial
        | 1, e =>
          cases e
          refine ⟨_, rfl, ?_⟩
          rw [List.getElem?_set_self]
          show 1 < (L2.start N [V.ref a]).length
          unfold L2.start
          simp only [List.length_append, List.length_map, List.length_replicate, List.length_cons, List.length_nil]
          omega
        | i + 2, e =>
          simp only [List.getElem?_cons_succ, List.getElem?_replicate] at e
          split at e <;> cases e
          trivial
      · rw [List.length_set]
        unfold L2.start
        simp only [List.length_append, List.length_map, List.length_replicate, List.length_cons, List.length_nil]
        omega
      · match i, e1 with
        | i + 2, e1 =>
          simp only [List.getElem?_cons_succ, List.getElem?_replicate] at e1
          split at e1 <;> cases e1
      · match i, e1 with
        | i + 2, e1 =>
          simp only [List.getElem?_cons_succ, List.getElem?_replicate] at e1
          split at e1 <;> cases e1
      · match i, e1 with
        | i + 2, e1 =>
          simp only [List.getElem?_cons_succ, List.getElem?_replicate] at e1
          split at e1 <;> cases e1
      · match i, e1 with
        | i + 2, e1 =>
          simp only [List.getElem?_cons_succ, List.getElem?_replicate] at e1
          split at e1 <;> cases e1
      · match i, e1 with
        | i + 2, e1 =>
          simp only [List.getElem?_cons_succ, List.getElem?_replicate] at e1
          split at e1 <;> cases e1
      · match i, e1 with
        | i + 2, e1 =>
          simp only [List.getElem?_cons_succ, List.getElem?_replicate] at e1
          split at e1 <;> cases e1
      · rw [hg]
        intro v σ' r' F' H2 da' q rp
        cases rp
        exact hQ H2
    · cases ok
/-- the head's end, with what a def may let out -/
theorem walk_out {l : PySem.W.OpenLaw} {n k : Nat} {q : Program} {loose : List Str} {XP : (Str → Option Value) → Heap → Prop} {YP : World → Heap → Prop} {d : DefRec} {x : Str} (hn : l.most = some n) (hn2 : n ≤ sizeLine) (hd : d.params.defaults = []) (hr : Room k callerA)
    (h : ∀ (w : World) (mg : Str → Option Value) (fa : Addr) (h : Heap), YP w h → h.Ns mainGlobals mg → mg d.name = some (.ref fa) → ∃ (K : PySem.W.Frag) (fd : FuncData) (sp : Sp), K.In h ∧ (∀ (s : Shared) (u : Value), BindsTo s fd ⟨[u], []⟩ [(x, u)]) ∧
      (∀ (H : Hp) (a : Addr) (ns : List Int), ns.length ≤ n → SqL K H a (ns.map V.int) → sp [.ref a] H (fun v _ => v = .bl true) fun _ _ _ => False) ∧ ∀ base : Heap, K.In base → base.Ns mainGlobals mg → FnOk l.prog w K mg base (L2.CX l.prog w) k fa fd [x] sp) :
    PySem.W.WalkO q loose XP YP l.row.toRowW d [] (fun f vs => PySem.call f vs) := by
  refine Att.attach_call hn hd fun w s0 s1 mg mb fa o pm cd doc a vs ns G Y ho hd' hcd hmg hobj hi hlen hg => ?_
  obtain ⟨K, fd, sp, KX, hb, hsp, hF⟩ := h w mg fa _ Y G.T.g hmg
  refine law_call KX G.T.g G.T.b G.T.builtins G.T.nolimit hg hobj hi (Nat.le_trans hlen hn2) hr hF hb (fun H _ hS => hsp H a ns hlen hS) fun H e s' z => ?_
  obtain ⟨_, _, _, _, _, _, _, _, _, _, _, _, z⟩ := z
  exact z
end
end Tl
end
section
set_option Elab.async false
set_option linter.all false
set_option autoImplicit false
set_option maxRecDepth 100000
namespace Tl
open PySem PySem.Spec PyProof.Rows L2
/-! ### all defs, to a depth of calls -/
def phiS (cf : Nat × Bool) (ds : List (Nat × Df)) (k : Nat) (p : (Nat → Fn) × (Nat → Fn)) : Nat → Fn
  | 0 => mDraw
  | i + 1 => match ds.lookup (i + 1) with
    | some d => fnX p.1 d
    | none => if i = 899 then p.2 cf.1 else if i = 900 ∧ cf.2 = true ∧ 0 < k then mLen else fun _ _ => .bad
theorem phiS_some {cf : Nat × Bool} {ds : List (Nat × Df)} {k i : Nat} {p : (Nat → Fn) × (Nat → Fn)} {d : Df} (e : ds.lookup (i + 1) = some d) : phiS cf ds k p (i + 1) = fnX p.1 d := by
  simp only [phiS, e]
theorem phiS_none {cf : Nat × Bool} {ds : List (Nat × Df)} {k i : Nat} {p : (Nat → Fn) × (Nat → Fn)} (e : ds.lookup (i + 1) = none) : phiS cf ds k p (i + 1) = if i = 899 then p.2 cf.1 else if i = 900 ∧ cf.2 = true ∧ 0 < k then mLen else fun _ _ => .bad := by
  simp only [phiS, e]
/-- to the depth k and to k - 1 -/
def phiP (cf : Nat × Bool) (ds : List (Nat × Df)) : Nat → (Nat → Fn) × (Nat → Fn)
  | 0 => (fun _ _ _ => .bad, fun _ _ _ => .bad)
  | k + 1 => (phiS cf ds k (phiP cf ds k), (phiP cf ds k).1)
def phi (cf : Nat × Bool) (ds : List (Nat × Df)) (k : Nat) : Nat → Fn := (phiP cf ds k).1
/-- defs, methods, defs whose value is not looked at -/
structure Dfs where
  f : List (Nat × Df)
  m : List (Nat × Df)
  o : List (Nat × Df)
abbrev Dfs.all (d : Dfs) : List (Nat × Df) := d.f ++ (d.m ++ d.o)
def tab (nm : List Str) (ds : Dfs) (gs : List (Str × D)) (cn : List Str) : Tab := ⟨nm, 0 :: ds.f.map (·.1), gs, cn, ds.m.map (fun p => (p.1, p.2.x)), ds.o.map (·.1)⟩
/-- the numbers fit -/
def numOk (nm : List Str) (cf : Nat × Bool) (ds : Dfs) (cn : List Str) : Bool := decide (ds.all.map (·.1)).Nodup && (ds.all.all fun p => decide (0 < p.1) && decide (p.1 < 900)) && (ds.f.all fun p => !p.2.o) && (ds.m.all fun p => !p.2.o && !(p.2.x == ("lists" : Str)) && !(p.2.x == ("depths" : Str)) && !(p.2.x == ("made" : Str))) && (ds.o.all fun p => p.2.o) && decide (cf.1 ∈ ds.f.map (·.1)) && decide (nm[cf.1]? = some ("check_both" : Str)) && decide (nm[0]? = some ("_law_draw" : Str)) && decide (cn.length ≤ 9)
section
variable {P : Program} {w : World} {K : PySem.W.Frag} {mg : Str → Option Value} {base : Heap} {cl : Cls}
theorem fn_bad {f : Addr} {fd : FuncData} {ps : List Str} : FnOk P w K mg base (L2.CX P w) 0 f fd ps (spF cl fun _ _ => .bad) :=
  ⟨fun _ _ _ _ ⟨_, _, _, _, _, _, _, _, h⟩ => False.elim h, fun _ _ _ _ _ _ _ _ _ _ _ _ _ ⟨_, _, _, _, _, _, _, _, h⟩ => False.elim h⟩
theorem fn_badO {f : Addr} {fd : FuncData} {ps : List Str} : FnOk P w K mg base (L2.CX P w) 0 f fd ps (spO cl fun _ _ => .bad) :=
  ⟨fun _ _ _ _ ⟨_, _, _, _, _, _, _, _, h⟩ => False.elim h, fun _ _ _ _ _ _ _ _ _ _ _ _ _ ⟨_, _, _, _, _, _, _, _, h⟩ => False.elim h⟩
theorem lookup_nd {i : Nat} {d : Df} : ∀ {ds : List (Nat × Df)}, (ds.map (·.1)).Nodup → (i, d) ∈ ds → ds.lookup i = some d
  | (j, e) :: ds, nd, h => by
    rw [List.map_cons, List.nodup_cons] at nd
    rcases List.mem_cons.mp h with z | z
    · cases z
      simp [List.lookup]
    · have hj : i ≠ j := fun w => nd.1 (by rw [← w]; exact List.mem_map.mpr ⟨(i, d), z, rfl⟩)
      simp [List.lookup, beq_eq_false_iff_ne.mpr hj, lookup_nd nd.2 z]
theorem lookup_no {i : Nat} : ∀ {ds : List (Nat × Df)}, i ∉ ds.map (·.1) → ds.lookup i = none
  | [], _ => rfl
  | (j, e) :: ds, h => by
    rw [List.map_cons, List.mem_cons, not_or] at h
    simp [List.lookup, beq_eq_false_iff_ne.mpr h.1, lookup_no h.2]
theorem all_ok {nm : List Str} {cf : Nat × Bool} {ds : Dfs} {gs : List (Str × D)} {cn : List Str} (M : MgOk K mg cl (tab nm ds gs cn)) (no : numOk nm cf ds cn = true) (hd : ∀ p ∈ ds.all, DfOk (tab nm ds gs cn) p.1 p.2)
    (hF : ∀ p ∈ ds.f ++ ds.o, ∃ f fd kws, mg p.2.x = some (.ref f) ∧ FunD K p.2.x p.2.q (defArgs p.2.st) (defBody p.2.st) (defScope p.2.st) [] kws f fd)
    (hM : ∀ p ∈ ds.m, ∃ f fd kws, Meth K (cl 9) p.2.x f ∧ FunD K p.2.x p.2.q (defArgs p.2.st) (defBody p.2.st) (defScope p.2.st) [] kws f fd)
    {sI sN : Stmt} (hI : ∃ f fd kws, Mk K (cl 9) f ∧ FunD K "__init__" "Reader.__init__" (defArgs sI) (defBody sI) (defScope sI) [] kws f fd) (bI : ∀ (kV doc pm : Value) (an : Option Addr) (cdv ct : Value) (us : List Value), us.length = 3 → bindArgs (PySem.W.fnOf "__init__" "Reader.__init__" (defArgs sI) (defBody sI) (defScope sI) .none kV doc pm an cdv ct) ⟨us, []⟩ = pure (nInit.zip us))
    (scI : FnScope nInit nInit (defScope sI)) (okI : okInit ⟨nInit, defScope sI, fun _ => true⟩ (defBody sI) = true)
    (hN : cf.2 = true → ∃ f fd kws, Meth K (cl 9) "__len__" f ∧ FunD K "__len__" "Reader.__len__" (defArgs sN) (defBody sN) (defScope sN) [] kws f fd ∧ (∀ (kV doc pm : Value) (an : Option Addr) (cdv ct : Value) (us : List Value), us.length = 1 → bindArgs (PySem.W.fnOf "__len__" "Reader.__len__" (defArgs sN) (defBody sN) (defScope sN) .none kV doc pm an cdv ct) ⟨us, []⟩ = pure ((["self"] : List Str).zip us)) ∧
      FnScope ["self"] ["self"] (defScope sN) ∧ okLen ⟨["self"], defScope sN, fun _ => true⟩ (defBody sN) = true)
    (hD : ∃ f fd, mg "_law_draw" = some (.ref f) ∧ PySem.W.keepIn K (.ref f) = true ∧ Binds K fd ["draws", "limit"] [] ∧ FnOk P w K mg base (L2.CX P w) 1 f fd ["draws", "limit"] (spF cl mDraw)) :
    ∀ k, FnsOk P w K mg base cl (tab nm ds gs cn).nm (tab nm ds gs cn).fs k (phi cf ds.all k) ∧ RdX P w K mg base cl (tab nm ds gs cn) k (phi cf ds.all k) := by
  unfold numOk at no
  obtain ⟨no, o9⟩ := and2 no
  obtain ⟨no, o8⟩ := and2 no
  obtain ⟨no, o7⟩ := and2 no
  obtain ⟨no, o6⟩ := and2 no
  obtain ⟨no, o5⟩ := and2 no
  obtain ⟨no, o4⟩ := and2 no
  obtain ⟨no, o3⟩ := and2 no
  obtain ⟨o1, o2⟩ := and2 no
  have nd := of_decide_eq_true o1
  have h0 : nm[0]? = some ("_law_draw" : Str) := of_decide_eq_true o8
  have rng : ∀ p ∈ ds.all, 0 < p.1 ∧ p.1 < 900 := fun p hp => by
    obtain ⟨z1, z2⟩ := and2 (List.all_eq_true.mp o2 p hp)
    exact ⟨of_decide_eq_true z1, of_decide_eq_true z2⟩
  have ek : ∀ {i : Nat} {d : Df} (k : Nat), (i, d) ∈ ds.all → phi cf ds.all (k + 1) i = fnX (phi cf ds.all k) d := fun {i d} k hp => by
    have hi := (rng _ hp).1
    cases i with
    | zero => exact absurd hi (Nat.lt_irrefl 0)
    | succ i =>
      have e := lookup_nd nd hp
      show phiS cf ds.all k (phiP cf ds.all k) (i + 1) = _
      rw [phiS_some e]
      rfl
  have hi9 : ∀ i, 900 ≤ i → i ∉ ds.all.map (·.1) := fun i hi hm => by
    obtain ⟨p, hp, e⟩ := List.mem_map.mp hm
    have := (rng p hp).2
    omega
  have e9 : ∀ k, phi cf ds.all (k + 2) 900 = phi cf ds.all k cf.1 := fun k => by
    have e := lookup_no (hi9 900 (Nat.le_refl _))
    show phiS cf ds.all (k + 1) (phiP cf ds.all (k + 1)) (899 + 1) = _
    rw [phiS_none e]
    rfl
  have e10 : ∀ k, phi cf ds.all (k + 2) 901 = if cf.2 = true then mLen else fun _ _ => .bad := fun k => by
    have e := lookup_no (hi9 901 (by decide))
    show phiS cf ds.all (k + 1) (phiP cf ds.all (k + 1)) (900 + 1) = _
    rw [phiS_none e]
    rw [if_neg (by decide)]
    by_cases z : cf.2 = true
    · rw [if_pos ⟨rfl, z, Nat.succ_pos k⟩, if_pos z]
    · rw [if_neg (fun w => z w.2.1), if_neg z]
  have b1 : ∀ i, 900 ≤ i → ∀ cs g, phi cf ds.all 1 i cs g = .bad := fun i hi cs g => by
    have e := lookup_no (hi9 i hi)
    cases i with
    | zero => omega
    | succ i =>
      show phiS cf ds.all 0 (phiP cf ds.all 0) (i + 1) cs g = _
      rw [phiS_none e]
      by_cases z : i = 899
      · rw [if_pos z]; rfl
      · rw [if_neg z, if_neg (fun w => absurd w.2.2 (Nat.lt_irrefl 0))]
  have spf : ∀ {d : Df} {m : Fn}, d.o = false → spX cl d m = spF cl m := fun {d m} z => by unfold spX; rw [z]
  have spo : ∀ {d : Df} {m : Fn}, d.o = true → spX cl d m = spO cl m := fun {d m} z => by unfold spX; rw [z]
  have of : ∀ p ∈ ds.f, p.2.o = false := fun p hp => by simpa using List.all_eq_true.mp o3 p hp
  have om : ∀ p ∈ ds.m, p.2.o = false ∧ (p.2.x = "lists" ∨ p.2.x = "depths" ∨ p.2.x = "made" → False) := fun p hp => by
    have z := List.all_eq_true.mp o4 p hp
    obtain ⟨z, z4⟩ := and2 z
    obtain ⟨z, z3⟩ := and2 z
    obtain ⟨z1, z2⟩ := and2 z
    refine ⟨by simpa using z1, ?_⟩
    rintro (w | w | w)
    · rw [w] at z2; revert z2; decide
    · rw [w] at z3; revert z3; decide
    · rw [w] at z4; revert z4; decide
  have oo : ∀ p ∈ ds.o, p.2.o = true := fun p hp => List.all_eq_true.mp o5 p hp
  have mf : ∀ p ∈ ds.f, p ∈ ds.all := fun p hp => List.mem_append_left _ hp
  have mm : ∀ p ∈ ds.m, p ∈ ds.all := fun p hp => List.mem_append_right _ (List.mem_append_left _ hp)
  have mo : ∀ p ∈ ds.o, p ∈ ds.all := fun p hp => List.mem_append_right _ (List.mem_append_right _ hp)
  have step : ∀ k, (∀ p ∈ ds.all, ∀ f fd kws, FunD K p.2.x p.2.q (defArgs p.2.st) (defBody p.2.st) (defScope p.2.st) [] kws f fd → FnOk P w K mg base (L2.CX P w) k f fd p.2.ps (spX cl p.2 (phi cf ds.all k p.1))) →
      ((∀ cs g, phi cf ds.all k 900 cs g = .bad) ∨ ∃ k', k = k' + 2 ∧ FnsOk P w K mg base cl (tab nm ds gs cn).nm (tab nm ds gs cn).fs k' (phi cf ds.all k') ∧ RdX P w K mg base cl (tab nm ds gs cn) k' (phi cf ds.all k')) →
      ((∀ cs g, phi cf ds.all k 901 cs g = .bad) ∨ ∃ k', k = k' + 2 ∧ FnsOk P w K mg base cl (tab nm ds gs cn).nm (tab nm ds gs cn).fs 0 (phi cf ds.all 0) ∧ RdX P w K mg base cl (tab nm ds gs cn) 0 (phi cf ds.all 0)) →
      (∀ f fd, FnOk P w K mg base (L2.CX P w) 1 f fd ["draws", "limit"] (spF cl mDraw) → FnOk P w K mg base (L2.CX P w) k f fd ["draws", "limit"] (spF cl (phi cf ds.all k 0))) →
      FnsOk P w K mg base cl (tab nm ds gs cn).nm (tab nm ds gs cn).fs k (phi cf ds.all k) ∧ RdX P w K mg base cl (tab nm ds gs cn) k (phi cf ds.all k) := fun k hk h9 h10 hdr => by
    refine ⟨fun i hi => ?_, ⟨M.rc, M.n1, M.n2, M.n3, fun i m hm => ?_, ?_, ?_, fun i hi => ?_⟩⟩
    · rcases List.mem_cons.mp hi with rfl | hi
      · obtain ⟨f, fd, h1, h2, h3, h4⟩ := hD
        exact ⟨_, f, fd, _, h0, h1, h2, h3, hdr f fd h4⟩
      · obtain ⟨p, hp, rfl⟩ := List.mem_map.mp hi
        obtain ⟨f, fd, kws, h1, h2⟩ := hF p (List.mem_append_left _ hp)
        have D := hd p (mf p hp)
        have z := hk p (mf p hp) f fd kws h2
        rw [spf (of p hp)] at z
        exact ⟨_, f, fd, _, D.nmi, h1, h2.kp, h2.bindsN D.bnd, z⟩
    · obtain ⟨p, hp, e⟩ := List.mem_map.mp hm
      cases e
      obtain ⟨f, fd, kws, h1, h2⟩ := hM p hp
      have D := hd p (mm p hp)
      have z := hk p (mm p hp) f fd kws h2
      rw [spf (om p hp).1] at z
      exact ⟨f, fd, _, h1, (om p hp).2, h2.bindsN D.bnd, z⟩
    · obtain ⟨f, fd, kws, h1, h2⟩ := hI
      refine ⟨f, M.rd, h1, ?_⟩
      rcases h9 with h9 | ⟨k', rfl, q1, q2⟩
      · exact .inl h9
      · refine .inr ⟨fd, nInit, k' + 1, Nat.le_refl _, h2.bindsN bI, ?_⟩
        rw [e9 k']
        exact init_ok M q1 q2 (List.mem_cons_of_mem _ (of_decide_eq_true o6)) (of_decide_eq_true o7) scI okI h2
    · rcases h10 with h10 | ⟨k', rfl, q1, q2⟩
      · exact .inl h10
      · by_cases z : cf.2 = true
        · obtain ⟨f, fd, kws, h1, h2, h3, h4, h5⟩ := hN z
          refine .inr ⟨f, fd, ["self"], 1, by omega, h1, h2.bindsN h3, ?_⟩
          rw [e10 k', if_pos z]
          exact len_ok M q1 q2 h4 h5 h2
        · refine .inl fun cs g => ?_
          rw [e10 k', if_neg z]
    · obtain ⟨p, hp, rfl⟩ := List.mem_map.mp hi
      obtain ⟨f, fd, kws, h1, h2⟩ := hF p (List.mem_append_right _ hp)
      have D := hd p (mo p hp)
      have z := hk p (mo p hp) f fd kws h2
      rw [spo (oo p hp)] at z
      exact ⟨_, f, fd, _, D.nmi, h1, h2.kp, h2.bindsN D.bnd, z⟩
  intro k
  induction k using Nat.strongRecOn with
  | ind k ih =>
    cases k with
    | zero =>
      refine step 0 (fun p hp f fd kws h => ?_) (.inl fun _ _ => rfl) (.inl fun _ _ => rfl) (fun f fd h => fn_bad)
      cases ho : p.2.o with
      | false => rw [spf ho]; exact fn_bad
      | true => rw [spo ho]; exact fn_badO
    | succ k =>
      obtain ⟨q1, q2⟩ := ih k (Nat.lt_succ_self k)
      refine step (k + 1) (fun p hp f fd kws h => ?_) ?_ ?_ (fun f fd h => h.mono (by omega))
      · rw [ek k hp]
        exact def_ok M q1 q2 (hd p hp) h
      · cases k with
        | zero => exact .inl (b1 900 (Nat.le_refl _))
        | succ k => exact .inr ⟨k, rfl, ih k (by omega)⟩
      · cases k with
        | zero => exact .inl (b1 901 (by decide))
        | succ k => exact .inr ⟨k, rfl, ih 0 (by omega)⟩
end
/-! ### facts by names -/
def dfD (x : Str) (st : Stmt) : He.DefD := ⟨(x, none), x, x, defArgs st, defBody st, defScope st, [], []⟩
def dfQ (x q : Str) (st : Stmt) : He.DefD := ⟨(x, none), x, q, defArgs st, defBody st, defScope st, [], []⟩
def dfM (x q : Str) (st : Stmt) : He.DefD := ⟨("Reader", some x), x, q, defArgs st, defBody st, defScope st, [], []⟩
def gsFa : Str × D → List He.Fa
  | (x, .int i) => [.int x i]
  | (x, .str z) => [.str x z]
  | _ => []
def lenFa (cf : Nat × Bool) : List He.Fa := if cf.2 = true then [.meth "Reader" "__len__"] else []
def faOf (cf : Nat × Bool) (ds : Dfs) (gs : List (Str × D)) (cn : List Str) : List He.Fa :=
  blts.map He.Fa.free ++ ((["_law_draw", "_law_start", "law", "Reader"] : List Str).map He.Fa.glo ++ ((ds.f ++ ds.o).map (fun p => He.Fa.glo p.2.x) ++ (cn.map He.Fa.glo ++ (cn.map He.Fa.exc ++ (gs.flatMap gsFa ++ ([.cls "Reader", .noat "Reader" "lists", .noat "Reader" "depths", .noat "Reader" "made", .mkr "Reader"] ++ (ds.m.map (fun p => He.Fa.meth "Reader" p.2.x) ++ lenFa cf)))))))
def fnOf (cf : Nat × Bool) (ds : Dfs) (sD sS sL sI sN : Stmt) : List He.DefD := dfD "_law_draw" sD :: dfD "_law_start" sS :: dfD "law" sL :: dfM "__init__" "Reader.__init__" sI :: ((ds.f ++ ds.o).map (fun p => dfQ p.2.x p.2.q p.2.st) ++ (ds.m.map (fun p => dfM p.2.x p.2.q p.2.st) ++ (if cf.2 = true then [dfM "__len__" "Reader.__len__" sN] else [])))
def okGs : Str × D → Bool
  | (_, .int _) => true
  | (_, .str z) => decide (z.length ≤ lim) && PyData.strOk z
  | _ => false
/-- what isinstance and except ask of the errors' classes -/
def excB (K : PySem.W.Frag) (D : Addr) : Bool := He.eqO (PySem.W.findIn K (.ref D) "__getattribute__") (some (some (.builtin "BaseException.__getattribute__"))) && (He.eqO (PySem.W.findIn K (.ref D) "__getattr__") (some none) && (decide (PySem.W.subIn K (.ref D) (.type "BaseException") = some true) && (PySem.W.hasDictIn K D &&
  (He.eqO (PySem.W.findIn K (.ref D) "__class__") (some (some (.builtin "object.__class__"))) && (He.eqO (PySem.W.specialIn K (.builtin "object.__class__") "__get__") (some (some (.builtin "getset_descriptor.__get__"))) && (decide (PySem.W.takesIn K (.builtin "object.__class__") = some true) && decide (PySem.W.mroIn K D (.type "object") = some true)))))))
def exB (cn : List Str) (K : PySem.W.Frag) : Bool := if cn.length = 6 then He.eqO (PySem.W.nsIn K mainGlobals "ListError") (some (some (.ref (He.ga K "ListError")))) && (He.eqO (PySem.W.nsIn K mainGlobals "ValueError") (some none) && (decide cn.Nodup && cn.all fun x => He.eqO (PySem.W.nsIn K mainGlobals x) (some (some (.ref (He.ga K x)))) && (excB K (He.ga K x) &&
  (decide (PySem.W.kitOne K (.ref (He.ga K x)) (.type "ValueError") = some true) && (decide (PySem.W.kitOne K (.ref (He.ga K x)) (.ref (He.ga K "ListError")) = some true) && (decide (PySem.W.exmOne K (.ref (He.ga K x)) (.ref (He.ga K "ListError")) = some true) && cn.all fun y => decide (PySem.W.kitOne K (.ref (He.ga K x)) (.ref (He.ga K y)) = some (decide (x = y)))))))))
  else true
def obsE (as : List Addr) (fa : List He.Fa) (fn : List He.DefD) (cn : List Str) (g : Addr → Option Obj) : He.AlD × Bool := (He.obsD fa fn (He.frG g as), exB cn (He.frG g as))
def hookE (as : List Addr) (fa : List He.Fa) (fn : List He.DefD) (cn : List Str) : PySem.W.Hook where
  α := He.AlD × Bool
  obs := fun s => obsE as fa fn cn s.heap.get?
  val := fun _ => (He.valD fn, true)
  says := fun _ h => ∃ K : PySem.W.Frag, K.In h ∧ He.SaysD fa fn K ∧ exB cn K = true
  of := fun _ _ e => ⟨_, He.frG_in, congrArg Prod.fst e, congrArg Prod.snd e⟩
  keeps := fun _ _ _ ⟨K, hK, c, x⟩ k => ⟨K, PySem.W.Frag.In.keeps hK k, c, x⟩
theorem obsE_eq {as : List Addr} {fa : List He.Fa} {fn : List He.DefD} {cn : List Str} {g : Addr → Option Obj} {s : Shared} (h : ∀ a, g a = s.heap.get? a) : obsE as fa fn cn g = (hookE as fa fn cn).obs s := by
  have e : g = s.heap.get? := funext h
  rw [e] <;> rfl
section
variable {K : PySem.W.Frag} {h : Heap} {mg : Str → Option Value} {nm : List Str} {cf : Nat × Bool} {ds : Dfs} {gs : List (Str × D)} {cn : List Str} {sD sS sL sI sN : Stmt}
theorem fact_of (c : He.SaysD (faOf cf ds gs cn) (fnOf cf ds sD sS sL sI sN) K) {f : He.Fa} (m : f ∈ faOf cf ds gs cn) : f.ok K = true := by
  obtain ⟨i, hi⟩ := List.mem_iff_getElem?.mp m
  exact c.fact i hi
def clOf (K : PySem.W.Frag) (cn : List Str) : Cls := fun c => if c = 9 then He.ga K "Reader" else He.ga K (cn.getD c "")
theorem exf_ok (X : K.In h) (G : h.Ns mainGlobals mg) (hx : exB cn K = true) (nm : List Str) : ExF K mg (clOf K cn) (tab nm ds gs cn) := by
  intro h6
  have h6 : cn.length = 6 := h6
  unfold exB at hx
  rw [if_pos h6] at hx
  obtain ⟨x1, hx⟩ := and2 hx
  obtain ⟨x2, hx⟩ := and2 hx
  obtain ⟨x3, hx⟩ := and2 hx
  have nd := of_decide_eq_true x3
  have all := List.all_eq_true.mp hx
  have ec : ∀ {i : Nat} {x : Str}, cn[i]? = some x → clOf K cn i = He.ga K x := fun {i x} e => by
    unfold clOf
    have := (List.getElem?_eq_some_iff.mp e).1
    rw [if_neg (by omega), List.getD_eq_getElem?_getD, e]
    rfl
  refine ⟨He.ga K "ListError", PySem.W.mg_of X G (He.eqO_ok x1), PySem.W.mg_none_of X G (He.eqO_ok x2), fun c x e => ?_, fun c hc => ?_⟩
  · have e : cn[c]? = some x := e
    obtain ⟨y1, _⟩ := and2 (all x (List.mem_of_getElem? e))
    rw [ec e]
    exact PySem.W.mg_of X G (He.eqO_ok y1)
  · have e : cn[c]? = some cn[c] := List.getElem?_eq_getElem (by omega)
    obtain ⟨_, y⟩ := and2 (all _ (List.mem_of_getElem? e))
    obtain ⟨y2, y⟩ := and2 y
    obtain ⟨y3, y⟩ := and2 y
    obtain ⟨y4, y⟩ := and2 y
    obtain ⟨y5, y6⟩ := and2 y
    rw [ec e]
    refine ⟨?_, of_decide_eq_true y3, of_decide_eq_true y4, of_decide_eq_true y5, fun d hd => ?_⟩
    · obtain ⟨z1, z⟩ := and2 y2
      obtain ⟨z2, z⟩ := and2 z
      obtain ⟨z3, z⟩ := and2 z
      obtain ⟨z4, z⟩ := and2 z
      obtain ⟨z5, z⟩ := and2 z
      obtain ⟨z6, z⟩ := and2 z
      obtain ⟨z7, z8⟩ := and2 z
      exact ⟨He.eqO_ok z1, He.eqO_ok z2, of_decide_eq_true z3, z4, He.eqO_ok z5, He.eqO_ok z6, of_decide_eq_true z7, of_decide_eq_true z8⟩
    · have e2 : cn[d]? = some cn[d] := List.getElem?_eq_getElem (by omega)
      rw [ec e2, of_decide_eq_true (List.all_eq_true.mp y6 _ (List.mem_of_getElem? e2))]
      congr 1
      by_cases hcd : c = d
      · subst hcd
        simp
      · have : cn[c] ≠ cn[d] := fun z => hcd ((List.getElem_inj nd).mp z)
        rw [decide_eq_false this, beq_eq_false_iff_ne.mpr hcd]
theorem mg_ok (X : K.In h) (G : h.Ns mainGlobals mg) (c : He.SaysD (faOf cf ds gs cn) (fnOf cf ds sD sS sL sI sN) K) (hx : exB cn K = true) (nm : List Str) (hg : gs.all okGs = true) (h9 : cn.length ≤ 9) : MgOk K mg (clOf K cn) (tab nm ds gs cn) := by
  have rf : ∀ f ∈ ([.cls "Reader", .noat "Reader" "lists", .noat "Reader" "depths", .noat "Reader" "made", .mkr "Reader"] : List He.Fa), f ∈ faOf cf ds gs cn := fun f hf => by
    unfold faOf
    simp only [List.mem_append]
    exact .inr (.inr (.inr (.inr (.inr (.inr (.inl hf))))))
  have c9 : clOf K cn 9 = He.ga K "Reader" := rfl
  refine ⟨fun x hx => ?_, fun p hp => ?_, fun i x e => ?_, exf_ok X G hx nm, ?_, ?_, ?_, ?_, ?_⟩
  · refine He.free_ok X G (fact_of c ?_)
    exact List.mem_append_left _ (List.mem_map_of_mem hx)
  · have hp : p ∈ gs := hp
    have ok := List.all_eq_true.mp hg p hp
    obtain ⟨x, d⟩ := p
    cases d with
    | int i =>
      have m : He.Fa.int x i ∈ faOf cf ds gs cn := by
        unfold faOf
        simp only [List.mem_append]
        exact .inr (.inr (.inr (.inr (.inr (.inl (List.mem_flatMap.mpr ⟨_, hp, .head _⟩))))))
      obtain ⟨t, e⟩ := He.int_ok X G (fact_of c m)
      exact ⟨.int i, _, e, ⟨t, rfl⟩, fun _ => .int i⟩
    | str z =>
      have m : He.Fa.str x z ∈ faOf cf ds gs cn := by
        unfold faOf
        simp only [List.mem_append]
        exact .inr (.inr (.inr (.inr (.inr (.inl (List.mem_flatMap.mpr ⟨_, hp, .head _⟩))))))
      obtain ⟨t, e⟩ := He.str_ok X G (fact_of c m)
      obtain ⟨o1, o2⟩ := and2 ok
      exact ⟨.str z, _, e, ⟨t, rfl⟩, fun _ => .str z (of_decide_eq_true o1) o2⟩
    | _ => cases ok
  · have e : cn[i]? = some x := e
    have hx : x ∈ cn := List.mem_of_getElem? e
    have ec : clOf K cn i = He.ga K x := by
      unfold clOf
      have := (List.getElem?_eq_some_iff.mp e).1
      rw [if_neg (by omega), List.getD_eq_getElem?_getD, e]
      rfl
    have m1 : He.Fa.glo x ∈ faOf cf ds gs cn := by
      unfold faOf
      simp only [List.mem_append]
      exact .inr (.inr (.inr (.inl (List.mem_map_of_mem hx))))
    have m2 : He.Fa.exc x ∈ faOf cf ds gs cn := by
      unfold faOf
      simp only [List.mem_append]
      exact .inr (.inr (.inr (.inr (.inl (List.mem_map_of_mem hx)))))
    rw [ec]
    obtain ⟨q1, q2, q3, q4⟩ := He.exc_ok (fact_of c m2)
    exact ⟨He.glo_ok X G (fact_of c m1), q1, q2, q3, q4⟩
  · rw [c9]
    exact He.cls_ok (fact_of c (rf _ (.head _)))
  · rw [c9]
    exact He.noat_ok (fact_of c (rf _ (.tail _ (.head _))))
  · rw [c9]
    exact He.noat_ok (fact_of c (rf _ (.tail _ (.tail _ (.head _)))))
  · rw [c9]
    exact He.noat_ok (fact_of c (rf _ (.tail _ (.tail _ (.tail _ (.head _))))))
  · rw [c9]
    refine He.glo_ok X G (fact_of c ?_)
    unfold faOf
    simp only [List.mem_append]
    exact .inr (.inl (List.mem_map_of_mem (f := He.Fa.glo) (.tail _ (.tail _ (.tail _ (.head _))))))
theorem fun_at (c : He.SaysD (faOf cf ds gs cn) (fnOf cf ds sD sS sL sI sN) K) {d : He.DefD} (m : d ∈ fnOf cf ds sD sS sL sI sN) : ∃ fd, FunD K d.name d.qual d.params d.body d.scope (d.dvs K) (d.kws K) (He.fAd K d.at_) fd := by
  obtain ⟨i, hi⟩ := List.mem_iff_getElem?.mp m
  exact c.def_ i hi
theorem fun_ok (X : K.In h) (G : h.Ns mainGlobals mg) (c : He.SaysD (faOf cf ds gs cn) (fnOf cf ds sD sS sL sI sN) K) {x : Str} {st : Stmt} (m : dfD x st ∈ fnOf cf ds sD sS sL sI sN) (m2 : He.Fa.glo x ∈ faOf cf ds gs cn) :
    ∃ f fd, mg x = some (.ref f) ∧ FunD K x x (defArgs st) (defBody st) (defScope st) [] [] f fd := by
  obtain ⟨fd, F⟩ := fun_at c m
  exact ⟨_, fd, He.glo_ok X G (fact_of c m2), F⟩
/-- the law's def, from the facts of the head -/
theorem law_end {P : Program} {w : World} {fa : Addr} (X : K.In h) (G : h.Ns mainGlobals mg) (hfa : mg "law" = some (.ref fa)) (c : He.SaysD (faOf cf ds gs cn) (fnOf cf ds sD sS sL sI sN) K) (hx : exB cn K = true) (hg : gs.all okGs = true) (no : numOk nm cf ds cn = true) (hd : ∀ p ∈ ds.all, DfOk (tab nm ds gs cn) p.1 p.2) {N : List Str} {b : Sm} {k : Nat}
    (S : FnScope N ["script"] (defScope sL)) (ok : okLaw (tab nm ds gs cn) ⟨N, defScope sL, fun _ => true⟩ b (defBody sL) = true) (h2 : 2 ≤ N.length)
    (bD : ∀ (kV doc pm : Value) (an : Option Addr) (cdv ct : Value) (us : List Value), us.length = 2 → bindArgs (PySem.W.fnOf "_law_draw" "_law_draw" (defArgs sD) (defBody sD) (defScope sD) .none kV doc pm an cdv ct) ⟨us, []⟩ = pure ((["draws", "limit"] : List Str).zip us))
    (bS : ∀ (kV doc pm : Value) (an : Option Addr) (cdv ct : Value) (us : List Value), us.length = 1 → bindArgs (PySem.W.fnOf "_law_start" "_law_start" (defArgs sS) (defBody sS) (defScope sS) .none kV doc pm an cdv ct) ⟨us, []⟩ = pure ((["script"] : List Str).zip us))
    (bL : ∀ (kV doc pm : Value) (an : Option Addr) (cdv ct : Value) (us : List Value), us.length = 1 → bindArgs (PySem.W.fnOf "law" "law" (defArgs sL) (defBody sL) (defScope sL) .none kV doc pm an cdv ct) ⟨us, []⟩ = pure ((["script"] : List Str).zip us))
    (bI : ∀ (kV doc pm : Value) (an : Option Addr) (cdv ct : Value) (us : List Value), us.length = 3 → bindArgs (PySem.W.fnOf "__init__" "Reader.__init__" (defArgs sI) (defBody sI) (defScope sI) .none kV doc pm an cdv ct) ⟨us, []⟩ = pure (nInit.zip us))
    (scI : FnScope nInit nInit (defScope sI)) (okI : okInit ⟨nInit, defScope sI, fun _ => true⟩ (defBody sI) = true)
    (hN : cf.2 = true → (∀ (kV doc pm : Value) (an : Option Addr) (cdv ct : Value) (us : List Value), us.length = 1 → bindArgs (PySem.W.fnOf "__len__" "Reader.__len__" (defArgs sN) (defBody sN) (defScope sN) .none kV doc pm an cdv ct) ⟨us, []⟩ = pure ((["self"] : List Str).zip us)) ∧
      FnScope ["self"] ["self"] (defScope sN) ∧ okLen ⟨["self"], defScope sN, fun _ => true⟩ (defBody sN) = true)
    (oD : ∀ {base : Heap} {cl : Cls} {f : Addr} {fd : FuncData}, FunD K "_law_draw" "_law_draw" (defArgs sD) (defBody sD) (defScope sD) [] [] f fd → mg "len" = none → FnOk P w K mg base (L2.CX P w) 1 f fd ["draws", "limit"] (spF cl mDraw))
    (oS : ∀ {base : Heap} {f : Addr} {fd : FuncData}, FunD K "_law_start" "_law_start" (defArgs sS) (defBody sS) (defScope sS) [] [] f fd → mg "list" = none → FnOk P w K mg base (L2.CX P w) 1 f fd ["script"] (spStart K))
    (hm : ∀ ns : List Int, ns ≠ [] → ns.length ≤ 1000 → ∃ g, evS (phi cf ds.all (k + 1)) b (.und :: .drw :: List.replicate (N.length - 2) .und) (some (ns, 0, [])) = .rt (.bool true) g) :
    ∃ fd : FuncData, (∀ (s : Shared) (v : Value), BindsTo s fd ⟨[v], []⟩ [("script", v)]) ∧ ∀ base : Heap, K.In base → base.Ns mainGlobals mg → FnOk P w K mg base (L2.CX P w) (k + 2) fa fd ["script"] (spLaw K) := by
  have h9 : cn.length ≤ 9 := by
    unfold numOk at no
    exact of_decide_eq_true (and2 no).2
  have M := mg_ok X G c hx nm hg h9
  have gl : ∀ x ∈ (["_law_draw", "_law_start", "law", "Reader"] : List Str), He.Fa.glo x ∈ faOf cf ds gs cn := fun x hx => by
    unfold faOf
    simp only [List.mem_append]
    exact .inr (.inl (List.mem_map_of_mem hx))
  obtain ⟨fD, fdD, gD, FD⟩ := fun_ok (x := "_law_draw") (st := sD) X G c (.head _) (gl _ (.head _))
  obtain ⟨fS, fdS, gS, FS⟩ := fun_ok (x := "_law_start") (st := sS) X G c (.tail _ (.head _)) (gl _ (.tail _ (.head _)))
  obtain ⟨fL, fd, gL, FL⟩ := fun_ok (x := "law") (st := sL) X G c (.tail _ (.tail _ (.head _))) (gl _ (.tail _ (.tail _ (.head _))))
  have e := hfa.symm.trans gL
  cases e
  have b1 := FunD.bindsA (ps := ["script"]) FL bL
  refine ⟨fd, fun s v => b1 s [v] rfl, fun base _ _ => ?_⟩
  have fns := all_ok (P := P) (w := w) (base := base) (cf := cf) (sI := sI) (sN := sN) M no hd (fun p hd' => by
    obtain ⟨fd, F1⟩ := fun_at c (d := dfQ p.2.x p.2.q p.2.st) (.tail _ (.tail _ (.tail _ (.tail _ (List.mem_append_left _ (List.mem_map_of_mem (f := fun p : Nat × Df => dfQ p.2.x p.2.q p.2.st) hd'))))))
    refine ⟨_, fd, [], He.glo_ok X G (fact_of c ?_), F1⟩
    unfold faOf
    simp only [List.mem_append]
    exact .inr (.inr (.inl (List.mem_append.mp (by
      have := List.mem_map_of_mem (f := fun p : Nat × Df => He.Fa.glo p.2.x) hd'
      rw [List.map_append] at this
      exact this) |> fun z => by rw [List.map_append, List.mem_append]; exact z)))) (fun p hp => by
    obtain ⟨fd, F1⟩ := fun_at c (d := dfM p.2.x p.2.q p.2.st) (.tail _ (.tail _ (.tail _ (.tail _ (List.mem_append_right _ (List.mem_append_left _ (List.mem_map_of_mem (f := fun p : Nat × Df => dfM p.2.x p.2.q p.2.st) hp)))))))
    refine ⟨_, fd, [], He.meth_ok (fact_of c ?_), F1⟩
    unfold faOf
    simp only [List.mem_append]
    exact .inr (.inr (.inr (.inr (.inr (.inr (.inr (.inl (List.mem_map_of_mem (f := fun p : Nat × Df => He.Fa.meth "Reader" p.2.x) hp))))))))) (by
    obtain ⟨fd, F1⟩ := fun_at c (d := dfM "__init__" "Reader.__init__" sI) (.tail _ (.tail _ (.tail _ (.head _))))
    refine ⟨_, fd, [], He.mkr_ok (fact_of c ?_), F1⟩
    unfold faOf
    simp only [List.mem_append]
    exact .inr (.inr (.inr (.inr (.inr (.inr (.inl (.tail _ (.tail _ (.tail _ (.tail _ (.head _)))))))))))) bI scI okI (fun z => by
    obtain ⟨fd, F1⟩ := fun_at c (d := dfM "__len__" "Reader.__len__" sN) (.tail _ (.tail _ (.tail _ (.tail _ (List.mem_append_right _ (List.mem_append_right _ (by rw [if_pos z]; exact .head _)))))))
    obtain ⟨y1, y2, y3⟩ := hN z
    refine ⟨_, fd, [], He.meth_ok (fact_of c ?_), F1, y1, y2, y3⟩
    unfold faOf lenFa
    simp only [List.mem_append, if_pos z]
    exact .inr (.inr (.inr (.inr (.inr (.inr (.inr (.inr (.head _))))))))) ⟨fD, fdD, gD, FD.kp, FD.bindsN bD, oD FD (M.blt _ (by decide +kernel))⟩ (k + 1)
  exact law_ok M fns.1 fns.2 S ok FL gS FS.kp (FS.bindsN bS) ((oS FS (M.blt _ (by decide +kernel))).mono (by omega)) h2 hm
end
end Tl
end
section
set_option Elab.async false
set_option linter.all false
set_option autoImplicit false
set_option maxRecDepth 100000
namespace Tl
open PySem
/-- a method of a class -/
def clsM (s : Stmt) (j : Nat) : Stmt := match s with
  | .ClassDef _ _ _ body _ _ _ _ _ _ _ => body.getD j (.Pass ⟨0, 0, 0, 0⟩)
  | _ => .Pass ⟨0, 0, 0, 0⟩
def nm0 : List Str := ["_law_draw", "is_int", "is_full", "check_full", "check_both", "row_of", "overlap_row", "overlap", "common_things", "new_common", "common", "lowest", "plus", "mean_overlap", "meeting_depth", "waiting", "is_row", "_law_pick", "_law_list", "_law_row", "_law_low", "check_size", "waits_of", "check_row", "ways_of", "count_others", "other_with", "rows_of", "all_rows", "count_rows"]
def nm1 : List Str := ["row_at", "rank_of", "first_fault", "_law_true", "_law_all", "rows_with_total", "_law_error", "_law_total", "better", "is_fair", "is_fair_list", "first_unfair", "last_places", "by_turns", "ways", "count_fair", "rest_ways", "fair_at", "_law_fair", "depth_for", "check_things", "depth_for_all", "depth_for_any", "meeting_order", "full_depths", "empty_depth", "cheapest", "_law_cheapest", "is_short", "check_short"]
def nm2 : List Str := ["check_shorts", "listed", "is_known", "is_ahead", "kinds_of", "pairs_of", "distance_range", "shared", "alone", "agree", "rest_of", "nearest_fill", "farthest_fill", "place_range", "count_fills", "_law_short", "_law_orders", "_law_otherwise", "_law_fills", "prefix", "count_otherwise", "check_long", "can_extend", "check_lists", "letters_of", "turns", "place_in", "by_best_place", "by_sum", "place_sums"]
def nm3 : List Str := ["by_votes", "_law_place", "beats", "unbeaten", "sure_order", "exchanged", "moved", "renamed", "places", "seen_from", "backward", "without_thing", "_law_single", "_law_call", "format_full", "parse_full", "format_short", "parse_short", "_law_written", "_law_parsed", "_law_rejected", "_law_shorts", "_wall", "_law_two", "_law_three", "_law_single", "_law_asked", "_law_numbers", "_law_pair", "_law_lists"]
def nm4 : List Str := ["_law_call", "_law_asked", "_law_rows", "_law_letters", "_law_first", "_law_second", "_law_kinds", "read", "seen", "waits", "depth", "undo", "waits", "undo", "undo"]
def nmAll : List Str := nm0 ++ nm1 ++ nm2 ++ nm3 ++ nm4
def b_is_int : Sm := (.cons (.ret (.and (.isi (.var 0) .int) (.and (.un .notv (.isi (.var 0) .bool)) (.le2 (.var 1) (.var 0) (.var 2)))))
  .nil)
class F_is_int (Φ : Nat → Nat → Fn) : Prop where
  eq : ∀ k, Φ (k + 1) 1 = fnD (Φ k) 3 3 b_is_int
def b_is_full : Sm := (.cons (.ite (.or (.un .notv (.isi (.var 0) .list)) (.un .notv (.le2 (.con (.int (1))) (.un .len (.var 0)) (.glo 0 (.int 7)))))
  (.cons (.ret (.con (.bool false)))
  .nil)
  .nil)
  (.cons (.ite (.un .notv (.un .all (.lc (.nm 1) (.itl (.var 0)) (.con (.bool true)) (.call 1 (.cons (.var 1) (.cons (.con (.int (0))) (.cons (.bi .sub (.un .len (.var 0)) (.con (.int (1)))) .nil)))))))
  (.cons (.ret (.con (.bool false)))
  .nil)
  .nil)
  (.cons (.ret (.bi .eq (.un .lenset (.var 0)) (.un .len (.var 0))))
  .nil)))
class F_is_full (Φ : Nat → Nat → Fn) : Prop where
  eq : ∀ k, Φ (k + 1) 2 = fnD (Φ k) 1 2 b_is_full
def b_check_full : Sm := (.cons (.ite (.un .notv (.call 2 (.cons (.var 0) .nil)))
  (.cons (.raise 0)
  .nil)
  .nil)
  .nil)
class F_check_full (Φ : Nat → Nat → Fn) : Prop where
  eq : ∀ k, Φ (k + 1) 3 = fnD (Φ k) 1 1 b_check_full
def b_check_both : Sm := (.cons (.drop (.call 3 (.cons (.var 0) .nil)))
  (.cons (.drop (.call 3 (.cons (.var 1) .nil)))
  (.cons (.ite (.bi .ne (.un .len (.var 0)) (.un .len (.var 1)))
  (.cons (.raise 0)
  .nil)
  .nil)
  .nil)))
class F_check_both (Φ : Nat → Nat → Fn) : Prop where
  eq : ∀ k, Φ (k + 1) 4 = fnD (Φ k) 2 2 b_check_both
def b_row_of : Sm := (.cons (.mk 2 (.lst .nil))
  (.cons (.for_ (.nm 3) (.rng2 (.con (.int (1))) (.bi .add (.un .len (.var 0)) (.con (.int (1)))))
  (.cons (.app 2 (.un .len (.lc (.nm 4) (.itl (.bi .upto (.var 0) (.var 3))) (.bi .isin (.var 4) (.bi .upto (.var 1) (.var 3))) (.var 4))))
  .nil))
  (.cons (.frz 2)
  (.cons (.ret (.var 2))
  .nil))))
class F_row_of (Φ : Nat → Nat → Fn) : Prop where
  eq : ∀ k, Φ (k + 1) 5 = fnD (Φ k) 2 5 b_row_of
def b_overlap_row : Sm := (.cons (.drop (.call 4 (.cons (.var 0) (.cons (.var 1) .nil))))
  (.cons (.ret (.call 5 (.cons (.var 0) (.cons (.var 1) .nil))))
  .nil))
class F_overlap_row (Φ : Nat → Nat → Fn) : Prop where
  eq : ∀ k, Φ (k + 1) 6 = fnD (Φ k) 2 2 b_overlap_row
def b_overlap : Sm := (.cons (.drop (.call 4 (.cons (.var 0) (.cons (.var 1) .nil))))
  (.cons (.ite (.un .notv (.call 1 (.cons (.var 2) (.cons (.con (.int (0))) (.cons (.un .len (.var 0)) .nil)))))
  (.cons (.raise 1)
  .nil)
  .nil)
  (.cons (.ret (.un .len (.lc (.nm 3) (.itl (.bi .upto (.var 0) (.var 2))) (.bi .isin (.var 3) (.bi .upto (.var 1) (.var 2))) (.var 3))))
  .nil)))
class F_overlap (Φ : Nat → Nat → Fn) : Prop where
  eq : ∀ k, Φ (k + 1) 7 = fnD (Φ k) 3 4 b_overlap
def b_common_things : Sm := (.cons (.drop (.call 4 (.cons (.var 0) (.cons (.var 1) .nil))))
  (.cons (.ite (.un .notv (.call 1 (.cons (.var 2) (.cons (.con (.int (0))) (.cons (.un .len (.var 0)) .nil)))))
  (.cons (.raise 1)
  .nil)
  .nil)
  (.cons (.ret (.un .sorted (.lc (.nm 3) (.itl (.bi .upto (.var 0) (.var 2))) (.bi .isin (.var 3) (.bi .upto (.var 1) (.var 2))) (.var 3))))
  .nil)))
class F_common_things (Φ : Nat → Nat → Fn) : Prop where
  eq : ∀ k, Φ (k + 1) 8 = fnD (Φ k) 3 4 b_common_things
def b_new_common : Sm := (.cons (.drop (.call 4 (.cons (.var 0) (.cons (.var 1) .nil))))
  (.cons (.mk 2 (.lst .nil))
  (.cons (.for_ (.nm 3) (.rng2 (.con (.int (1))) (.bi .add (.un .len (.var 0)) (.con (.int (1)))))
  (.cons (.asg 4 (.lc (.nm 5) (.itl (.bi .upto (.var 0) (.bi .sub (.var 3) (.con (.int (1)))))) (.bi .isin (.var 5) (.bi .upto (.var 1) (.bi .sub (.var 3) (.con (.int (1)))))) (.var 5)))
  (.cons (.app 2 (.un .sorted (.lc (.nm 5) (.itl (.bi .upto (.var 0) (.var 3))) (.and (.bi .isin (.var 5) (.bi .upto (.var 1) (.var 3))) (.bi .notin (.var 5) (.var 4))) (.var 5))))
  .nil)))
  (.cons (.frz 2)
  (.cons (.ret (.var 2))
  .nil)))))
class F_new_common (Φ : Nat → Nat → Fn) : Prop where
  eq : ∀ k, Φ (k + 1) 9 = fnD (Φ k) 2 6 b_new_common
def b_common : Sm := (.cons (.whl 1000000 (.bi .ne (.var 1) (.con (.int (0))))
  (.cons (.par (.two 0 1) [false, false] (.cons (.var 1) (.cons (.bi .mod (.var 0) (.var 1)) .nil)))
  .nil))
  (.cons (.ret (.var 0))
  .nil))
class F_common (Φ : Nat → Nat → Fn) : Prop where
  eq : ∀ k, Φ (k + 1) 10 = fnD (Φ k) 2 2 b_common
def b_lowest : Sm := (.cons (.asg 2 (.call 10 (.cons (.var 0) (.cons (.var 1) .nil))))
  (.cons (.ret (.tup (.cons (.bi .fdiv (.var 0) (.var 2)) (.cons (.bi .fdiv (.var 1) (.var 2)) .nil))))
  .nil))
class F_lowest (Φ : Nat → Nat → Fn) : Prop where
  eq : ∀ k, Φ (k + 1) 11 = fnD (Φ k) 2 3 b_lowest
def b_plus : Sm := (.cons (.ret (.call 11 (.cons (.bi .add (.bi .mul (.bi .idx (.var 0) (.con (.int (0)))) (.bi .idx (.var 1) (.con (.int (1))))) (.bi .mul (.bi .idx (.var 1) (.con (.int (0)))) (.bi .idx (.var 0) (.con (.int (1)))))) (.cons (.bi .mul (.bi .idx (.var 0) (.con (.int (1)))) (.bi .idx (.var 1) (.con (.int (1))))) .nil))))
  .nil)
class F_plus (Φ : Nat → Nat → Fn) : Prop where
  eq : ∀ k, Φ (k + 1) 12 = fnD (Φ k) 2 2 b_plus
def b_mean_overlap : Sm := (.cons (.drop (.call 4 (.cons (.var 0) (.cons (.var 1) .nil))))
  (.cons (.asg 2 (.tup (.cons (.con (.int (0))) (.cons (.con (.int (1))) .nil))))
  (.cons (.for_ (.two 3 4) (.enum (.call 5 (.cons (.var 0) (.cons (.var 1) .nil))))
  (.cons (.asg 2 (.call 12 (.cons (.var 2) (.cons (.call 11 (.cons (.var 4) (.cons (.bi .add (.var 3) (.con (.int (1)))) .nil))) .nil))))
  .nil))
  (.cons (.ret (.call 11 (.cons (.bi .idx (.var 2) (.con (.int (0)))) (.cons (.bi .mul (.bi .idx (.var 2) (.con (.int (1)))) (.un .len (.var 0))) .nil))))
  .nil))))
class F_mean_overlap (Φ : Nat → Nat → Fn) : Prop where
  eq : ∀ k, Φ (k + 1) 13 = fnD (Φ k) 2 5 b_mean_overlap
def b_meeting_depth : Sm := (.cons (.drop (.call 4 (.cons (.var 0) (.cons (.var 1) .nil))))
  (.cons (.ite (.un .notv (.call 1 (.cons (.var 2) (.cons (.con (.int (0))) (.cons (.bi .sub (.un .len (.var 0)) (.con (.int (1)))) .nil)))))
  (.cons (.raise 1)
  .nil)
  .nil)
  (.cons (.ret (.bi .add (.con (.int (1))) (.bi .max2 (.bi .index (.var 0) (.var 2)) (.bi .index (.var 1) (.var 2)))))
  .nil)))
class F_meeting_depth (Φ : Nat → Nat → Fn) : Prop where
  eq : ∀ k, Φ (k + 1) 14 = fnD (Φ k) 3 3 b_meeting_depth
def b_waiting : Sm := (.cons (.drop (.call 4 (.cons (.var 0) (.cons (.var 1) .nil))))
  (.cons (.ite (.un .notv (.call 1 (.cons (.var 2) (.cons (.con (.int (0))) (.cons (.un .len (.var 0)) .nil)))))
  (.cons (.raise 1)
  .nil)
  .nil)
  (.cons (.asg 3 (.un .sorted (.lc (.nm 4) (.itl (.bi .upto (.var 0) (.var 2))) (.bi .notin (.var 4) (.bi .upto (.var 1) (.var 2))) (.var 4))))
  (.cons (.ret (.tup (.cons (.var 3) (.cons (.un .sorted (.lc (.nm 4) (.itl (.bi .upto (.var 1) (.var 2))) (.bi .notin (.var 4) (.bi .upto (.var 0) (.var 2))) (.var 4))) .nil))))
  .nil))))
class F_waiting (Φ : Nat → Nat → Fn) : Prop where
  eq : ∀ k, Φ (k + 1) 15 = fnD (Φ k) 3 5 b_waiting
def b_is_row : Sm := (.cons (.ite (.or (.un .notv (.isi (.var 0) .list)) (.or (.un .notv (.le2 (.con (.int (1))) (.un .len (.var 0)) (.con (.int (7))))) (.un .notv (.un .all (.lc (.nm 3) (.itl (.var 0)) (.con (.bool true)) (.call 1 (.cons (.var 3) (.cons (.con (.int (0))) (.cons (.con (.int (7))) .nil)))))))))
  (.cons (.ret (.con (.bool false)))
  .nil)
  .nil)
  (.cons (.asg 1 (.con (.int (0))))
  (.cons (.for_ (.two 2 3) (.enum (.var 0))
  (.cons (.ite (.or (.un .notv (.le2 (.var 1) (.var 3) (.bi .add (.var 1) (.con (.int (2)))))) (.bi .gt (.var 3) (.bi .add (.var 2) (.con (.int (1))))))
  (.cons (.ret (.con (.bool false)))
  .nil)
  .nil)
  (.cons (.asg 1 (.var 3))
  .nil)))
  (.cons (.ret (.bi .eq (.var 1) (.un .len (.var 0))))
  .nil))))
class F_is_row (Φ : Nat → Nat → Fn) : Prop where
  eq : ∀ k, Φ (k + 1) 16 = fnD (Φ k) 1 4 b_is_row
def b_law_pick : Sm := (.cons (.ret (.bi .idx (.var 1) (.call 0 (.cons (.var 0) (.cons (.un .len (.var 1)) .nil)))))
  .nil)
class F_law_pick (Φ : Nat → Nat → Fn) : Prop where
  eq : ∀ k, Φ (k + 1) 17 = fnD (Φ k) 2 2 b_law_pick
def b_law_list : Sm := (.cons (.mk 2 (.un .lrange (.var 1)))
  (.cons (.mk 3 (.lst .nil))
  (.cons (.whl 1000000 (.bi .ne (.var 2) (.lst .nil))
  (.cons (.asg 4 (.ite (.bi .eq (.call 0 (.cons (.var 0) (.cons (.con (.int (3))) .nil))) (.con (.int (0)))) (.bi .idx (.var 2) (.con (.int (0)))) (.bor (.call 17 (.cons (.var 0) (.cons (.var 2) .nil))))))
  (.cons (.rem 2 (.var 4))
  (.cons (.app 3 (.var 4))
  .nil))))
  (.cons (.frz 3)
  (.cons (.ret (.var 3))
  .nil)))))
class F_law_list (Φ : Nat → Nat → Fn) : Prop where
  eq : ∀ k, Φ (k + 1) 18 = fnD (Φ k) 2 5 b_law_list
def b_law_row : Sm := (.cons (.ret (.lc (.nm 2) (.rng1 (.un .len (.var 0))) (.con (.bool true)) (.un .len (.lc (.nm 3) (.itl (.bi .upto (.var 0) (.bi .add (.var 2) (.con (.int (1)))))) (.bi .isin (.var 3) (.bi .upto (.var 1) (.bi .add (.var 2) (.con (.int (1)))))) (.var 3)))))
  .nil)
class F_law_row (Φ : Nat → Nat → Fn) : Prop where
  eq : ∀ k, Φ (k + 1) 19 = fnD (Φ k) 2 4 b_law_row
def b_law_low : Sm := (.cons (.par (.two 2 3) [false, false] (.cons (.un .abs (.var 0)) (.cons (.var 1) .nil)))
  (.cons (.whl 1000000 (.bi .ne (.var 3) (.con (.int (0))))
  (.cons (.par (.two 2 3) [false, false] (.cons (.var 3) (.cons (.bi .mod (.var 2) (.var 3)) .nil)))
  .nil))
  (.cons (.ret (.tup (.cons (.bi .fdiv (.var 0) (.var 2)) (.cons (.bi .fdiv (.var 1) (.var 2)) .nil))))
  .nil)))
class F_law_low (Φ : Nat → Nat → Fn) : Prop where
  eq : ∀ k, Φ (k + 1) 20 = fnD (Φ k) 2 4 b_law_low
def b_check_size : Sm := (.cons (.ite (.un .notv (.call 1 (.cons (.var 0) (.cons (.con (.int (1))) (.cons (.glo 0 (.int 7)) .nil)))))
  (.cons (.raise 1)
  .nil)
  .nil)
  .nil)
class F_check_size (Φ : Nat → Nat → Fn) : Prop where
  eq : ∀ k, Φ (k + 1) 21 = fnD (Φ k) 1 1 b_check_size
def b_waits_of : Sm := (.cons (.ret (.lc (.two 1 2) (.enum (.bi .add (.lst (.cons (.con (.int (0))) .nil)) (.bi .upto (.var 0) (.un .neg (.con (.int (1))))))) (.con (.bool true)) (.bi .sub (.var 1) (.var 2))))
  .nil)
class F_waits_of (Φ : Nat → Nat → Fn) : Prop where
  eq : ∀ k, Φ (k + 1) 22 = fnD (Φ k) 1 3 b_waits_of
def b_check_row : Sm := (.cons (.ite (.un .notv (.call 16 (.cons (.var 0) .nil)))
  (.cons (.raise 2)
  .nil)
  .nil)
  .nil)
class F_check_row (Φ : Nat → Nat → Fn) : Prop where
  eq : ∀ k, Φ (k + 1) 23 = fnD (Φ k) 1 1 b_check_row
def b_ways_of : Sm := (.cons (.asg 1 (.con (.int (1))))
  (.cons (.asg 2 (.con (.int (0))))
  (.cons (.for_ (.two 3 4) (.zip (.var 0) (.call 22 (.cons (.var 0) .nil)))
  (.cons (.aug 1 .mul (.bi .idx (.tup (.cons (.con (.int (1))) (.cons (.bi .add (.bi .mul (.con (.int (2))) (.var 4)) (.con (.int (1)))) (.cons (.bi .mul (.var 4) (.var 4)) .nil)))) (.bi .sub (.var 3) (.var 2))))
  (.cons (.asg 2 (.var 3))
  .nil)))
  (.cons (.ret (.var 1))
  .nil))))
class F_ways_of (Φ : Nat → Nat → Fn) : Prop where
  eq : ∀ k, Φ (k + 1) 24 = fnD (Φ k) 1 5 b_ways_of
def b_count_others : Sm := (.cons (.drop (.call 23 (.cons (.var 0) .nil)))
  (.cons (.ret (.call 24 (.cons (.var 0) .nil)))
  .nil))
class F_count_others (Φ : Nat → Nat → Fn) : Prop where
  eq : ∀ k, Φ (k + 1) 25 = fnD (Φ k) 1 1 b_count_others
def b_other_with : Sm := (.cons (.drop (.call 3 (.cons (.var 0) .nil)))
  (.cons (.drop (.call 23 (.cons (.var 1) .nil)))
  (.cons (.ite (.bi .ne (.un .len (.var 1)) (.un .len (.var 0)))
  (.cons (.raise 2)
  .nil)
  .nil)
  (.cons (.mk 2 (.bi .mul (.lst (.cons (.con .none) .nil)) (.un .len (.var 0))))
  (.cons (.mk 3 (.lst .nil))
  (.cons (.asg 4 (.con (.int (0))))
  (.cons (.for_ (.two 5 6) (.enum (.var 1))
  (.cons (.ite (.bi .eq (.bi .sub (.var 6) (.var 4)) (.con (.int (0))))
  (.cons (.app 3 (.var 5))
  .nil)
  (.cons (.ite (.bi .eq (.bi .sub (.var 6) (.var 4)) (.con (.int (1))))
  (.cons (.seti 2 (.var 5) (.bi .idx (.var 0) (.var 5)))
  .nil)
  (.cons (.asg 7 (.bi .idx (.var 3) (.con (.int (0)))))
  (.cons (.mk 3 (.bi .from_ (.var 3) (.con (.int (1)))))
  (.cons (.seti2 2 (.var 7) (.var 5) (.bi .idx (.var 0) (.var 5)) (.bi .idx (.var 0) (.var 7)))
  .nil))))
  .nil))
  (.cons (.asg 4 (.var 6))
  .nil)))
  (.cons (.frz 2)
  (.cons (.ret (.var 2))
  .nil)))))))))
class F_other_with (Φ : Nat → Nat → Fn) : Prop where
  eq : ∀ k, Φ (k + 1) 26 = fnD (Φ k) 2 8 b_other_with
def b_rows_of : Sm := (.cons (.asg 1 (.lst (.cons (.lst .nil) .nil)))
  (.cons (.for_ (.nm 2) (.rng1 (.var 0))
  (.cons (.mk 3 (.lst .nil))
  (.cons (.for_ (.nm 4) (.itl (.var 1))
  (.cons (.asg 5 (.ite (.bi .ne (.var 4) (.lst .nil)) (.bi .idx (.var 4) (.un .neg (.con (.int (1))))) (.con (.int (0)))))
  (.cons (.for_ (.nm 6) (.rng2 (.var 5) (.bi .add (.var 5) (.con (.int (3)))))
  (.cons (.ite (.le2 (.bi .sub (.bi .mul (.con (.int (2))) (.bi .add (.var 2) (.con (.int (1))))) (.var 0)) (.var 6) (.bi .add (.var 2) (.con (.int (1)))))
  (.cons (.app 3 (.bi .add (.var 4) (.lst (.cons (.var 6) .nil))))
  .nil)
  .nil)
  .nil))
  .nil)))
  (.cons (.frz 3)
  (.cons (.asg 1 (.var 3))
  .nil)))))
  (.cons (.ret (.var 1))
  .nil)))
class F_rows_of (Φ : Nat → Nat → Fn) : Prop where
  eq : ∀ k, Φ (k + 1) 27 = fnD (Φ k) 1 7 b_rows_of
def b_all_rows : Sm := (.cons (.drop (.call 21 (.cons (.var 0) .nil)))
  (.cons (.ret (.call 27 (.cons (.var 0) .nil)))
  .nil))
class F_all_rows (Φ : Nat → Nat → Fn) : Prop where
  eq : ∀ k, Φ (k + 1) 28 = fnD (Φ k) 1 1 b_all_rows
def b_count_rows : Sm := (.cons (.ite (.un .notv (.call 1 (.cons (.var 0) (.cons (.con (.int (1))) (.cons (.con (.int (20))) .nil)))))
  (.cons (.raise 1)
  .nil)
  .nil)
  (.cons (.asg 1 (.lst (.cons (.con (.int (1))) .nil)))
  (.cons (.for_ (.nm 2) (.rng1 (.var 0))
  (.cons (.mk 3 (.bi .mul (.lst (.cons (.con (.int (0))) .nil)) (.bi .add (.un .len (.var 1)) (.con (.int (1))))))
  (.cons (.for_ (.two 4 5) (.enum (.var 1))
  (.cons (.for_ (.nm 6) (.itt (.tup (.cons (.con (.int (0))) (.cons (.con (.int (1))) (.cons (.con (.int (2))) .nil)))))
  (.cons (.ite (.bi .ge (.bi .sub (.bi .add (.var 4) (.con (.int (1)))) (.var 6)) (.con (.int (0))))
  (.cons (.augi 3 (.bi .sub (.bi .add (.var 4) (.con (.int (1)))) (.var 6)) .add (.var 5))
  .nil)
  .nil)
  .nil))
  .nil))
  (.cons (.frz 3)
  (.cons (.asg 1 (.var 3))
  .nil)))))
  (.cons (.ret (.bi .idx (.var 1) (.con (.int (0)))))
  .nil))))
class F_count_rows (Φ : Nat → Nat → Fn) : Prop where
  eq : ∀ k, Φ (k + 1) 29 = fnD (Φ k) 1 7 b_count_rows
def b_row_at : Sm := (.cons (.drop (.call 21 (.cons (.var 0) .nil)))
  (.cons (.asg 2 (.call 27 (.cons (.var 0) .nil)))
  (.cons (.ite (.un .notv (.call 1 (.cons (.var 1) (.cons (.con (.int (0))) (.cons (.bi .sub (.un .len (.var 2)) (.con (.int (1)))) .nil)))))
  (.cons (.raise 1)
  .nil)
  .nil)
  (.cons (.ret (.bi .idx (.var 2) (.var 1)))
  .nil))))
class F_row_at (Φ : Nat → Nat → Fn) : Prop where
  eq : ∀ k, Φ (k + 1) 30 = fnD (Φ k) 2 3 b_row_at
def b_rank_of : Sm := (.cons (.drop (.call 23 (.cons (.var 0) .nil)))
  (.cons (.ret (.bi .index (.call 27 (.cons (.un .len (.var 0)) .nil)) (.var 0)))
  .nil))
class F_rank_of (Φ : Nat → Nat → Fn) : Prop where
  eq : ∀ k, Φ (k + 1) 31 = fnD (Φ k) 1 1 b_rank_of
def b_first_fault : Sm := (.cons (.ite (.or (.un .notv (.isi (.var 0) .list)) (.or (.un .notv (.le2 (.con (.int (1))) (.un .len (.var 0)) (.con (.int (7))))) (.un .notv (.un .all (.lc (.nm 3) (.itl (.var 0)) (.con (.bool true)) (.call 1 (.cons (.var 3) (.cons (.con (.int (0))) (.cons (.con (.int (7))) .nil)))))))))
  (.cons (.raise 2)
  .nil)
  .nil)
  (.cons (.asg 1 (.con (.int (0))))
  (.cons (.for_ (.two 2 3) (.enum (.var 0))
  (.cons (.ite (.or (.un .notv (.le2 (.var 1) (.var 3) (.bi .add (.var 1) (.con (.int (2)))))) (.un .notv (.le2 (.bi .sub (.bi .mul (.con (.int (2))) (.bi .add (.var 2) (.con (.int (1))))) (.un .len (.var 0))) (.var 3) (.bi .add (.var 2) (.con (.int (1)))))))
  (.cons (.ret (.bi .add (.var 2) (.con (.int (1)))))
  .nil)
  .nil)
  (.cons (.asg 1 (.var 3))
  .nil)))
  (.cons (.ret (.con .none))
  .nil))))
class F_first_fault (Φ : Nat → Nat → Fn) : Prop where
  eq : ∀ k, Φ (k + 1) 32 = fnD (Φ k) 1 4 b_first_fault
def b_law_true : Sm := (.cons (.ret (.and (.isi (.var 0) .bool) (.bi .eq (.var 0) (.var 1))))
  .nil)
class F_law_true (Φ : Nat → Nat → Fn) : Prop where
  eq : ∀ k, Φ (k + 1) 33 = fnD (Φ k) 2 2 b_law_true
def b_law_all : Sm := (.cons (.asg 1 (.lst (.cons (.lst .nil) .nil)))
  (.cons (.for_ (.nm 2) (.rng1 (.var 0))
  (.cons (.asg 3 (.lst .nil))
  (.cons (.for_ (.nm 4) (.itl (.var 1))
  (.cons (.asg 3 (.bi .add (.var 3) (.lc (.nm 5) (.rng1 (.var 0)) (.bi .notin (.var 5) (.var 4)) (.bi .add (.var 4) (.lst (.cons (.var 5) .nil))))))
  .nil))
  (.cons (.asg 1 (.var 3))
  .nil))))
  (.cons (.ret (.var 1))
  .nil)))
class F_law_all (Φ : Nat → Nat → Fn) : Prop where
  eq : ∀ k, Φ (k + 1) 34 = fnD (Φ k) 1 6 b_law_all
def b_rows_with_total : Sm := (.cons (.drop (.call 21 (.cons (.var 0) .nil)))
  (.cons (.ite (.un .notv (.call 1 (.cons (.var 1) (.cons (.con (.int (0))) (.cons (.con (.int (100))) .nil)))))
  (.cons (.raise 1)
  .nil)
  .nil)
  (.cons (.asg 2 (.lc (.nm 3) (.itl (.call 27 (.cons (.var 0) .nil))) (.bi .eq (.un .sum (.var 3)) (.var 1)) (.var 3)))
  (.cons (.ite (.bi .eq (.var 2) (.lst .nil))
  (.cons (.raise 5)
  .nil)
  .nil)
  (.cons (.ret (.var 2))
  .nil)))))
class F_rows_with_total (Φ : Nat → Nat → Fn) : Prop where
  eq : ∀ k, Φ (k + 1) 35 = fnD (Φ k) 2 4 b_rows_with_total
def b_law_error : Sm := (.cons (.asg 1 (.lst (.cons (.isx 0 0) (.cons (.isx 0 1) (.cons (.isx 0 2) .nil)))))
  (.cons (.asg 1 (.bi .add (.var 1) (.lst (.cons (.isx 0 3) (.cons (.isx 0 4) (.cons (.isx 0 5) .nil))))))
  (.cons (.ite (.or (.bi .ne (.bi .count (.var 1) (.con (.bool true))) (.con (.int (1)))) (.or (.un .notv (.isx 0 6)) (.un .notv (.isx 0 7))))
  (.cons (.ret (.con (.str "odd")))
  .nil)
  .nil)
  (.cons (.ret (.bi .idx (.lst (.cons (.con (.str "list")) (.cons (.con (.str "number")) (.cons (.con (.str "row")) (.cons (.con (.str "short")) (.cons (.con (.str "text")) (.cons (.con (.str "none")) .nil))))))) (.bi .index (.var 1) (.con (.bool true)))))
  .nil))))
class F_law_error (Φ : Nat → Nat → Fn) : Prop where
  eq : ∀ k, Φ (k + 1) 36 = fnD (Φ k) 1 2 b_law_error
def b_law_total : Sm := (.cons (.asg 2 (.con .none))
  (.cons (.asg 3 (.con .none))
  (.cons (.try_ (.cons (.asg 2 (.call 35 (.cons (.var 0) (.cons (.var 1) .nil))))
  .nil) 4 3)
  (.cons (.ret (.ite (.isx 3 8) (.var 2) (.call 36 (.cons (.var 3) .nil))))
  .nil))))
class F_law_total (Φ : Nat → Nat → Fn) : Prop where
  eq : ∀ k, Φ (k + 1) 37 = fnD (Φ k) 2 5 b_law_total
def b_better : Sm := (.cons (.ret (.bi .add (.con (.int (1))) (.bi .min2 (.bi .index (.var 0) (.var 2)) (.bi .index (.var 1) (.var 2)))))
  .nil)
class F_better (Φ : Nat → Nat → Fn) : Prop where
  eq : ∀ k, Φ (k + 1) 38 = fnD (Φ k) 3 3 b_better
def b_is_fair : Sm := (.cons (.for_ (.nm 3) (.rng2 (.con (.int (1))) (.bi .add (.un .len (.var 0)) (.con (.int (1)))))
  (.cons (.ite (.un .notv (.un .all (.lc (.nm 4) (.itl (.bi .add (.bi .upto (.var 0) (.var 3)) (.bi .upto (.var 1) (.var 3)))) (.con (.bool true)) (.bi .isin (.var 4) (.bi .upto (.var 2) (.bi .mul (.con (.int (2))) (.var 3)))))))
  (.cons (.ret (.con (.bool false)))
  .nil)
  .nil)
  .nil))
  (.cons (.ret (.con (.bool true)))
  .nil))
class F_is_fair (Φ : Nat → Nat → Fn) : Prop where
  eq : ∀ k, Φ (k + 1) 39 = fnD (Φ k) 3 5 b_is_fair
def b_is_fair_list : Sm := (.cons (.drop (.call 4 (.cons (.var 0) (.cons (.var 1) .nil))))
  (.cons (.drop (.call 4 (.cons (.var 0) (.cons (.var 2) .nil))))
  (.cons (.ret (.call 39 (.cons (.var 0) (.cons (.var 1) (.cons (.var 2) .nil)))))
  .nil)))
class F_is_fair_list (Φ : Nat → Nat → Fn) : Prop where
  eq : ∀ k, Φ (k + 1) 40 = fnD (Φ k) 3 3 b_is_fair_list
def b_first_unfair : Sm := (.cons (.drop (.call 4 (.cons (.var 0) (.cons (.var 1) .nil))))
  (.cons (.drop (.call 4 (.cons (.var 0) (.cons (.var 2) .nil))))
  (.cons (.for_ (.nm 3) (.rng2 (.con (.int (1))) (.bi .add (.un .len (.var 0)) (.con (.int (1)))))
  (.cons (.ite (.un .notv (.un .all (.lc (.nm 4) (.itl (.bi .add (.bi .upto (.var 0) (.var 3)) (.bi .upto (.var 1) (.var 3)))) (.con (.bool true)) (.bi .isin (.var 4) (.bi .upto (.var 2) (.bi .mul (.con (.int (2))) (.var 3)))))))
  (.cons (.ret (.var 3))
  .nil)
  .nil)
  .nil))
  (.cons (.ret (.con .none))
  .nil))))
class F_first_unfair (Φ : Nat → Nat → Fn) : Prop where
  eq : ∀ k, Φ (k + 1) 41 = fnD (Φ k) 3 5 b_first_unfair
def b_last_places : Sm := (.cons (.drop (.call 4 (.cons (.var 0) (.cons (.var 1) .nil))))
  (.cons (.ret (.lc (.nm 2) (.rng1 (.un .len (.var 0))) (.con (.bool true)) (.bi .min2 (.un .len (.var 0)) (.bi .mul (.con (.int (2))) (.call 38 (.cons (.var 0) (.cons (.var 1) (.cons (.var 2) .nil))))))))
  .nil))
class F_last_places (Φ : Nat → Nat → Fn) : Prop where
  eq : ∀ k, Φ (k + 1) 42 = fnD (Φ k) 2 3 b_last_places
def b_by_turns : Sm := (.cons (.drop (.call 4 (.cons (.var 0) (.cons (.var 1) .nil))))
  (.cons (.mk 2 (.lst .nil))
  (.cons (.for_ (.two 3 4) (.zip (.var 0) (.var 1))
  (.cons (.for_ (.nm 5) (.itt (.tup (.cons (.var 3) (.cons (.var 4) .nil))))
  (.cons (.ite (.bi .notin (.var 5) (.var 2))
  (.cons (.app 2 (.var 5))
  .nil)
  .nil)
  .nil))
  .nil))
  (.cons (.frz 2)
  (.cons (.ret (.var 2))
  .nil)))))
class F_by_turns (Φ : Nat → Nat → Fn) : Prop where
  eq : ∀ k, Φ (k + 1) 43 = fnD (Φ k) 2 6 b_by_turns
def b_ways : Sm := (.cons (.asg 2 (.un .sorted (.lc (.nm 6) (.rng1 (.un .len (.var 0))) (.con (.bool true)) (.bi .min2 (.un .len (.var 0)) (.bi .mul (.con (.int (2))) (.call 38 (.cons (.var 0) (.cons (.var 1) (.cons (.var 6) .nil)))))))))
  (.cons (.asg 3 (.con (.int (1))))
  (.cons (.for_ (.two 4 5) (.enum (.var 2))
  (.cons (.aug 3 .mul (.bi .sub (.var 5) (.var 4)))
  .nil))
  (.cons (.ret (.var 3))
  .nil))))
class F_ways (Φ : Nat → Nat → Fn) : Prop where
  eq : ∀ k, Φ (k + 1) 44 = fnD (Φ k) 2 7 b_ways
def b_count_fair : Sm := (.cons (.drop (.call 4 (.cons (.var 0) (.cons (.var 1) .nil))))
  (.cons (.ret (.call 44 (.cons (.var 0) (.cons (.var 1) .nil))))
  .nil))
class F_count_fair (Φ : Nat → Nat → Fn) : Prop where
  eq : ∀ k, Φ (k + 1) 45 = fnD (Φ k) 2 2 b_count_fair
def b_rest_ways : Sm := (.cons (.asg 3 (.un .sorted (.lc (.two 7 6) (.enum (.var 0)) (.bi .notin (.var 7) (.var 1)) (.var 6))))
  (.cons (.asg 4 (.con (.int (1))))
  (.cons (.for_ (.two 5 6) (.enum (.var 3))
  (.cons (.aug 4 .mul (.bi .max2 (.con (.int (0))) (.bi .sub (.bi .sub (.var 6) (.var 2)) (.var 5))))
  .nil))
  (.cons (.ret (.var 4))
  .nil))))
class F_rest_ways (Φ : Nat → Nat → Fn) : Prop where
  eq : ∀ k, Φ (k + 1) 46 = fnD (Φ k) 3 8 b_rest_ways
def b_fair_at : Sm := (.cons (.drop (.call 4 (.cons (.var 0) (.cons (.var 1) .nil))))
  (.cons (.ite (.un .notv (.call 1 (.cons (.var 2) (.cons (.con (.int (0))) (.cons (.bi .sub (.call 44 (.cons (.var 0) (.cons (.var 1) .nil))) (.con (.int (1)))) .nil)))))
  (.cons (.raise 1)
  .nil)
  .nil)
  (.cons (.asg 3 (.lc (.nm 5) (.rng1 (.un .len (.var 0))) (.con (.bool true)) (.bi .min2 (.un .len (.var 0)) (.bi .mul (.con (.int (2))) (.call 38 (.cons (.var 0) (.cons (.var 1) (.cons (.var 5) .nil))))))))
  (.cons (.asg 4 (.lst .nil))
  (.cons (.whl 1000000 (.bi .lt (.un .len (.var 4)) (.un .len (.var 0)))
  (.cons (.for_ (.nm 5) (.rng1 (.un .len (.var 0)))
  (.cons (.ite (.bi .isin (.var 5) (.var 4))
  (.cons .cont
  .nil)
  .nil)
  (.cons (.asg 6 (.call 46 (.cons (.var 3) (.cons (.bi .add (.var 4) (.lst (.cons (.var 5) .nil))) (.cons (.bi .add (.un .len (.var 4)) (.con (.int (1)))) .nil)))))
  (.cons (.ite (.bi .lt (.var 2) (.var 6))
  (.cons (.asg 4 (.bi .add (.var 4) (.lst (.cons (.var 5) .nil))))
  (.cons .brk
  .nil))
  .nil)
  (.cons (.aug 2 .sub (.var 6))
  .nil)))))
  .nil))
  (.cons (.ret (.var 4))
  .nil))))))
class F_fair_at (Φ : Nat → Nat → Fn) : Prop where
  eq : ∀ k, Φ (k + 1) 47 = fnD (Φ k) 3 7 b_fair_at
def b_law_fair : Sm := (.cons (.asg 4 (.con .none))
  (.cons (.asg 5 (.con .none))
  (.cons (.try_ (.cons (.asg 4 (.call 47 (.cons (.var 1) (.cons (.var 2) (.cons (.var 3) .nil)))))
  .nil) 6 5)
  (.cons (.ret (.ite (.isx 5 8) (.var 4) (.call 36 (.cons (.var 5) .nil))))
  .nil))))
class F_law_fair (Φ : Nat → Nat → Fn) : Prop where
  eq : ∀ k, Φ (k + 1) 48 = fnD (Φ k) 4 7 b_law_fair
def b_depth_for : Sm := (.cons (.drop (.call 4 (.cons (.var 0) (.cons (.var 1) .nil))))
  (.cons (.ite (.un .notv (.call 1 (.cons (.var 2) (.cons (.con (.int (0))) (.cons (.un .len (.var 0)) .nil)))))
  (.cons (.raise 1)
  .nil)
  .nil)
  (.cons (.ite (.bi .eq (.var 2) (.con (.int (0))))
  (.cons (.ret (.con (.int (0))))
  .nil)
  .nil)
  (.cons (.ret (.bi .idx (.lc (.two 3 4) (.enum (.call 5 (.cons (.var 0) (.cons (.var 1) .nil)))) (.bi .ge (.var 4) (.var 2)) (.bi .add (.var 3) (.con (.int (1))))) (.con (.int (0)))))
  .nil))))
class F_depth_for (Φ : Nat → Nat → Fn) : Prop where
  eq : ∀ k, Φ (k + 1) 49 = fnD (Φ k) 3 5 b_depth_for
def b_check_things : Sm := (.cons (.ite (.or (.un .notv (.isi (.var 1) .list)) (.un .notv (.un .all (.lc (.nm 2) (.itl (.var 1)) (.con (.bool true)) (.call 1 (.cons (.var 2) (.cons (.con (.int (0))) (.cons (.bi .sub (.un .len (.var 0)) (.con (.int (1)))) .nil))))))))
  (.cons (.raise 1)
  .nil)
  .nil)
  .nil)
class F_check_things (Φ : Nat → Nat → Fn) : Prop where
  eq : ∀ k, Φ (k + 1) 50 = fnD (Φ k) 2 3 b_check_things
def b_depth_for_all : Sm := (.cons (.drop (.call 4 (.cons (.var 0) (.cons (.var 1) .nil))))
  (.cons (.drop (.call 50 (.cons (.var 0) (.cons (.var 2) .nil))))
  (.cons (.ret (.un .max1 (.bi .add (.lst (.cons (.con (.int (0))) .nil)) (.lc (.nm 3) (.itl (.var 2)) (.con (.bool true)) (.bi .add (.con (.int (1))) (.bi .max2 (.bi .index (.var 0) (.var 3)) (.bi .index (.var 1) (.var 3))))))))
  .nil)))
class F_depth_for_all (Φ : Nat → Nat → Fn) : Prop where
  eq : ∀ k, Φ (k + 1) 51 = fnD (Φ k) 3 4 b_depth_for_all
def b_depth_for_any : Sm := (.cons (.drop (.call 4 (.cons (.var 0) (.cons (.var 1) .nil))))
  (.cons (.drop (.call 50 (.cons (.var 0) (.cons (.var 2) .nil))))
  (.cons (.ite (.bi .eq (.var 2) (.lst .nil))
  (.cons (.raise 5)
  .nil)
  .nil)
  (.cons (.ret (.un .min1 (.lc (.nm 3) (.itl (.var 2)) (.con (.bool true)) (.bi .add (.con (.int (1))) (.bi .max2 (.bi .index (.var 0) (.var 3)) (.bi .index (.var 1) (.var 3)))))))
  .nil))))
class F_depth_for_any (Φ : Nat → Nat → Fn) : Prop where
  eq : ∀ k, Φ (k + 1) 52 = fnD (Φ k) 3 4 b_depth_for_any
def b_meeting_order : Sm := (.cons (.drop (.call 4 (.cons (.var 0) (.cons (.var 1) .nil))))
  (.cons (.asg 2 (.un .sorted (.lc (.nm 3) (.rng1 (.un .len (.var 0))) (.con (.bool true)) (.tup (.cons (.bi .max2 (.bi .index (.var 0) (.var 3)) (.bi .index (.var 1) (.var 3))) (.cons (.var 3) .nil))))))
  (.cons (.ret (.lc (.two 4 3) (.itl (.var 2)) (.con (.bool true)) (.var 3)))
  .nil)))
class F_meeting_order (Φ : Nat → Nat → Fn) : Prop where
  eq : ∀ k, Φ (k + 1) 53 = fnD (Φ k) 2 5 b_meeting_order
def b_full_depths : Sm := (.cons (.drop (.call 4 (.cons (.var 0) (.cons (.var 1) .nil))))
  (.cons (.ret (.lc (.two 2 3) (.enum (.call 5 (.cons (.var 0) (.cons (.var 1) .nil)))) (.bi .eq (.var 3) (.bi .add (.var 2) (.con (.int (1))))) (.bi .add (.var 2) (.con (.int (1))))))
  .nil))
class F_full_depths (Φ : Nat → Nat → Fn) : Prop where
  eq : ∀ k, Φ (k + 1) 54 = fnD (Φ k) 2 4 b_full_depths
def b_empty_depth : Sm := (.cons (.drop (.call 4 (.cons (.var 0) (.cons (.var 1) .nil))))
  (.cons (.ret (.un .len (.lc (.nm 2) (.itl (.call 5 (.cons (.var 0) (.cons (.var 1) .nil)))) (.bi .eq (.var 2) (.con (.int (0)))) (.var 2))))
  .nil))
class F_empty_depth (Φ : Nat → Nat → Fn) : Prop where
  eq : ∀ k, Φ (k + 1) 55 = fnD (Φ k) 2 3 b_empty_depth
def b_cheapest : Sm := (.cons (.drop (.call 4 (.cons (.var 0) (.cons (.var 1) .nil))))
  (.cons (.ite (.un .notv (.call 1 (.cons (.var 2) (.cons (.con (.int (0))) (.cons (.un .len (.var 0)) .nil)))))
  (.cons (.raise 1)
  .nil)
  .nil)
  (.cons (.ite (.or (.un .notv (.call 1 (.cons (.var 3) (.cons (.con (.int (0))) (.cons (.con (.int (100))) .nil))))) (.un .notv (.call 1 (.cons (.var 4) (.cons (.con (.int (0))) (.cons (.con (.int (100))) .nil))))))
  (.cons (.raise 1)
  .nil)
  .nil)
  (.cons (.asg 5 (.con .none))
  (.cons (.for_ (.nm 6) (.rng1 (.bi .add (.un .len (.var 0)) (.con (.int (1)))))
  (.cons (.for_ (.nm 7) (.rng1 (.bi .add (.un .len (.var 0)) (.con (.int (1)))))
  (.cons (.asg 8 (.un .len (.lc (.nm 10) (.itl (.bi .upto (.var 0) (.var 6))) (.bi .isin (.var 10) (.bi .upto (.var 1) (.var 7))) (.var 10))))
  (.cons (.asg 9 (.bi .add (.bi .mul (.var 6) (.var 3)) (.bi .mul (.var 7) (.var 4))))
  (.cons (.ite (.and (.bi .ge (.var 8) (.var 2)) (.or (.isc (.var 5) .none) (.bi .lt (.var 9) (.var 5))))
  (.cons (.asg 5 (.var 9))
  .nil)
  .nil)
  .nil))))
  .nil))
  (.cons (.ret (.var 5))
  .nil))))))
class F_cheapest (Φ : Nat → Nat → Fn) : Prop where
  eq : ∀ k, Φ (k + 1) 56 = fnD (Φ k) 5 11 b_cheapest
def b_law_cheapest : Sm := (.cons (.asg 4 (.call 53 (.cons (.var 1) (.cons (.var 2) .nil))))
  (.cons (.asg 5 (.lc (.nm 13) (.itl (.var 4)) (.con (.bool true)) (.tup (.cons (.bi .max2 (.bi .index (.var 1) (.var 13)) (.bi .index (.var 2) (.var 13))) (.cons (.var 13) .nil)))))
  (.cons (.ite (.or (.bi .ne (.un .sorted (.var 4)) (.un .lrange (.var 3))) (.bi .ne (.var 5) (.un .sorted (.var 5))))
  (.cons (.ret (.con (.bool false)))
  .nil)
  .nil)
  (.cons (.par (.three 6 7 8) [false, false, false] (.cons (.call 0 (.cons (.var 0) (.cons (.bi .add (.var 3) (.con (.int (1)))) .nil))) (.cons (.call 0 (.cons (.var 0) (.cons (.con (.int (6))) .nil))) (.cons (.call 0 (.cons (.var 0) (.cons (.con (.int (6))) .nil))) .nil))))
  (.cons (.mk 9 (.lst .nil))
  (.cons (.for_ (.nm 10) (.rng1 (.bi .add (.var 3) (.con (.int (1)))))
  (.cons (.for_ (.nm 11) (.rng1 (.bi .add (.var 3) (.con (.int (1)))))
  (.cons (.ite (.bi .ge (.un .len (.lc (.nm 13) (.itl (.bi .upto (.var 1) (.var 10))) (.bi .isin (.var 13) (.bi .upto (.var 2) (.var 11))) (.var 13))) (.var 6))
  (.cons (.app 9 (.bi .add (.bi .mul (.var 10) (.var 7)) (.bi .mul (.var 11) (.var 8))))
  .nil)
  .nil)
  .nil))
  .nil))
  (.cons (.asg 12 (.call 56 (.cons (.var 1) (.cons (.var 2) (.cons (.var 6) (.cons (.var 7) (.cons (.var 8) .nil)))))))
  (.cons (.ret (.and (.bi .eq (.var 12) (.un .min1 (.var 9))) (.and (.bi .le (.var 12) (.bi .mul (.call 49 (.cons (.var 1) (.cons (.var 2) (.cons (.var 6) .nil)))) (.bi .add (.var 7) (.var 8)))) (.bi .eq (.call 56 (.cons (.var 2) (.cons (.var 1) (.cons (.var 6) (.cons (.var 8) (.cons (.var 7) .nil)))))) (.var 12)))))
  .nil))))))))
class F_law_cheapest (Φ : Nat → Nat → Fn) : Prop where
  eq : ∀ k, Φ (k + 1) 57 = fnD (Φ k) 4 14 b_law_cheapest
def b_is_short : Sm := (.cons (.ite (.or (.un .notv (.isi (.var 0) .list)) (.un .notv (.le2 (.con (.int (1))) (.un .len (.var 0)) (.con (.int (6))))))
  (.cons (.ret (.con (.bool false)))
  .nil)
  .nil)
  (.cons (.ite (.un .notv (.un .all (.lc (.nm 1) (.itl (.var 0)) (.con (.bool true)) (.and (.isi (.var 1) .str) (.and (.bi .eq (.un .len (.var 1)) (.con (.int (1)))) (.bi .instr (.var 1) (.glo 0 (.str "abcdefghij"))))))))
  (.cons (.ret (.con (.bool false)))
  .nil)
  .nil)
  (.cons (.ret (.bi .eq (.un .lenset (.var 0)) (.un .len (.var 0))))
  .nil)))
class F_is_short (Φ : Nat → Nat → Fn) : Prop where
  eq : ∀ k, Φ (k + 1) 58 = fnD (Φ k) 1 2 b_is_short
def b_check_short : Sm := (.cons (.ite (.un .notv (.call 58 (.cons (.var 0) .nil)))
  (.cons (.raise 3)
  .nil)
  .nil)
  .nil)
class F_check_short (Φ : Nat → Nat → Fn) : Prop where
  eq : ∀ k, Φ (k + 1) 59 = fnD (Φ k) 1 1 b_check_short
def b_check_shorts : Sm := (.cons (.drop (.call 59 (.cons (.var 0) .nil)))
  (.cons (.drop (.call 59 (.cons (.var 1) .nil)))
  .nil))
class F_check_shorts (Φ : Nat → Nat → Fn) : Prop where
  eq : ∀ k, Φ (k + 1) 60 = fnD (Φ k) 2 2 b_check_shorts
def b_listed : Sm := (.cons (.drop (.call 60 (.cons (.var 0) (.cons (.var 1) .nil))))
  (.cons (.ret (.lc (.nm 2) (.its (.glo 0 (.str "abcdefghij"))) (.or (.bi .isin (.var 2) (.var 0)) (.bi .isin (.var 2) (.var 1))) (.var 2)))
  .nil))
class F_listed (Φ : Nat → Nat → Fn) : Prop where
  eq : ∀ k, Φ (k + 1) 61 = fnD (Φ k) 2 3 b_listed
def b_is_known : Sm := (.cons (.ret (.or (.bi .isin (.var 1) (.var 0)) (.bi .isin (.var 2) (.var 0))))
  .nil)
class F_is_known (Φ : Nat → Nat → Fn) : Prop where
  eq : ∀ k, Φ (k + 1) 62 = fnD (Φ k) 3 3 b_is_known
def b_is_ahead : Sm := (.cons (.ite (.and (.bi .isin (.var 1) (.var 0)) (.bi .isin (.var 2) (.var 0)))
  (.cons (.ret (.bi .lt (.bi .index (.var 0) (.var 1)) (.bi .index (.var 0) (.var 2))))
  .nil)
  .nil)
  (.cons (.ret (.bi .isin (.var 1) (.var 0)))
  .nil))
class F_is_ahead (Φ : Nat → Nat → Fn) : Prop where
  eq : ∀ k, Φ (k + 1) 63 = fnD (Φ k) 3 3 b_is_ahead
def b_kinds_of : Sm := (.cons (.asg 2 (.lc (.nm 9) (.its (.glo 0 (.str "abcdefghij"))) (.or (.bi .isin (.var 9) (.var 0)) (.bi .isin (.var 9) (.var 1))) (.var 9)))
  (.cons (.mk3 3 4 5)
  (.cons (.for_ (.two 6 7) (.enum (.var 2))
  (.cons (.for_ (.nm 8) (.itl (.bi .from_ (.var 2) (.bi .add (.var 6) (.con (.int (1))))))
  (.cons (.ite (.or (.un .notv (.call 62 (.cons (.var 0) (.cons (.var 7) (.cons (.var 8) .nil))))) (.un .notv (.call 62 (.cons (.var 1) (.cons (.var 7) (.cons (.var 8) .nil))))))
  (.cons (.app 5 (.tup (.cons (.var 7) (.cons (.var 8) .nil))))
  .nil)
  (.cons (.ite (.bi .eq (.call 63 (.cons (.var 0) (.cons (.var 7) (.cons (.var 8) .nil)))) (.call 63 (.cons (.var 1) (.cons (.var 7) (.cons (.var 8) .nil)))))
  (.cons (.app 3 (.tup (.cons (.var 7) (.cons (.var 8) .nil))))
  .nil)
  (.cons (.app 4 (.tup (.cons (.var 7) (.cons (.var 8) .nil))))
  .nil))
  .nil))
  .nil))
  .nil))
  (.cons (.frz 5)
  (.cons (.frz 3)
  (.cons (.frz 4)
  (.cons (.ret (.tup (.cons (.var 3) (.cons (.var 4) (.cons (.var 5) .nil)))))
  .nil)))))))
class F_kinds_of (Φ : Nat → Nat → Fn) : Prop where
  eq : ∀ k, Φ (k + 1) 64 = fnD (Φ k) 2 10 b_kinds_of
def b_pairs_of : Sm := (.cons (.drop (.call 60 (.cons (.var 0) (.cons (.var 1) .nil))))
  (.cons (.ret (.call 64 (.cons (.var 0) (.cons (.var 1) .nil))))
  .nil))
class F_pairs_of (Φ : Nat → Nat → Fn) : Prop where
  eq : ∀ k, Φ (k + 1) 65 = fnD (Φ k) 2 2 b_pairs_of
def b_distance_range : Sm := (.cons (.drop (.call 60 (.cons (.var 0) (.cons (.var 1) .nil))))
  (.cons (.unp (.three 2 3 4) (.call 64 (.cons (.var 0) (.cons (.var 1) .nil))))
  (.cons (.ret (.tup (.cons (.un .len (.var 3)) (.cons (.bi .add (.un .len (.var 3)) (.un .len (.var 4))) .nil))))
  .nil)))
class F_distance_range (Φ : Nat → Nat → Fn) : Prop where
  eq : ∀ k, Φ (k + 1) 66 = fnD (Φ k) 2 5 b_distance_range
def b_shared : Sm := (.cons (.drop (.call 60 (.cons (.var 0) (.cons (.var 1) .nil))))
  (.cons (.ret (.lc (.nm 2) (.itl (.var 0)) (.bi .isin (.var 2) (.var 1)) (.var 2)))
  .nil))
class F_shared (Φ : Nat → Nat → Fn) : Prop where
  eq : ∀ k, Φ (k + 1) 67 = fnD (Φ k) 2 3 b_shared
def b_alone : Sm := (.cons (.drop (.call 60 (.cons (.var 0) (.cons (.var 1) .nil))))
  (.cons (.ret (.lc (.nm 2) (.itl (.var 0)) (.bi .notin (.var 2) (.var 1)) (.var 2)))
  .nil))
class F_alone (Φ : Nat → Nat → Fn) : Prop where
  eq : ∀ k, Φ (k + 1) 68 = fnD (Φ k) 2 3 b_alone
def b_agree : Sm := (.cons (.drop (.call 60 (.cons (.var 0) (.cons (.var 1) .nil))))
  (.cons (.ret (.bi .eq (.bi .idx (.call 64 (.cons (.var 0) (.cons (.var 1) .nil))) (.con (.int (1)))) (.lst .nil)))
  .nil))
class F_agree (Φ : Nat → Nat → Fn) : Prop where
  eq : ∀ k, Φ (k + 1) 69 = fnD (Φ k) 2 2 b_agree
def b_rest_of : Sm := (.cons (.ret (.lc (.nm 2) (.itl (.var 1)) (.bi .notin (.var 2) (.var 0)) (.var 2)))
  .nil)
class F_rest_of (Φ : Nat → Nat → Fn) : Prop where
  eq : ∀ k, Φ (k + 1) 70 = fnD (Φ k) 2 3 b_rest_of
def b_nearest_fill : Sm := (.cons (.drop (.call 60 (.cons (.var 0) (.cons (.var 1) .nil))))
  (.cons (.ret (.tup (.cons (.bi .add (.var 0) (.call 70 (.cons (.var 0) (.cons (.var 1) .nil)))) (.cons (.bi .add (.var 1) (.call 70 (.cons (.var 1) (.cons (.var 0) .nil)))) .nil))))
  .nil))
class F_nearest_fill (Φ : Nat → Nat → Fn) : Prop where
  eq : ∀ k, Φ (k + 1) 71 = fnD (Φ k) 2 2 b_nearest_fill
def b_farthest_fill : Sm := (.cons (.drop (.call 60 (.cons (.var 0) (.cons (.var 1) .nil))))
  (.cons (.ret (.tup (.cons (.bi .add (.var 0) (.un .rev (.call 70 (.cons (.var 0) (.cons (.var 1) .nil))))) (.cons (.bi .add (.var 1) (.un .rev (.call 70 (.cons (.var 1) (.cons (.var 0) .nil))))) .nil))))
  .nil))
class F_farthest_fill (Φ : Nat → Nat → Fn) : Prop where
  eq : ∀ k, Φ (k + 1) 72 = fnD (Φ k) 2 2 b_farthest_fill
def b_place_range : Sm := (.cons (.drop (.call 60 (.cons (.var 0) (.cons (.var 1) .nil))))
  (.cons (.ite (.or (.un .notv (.isi (.var 2) .str)) (.bi .notin (.var 2) (.bi .add (.var 0) (.var 1))))
  (.cons (.raise 5)
  .nil)
  .nil)
  (.cons (.ite (.bi .isin (.var 2) (.var 0))
  (.cons (.ret (.tup (.cons (.bi .add (.con (.int (1))) (.bi .index (.var 0) (.var 2))) (.cons (.bi .add (.con (.int (1))) (.bi .index (.var 0) (.var 2))) .nil))))
  .nil)
  .nil)
  (.cons (.ret (.tup (.cons (.bi .add (.un .len (.var 0)) (.con (.int (1)))) (.cons (.bi .add (.un .len (.var 0)) (.un .len (.call 70 (.cons (.var 0) (.cons (.var 1) .nil))))) .nil))))
  .nil))))
class F_place_range (Φ : Nat → Nat → Fn) : Prop where
  eq : ∀ k, Φ (k + 1) 73 = fnD (Φ k) 3 3 b_place_range
def b_count_fills : Sm := (.cons (.drop (.call 60 (.cons (.var 0) (.cons (.var 1) .nil))))
  (.cons (.asg 2 (.con (.int (1))))
  (.cons (.for_ (.nm 3) (.rng1 (.un .len (.call 70 (.cons (.var 0) (.cons (.var 1) .nil)))))
  (.cons (.aug 2 .mul (.bi .add (.var 3) (.con (.int (1)))))
  .nil))
  (.cons (.ret (.var 2))
  .nil))))
class F_count_fills (Φ : Nat → Nat → Fn) : Prop where
  eq : ∀ k, Φ (k + 1) 74 = fnD (Φ k) 2 4 b_count_fills
def b_law_short : Sm := (.cons (.mk 2 (.un .lstr (.bi .upto (.con (.str "abcdefghij")) (.var 1))))
  (.cons (.mk 3 (.lst .nil))
  (.cons (.for_ (.nm 4) (.rng1 (.bi .add (.con (.int (1))) (.call 0 (.cons (.var 0) (.cons (.bi .min2 (.con (.int (6))) (.var 1)) .nil)))))
  (.cons (.app 3 (.bor (.call 17 (.cons (.var 0) (.cons (.var 2) .nil)))))
  (.cons (.rem 2 (.bi .idx (.var 3) (.un .neg (.con (.int (1))))))
  .nil)))
  (.cons (.frz 3)
  (.cons (.ret (.var 3))
  .nil)))))
class F_law_short (Φ : Nat → Nat → Fn) : Prop where
  eq : ∀ k, Φ (k + 1) 75 = fnD (Φ k) 2 5 b_law_short
def b_law_orders : Sm := (.cons (.ite (.bi .eq (.var 0) (.lst .nil))
  (.cons (.ret (.lst (.cons (.lst .nil) .nil)))
  .nil)
  .nil)
  (.cons (.asg 1 (.lst .nil))
  (.cons (.for_ (.nm 2) (.itl (.var 0))
  (.cons (.asg 1 (.bi .add (.var 1) (.lc (.nm 3) (.itl (.call 76 (.cons (.lc (.nm 4) (.itl (.var 0)) (.bi .ne (.var 4) (.var 2)) (.var 4)) .nil))) (.con (.bool true)) (.bi .add (.lst (.cons (.var 2) .nil)) (.var 3)))))
  .nil))
  (.cons (.ret (.var 1))
  .nil))))
class F_law_orders (Φ : Nat → Nat → Fn) : Prop where
  eq : ∀ k, Φ (k + 1) 76 = fnD (Φ k) 1 5 b_law_orders
def b_law_otherwise : Sm := (.cons (.asg 2 (.con (.int (0))))
  (.cons (.for_ (.nm 3) (.rng1 (.un .len (.var 0)))
  (.cons (.asg 2 (.bi .add (.var 2) (.un .len (.lc (.nm 4) (.itl (.bi .from_ (.var 0) (.bi .add (.var 3) (.con (.int (1)))))) (.bi .lt (.bi .index (.var 1) (.var 4)) (.bi .index (.var 1) (.bi .idx (.var 0) (.var 3)))) (.var 4)))))
  .nil))
  (.cons (.ret (.var 2))
  .nil)))
class F_law_otherwise (Φ : Nat → Nat → Fn) : Prop where
  eq : ∀ k, Φ (k + 1) 77 = fnD (Φ k) 2 5 b_law_otherwise
def b_law_fills : Sm := (.cons (.asg 2 (.lc (.nm 3) (.its (.con (.str "abcdefghij"))) (.and (.bi .isin (.var 3) (.var 1)) (.bi .notin (.var 3) (.var 0))) (.var 3)))
  (.cons (.ret (.lc (.nm 4) (.itl (.call 76 (.cons (.var 2) .nil))) (.con (.bool true)) (.bi .add (.var 0) (.var 4))))
  .nil))
class F_law_fills (Φ : Nat → Nat → Fn) : Prop where
  eq : ∀ k, Φ (k + 1) 78 = fnD (Φ k) 2 5 b_law_fills
def b_prefix : Sm := (.cons (.drop (.call 59 (.cons (.var 0) .nil)))
  (.cons (.ite (.or (.un .notv (.isi (.var 1) .int)) (.or (.isi (.var 1) .bool) (.un .notv (.le2 (.con (.int (1))) (.var 1) (.un .len (.var 0))))))
  (.cons (.raise 3)
  .nil)
  .nil)
  (.cons (.ret (.bi .upto (.var 0) (.var 1)))
  .nil)))
class F_prefix (Φ : Nat → Nat → Fn) : Prop where
  eq : ∀ k, Φ (k + 1) 79 = fnD (Φ k) 2 2 b_prefix
def b_count_otherwise : Sm := (.cons (.drop (.call 81 (.cons (.var 0) .nil)))
  (.cons (.drop (.call 81 (.cons (.var 1) .nil)))
  (.cons (.ite (.bi .ne (.un .sorted (.var 0)) (.un .sorted (.var 1)))
  (.cons (.raise 3)
  .nil)
  .nil)
  (.cons (.asg 2 (.con (.int (0))))
  (.cons (.for_ (.two 3 4) (.enum (.var 0))
  (.cons (.for_ (.nm 5) (.itl (.bi .from_ (.var 0) (.bi .add (.var 3) (.con (.int (1))))))
  (.cons (.aug 2 .add (.ite (.bi .gt (.bi .index (.var 1) (.var 4)) (.bi .index (.var 1) (.var 5))) (.con (.int (1))) (.con (.int (0)))))
  .nil))
  .nil))
  (.cons (.ret (.var 2))
  .nil))))))
class F_count_otherwise (Φ : Nat → Nat → Fn) : Prop where
  eq : ∀ k, Φ (k + 1) 80 = fnD (Φ k) 2 6 b_count_otherwise
def b_check_long : Sm := (.cons (.ite (.or (.un .notv (.isi (.var 0) .list)) (.un .notv (.le2 (.con (.int (1))) (.un .len (.var 0)) (.con (.int (10))))))
  (.cons (.raise 3)
  .nil)
  .nil)
  (.cons (.ite (.un .notv (.un .all (.lc (.nm 1) (.itl (.var 0)) (.con (.bool true)) (.and (.isi (.var 1) .str) (.and (.bi .eq (.un .len (.var 1)) (.con (.int (1)))) (.bi .instr (.var 1) (.glo 0 (.str "abcdefghij"))))))))
  (.cons (.raise 3)
  .nil)
  .nil)
  (.cons (.ite (.bi .ne (.un .lenset (.var 0)) (.un .len (.var 0)))
  (.cons (.raise 3)
  .nil)
  .nil)
  .nil)))
class F_check_long (Φ : Nat → Nat → Fn) : Prop where
  eq : ∀ k, Φ (k + 1) 81 = fnD (Φ k) 1 2 b_check_long
def b_can_extend : Sm := (.cons (.drop (.call 59 (.cons (.var 0) .nil)))
  (.cons (.drop (.call 81 (.cons (.var 1) .nil)))
  (.cons (.ret (.bi .eq (.bi .upto (.var 1) (.un .len (.var 0))) (.var 0)))
  .nil)))
class F_can_extend (Φ : Nat → Nat → Fn) : Prop where
  eq : ∀ k, Φ (k + 1) 82 = fnD (Φ k) 2 2 b_can_extend
def b_check_lists : Sm := (.cons (.ite (.or (.un .notv (.isi (.var 0) .list)) (.un .notv (.le2 (.con (.int (1))) (.un .len (.var 0)) (.con (.int (6))))))
  (.cons (.raise 3)
  .nil)
  .nil)
  (.cons (.for_ (.nm 1) (.itl (.var 0))
  (.cons (.drop (.call 59 (.cons (.var 1) .nil)))
  .nil))
  .nil))
class F_check_lists (Φ : Nat → Nat → Fn) : Prop where
  eq : ∀ k, Φ (k + 1) 83 = fnD (Φ k) 1 2 b_check_lists
def b_letters_of : Sm := (.cons (.ret (.lc (.nm 1) (.its (.glo 0 (.str "abcdefghij"))) (.un .any (.lc (.nm 2) (.itl (.var 0)) (.con (.bool true)) (.bi .isin (.var 1) (.var 2)))) (.var 1)))
  .nil)
class F_letters_of (Φ : Nat → Nat → Fn) : Prop where
  eq : ∀ k, Φ (k + 1) 84 = fnD (Φ k) 1 3 b_letters_of
def b_turns : Sm := (.cons (.drop (.call 83 (.cons (.var 0) .nil)))
  (.cons (.mk 1 (.lst .nil))
  (.cons (.for_ (.nm 2) (.rng1 (.con (.int (6))))
  (.cons (.for_ (.nm 3) (.itl (.var 0))
  (.cons (.ite (.and (.bi .lt (.var 2) (.un .len (.var 3))) (.bi .notin (.bi .idx (.var 3) (.var 2)) (.var 1)))
  (.cons (.app 1 (.bi .idx (.var 3) (.var 2)))
  .nil)
  .nil)
  .nil))
  .nil))
  (.cons (.frz 1)
  (.cons (.ret (.var 1))
  .nil)))))
class F_turns (Φ : Nat → Nat → Fn) : Prop where
  eq : ∀ k, Φ (k + 1) 85 = fnD (Φ k) 1 4 b_turns
def b_place_in : Sm := (.cons (.ret (.ite (.bi .isin (.var 1) (.var 0)) (.bi .add (.con (.int (1))) (.bi .index (.var 0) (.var 1))) (.bi .add (.un .len (.var 0)) (.con (.int (1))))))
  .nil)
class F_place_in (Φ : Nat → Nat → Fn) : Prop where
  eq : ∀ k, Φ (k + 1) 86 = fnD (Φ k) 2 2 b_place_in
def b_by_best_place : Sm := (.cons (.drop (.call 83 (.cons (.var 0) .nil)))
  (.cons (.asg 1 (.lc (.nm 2) (.itl (.call 84 (.cons (.var 0) .nil))) (.con (.bool true)) (.tup (.cons (.un .min1 (.lc (.nm 3) (.itl (.var 0)) (.bi .isin (.var 2) (.var 3)) (.call 86 (.cons (.var 3) (.cons (.var 2) .nil))))) (.cons (.var 2) .nil)))))
  (.cons (.ret (.lc (.two 4 2) (.itl (.un .sorted (.var 1))) (.con (.bool true)) (.var 2)))
  .nil)))
class F_by_best_place (Φ : Nat → Nat → Fn) : Prop where
  eq : ∀ k, Φ (k + 1) 87 = fnD (Φ k) 1 5 b_by_best_place
def b_by_sum : Sm := (.cons (.drop (.call 83 (.cons (.var 0) .nil)))
  (.cons (.asg 1 (.lc (.nm 2) (.itl (.call 84 (.cons (.var 0) .nil))) (.con (.bool true)) (.tup (.cons (.un .sum (.lc (.nm 3) (.itl (.var 0)) (.con (.bool true)) (.call 86 (.cons (.var 3) (.cons (.var 2) .nil))))) (.cons (.var 2) .nil)))))
  (.cons (.ret (.lc (.two 4 2) (.itl (.un .sorted (.var 1))) (.con (.bool true)) (.var 2)))
  .nil)))
class F_by_sum (Φ : Nat → Nat → Fn) : Prop where
  eq : ∀ k, Φ (k + 1) 88 = fnD (Φ k) 1 5 b_by_sum
def b_place_sums : Sm := (.cons (.drop (.call 83 (.cons (.var 0) .nil)))
  (.cons (.ret (.lc (.nm 1) (.itl (.call 84 (.cons (.var 0) .nil))) (.con (.bool true)) (.tup (.cons (.var 1) (.cons (.un .sum (.lc (.nm 2) (.itl (.var 0)) (.con (.bool true)) (.call 86 (.cons (.var 2) (.cons (.var 1) .nil))))) .nil)))))
  .nil))
class F_place_sums (Φ : Nat → Nat → Fn) : Prop where
  eq : ∀ k, Φ (k + 1) 89 = fnD (Φ k) 1 3 b_place_sums
def b_by_votes : Sm := (.cons (.drop (.call 83 (.cons (.var 0) .nil)))
  (.cons (.mk 1 (.lst .nil))
  (.cons (.for_ (.nm 2) (.itl (.call 84 (.cons (.var 0) .nil)))
  (.cons (.asg 3 (.un .len (.lc (.nm 4) (.itl (.var 0)) (.bi .isin (.var 2) (.var 4)) (.var 4))))
  (.cons (.app 1 (.tup (.cons (.un .neg (.var 3)) (.cons (.un .sum (.lc (.nm 4) (.itl (.var 0)) (.con (.bool true)) (.call 86 (.cons (.var 4) (.cons (.var 2) .nil))))) (.cons (.var 2) .nil)))))
  .nil)))
  (.cons (.ret (.lc (.three 3 5 2) (.itl (.un .sorted (.var 1))) (.con (.bool true)) (.var 2)))
  .nil))))
class F_by_votes (Φ : Nat → Nat → Fn) : Prop where
  eq : ∀ k, Φ (k + 1) 90 = fnD (Φ k) 1 6 b_by_votes
def b_law_place : Sm := (.cons (.ret (.ite (.bi .isin (.var 1) (.var 0)) (.bi .add (.bi .index (.var 0) (.var 1)) (.con (.int (1)))) (.bi .add (.un .len (.var 0)) (.con (.int (1))))))
  .nil)
class F_law_place (Φ : Nat → Nat → Fn) : Prop where
  eq : ∀ k, Φ (k + 1) 91 = fnD (Φ k) 2 2 b_law_place
def b_beats : Sm := (.cons (.drop (.call 83 (.cons (.var 0) .nil)))
  (.cons (.ite (.or (.bi .eq (.var 1) (.var 2)) (.or (.bi .notin (.var 1) (.call 84 (.cons (.var 0) .nil))) (.bi .notin (.var 2) (.call 84 (.cons (.var 0) .nil)))))
  (.cons (.raise 3)
  .nil)
  .nil)
  (.cons (.asg 3 (.un .len (.lc (.nm 4) (.itl (.var 0)) (.bi .lt (.call 86 (.cons (.var 4) (.cons (.var 1) .nil))) (.call 86 (.cons (.var 4) (.cons (.var 2) .nil)))) (.con (.int (1))))))
  (.cons (.ret (.tup (.cons (.var 3) (.cons (.un .len (.lc (.nm 4) (.itl (.var 0)) (.bi .lt (.call 86 (.cons (.var 4) (.cons (.var 2) .nil))) (.call 86 (.cons (.var 4) (.cons (.var 1) .nil)))) (.con (.int (1))))) .nil))))
  .nil))))
class F_beats (Φ : Nat → Nat → Fn) : Prop where
  eq : ∀ k, Φ (k + 1) 92 = fnD (Φ k) 3 5 b_beats
def b_unbeaten : Sm := (.cons (.drop (.call 83 (.cons (.var 0) .nil)))
  (.cons (.mk 1 (.lst .nil))
  (.cons (.for_ (.nm 2) (.itl (.call 84 (.cons (.var 0) .nil)))
  (.cons (.asg 3 (.con (.bool false)))
  (.cons (.for_ (.nm 4) (.itl (.call 84 (.cons (.var 0) .nil)))
  (.cons (.asg 5 (.un .len (.lc (.nm 7) (.itl (.var 0)) (.bi .lt (.call 86 (.cons (.var 7) (.cons (.var 4) .nil))) (.call 86 (.cons (.var 7) (.cons (.var 2) .nil)))) (.con (.int (1))))))
  (.cons (.asg 6 (.un .len (.lc (.nm 7) (.itl (.var 0)) (.bi .lt (.call 86 (.cons (.var 7) (.cons (.var 2) .nil))) (.call 86 (.cons (.var 7) (.cons (.var 4) .nil)))) (.con (.int (1))))))
  (.cons (.asg 3 (.or (.var 3) (.bi .gt (.var 5) (.var 6))))
  .nil))))
  (.cons (.ite (.un .notv (.var 3))
  (.cons (.app 1 (.var 2))
  .nil)
  .nil)
  .nil))))
  (.cons (.frz 1)
  (.cons (.ret (.var 1))
  .nil)))))
class F_unbeaten (Φ : Nat → Nat → Fn) : Prop where
  eq : ∀ k, Φ (k + 1) 93 = fnD (Φ k) 1 8 b_unbeaten
def b_sure_order : Sm := (.cons (.ite (.or (.un .notv (.isi (.var 0) .list)) (.un .notv (.le2 (.con (.int (1))) (.un .len (.var 0)) (.con (.int (6))))))
  (.cons (.raise 3)
  .nil)
  .nil)
  (.cons (.for_ (.nm 3) (.itl (.var 0))
  (.cons (.drop (.call 59 (.cons (.var 3) .nil)))
  .nil))
  (.cons (.ite (.un .notv (.call 58 (.cons (.lst (.cons (.var 1) (.cons (.var 2) .nil))) .nil)))
  (.cons (.raise 3)
  .nil)
  .nil)
  (.cons (.asg 4 (.lc (.nm 3) (.itl (.var 0)) (.call 62 (.cons (.var 3) (.cons (.var 1) (.cons (.var 2) .nil)))) (.call 63 (.cons (.var 3) (.cons (.var 1) (.cons (.var 2) .nil))))))
  (.cons (.ite (.or (.bi .eq (.var 4) (.lst .nil)) (.and (.bi .isin (.con (.bool true)) (.var 4)) (.bi .isin (.con (.bool false)) (.var 4))))
  (.cons (.ret (.con (.str "unknown")))
  .nil)
  .nil)
  (.cons (.ret (.ite (.bi .idx (.var 4) (.con (.int (0)))) (.con (.str "ahead")) (.con (.str "behind"))))
  .nil))))))
class F_sure_order (Φ : Nat → Nat → Fn) : Prop where
  eq : ∀ k, Φ (k + 1) 94 = fnD (Φ k) 3 5 b_sure_order
def b_exchanged : Sm := (.cons (.drop (.call 3 (.cons (.var 0) .nil)))
  (.cons (.ite (.un .notv (.call 1 (.cons (.var 1) (.cons (.con (.int (0))) (.cons (.bi .sub (.un .len (.var 0)) (.con (.int (2)))) .nil)))))
  (.cons (.raise 1)
  .nil)
  .nil)
  (.cons (.ret (.bi .add (.bi .add (.bi .upto (.var 0) (.var 1)) (.lst (.cons (.bi .idx (.var 0) (.bi .add (.var 1) (.con (.int (1))))) (.cons (.bi .idx (.var 0) (.var 1)) .nil)))) (.bi .from_ (.var 0) (.bi .add (.var 1) (.con (.int (2)))))))
  .nil)))
class F_exchanged (Φ : Nat → Nat → Fn) : Prop where
  eq : ∀ k, Φ (k + 1) 95 = fnD (Φ k) 2 2 b_exchanged
def b_moved : Sm := (.cons (.drop (.call 3 (.cons (.var 0) .nil)))
  (.cons (.ite (.or (.un .notv (.call 1 (.cons (.var 1) (.cons (.con (.int (0))) (.cons (.bi .sub (.un .len (.var 0)) (.con (.int (1)))) .nil))))) (.un .notv (.call 1 (.cons (.var 2) (.cons (.con (.int (0))) (.cons (.bi .sub (.un .len (.var 0)) (.con (.int (1)))) .nil))))))
  (.cons (.raise 1)
  .nil)
  .nil)
  (.cons (.asg 3 (.lc (.nm 4) (.itl (.var 0)) (.bi .ne (.var 4) (.var 1)) (.var 4)))
  (.cons (.ret (.bi .add (.bi .add (.bi .upto (.var 3) (.var 2)) (.lst (.cons (.var 1) .nil))) (.bi .from_ (.var 3) (.var 2))))
  .nil))))
class F_moved (Φ : Nat → Nat → Fn) : Prop where
  eq : ∀ k, Φ (k + 1) 96 = fnD (Φ k) 3 5 b_moved
def b_renamed : Sm := (.cons (.drop (.call 4 (.cons (.var 0) (.cons (.var 1) .nil))))
  (.cons (.ret (.lc (.nm 2) (.itl (.var 0)) (.con (.bool true)) (.bi .idx (.var 1) (.var 2))))
  .nil))
class F_renamed (Φ : Nat → Nat → Fn) : Prop where
  eq : ∀ k, Φ (k + 1) 97 = fnD (Φ k) 2 3 b_renamed
def b_places : Sm := (.cons (.drop (.call 3 (.cons (.var 0) .nil)))
  (.cons (.ret (.lc (.nm 1) (.rng1 (.un .len (.var 0))) (.con (.bool true)) (.bi .index (.var 0) (.var 1))))
  .nil))
class F_places (Φ : Nat → Nat → Fn) : Prop where
  eq : ∀ k, Φ (k + 1) 98 = fnD (Φ k) 1 2 b_places
def b_seen_from : Sm := (.cons (.drop (.call 4 (.cons (.var 0) (.cons (.var 1) .nil))))
  (.cons (.ret (.lc (.nm 2) (.itl (.var 1)) (.con (.bool true)) (.bi .index (.var 0) (.var 2))))
  .nil))
class F_seen_from (Φ : Nat → Nat → Fn) : Prop where
  eq : ∀ k, Φ (k + 1) 99 = fnD (Φ k) 2 3 b_seen_from
def b_backward : Sm := (.cons (.drop (.call 3 (.cons (.var 0) .nil)))
  (.cons (.ret (.un .rev (.var 0)))
  .nil))
class F_backward (Φ : Nat → Nat → Fn) : Prop where
  eq : ∀ k, Φ (k + 1) 100 = fnD (Φ k) 1 1 b_backward
def b_without_thing : Sm := (.cons (.drop (.call 3 (.cons (.var 0) .nil)))
  (.cons (.ite (.or (.un .notv (.call 1 (.cons (.var 1) (.cons (.con (.int (0))) (.cons (.bi .sub (.un .len (.var 0)) (.con (.int (1)))) .nil))))) (.bi .eq (.un .len (.var 0)) (.con (.int (1)))))
  (.cons (.raise 1)
  .nil)
  .nil)
  (.cons (.ret (.lc (.nm 2) (.itl (.var 0)) (.bi .ne (.var 2) (.var 1)) (.ite (.bi .gt (.var 2) (.var 1)) (.bi .sub (.var 2) (.con (.int (1)))) (.var 2))))
  .nil)))
class F_without_thing (Φ : Nat → Nat → Fn) : Prop where
  eq : ∀ k, Φ (k + 1) 101 = fnD (Φ k) 2 3 b_without_thing
def b_law_single_1 : Sm := (.cons (.ite (.bi .gt (.var 4) (.con (.int (1))))
  (.cons (.asg 5 (.call 0 (.cons (.var 0) (.cons (.bi .sub (.var 4) (.con (.int (1)))) .nil))))
  (.cons (.asg 6 (.call 95 (.cons (.var 2) (.cons (.var 5) .nil))))
  (.cons (.ite (.bi .ne (.var 6) (.bi .add (.bi .add (.bi .upto (.var 2) (.var 5)) (.lst (.cons (.bi .idx (.var 2) (.bi .add (.var 5) (.con (.int (1))))) (.cons (.bi .idx (.var 2) (.var 5)) .nil)))) (.bi .from_ (.var 2) (.bi .add (.var 5) (.con (.int (2)))))))
  (.cons (.ret (.con (.bool false)))
  .nil)
  .nil)
  (.cons (.ite (.bi .ne (.call 95 (.cons (.var 6) (.cons (.var 5) .nil))) (.var 2))
  (.cons (.ret (.con (.bool false)))
  .nil)
  .nil)
  (.cons (.asg 7 (.lc (.two 12 13) (.zip (.call 6 (.cons (.var 1) (.cons (.var 6) .nil))) (.var 3)) (.con (.bool true)) (.bi .sub (.var 12) (.var 13))))
  (.cons (.ite (.or (.bi .ne (.lc (.nm 15) (.rng1 (.var 4)) (.and (.bi .ne (.bi .idx (.var 7) (.var 15)) (.con (.int (0)))) (.bi .ne (.var 15) (.var 5))) (.var 15)) (.lst .nil)) (.bi .gt (.un .abs (.bi .idx (.var 7) (.var 5))) (.con (.int (1)))))
  (.cons (.ret (.con (.bool false)))
  .nil)
  .nil)
  (.cons (.asg 8 (.call 0 (.cons (.var 0) (.cons (.var 4) .nil))))
  (.cons (.ite (.bi .ne (.call 101 (.cons (.var 1) (.cons (.var 8) .nil))) (.lc (.nm 14) (.itl (.var 1)) (.bi .ne (.var 14) (.var 8)) (.bi .sub (.var 14) (.ite (.bi .gt (.var 14) (.var 8)) (.con (.int (1))) (.con (.int (0)))))))
  (.cons (.ret (.con (.bool false)))
  .nil)
  .nil)
  .nil))))))))
  .nil)
  (.cons (.par (.two 8 9) [false, false] (.cons (.call 0 (.cons (.var 0) (.cons (.var 4) .nil))) (.cons (.call 0 (.cons (.var 0) (.cons (.var 4) .nil))) .nil)))
  (.cons (.asg 10 (.call 96 (.cons (.var 1) (.cons (.var 8) (.cons (.var 9) .nil)))))
  (.cons (.asg 11 (.lc (.nm 14) (.itl (.var 1)) (.bi .ne (.var 14) (.var 8)) (.var 14)))
  (.cons (.ret (.and (.bi .eq (.bi .idx (.var 10) (.var 9)) (.var 8)) (.bi .eq (.lc (.nm 14) (.itl (.var 10)) (.bi .ne (.var 14) (.var 8)) (.var 14)) (.var 11))))
  .nil)))))
class F_law_single_1 (Φ : Nat → Nat → Fn) : Prop where
  eq : ∀ k, Φ (k + 1) 102 = fnD (Φ k) 5 16 b_law_single_1
def b_law_call_1 : Sm := (.cons (.asg 3 (.con .none))
  (.cons (.asg 4 (.con .none))
  (.cons (.try_ (.cons (.asg 3 (.ite (.bi .eq (.var 1) (.con (.int (0)))) (.mth 127 0 (.cons (.var 2) .nil)) (.mth 131 0 .nil)))
  .nil) 5 4)
  (.cons (.ret (.ite (.isx 4 8) (.var 3) (.call 36 (.cons (.var 4) .nil))))
  .nil))))
class F_law_call_1 (Φ : Nat → Nat → Fn) : Prop where
  eq : ∀ k, Φ (k + 1) 103 = fnD (Φ k) 3 6 b_law_call_1
def b_format_full : Sm := (.cons (.drop (.call 3 (.cons (.var 0) .nil)))
  (.cons (.ret (.bi .join (.con (.str "")) (.lc (.nm 1) (.itl (.var 0)) (.con (.bool true)) (.un .str (.var 1)))))
  .nil))
class F_format_full (Φ : Nat → Nat → Fn) : Prop where
  eq : ∀ k, Φ (k + 1) 104 = fnD (Φ k) 1 2 b_format_full
def b_parse_full : Sm := (.cons (.ite (.or (.un .notv (.isi (.var 0) .str)) (.un .notv (.un .all (.lc (.nm 2) (.its (.var 0)) (.con (.bool true)) (.bi .instr (.var 2) (.glo 0 (.str "0123456789")))))))
  (.cons (.raise 4)
  .nil)
  .nil)
  (.cons (.asg 1 (.lc (.nm 2) (.its (.var 0)) (.con (.bool true)) (.un .int (.var 2))))
  (.cons (.ite (.un .notv (.call 2 (.cons (.var 1) .nil)))
  (.cons (.raise 4)
  .nil)
  .nil)
  (.cons (.ret (.var 1))
  .nil))))
class F_parse_full (Φ : Nat → Nat → Fn) : Prop where
  eq : ∀ k, Φ (k + 1) 105 = fnD (Φ k) 1 3 b_parse_full
def b_format_short : Sm := (.cons (.drop (.call 59 (.cons (.var 0) .nil)))
  (.cons (.ret (.bi .add (.bi .join (.con (.str ">")) (.var 0)) (.con (.str ">.."))))
  .nil))
class F_format_short (Φ : Nat → Nat → Fn) : Prop where
  eq : ∀ k, Φ (k + 1) 106 = fnD (Φ k) 1 1 b_format_short
def b_parse_short : Sm := (.cons (.ite (.or (.un .notv (.isi (.var 0) .str)) (.bi .ne (.bi .from_ (.var 0) (.un .neg (.con (.int (3))))) (.con (.str ">.."))))
  (.cons (.raise 4)
  .nil)
  .nil)
  (.cons (.asg 1 (.bi .split (.bi .upto (.var 0) (.un .neg (.con (.int (3))))) (.con (.str ">"))))
  (.cons (.ite (.un .notv (.call 58 (.cons (.var 1) .nil)))
  (.cons (.raise 4)
  .nil)
  .nil)
  (.cons (.ret (.var 1))
  .nil))))
class F_parse_short (Φ : Nat → Nat → Fn) : Prop where
  eq : ∀ k, Φ (k + 1) 107 = fnD (Φ k) 1 2 b_parse_short
def b_law_written : Sm := (.cons (.ret (.ite (.bi .eq (.var 0) (.con (.int (0)))) (.bi .join (.con (.str "")) (.lc (.nm 2) (.itl (.var 1)) (.con (.bool true)) (.un .str (.var 2)))) (.bi .add (.bi .join (.con (.str ">")) (.var 1)) (.con (.str ">..")))))
  .nil)
class F_law_written (Φ : Nat → Nat → Fn) : Prop where
  eq : ∀ k, Φ (k + 1) 108 = fnD (Φ k) 2 3 b_law_written
def b_law_parsed : Sm := (.cons (.asg 2 (.con .none))
  (.cons (.asg 3 (.con .none))
  (.cons (.try_ (.cons (.asg 2 (.ite (.bi .eq (.var 0) (.con (.int (0)))) (.call 105 (.cons (.var 1) .nil)) (.call 107 (.cons (.var 1) .nil))))
  .nil) 4 3)
  (.cons (.ret (.ite (.isx 3 8) (.var 2) (.call 36 (.cons (.var 3) .nil))))
  .nil))))
class F_law_parsed (Φ : Nat → Nat → Fn) : Prop where
  eq : ∀ k, Φ (k + 1) 109 = fnD (Φ k) 2 5 b_law_parsed
def b_law_rejected : Sm := (.cons (.asg 0 (.lst (.cons (.con .none) (.cons (.con (.int (5))) (.cons (.con (.str "")) (.cons (.con (.str " ")) (.cons (.con (.str "1")) (.cons (.con (.str "00")) (.cons (.con (.str "02")) (.cons (.con (.str "0 1")) (.cons (.con (.str "0,1")) (.cons (.con (.str "a")) (.cons (.con (.str "-0")) (.cons (.con (.str "01234567")) (.cons (.lst (.cons (.con (.str "0")) .nil)) (.cons (.con (.str "0.")) .nil))))))))))))))))
  (.cons (.ite (.or (.bi .ne (.lc (.nm 1) (.itl (.var 0)) (.con (.bool true)) (.call 109 (.cons (.con (.int (0))) (.cons (.var 1) .nil)))) (.bi .mul (.lst (.cons (.con (.str "text")) .nil)) (.con (.int (14))))) (.bi .ne (.call 109 (.cons (.con (.int (0))) (.cons (.con (.str "6543210")) .nil))) (.lst (.cons (.con (.int (6))) (.cons (.con (.int (5))) (.cons (.con (.int (4))) (.cons (.con (.int (3))) (.cons (.con (.int (2))) (.cons (.con (.int (1))) (.cons (.con (.int (0))) .nil))))))))))
  (.cons (.ret (.con (.bool false)))
  .nil)
  .nil)
  (.cons (.asg 0 (.lst (.cons (.con .none) (.cons (.con (.int (5))) (.cons (.con (.str "")) (.cons (.con (.str ">..")) (.cons (.con (.str "a")) (.cons (.con (.str "a>")) (.cons (.con (.str "a>.")) (.cons (.con (.str "a>.>.")) (.cons (.con (.str "a>b")) (.cons (.con (.str ">a>..")) (.cons (.con (.str "a>>b>..")) (.cons (.con (.str "a>a>..")) (.cons (.con (.str "k>..")) (.cons (.con (.str "A>..")) (.cons (.con (.str "ab>..")) (.cons (.con (.str "a >..")) (.cons (.con (.str "a>b>...")) (.cons (.con (.str "a>b>c>d>e>f>g>..")) (.cons (.lst (.cons (.con (.str "a")) .nil)) .nil)))))))))))))))))))))
  (.cons (.ret (.and (.bi .eq (.lc (.nm 1) (.itl (.var 0)) (.con (.bool true)) (.call 109 (.cons (.con (.int (1))) (.cons (.var 1) .nil)))) (.bi .mul (.lst (.cons (.con (.str "text")) .nil)) (.con (.int (19))))) (.bi .eq (.call 109 (.cons (.con (.int (1))) (.cons (.con (.str "j>a>..")) .nil))) (.lst (.cons (.con (.str "j")) (.cons (.con (.str "a")) .nil))))))
  .nil))))
class F_law_rejected (Φ : Nat → Nat → Fn) : Prop where
  eq : ∀ k, Φ (k + 1) 110 = fnD (Φ k) 0 2 b_law_rejected
def b_law_two : Sm := (.cons (.ite (.bi .eq (.var 0) (.con (.int (0))))
  (.cons (.ret (.call 6 (.cons (.var 1) (.cons (.var 2) .nil))))
  .nil)
  .nil)
  (.cons (.ite (.bi .eq (.var 0) (.con (.int (1))))
  (.cons (.ret (.call 9 (.cons (.var 1) (.cons (.var 2) .nil))))
  .nil)
  .nil)
  (.cons (.ite (.bi .eq (.var 0) (.con (.int (2))))
  (.cons (.ret (.call 13 (.cons (.var 1) (.cons (.var 2) .nil))))
  .nil)
  .nil)
  (.cons (.ite (.bi .eq (.var 0) (.con (.int (3))))
  (.cons (.ret (.call 42 (.cons (.var 1) (.cons (.var 2) .nil))))
  .nil)
  .nil)
  (.cons (.ite (.bi .eq (.var 0) (.con (.int (4))))
  (.cons (.ret (.call 43 (.cons (.var 1) (.cons (.var 2) .nil))))
  .nil)
  .nil)
  (.cons (.ite (.bi .eq (.var 0) (.con (.int (5))))
  (.cons (.ret (.call 45 (.cons (.var 1) (.cons (.var 2) .nil))))
  .nil)
  .nil)
  (.cons (.ite (.bi .eq (.var 0) (.con (.int (6))))
  (.cons (.ret (.call 53 (.cons (.var 1) (.cons (.var 2) .nil))))
  .nil)
  .nil)
  (.cons (.ite (.bi .eq (.var 0) (.con (.int (7))))
  (.cons (.ret (.call 54 (.cons (.var 1) (.cons (.var 2) .nil))))
  .nil)
  .nil)
  (.cons (.ite (.bi .eq (.var 0) (.con (.int (8))))
  (.cons (.ret (.call 55 (.cons (.var 1) (.cons (.var 2) .nil))))
  .nil)
  .nil)
  (.cons (.ite (.bi .eq (.var 0) (.con (.int (9))))
  (.cons (.ret (.call 97 (.cons (.var 1) (.cons (.var 2) .nil))))
  .nil)
  .nil)
  (.cons (.ite (.bi .eq (.var 0) (.con (.int (10))))
  (.cons (.ret (.call 99 (.cons (.var 1) (.cons (.var 2) .nil))))
  .nil)
  .nil)
  (.cons (.ite (.bi .eq (.var 0) (.con (.int (11))))
  (.cons (.retr (.var 1) (.var 2))
  .nil)
  .nil)
  (.cons (.ite (.bi .eq (.var 0) (.con (.int (12))))
  (.cons (.ret (.call 40 (.cons (.var 1) (.cons (.var 2) (.cons (.var 1) .nil)))))
  .nil)
  .nil)
  (.cons (.ret (.ite (.bi .eq (.var 0) (.con (.int (13)))) (.call 41 (.cons (.var 1) (.cons (.var 1) (.cons (.var 2) .nil)))) (.call 40 (.cons (.var 1) (.cons (.var 1) (.cons (.var 2) .nil))))))
  .nil))))))))))))))
class F_law_two (Φ : Nat → Nat → Fn) : Prop where
  eq : ∀ k, Φ (k + 1) 113 = fnO (Φ k) 3 3 b_law_two
def b_law_three : Sm := (.cons (.ite (.bi .eq (.var 0) (.con (.int (0))))
  (.cons (.ret (.call 7 (.cons (.var 1) (.cons (.var 2) (.cons (.var 3) .nil)))))
  .nil)
  .nil)
  (.cons (.ite (.bi .eq (.var 0) (.con (.int (1))))
  (.cons (.ret (.call 8 (.cons (.var 1) (.cons (.var 2) (.cons (.var 3) .nil)))))
  .nil)
  .nil)
  (.cons (.ite (.bi .eq (.var 0) (.con (.int (2))))
  (.cons (.ret (.call 15 (.cons (.var 1) (.cons (.var 2) (.cons (.var 3) .nil)))))
  .nil)
  .nil)
  (.cons (.ite (.bi .eq (.var 0) (.con (.int (3))))
  (.cons (.ret (.call 14 (.cons (.var 1) (.cons (.var 2) (.cons (.var 3) .nil)))))
  .nil)
  .nil)
  (.cons (.ite (.bi .eq (.var 0) (.con (.int (4))))
  (.cons (.ret (.call 47 (.cons (.var 1) (.cons (.var 2) (.cons (.var 3) .nil)))))
  .nil)
  .nil)
  (.cons (.ite (.bi .eq (.var 0) (.con (.int (5))))
  (.cons (.ret (.call 49 (.cons (.var 1) (.cons (.var 2) (.cons (.var 3) .nil)))))
  .nil)
  .nil)
  (.cons (.ite (.bi .eq (.var 0) (.con (.int (6))))
  (.cons (.ret (.call 51 (.cons (.var 1) (.cons (.var 2) (.cons (.var 3) .nil)))))
  .nil)
  .nil)
  (.cons (.ite (.bi .eq (.var 0) (.con (.int (7))))
  (.cons (.ret (.call 52 (.cons (.var 1) (.cons (.var 2) (.cons (.var 3) .nil)))))
  .nil)
  .nil)
  (.cons (.ite (.bi .eq (.var 0) (.con (.int (8))))
  (.cons (.ret (.call 56 (.cons (.var 1) (.cons (.var 2) (.cons (.var 3) (.cons (.con (.int (1))) (.cons (.con (.int (1))) .nil)))))))
  .nil)
  .nil)
  (.cons (.ite (.bi .eq (.var 0) (.con (.int (9))))
  (.cons (.ret (.call 56 (.cons (.var 1) (.cons (.var 2) (.cons (.con (.int (1))) (.cons (.var 3) (.cons (.con (.int (1))) .nil)))))))
  .nil)
  .nil)
  (.cons (.ret (.call 56 (.cons (.var 1) (.cons (.var 2) (.cons (.con (.int (1))) (.cons (.con (.int (1))) (.cons (.var 3) .nil)))))))
  .nil)))))))))))
class F_law_three (Φ : Nat → Nat → Fn) : Prop where
  eq : ∀ k, Φ (k + 1) 114 = fnD (Φ k) 4 4 b_law_three
def b_law_single_2 : Sm := (.cons (.ite (.bi .eq (.var 0) (.con (.int (0))))
  (.cons (.ret (.call 98 (.cons (.var 1) .nil)))
  .nil)
  .nil)
  (.cons (.ite (.bi .eq (.var 0) (.con (.int (1))))
  (.cons (.ret (.call 100 (.cons (.var 1) .nil)))
  .nil)
  .nil)
  (.cons (.ite (.bi .eq (.var 0) (.con (.int (2))))
  (.cons (.ret (.call 104 (.cons (.var 1) .nil)))
  .nil)
  .nil)
  (.cons (.ite (.bi .eq (.var 0) (.con (.int (3))))
  (.cons (.ret (.call 95 (.cons (.var 1) (.cons (.var 2) .nil))))
  .nil)
  .nil)
  (.cons (.ite (.bi .eq (.var 0) (.con (.int (4))))
  (.cons (.ret (.call 96 (.cons (.var 1) (.cons (.var 2) (.cons (.con (.int (0))) .nil)))))
  .nil)
  .nil)
  (.cons (.ite (.bi .eq (.var 0) (.con (.int (5))))
  (.cons (.ret (.call 96 (.cons (.var 1) (.cons (.con (.int (0))) (.cons (.var 2) .nil)))))
  .nil)
  .nil)
  (.cons (.ret (.ite (.bi .eq (.var 0) (.con (.int (6)))) (.call 101 (.cons (.var 1) (.cons (.var 2) .nil))) (.call 26 (.cons (.var 1) (.cons (.var 2) .nil)))))
  .nil)))))))
class F_law_single_2 (Φ : Nat → Nat → Fn) : Prop where
  eq : ∀ k, Φ (k + 1) 115 = fnD (Φ k) 3 3 b_law_single_2
def b_law_asked_1 : Sm := (.cons (.asg 5 (.con .none))
  (.cons (.try_ (.cons (.ite (.bi .eq (.var 0) (.con (.int (1))))
  (.cons (.drop (.call 115 (.cons (.var 1) (.cons (.var 2) (.cons (.var 3) .nil)))))
  .nil)
  (.cons (.ite (.bi .eq (.var 0) (.con (.int (2))))
  (.cons (.dropc 113 (.cons (.var 1) (.cons (.var 2) (.cons (.var 3) .nil))))
  .nil)
  (.cons (.drop (.call 114 (.cons (.var 1) (.cons (.var 2) (.cons (.var 3) (.cons (.var 4) .nil))))))
  .nil))
  .nil))
  .nil) 6 5)
  (.cons (.ret (.ite (.isx 5 8) (.con (.str "done")) (.call 36 (.cons (.var 5) .nil))))
  .nil)))
class F_law_asked_1 (Φ : Nat → Nat → Fn) : Prop where
  eq : ∀ k, Φ (k + 1) 116 = fnD (Φ k) 5 7 b_law_asked_1
def b_law_numbers : Sm := (.cons (.asg 2 (.call 45 (.cons (.var 0) (.cons (.var 1) .nil))))
  (.cons (.asg 3 (.lst (.cons (.tup (.cons (.con (.int (0))) (.cons (.con (.int (0))) (.cons (.con (.int (4))) .nil)))) (.cons (.tup (.cons (.con (.int (1))) (.cons (.con (.int (0))) (.cons (.con (.int (4))) .nil)))) (.cons (.tup (.cons (.con (.int (2))) (.cons (.con (.int (0))) (.cons (.con (.int (4))) .nil)))) (.cons (.tup (.cons (.con (.int (3))) (.cons (.con (.int (0))) (.cons (.con (.int (3))) .nil)))) (.cons (.tup (.cons (.con (.int (4))) (.cons (.con (.int (0))) (.cons (.bi .sub (.var 2) (.con (.int (1)))) .nil)))) (.cons (.tup (.cons (.con (.int (5))) (.cons (.con (.int (0))) (.cons (.con (.int (4))) .nil)))) (.cons (.tup (.cons (.con (.int (8))) (.cons (.con (.int (0))) (.cons (.con (.int (4))) .nil)))) (.cons (.tup (.cons (.con (.int (9))) (.cons (.con (.int (0))) (.cons (.con (.int (100))) .nil)))) (.cons (.tup (.cons (.con (.int (10))) (.cons (.con (.int (0))) (.cons (.con (.int (100))) .nil)))) .nil)))))))))))
  (.cons (.for_ (.three 4 5 6) (.itl (.var 3))
  (.cons (.ite (.bi .ne (.lc (.nm 7) (.itt (.tup (.cons (.con .none) (.cons (.bi .sub (.var 5) (.con (.int (1)))) (.cons (.bi .add (.var 6) (.con (.int (1)))) (.cons (.con (.bool true)) (.cons (.un .str (.var 5)) .nil))))))) (.con (.bool true)) (.call 116 (.cons (.con (.int (3))) (.cons (.var 4) (.cons (.var 0) (.cons (.var 1) (.cons (.var 7) .nil))))))) (.bi .mul (.lst (.cons (.con (.str "number")) .nil)) (.con (.int (5)))))
  (.cons (.ret (.con (.bool false)))
  .nil)
  .nil)
  (.cons (.ite (.bi .ne (.lc (.nm 8) (.itt (.tup (.cons (.var 5) (.cons (.var 6) .nil)))) (.con (.bool true)) (.call 116 (.cons (.con (.int (3))) (.cons (.var 4) (.cons (.var 0) (.cons (.var 1) (.cons (.var 8) .nil))))))) (.bi .mul (.lst (.cons (.con (.str "done")) .nil)) (.con (.int (2)))))
  (.cons (.ret (.con (.bool false)))
  .nil)
  .nil)
  .nil)))
  (.cons (.for_ (.three 4 5 6) (.itl (.lst (.cons (.tup (.cons (.con (.int (3))) (.cons (.con (.int (0))) (.cons (.con (.int (2))) .nil)))) (.cons (.tup (.cons (.con (.int (4))) (.cons (.con (.int (0))) (.cons (.con (.int (3))) .nil)))) (.cons (.tup (.cons (.con (.int (5))) (.cons (.con (.int (0))) (.cons (.con (.int (3))) .nil)))) (.cons (.tup (.cons (.con (.int (6))) (.cons (.con (.int (0))) (.cons (.con (.int (3))) .nil)))) .nil))))))
  (.cons (.ite (.bi .ne (.lc (.nm 7) (.itt (.tup (.cons (.con .none) (.cons (.bi .sub (.var 5) (.con (.int (1)))) (.cons (.bi .add (.var 6) (.con (.int (1)))) (.cons (.con (.bool true)) (.cons (.un .str (.var 5)) .nil))))))) (.con (.bool true)) (.call 116 (.cons (.con (.int (1))) (.cons (.var 4) (.cons (.var 0) (.cons (.var 7) (.cons (.con (.int (0))) .nil))))))) (.bi .mul (.lst (.cons (.con (.str "number")) .nil)) (.con (.int (5)))))
  (.cons (.ret (.con (.bool false)))
  .nil)
  .nil)
  (.cons (.ite (.bi .ne (.lc (.nm 8) (.itt (.tup (.cons (.var 5) (.cons (.var 6) .nil)))) (.con (.bool true)) (.call 116 (.cons (.con (.int (1))) (.cons (.var 4) (.cons (.var 0) (.cons (.var 8) (.cons (.con (.int (0))) .nil))))))) (.bi .mul (.lst (.cons (.con (.str "done")) .nil)) (.con (.int (2)))))
  (.cons (.ret (.con (.bool false)))
  .nil)
  .nil)
  .nil)))
  (.cons (.for_ (.nm 7) (.itl (.lst (.cons (.con .none) (.cons (.con (.int (5))) (.cons (.tup (.cons (.con (.int (0))) .nil)) (.cons (.lst (.cons (.con (.int (4))) .nil)) (.cons (.lst (.cons (.bi .sub (.con (.int (0))) (.con (.int (1)))) .nil)) (.cons (.lst (.cons (.con (.bool true)) .nil)) (.cons (.lst (.cons (.con .none) .nil)) .nil)))))))))
  (.cons (.ite (.bi .ne (.lc (.nm 9) (.itt (.tup (.cons (.con (.int (6))) (.cons (.con (.int (7))) .nil)))) (.con (.bool true)) (.call 116 (.cons (.con (.int (3))) (.cons (.var 9) (.cons (.var 0) (.cons (.var 1) (.cons (.var 7) .nil))))))) (.bi .mul (.lst (.cons (.con (.str "number")) .nil)) (.con (.int (2)))))
  (.cons (.ret (.con (.bool false)))
  .nil)
  .nil)
  .nil))
  (.cons (.ret (.and (.bi .eq (.lc (.nm 9) (.itt (.tup (.cons (.con (.int (6))) (.cons (.con (.int (7))) .nil)))) (.con (.bool true)) (.call 116 (.cons (.con (.int (3))) (.cons (.var 9) (.cons (.var 0) (.cons (.var 1) (.cons (.lst .nil) .nil))))))) (.lst (.cons (.con (.str "done")) (.cons (.con (.str "none")) .nil)))) (.bi .eq (.call 116 (.cons (.con (.int (3))) (.cons (.con (.int (6))) (.cons (.var 0) (.cons (.var 1) (.cons (.lst (.cons (.con (.int (0))) (.cons (.con (.int (0))) .nil))) .nil)))))) (.con (.str "done")))))
  .nil))))))
class F_law_numbers (Φ : Nat → Nat → Fn) : Prop where
  eq : ∀ k, Φ (k + 1) 117 = fnD (Φ k) 2 10 b_law_numbers
def b_law_pair : Sm := (.cons (.ite (.bi .eq (.var 0) (.con (.int (0))))
  (.cons (.ret (.call 61 (.cons (.var 1) (.cons (.var 2) .nil))))
  .nil)
  .nil)
  (.cons (.ite (.bi .eq (.var 0) (.con (.int (1))))
  (.cons (.ret (.call 67 (.cons (.var 1) (.cons (.var 2) .nil))))
  .nil)
  .nil)
  (.cons (.ite (.bi .eq (.var 0) (.con (.int (2))))
  (.cons (.ret (.call 68 (.cons (.var 1) (.cons (.var 2) .nil))))
  .nil)
  .nil)
  (.cons (.ite (.bi .eq (.var 0) (.con (.int (3))))
  (.cons (.ret (.call 65 (.cons (.var 1) (.cons (.var 2) .nil))))
  .nil)
  .nil)
  (.cons (.ite (.bi .eq (.var 0) (.con (.int (4))))
  (.cons (.ret (.call 66 (.cons (.var 1) (.cons (.var 2) .nil))))
  .nil)
  .nil)
  (.cons (.ite (.bi .eq (.var 0) (.con (.int (5))))
  (.cons (.ret (.call 69 (.cons (.var 1) (.cons (.var 2) .nil))))
  .nil)
  .nil)
  (.cons (.ite (.bi .eq (.var 0) (.con (.int (6))))
  (.cons (.ret (.call 71 (.cons (.var 1) (.cons (.var 2) .nil))))
  .nil)
  .nil)
  (.cons (.ite (.bi .eq (.var 0) (.con (.int (7))))
  (.cons (.ret (.call 72 (.cons (.var 1) (.cons (.var 2) .nil))))
  .nil)
  .nil)
  (.cons (.ite (.bi .eq (.var 0) (.con (.int (8))))
  (.cons (.ret (.call 74 (.cons (.var 1) (.cons (.var 2) .nil))))
  .nil)
  .nil)
  (.cons (.ret (.ite (.bi .eq (.var 0) (.con (.int (9)))) (.call 73 (.cons (.var 1) (.cons (.var 2) (.cons (.con (.str "a")) .nil)))) (.call 82 (.cons (.var 1) (.cons (.var 2) .nil)))))
  .nil))))))))))
class F_law_pair (Φ : Nat → Nat → Fn) : Prop where
  eq : ∀ k, Φ (k + 1) 118 = fnD (Φ k) 3 3 b_law_pair
def b_law_lists : Sm := (.cons (.ite (.bi .eq (.var 0) (.con (.int (0))))
  (.cons (.ret (.call 85 (.cons (.var 1) .nil)))
  .nil)
  .nil)
  (.cons (.ite (.bi .eq (.var 0) (.con (.int (1))))
  (.cons (.ret (.call 87 (.cons (.var 1) .nil)))
  .nil)
  .nil)
  (.cons (.ite (.bi .eq (.var 0) (.con (.int (2))))
  (.cons (.ret (.call 88 (.cons (.var 1) .nil)))
  .nil)
  .nil)
  (.cons (.ite (.bi .eq (.var 0) (.con (.int (3))))
  (.cons (.ret (.call 89 (.cons (.var 1) .nil)))
  .nil)
  .nil)
  (.cons (.ite (.bi .eq (.var 0) (.con (.int (4))))
  (.cons (.ret (.call 90 (.cons (.var 1) .nil)))
  .nil)
  .nil)
  (.cons (.ite (.bi .eq (.var 0) (.con (.int (5))))
  (.cons (.ret (.call 93 (.cons (.var 1) .nil)))
  .nil)
  .nil)
  (.cons (.ret (.ite (.bi .eq (.var 0) (.con (.int (6)))) (.call 92 (.cons (.var 1) (.cons (.con (.str "a")) (.cons (.con (.str "b")) .nil)))) (.call 94 (.cons (.var 1) (.cons (.con (.str "a")) (.cons (.con (.str "b")) .nil))))))
  .nil)))))))
class F_law_lists (Φ : Nat → Nat → Fn) : Prop where
  eq : ∀ k, Φ (k + 1) 119 = fnD (Φ k) 2 2 b_law_lists
def b_law_call_2 : Sm := (.cons (.ite (.bi .eq (.var 0) (.con (.int (0))))
  (.cons (.ret (.call 25 (.cons (.var 1) .nil)))
  .nil)
  .nil)
  (.cons (.ite (.bi .eq (.var 0) (.con (.int (1))))
  (.cons (.ret (.call 31 (.cons (.var 1) .nil)))
  .nil)
  .nil)
  (.cons (.ite (.bi .eq (.var 0) (.con (.int (2))))
  (.cons (.ret (.call 32 (.cons (.var 1) .nil)))
  .nil)
  .nil)
  (.cons (.ite (.bi .eq (.var 0) (.con (.int (3))))
  (.cons (.ret (.call 28 (.cons (.var 1) .nil)))
  .nil)
  .nil)
  (.cons (.ite (.bi .eq (.var 0) (.con (.int (4))))
  (.cons (.ret (.call 30 (.cons (.var 1) (.cons (.var 2) .nil))))
  .nil)
  .nil)
  (.cons (.ite (.bi .eq (.var 0) (.con (.int (5))))
  (.cons (.ret (.call 35 (.cons (.var 1) (.cons (.var 2) .nil))))
  .nil)
  .nil)
  (.cons (.ite (.bi .eq (.var 0) (.con (.int (6))))
  (.cons (.ret (.call 29 (.cons (.var 1) .nil)))
  .nil)
  .nil)
  (.cons (.ite (.bi .eq (.var 0) (.con (.int (7))))
  (.cons (.ret (.call 79 (.cons (.lst (.cons (.con (.str "a")) (.cons (.con (.str "b")) .nil))) (.cons (.var 1) .nil))))
  .nil)
  .nil)
  (.cons (.ite (.bi .eq (.var 0) (.con (.int (8))))
  (.cons (.ret (.call 80 (.cons (.var 1) (.cons (.var 2) .nil))))
  .nil)
  .nil)
  (.cons (.ite (.bi .eq (.var 0) (.con (.int (9))))
  (.cons (.ret (.call 73 (.cons (.lst (.cons (.con (.str "b")) .nil)) (.cons (.lst (.cons (.con (.str "a")) .nil)) (.cons (.var 1) .nil)))))
  .nil)
  .nil)
  (.cons (.ite (.bi .eq (.var 0) (.con (.int (10))))
  (.cons (.ret (.call 92 (.cons (.lst (.cons (.lst (.cons (.con (.str "a")) (.cons (.con (.str "b")) .nil))) .nil)) (.cons (.var 1) (.cons (.var 2) .nil)))))
  .nil)
  .nil)
  (.cons (.ite (.bi .eq (.var 0) (.con (.int (11))))
  (.cons (.ret (.call 94 (.cons (.lst (.cons (.lst (.cons (.con (.str "a")) (.cons (.con (.str "b")) .nil))) .nil)) (.cons (.var 1) (.cons (.var 2) .nil)))))
  .nil)
  .nil)
  (.cons (.ite (.bi .eq (.var 0) (.con (.int (12))))
  (.cons (.ret (.call 106 (.cons (.var 1) .nil)))
  .nil)
  .nil)
  (.cons (.ret (.ite (.bi .eq (.var 0) (.con (.int (13)))) (.mth 127 1 (.cons (.var 2) .nil)) (.mth 131 1 .nil)))
  .nil))))))))))))))
class F_law_call_2 (Φ : Nat → Nat → Fn) : Prop where
  eq : ∀ k, Φ (k + 1) 120 = fnD (Φ k) 3 3 b_law_call_2
def b_law_asked_2 : Sm := (.cons (.asg 4 (.con .none))
  (.cons (.try_ (.cons (.ite (.bi .eq (.var 0) (.con (.int (1))))
  (.cons (.drop (.call 118 (.cons (.var 1) (.cons (.var 2) (.cons (.var 3) .nil)))))
  .nil)
  (.cons (.ite (.bi .eq (.var 0) (.con (.int (2))))
  (.cons (.drop (.call 119 (.cons (.var 1) (.cons (.var 2) .nil))))
  .nil)
  (.cons (.drop (.call 120 (.cons (.var 1) (.cons (.var 2) (.cons (.var 3) .nil)))))
  .nil))
  .nil))
  .nil) 5 4)
  (.cons (.ret (.ite (.isx 4 8) (.con (.str "done")) (.call 36 (.cons (.var 4) .nil))))
  .nil)))
class F_law_asked_2 (Φ : Nat → Nat → Fn) : Prop where
  eq : ∀ k, Φ (k + 1) 121 = fnD (Φ k) 4 6 b_law_asked_2
def b_law_rows : Sm := (.cons (.for_ (.nm 0) (.itl (.lst (.cons (.con .none) (.cons (.con (.int (5))) (.cons (.tup (.cons (.con (.int (1))) .nil)) (.cons (.lst .nil) (.cons (.lst (.cons (.con (.int (0))) .nil)) (.cons (.lst (.cons (.con (.int (2))) .nil)) (.cons (.lst (.cons (.con (.int (1))) (.cons (.con (.int (1))) .nil))) (.cons (.lst (.cons (.con (.int (0))) (.cons (.con (.int (1))) .nil))) (.cons (.lst (.cons (.con (.int (1))) (.cons (.con (.int (3))) .nil))) (.cons (.lst (.cons (.con (.bool true)) .nil)) (.cons (.lst (.cons (.con (.str "1")) .nil)) (.cons (.lst (.cons (.con (.int (1))) (.cons (.con (.int (2))) (.cons (.con (.int (3))) (.cons (.con (.int (4))) (.cons (.con (.int (5))) (.cons (.con (.int (6))) (.cons (.con (.int (7))) (.cons (.con (.int (8))) .nil))))))))) (.cons (.lst (.cons (.con (.int (0))) (.cons (.con (.int (0))) (.cons (.con (.int (2))) .nil)))) (.cons (.lst (.cons (.con (.int (0))) (.cons (.con (.int (3))) (.cons (.con (.int (3))) .nil)))) (.cons (.lst (.cons (.con (.int (0))) (.cons (.con (.int (0))) (.cons (.con (.int (3))) .nil)))) (.cons (.lst (.cons (.con (.int (0))) (.cons (.con (.int (0))) (.cons (.con (.int (3))) (.cons (.con (.int (4))) .nil))))) .nil))))))))))))))))))
  (.cons (.ite (.or (.isnc (.call 16 (.cons (.var 0) .nil)) (.bool false)) (.bi .ne (.lc (.nm 1) (.itt (.tup (.cons (.con (.int (0))) (.cons (.con (.int (1))) .nil)))) (.con (.bool true)) (.call 121 (.cons (.con (.int (3))) (.cons (.var 1) (.cons (.var 0) (.cons (.con (.int (0))) .nil)))))) (.bi .mul (.lst (.cons (.con (.str "row")) .nil)) (.con (.int (2))))))
  (.cons (.ret (.con (.bool false)))
  .nil)
  .nil)
  .nil))
  (.cons (.ite (.bi .ne (.lc (.nm 0) (.itt (.tup (.cons (.con .none) (.cons (.con (.int (5))) (.cons (.tup (.cons (.con (.int (1))) .nil)) (.cons (.lst .nil) (.cons (.lst (.cons (.con (.int (8))) .nil)) (.cons (.lst (.cons (.bi .sub (.con (.int (0))) (.con (.int (1)))) .nil)) (.cons (.lst (.cons (.con (.bool true)) .nil)) (.cons (.lst (.cons (.con (.str "1")) .nil)) (.cons (.bi .mul (.lst (.cons (.con (.int (0))) .nil)) (.con (.int (8)))) (.cons (.lst (.cons (.con (.int (7))) .nil)) (.cons (.bi .mul (.lst (.cons (.con (.int (0))) .nil)) (.con (.int (7)))) .nil))))))))))))) (.con (.bool true)) (.call 121 (.cons (.con (.int (3))) (.cons (.con (.int (2))) (.cons (.var 0) (.cons (.con (.int (0))) .nil)))))) (.bi .add (.bi .mul (.lst (.cons (.con (.str "row")) .nil)) (.con (.int (9)))) (.bi .mul (.lst (.cons (.con (.str "done")) .nil)) (.con (.int (2))))))
  (.cons (.ret (.con (.bool false)))
  .nil)
  .nil)
  (.cons (.for_ (.nm 0) (.itl (.lst (.cons (.con .none) (.cons (.con (.int (0))) (.cons (.con (.int (8))) (.cons (.bi .sub (.con (.int (0))) (.con (.int (1)))) (.cons (.con (.bool true)) (.cons (.con (.str "3")) .nil))))))))
  (.cons (.ite (.bi .ne (.lc (.nm 1) (.itt (.tup (.cons (.con (.int (3))) (.cons (.con (.int (4))) (.cons (.con (.int (5))) .nil))))) (.con (.bool true)) (.call 121 (.cons (.con (.int (3))) (.cons (.var 1) (.cons (.var 0) (.cons (.con .none) .nil)))))) (.bi .mul (.lst (.cons (.con (.str "number")) .nil)) (.con (.int (3)))))
  (.cons (.ret (.con (.bool false)))
  .nil)
  .nil)
  .nil))
  (.cons (.ite (.bi .ne (.lc (.nm 2) (.itt (.tup (.cons (.con .none) (.cons (.con (.int (2))) (.cons (.bi .sub (.con (.int (0))) (.con (.int (1)))) (.cons (.con (.bool true)) (.cons (.con (.str "0")) (.cons (.con (.int (0))) (.cons (.con (.int (1))) .nil))))))))) (.con (.bool true)) (.call 121 (.cons (.con (.int (3))) (.cons (.con (.int (4))) (.cons (.con (.int (2))) (.cons (.var 2) .nil)))))) (.bi .add (.bi .mul (.lst (.cons (.con (.str "number")) .nil)) (.con (.int (5)))) (.bi .mul (.lst (.cons (.con (.str "done")) .nil)) (.con (.int (2))))))
  (.cons (.ret (.con (.bool false)))
  .nil)
  .nil)
  (.cons (.ite (.bi .ne (.lc (.nm 3) (.itt (.tup (.cons (.con .none) (.cons (.bi .sub (.con (.int (0))) (.con (.int (1)))) (.cons (.con (.int (101))) (.cons (.con (.bool true)) (.cons (.con (.int (0))) (.cons (.con (.int (100))) (.cons (.con (.int (3))) .nil))))))))) (.con (.bool true)) (.call 121 (.cons (.con (.int (3))) (.cons (.con (.int (5))) (.cons (.con (.int (2))) (.cons (.var 3) .nil)))))) (.bi .add (.bi .add (.bi .mul (.lst (.cons (.con (.str "number")) .nil)) (.con (.int (4)))) (.bi .mul (.lst (.cons (.con (.str "none")) .nil)) (.con (.int (2))))) (.lst (.cons (.con (.str "done")) .nil))))
  (.cons (.ret (.con (.bool false)))
  .nil)
  .nil)
  (.cons (.ret (.and (.bi .eq (.lc (.nm 4) (.itt (.tup (.cons (.con .none) (.cons (.con (.int (0))) (.cons (.con (.int (21))) (.cons (.con (.bool true)) (.cons (.con (.int (20))) (.cons (.con (.int (1))) .nil)))))))) (.con (.bool true)) (.call 121 (.cons (.con (.int (3))) (.cons (.con (.int (6))) (.cons (.var 4) (.cons (.con (.int (0))) .nil)))))) (.bi .add (.bi .mul (.lst (.cons (.con (.str "number")) .nil)) (.con (.int (4)))) (.bi .mul (.lst (.cons (.con (.str "done")) .nil)) (.con (.int (2)))))) (.and (.isc (.call 16 (.cons (.lst (.cons (.con (.int (0))) (.cons (.con (.int (0))) (.cons (.con (.int (2))) (.cons (.con (.int (4))) .nil))))) .nil)) (.bool true)) (.bi .eq (.call 32 (.cons (.lst (.cons (.con (.int (0))) (.cons (.con (.int (0))) (.cons (.con (.int (3))) (.cons (.con (.int (4))) .nil))))) .nil)) (.con (.int (3)))))))
  .nil))))))
class F_law_rows (Φ : Nat → Nat → Fn) : Prop where
  eq : ∀ k, Φ (k + 1) 122 = fnD (Φ k) 0 5 b_law_rows
def b_law_letters : Sm := (.cons (.ite (.bi .ne (.lc (.nm 3) (.itt (.tup (.cons (.con .none) (.cons (.con (.int (0))) (.cons (.con (.int (3))) (.cons (.con (.bool true)) (.cons (.con (.str "1")) (.cons (.con (.int (1))) (.cons (.con (.int (2))) .nil))))))))) (.con (.bool true)) (.call 121 (.cons (.con (.int (3))) (.cons (.con (.int (7))) (.cons (.var 3) (.cons (.con (.int (0))) .nil)))))) (.bi .add (.bi .mul (.lst (.cons (.con (.str "short")) .nil)) (.con (.int (5)))) (.bi .mul (.lst (.cons (.con (.str "done")) .nil)) (.con (.int (2))))))
  (.cons (.ret (.con (.bool false)))
  .nil)
  .nil)
  (.cons (.for_ (.nm 0) (.itl (.lst (.cons (.con .none) (.cons (.con (.int (5))) (.cons (.tup .nil) (.cons (.lst .nil) (.cons (.tup (.cons (.con (.str "a")) .nil)) (.cons (.lst (.cons (.con (.str "k")) .nil)) (.cons (.lst (.cons (.con (.str "ab")) .nil)) (.cons (.lst (.cons (.con (.str "")) .nil)) (.cons (.lst (.cons (.con (.int (1))) .nil)) (.cons (.lst (.cons (.con (.str "a")) (.cons (.con (.str "a")) .nil))) (.cons (.bi .add (.un .lstr (.con (.str "abcdefghij"))) (.lst (.cons (.con (.str "a")) .nil))) (.cons (.con (.str "ab")) .nil))))))))))))))
  (.cons (.ite (.or (.bi .ne (.call 121 (.cons (.con (.int (3))) (.cons (.con (.int (8))) (.cons (.var 0) (.cons (.lst (.cons (.con (.str "a")) .nil)) .nil))))) (.con (.str "short"))) (.or (.bi .ne (.call 121 (.cons (.con (.int (3))) (.cons (.con (.int (8))) (.cons (.lst (.cons (.con (.str "a")) .nil)) (.cons (.var 0) .nil))))) (.con (.str "short"))) (.bi .ne (.call 121 (.cons (.con (.int (1))) (.cons (.con (.int (10))) (.cons (.lst (.cons (.con (.str "a")) .nil)) (.cons (.var 0) .nil))))) (.con (.str "short")))))
  (.cons (.ret (.con (.bool false)))
  .nil)
  .nil)
  .nil))
  (.cons (.ite (.or (.bi .ne (.call 121 (.cons (.con (.int (3))) (.cons (.con (.int (8))) (.cons (.lst (.cons (.con (.str "a")) .nil)) (.cons (.lst (.cons (.con (.str "b")) .nil)) .nil))))) (.con (.str "short"))) (.bi .ne (.call 121 (.cons (.con (.int (3))) (.cons (.con (.int (8))) (.cons (.un .lstr (.con (.str "abcdefghij"))) (.cons (.un .lstr (.con (.str "jihgfedcba"))) .nil))))) (.con (.str "done"))))
  (.cons (.ret (.con (.bool false)))
  .nil)
  .nil)
  (.cons (.ite (.bi .ne (.lc (.nm 4) (.itt (.tup (.cons (.con .none) (.cons (.con (.int (5))) (.cons (.con (.str "c")) (.cons (.con (.str "ab")) (.cons (.con (.str "")) (.cons (.con (.str "a")) (.cons (.con (.str "b")) .nil))))))))) (.con (.bool true)) (.call 121 (.cons (.con (.int (3))) (.cons (.con (.int (9))) (.cons (.var 4) (.cons (.con (.int (0))) .nil)))))) (.bi .add (.bi .mul (.lst (.cons (.con (.str "none")) .nil)) (.con (.int (5)))) (.bi .mul (.lst (.cons (.con (.str "done")) .nil)) (.con (.int (2))))))
  (.cons (.ret (.con (.bool false)))
  .nil)
  .nil)
  (.cons (.for_ (.two 1 2) (.itl (.lst (.cons (.tup (.cons (.con (.str "a")) (.cons (.con (.str "a")) .nil))) (.cons (.tup (.cons (.con .none) (.cons (.con (.str "a")) .nil))) (.cons (.tup (.cons (.con (.str "a")) (.cons (.con (.int (5))) .nil))) (.cons (.tup (.cons (.con (.str "")) (.cons (.con (.str "a")) .nil))) (.cons (.tup (.cons (.con (.str "ab")) (.cons (.con (.str "c")) .nil))) (.cons (.tup (.cons (.con (.str "a")) (.cons (.con (.str "k")) .nil))) (.cons (.tup (.cons (.lst (.cons (.con (.str "a")) .nil)) (.cons (.con (.str "b")) .nil))) .nil)))))))))
  (.cons (.ite (.bi .ne (.lc (.nm 5) (.itt (.tup (.cons (.con (.int (10))) (.cons (.con (.int (11))) .nil)))) (.con (.bool true)) (.call 121 (.cons (.con (.int (3))) (.cons (.var 5) (.cons (.var 1) (.cons (.var 2) .nil)))))) (.bi .mul (.lst (.cons (.con (.str "short")) .nil)) (.con (.int (2)))))
  (.cons (.ret (.con (.bool false)))
  .nil)
  .nil)
  .nil))
  (.cons (.ret (.and (.bi .eq (.lc (.nm 5) (.itt (.tup (.cons (.con (.int (10))) (.cons (.con (.int (11))) .nil)))) (.con (.bool true)) (.call 121 (.cons (.con (.int (3))) (.cons (.var 5) (.cons (.con (.str "a")) (.cons (.con (.str "c")) .nil)))))) (.lst (.cons (.con (.str "short")) (.cons (.con (.str "done")) .nil)))) (.bi .eq (.call 121 (.cons (.con (.int (3))) (.cons (.con (.int (10))) (.cons (.con (.str "b")) (.cons (.con (.str "a")) .nil))))) (.con (.str "done")))))
  .nil))))))
class F_law_letters (Φ : Nat → Nat → Fn) : Prop where
  eq : ∀ k, Φ (k + 1) 123 = fnD (Φ k) 0 6 b_law_letters
def b_law_first : Sm := (.cons (.ite (.or (.bi .ne (.call 6 (.cons (.var 0) (.cons (.var 1) .nil))) (.lst (.cons (.con (.int (0))) (.cons (.con (.int (1))) (.cons (.con (.int (2))) (.cons (.con (.int (4))) .nil)))))) (.or (.bi .ne (.call 15 (.cons (.var 0) (.cons (.var 1) (.cons (.con (.int (2))) .nil)))) (.tup (.cons (.lst (.cons (.con (.int (0))) .nil)) (.cons (.lst (.cons (.con (.int (3))) .nil)) .nil)))) (.bi .ne (.call 32 (.cons (.lst (.cons (.con (.int (0))) (.cons (.con (.int (0))) (.cons (.con (.int (3))) .nil)))) .nil)) (.con (.int (2))))))
  (.cons (.ret (.con (.bool false)))
  .nil)
  .nil)
  (.cons (.ite (.or (.bi .ne (.call 25 (.cons (.lst (.cons (.con (.int (0))) (.cons (.con (.int (1))) (.cons (.con (.int (3))) .nil)))) .nil)) (.con (.int (3)))) (.or (.bi .ne (.call 28 (.cons (.con (.int (2))) .nil)) (.lst (.cons (.lst (.cons (.con (.int (0))) (.cons (.con (.int (2))) .nil))) (.cons (.lst (.cons (.con (.int (1))) (.cons (.con (.int (2))) .nil))) .nil)))) (.bi .ne (.call 42 (.cons (.var 0) (.cons (.var 1) .nil))) (.lst (.cons (.con (.int (2))) (.cons (.con (.int (2))) (.cons (.con (.int (4))) (.cons (.con (.int (4))) .nil))))))))
  (.cons (.ret (.con (.bool false)))
  .nil)
  .nil)
  (.cons (.ret (.and (.bi .eq (.call 43 (.cons (.var 0) (.cons (.var 1) .nil))) (.lst (.cons (.con (.int (0))) (.cons (.con (.int (1))) (.cons (.con (.int (3))) (.cons (.con (.int (2))) .nil)))))) (.and (.bi .eq (.call 49 (.cons (.var 0) (.cons (.var 1) (.cons (.con (.int (2))) .nil)))) (.con (.int (3)))) (.and (.bi .eq (.call 56 (.cons (.var 0) (.cons (.var 1) (.cons (.con (.int (1))) (.cons (.con (.int (1))) (.cons (.con (.int (1))) .nil)))))) (.con (.int (3)))) (.bi .eq (.call 99 (.cons (.var 1) (.cons (.var 0) .nil))) (.lst (.cons (.con (.int (2))) (.cons (.con (.int (0))) (.cons (.con (.int (3))) (.cons (.con (.int (1))) .nil))))))))))
  .nil)))
class F_law_first (Φ : Nat → Nat → Fn) : Prop where
  eq : ∀ k, Φ (k + 1) 124 = fnD (Φ k) 2 2 b_law_first
def b_law_second : Sm := (.cons (.ite (.or (.bi .ne (.call 68 (.cons (.var 0) (.cons (.var 1) .nil))) (.lst (.cons (.con (.str "a")) (.cons (.con (.str "c")) .nil)))) (.or (.bi .ne (.call 80 (.cons (.lst (.cons (.con (.str "a")) (.cons (.con (.str "b")) .nil))) (.cons (.lst (.cons (.con (.str "b")) (.cons (.con (.str "a")) .nil))) .nil))) (.con (.int (1)))) (.bi .ne (.call 73 (.cons (.var 1) (.cons (.var 0) (.cons (.con (.str "a")) .nil)))) (.tup (.cons (.con (.int (3))) (.cons (.con (.int (4))) .nil))))))
  (.cons (.ret (.con (.bool false)))
  .nil)
  .nil)
  (.cons (.ite (.bi .ne (.call 65 (.cons (.var 0) (.cons (.var 1) .nil))) (.tup (.cons (.lst (.cons (.tup (.cons (.con (.str "b")) (.cons (.con (.str "c")) .nil))) (.cons (.tup (.cons (.con (.str "b")) (.cons (.con (.str "d")) .nil))) .nil))) (.cons (.lst (.cons (.tup (.cons (.con (.str "a")) (.cons (.con (.str "b")) .nil))) (.cons (.tup (.cons (.con (.str "a")) (.cons (.con (.str "d")) .nil))) (.cons (.tup (.cons (.con (.str "c")) (.cons (.con (.str "d")) .nil))) .nil)))) (.cons (.lst (.cons (.tup (.cons (.con (.str "a")) (.cons (.con (.str "c")) .nil))) .nil)) .nil)))))
  (.cons (.ret (.con (.bool false)))
  .nil)
  .nil)
  (.cons (.ret (.and (.bi .eq (.call 88 (.cons (.lst (.cons (.var 0) (.cons (.var 1) .nil))) .nil)) (.lst (.cons (.con (.str "b")) (.cons (.con (.str "a")) (.cons (.con (.str "c")) (.cons (.con (.str "d")) .nil)))))) (.bi .eq (.call 106 (.cons (.var 1) .nil)) (.con (.str "b>d>..")))))
  .nil)))
class F_law_second (Φ : Nat → Nat → Fn) : Prop where
  eq : ∀ k, Φ (k + 1) 125 = fnD (Φ k) 2 2 b_law_second
def b_law_kinds : Sm := (.cons (.par (.two 1 2) [false, false] (.cons (.bi .idx (.var 0) (.con (.int (0)))) (.cons (.bi .idx (.var 0) (.un .neg (.con (.int (1))))) .nil)))
  (.cons (.unp (.three 3 4 5) (.call 65 (.cons (.var 1) (.cons (.var 2) .nil))))
  (.cons (.ite (.bi .ne (.lc (.nm 9) (.itl (.var 3)) (.bi .eq (.call 94 (.cons (.lst (.cons (.var 1) (.cons (.var 2) .nil))) (.cons (.bi .idx (.var 9) (.con (.int (0)))) (.cons (.bi .idx (.var 9) (.con (.int (1)))) .nil)))) (.con (.str "unknown"))) (.var 9)) (.lst .nil))
  (.cons (.ret (.con (.bool false)))
  .nil)
  .nil)
  (.cons (.ite (.bi .ne (.lc (.nm 9) (.itl (.var 4)) (.bi .ne (.call 94 (.cons (.lst (.cons (.var 1) (.cons (.var 2) .nil))) (.cons (.bi .idx (.var 9) (.con (.int (0)))) (.cons (.bi .idx (.var 9) (.con (.int (1)))) .nil)))) (.con (.str "unknown"))) (.var 9)) (.lst .nil))
  (.cons (.ret (.con (.bool false)))
  .nil)
  .nil)
  (.cons (.ite (.bi .ne (.lc (.nm 9) (.itl (.var 5)) (.bi .eq (.call 94 (.cons (.lst (.cons (.var 1) (.cons (.var 2) .nil))) (.cons (.bi .idx (.var 9) (.con (.int (0)))) (.cons (.bi .idx (.var 9) (.con (.int (1)))) .nil)))) (.con (.str "unknown"))) (.var 9)) (.lst .nil))
  (.cons (.ret (.con (.bool false)))
  .nil)
  .nil)
  (.cons (.asg 6 (.un .len (.call 61 (.cons (.var 1) (.cons (.var 2) .nil)))))
  (.cons (.ite (.bi .ne (.bi .add (.bi .add (.un .len (.var 3)) (.un .len (.var 4))) (.un .len (.var 5))) (.bi .fdiv (.bi .mul (.var 6) (.bi .sub (.var 6) (.con (.int (1))))) (.con (.int (2)))))
  (.cons (.ret (.con (.bool false)))
  .nil)
  .nil)
  (.cons (.asg 7 (.lc (.nm 10) (.itl (.call 61 (.cons (.var 1) (.cons (.var 2) .nil)))) (.bi .notin (.var 10) (.var 1)) (.var 10)))
  (.cons (.asg 8 (.lc (.nm 10) (.itl (.call 61 (.cons (.var 1) (.cons (.var 2) .nil)))) (.con (.bool true)) (.call 73 (.cons (.var 1) (.cons (.var 2) (.cons (.var 10) .nil))))))
  (.cons (.ret (.and (.bi .eq (.un .len (.lc (.nm 11) (.itl (.var 8)) (.bi .ne (.bi .idx (.var 11) (.con (.int (0)))) (.bi .idx (.var 11) (.con (.int (1))))) (.var 11))) (.ite (.bi .gt (.un .len (.var 7)) (.con (.int (1)))) (.un .len (.var 7)) (.con (.int (0))))) (.bi .eq (.un .len (.call 68 (.cons (.var 2) (.cons (.var 1) .nil)))) (.un .len (.var 7)))))
  .nil))))))))))
class F_law_kinds (Φ : Nat → Nat → Fn) : Prop where
  eq : ∀ k, Φ (k + 1) 126 = fnD (Φ k) 1 12 b_law_kinds
def b_r_read : Sm := (.cons (.ite (.un .notv (.call 1 (.cons (.var 1) (.cons (.con (.int (0))) (.cons (.con (.int (1))) .nil)))))
  (.cons (.raise 1)
  .nil)
  .nil)
  (.cons (.ite (.bi .eq (.rdep 0 (.var 1)) (.un .len (.bi .idx (.rls 0) (.var 1))))
  (.cons (.raise 5)
  .nil)
  .nil)
  (.cons (.radd 0 (.var 1) true)
  (.cons (.rapp 0 (.var 1))
  (.cons (.ret (.bi .idx (.bi .idx (.rls 0) (.var 1)) (.bi .sub (.rdep 0 (.var 1)) (.con (.int (1))))))
  .nil)))))
class F_r_read (Φ : Nat → Nat → Fn) : Prop where
  eq : ∀ k, Φ (k + 1) 127 = fnD (Φ k) 2 2 b_r_read
def b_r_seen : Sm := (.cons (.par (.two 1 2) [false, false] (.cons (.bi .upto (.bi .idx (.rls 0) (.con (.int (0)))) (.rdep 0 (.con (.int (0))))) (.cons (.bi .upto (.bi .idx (.rls 0) (.con (.int (1)))) (.rdep 0 (.con (.int (1))))) .nil)))
  (.cons (.ret (.un .sorted (.lc (.nm 3) (.itl (.var 1)) (.bi .isin (.var 3) (.var 2)) (.var 3))))
  .nil))
class F_r_seen (Φ : Nat → Nat → Fn) : Prop where
  eq : ∀ k, Φ (k + 1) 128 = fnD (Φ k) 1 4 b_r_seen
def b_r_waits_1 : Sm := (.cons (.par (.two 1 2) [false, false] (.cons (.bi .upto (.bi .idx (.rls 0) (.con (.int (0)))) (.rdep 0 (.con (.int (0))))) (.cons (.bi .upto (.bi .idx (.rls 0) (.con (.int (1)))) (.rdep 0 (.con (.int (1))))) .nil)))
  (.cons (.ret (.un .sorted (.lc (.nm 3) (.itl (.bi .add (.var 1) (.var 2))) (.bi .ne (.bi .isin (.var 3) (.var 1)) (.bi .isin (.var 3) (.var 2))) (.var 3))))
  .nil))
class F_r_waits_1 (Φ : Nat → Nat → Fn) : Prop where
  eq : ∀ k, Φ (k + 1) 129 = fnD (Φ k) 1 4 b_r_waits_1
def b_r_depth : Sm := (.cons (.ret (.rdt 0))
  .nil)
class F_r_depth (Φ : Nat → Nat → Fn) : Prop where
  eq : ∀ k, Φ (k + 1) 130 = fnD (Φ k) 1 1 b_r_depth
def b_r_undo_1 : Sm := (.cons (.ite (.rme 0)
  (.cons (.raise 5)
  .nil)
  .nil)
  (.cons (.rpop 1 0)
  (.cons (.radd 0 (.var 1) false)
  (.cons (.ret (.var 1))
  .nil))))
class F_r_undo_1 (Φ : Nat → Nat → Fn) : Prop where
  eq : ∀ k, Φ (k + 1) 131 = fnD (Φ k) 1 2 b_r_undo_1
theorem all_cons {T : Tab} {i : Nat} {d : Df} {ds : List (Nat × Df)} (h : DfOk T i d) (t : ∀ p ∈ ds, DfOk T p.1 p.2) : ∀ p ∈ (i, d) :: ds, DfOk T p.1 p.2 := fun p hp => by
  rcases List.mem_cons.mp hp with e | e
  · subst e
    exact h
  · exact t p e
end Tl
end
section
set_option Elab.async false
set_option linter.all false
set_option autoImplicit false
set_option maxRecDepth 100000
set_option maxHeartbeats 0
namespace Tl
open PySem PySem.Spec PyProof.Rows L2
def top (i : Nat) : Stmt := PySem.Challenge.pw_toplists_k17_examples.main.body.getD i (.Pass ⟨0, 0, 0, 0⟩)
def b_theLaw : Sm := (.cons (.par (.two 2 3) [false, false] (.cons (.lst (.cons (.con (.int (0))) (.cons (.con (.int (1))) (.cons (.con (.int (2))) (.cons (.con (.int (3))) .nil))))) (.cons (.lst (.cons (.con (.int (1))) (.cons (.con (.int (3))) (.cons (.con (.int (0))) (.cons (.con (.int (2))) .nil))))) .nil)))
  (.cons (.ite (.or (.un .notv (.call 124 (.cons (.var 2) (.cons (.var 3) .nil)))) (.un .notv (.call 125 (.cons (.lst (.cons (.con (.str "a")) (.cons (.con (.str "b")) (.cons (.con (.str "c")) .nil)))) (.cons (.lst (.cons (.con (.str "b")) (.cons (.con (.str "d")) .nil))) .nil)))))
  (.cons (.ret (.con (.bool false)))
  .nil)
  .nil)
  (.cons (.mkr 4 (.var 2) (.var 3))
  (.cons (.ite (.or (.bi .ne (.mth 127 4 (.cons (.con (.int (1))) .nil)) (.con (.int (1)))) (.bi .ne (.mth 129 4 .nil) (.lst (.cons (.con (.int (1))) .nil))))
  (.cons (.ret (.con (.bool false)))
  .nil)
  .nil)
  (.cons (.asg 5 (.bi .idx (.con (.str "abcdefghij")) (.call 0 (.cons (.var 1) (.cons (.con (.int (10))) .nil)))))
  (.cons (.ret (.and (.bi .eq (.call 85 (.cons (.lst (.cons (.lst (.cons (.var 5) .nil)) .nil)) .nil)) (.lst (.cons (.var 5) .nil))) (.and (.bi .eq (.call 66 (.cons (.lst (.cons (.var 5) .nil)) (.cons (.lst (.cons (.var 5) .nil)) .nil))) (.tup (.cons (.con (.int (0))) (.cons (.con (.int (0))) .nil)))) (.bi .eq (.call 6 (.cons (.lst (.cons (.con (.int (0))) .nil)) (.cons (.lst (.cons (.con (.int (0))) .nil)) .nil))) (.lst (.cons (.con (.int (1))) .nil))))))
  .nil))))))
def gs0 : List (Str × D) := [("MOST_THINGS", .int 7), ("LETTERS", .str "abcdefghij")]
def cn0 : List Str := ["BadList", "BadNumber", "BadRow", "BadShort", "ListError", "NotFound", "ListError"]
def d_is_int : Df := ⟨"is_int", "is_int", top 10, ["value", "low", "high"], ["value", "low", "high"], b_is_int, false⟩
def d_is_full : Df := ⟨"is_full", "is_full", top 11, ["value"], ["value", "thing"], b_is_full, false⟩
def d_check_full : Df := ⟨"check_full", "check_full", top 12, ["value"], ["value"], b_check_full, false⟩
def d_check_both : Df := ⟨"check_both", "check_both", top 13, ["one", "other"], ["one", "other"], b_check_both, false⟩
def d_check_size : Df := ⟨"check_size", "check_size", top 14, ["value"], ["value"], b_check_size, false⟩
def d_is_short : Df := ⟨"is_short", "is_short", top 15, ["value"], ["value", "one"], b_is_short, false⟩
def d_check_short : Df := ⟨"check_short", "check_short", top 16, ["value"], ["value"], b_check_short, false⟩
def d_row_of : Df := ⟨"row_of", "row_of", top 18, ["one", "other"], ["one", "other", "found", "k", "thing"], b_row_of, false⟩
def d_overlap_row : Df := ⟨"overlap_row", "overlap_row", top 19, ["one", "other"], ["one", "other"], b_overlap_row, false⟩
def d_waiting : Df := ⟨"waiting", "waiting", top 20, ["one", "other", "depth"], ["one", "other", "depth", "first", "thing"], b_waiting, false⟩
def d_waits_of : Df := ⟨"waits_of", "waits_of", top 22, ["row"], ["row", "k", "many"], b_waits_of, false⟩
def d_is_row : Df := ⟨"is_row", "is_row", top 23, ["value"], ["value", "last", "k", "many"], b_is_row, false⟩
def d_check_row : Df := ⟨"check_row", "check_row", top 24, ["value"], ["value"], b_check_row, false⟩
def d_ways_of : Df := ⟨"ways_of", "ways_of", top 25, ["row"], ["row", "found", "last", "many", "wait"], b_ways_of, false⟩
def d_count_others : Df := ⟨"count_others", "count_others", top 26, ["row"], ["row"], b_count_others, false⟩
def d_rows_of : Df := ⟨"rows_of", "rows_of", top 27, ["size"], ["size", "rows", "k", "longer", "row", "last", "many"], b_rows_of, false⟩
def d_all_rows : Df := ⟨"all_rows", "all_rows", top 28, ["size"], ["size"], b_all_rows, false⟩
def d_first_fault : Df := ⟨"first_fault", "first_fault", top 29, ["value"], ["value", "last", "k", "many"], b_first_fault, false⟩
def d_better : Df := ⟨"better", "better", top 31, ["one", "other", "thing"], ["one", "other", "thing"], b_better, false⟩
def d_last_places : Df := ⟨"last_places", "last_places", top 32, ["one", "other"], ["one", "other", "thing"], b_last_places, false⟩
def d_by_turns : Df := ⟨"by_turns", "by_turns", top 33, ["one", "other"], ["one", "other", "found", "first", "second", "thing"], b_by_turns, false⟩
def d_depth_for : Df := ⟨"depth_for", "depth_for", top 35, ["one", "other", "many"], ["one", "other", "many", "k", "own"], b_depth_for, false⟩
def d_cheapest : Df := ⟨"cheapest", "cheapest", top 36, ["one", "other", "many", "cost", "other_cost"], ["one", "other", "many", "cost", "other_cost", "best", "k", "j", "own", "price", "thing"], b_cheapest, false⟩
def d_check_shorts : Df := ⟨"check_shorts", "check_shorts", top 38, ["one", "other"], ["one", "other"], b_check_shorts, false⟩
def d_is_known : Df := ⟨"is_known", "is_known", top 39, ["one", "first", "second"], ["one", "first", "second"], b_is_known, false⟩
def d_is_ahead : Df := ⟨"is_ahead", "is_ahead", top 40, ["one", "first", "second"], ["one", "first", "second"], b_is_ahead, false⟩
def d_kinds_of : Df := ⟨"kinds_of", "kinds_of", top 41, ["one", "other"], ["one", "other", "every", "same", "turned", "free", "k", "first", "second", "letter"], b_kinds_of, false⟩
def d_pairs_of : Df := ⟨"pairs_of", "pairs_of", top 42, ["one", "other"], ["one", "other"], b_pairs_of, false⟩
def d_distance_range : Df := ⟨"distance_range", "distance_range", top 43, ["one", "other"], ["one", "other", "same", "turned", "free"], b_distance_range, false⟩
def d_alone : Df := ⟨"alone", "alone", top 44, ["one", "other"], ["one", "other", "letter"], b_alone, false⟩
def d_rest_of : Df := ⟨"rest_of", "rest_of", top 46, ["one", "other"], ["one", "other", "letter"], b_rest_of, false⟩
def d_count_otherwise : Df := ⟨"count_otherwise", "count_otherwise", top 47, ["one", "other"], ["one", "other", "found", "k", "first", "second"], b_count_otherwise, false⟩
def d_check_long : Df := ⟨"check_long", "check_long", top 48, ["value"], ["value", "one"], b_check_long, false⟩
def d_place_range : Df := ⟨"place_range", "place_range", top 49, ["one", "other", "letter"], ["one", "other", "letter"], b_place_range, false⟩
def d_check_lists : Df := ⟨"check_lists", "check_lists", top 51, ["lists"], ["lists", "one"], b_check_lists, false⟩
def d_letters_of : Df := ⟨"letters_of", "letters_of", top 52, ["lists"], ["lists", "letter", "one"], b_letters_of, false⟩
def d_turns : Df := ⟨"turns", "turns", top 53, ["lists"], ["lists", "found", "place", "one"], b_turns, false⟩
def d_place_in : Df := ⟨"place_in", "place_in", top 54, ["one", "letter"], ["one", "letter"], b_place_in, false⟩
def d_by_sum : Df := ⟨"by_sum", "by_sum", top 55, ["lists"], ["lists", "found", "letter", "one", "whole"], b_by_sum, false⟩
def d_seen_from : Df := ⟨"seen_from", "seen_from", top 57, ["one", "other"], ["one", "other", "thing"], b_seen_from, false⟩
def d_format_short : Df := ⟨"format_short", "format_short", top 61, ["one"], ["one"], b_format_short, false⟩
def d_law_first : Df := ⟨"_law_first", "_law_first", top 65, ["a", "b"], ["a", "b"], b_law_first, false⟩
def d_law_second : Df := ⟨"_law_second", "_law_second", top 66, ["c", "d"], ["c", "d"], b_law_second, false⟩
def d_r_read : Df := ⟨"read", "Reader.read", clsM (top 59) 1, ["self", "which"], ["self", "which"], b_r_read, false⟩
def d_r_seen : Df := ⟨"seen", "Reader.seen", clsM (top 59) 2, ["self"], ["self", "first", "second", "thing"], b_r_seen, false⟩
def d_r_waits_1 : Df := ⟨"waits", "Reader.waits", clsM (top 59) 3, ["self"], ["self", "first", "second", "thing"], b_r_waits_1, false⟩
def d_r_depth : Df := ⟨"depth", "Reader.depth", clsM (top 59) 4, ["self"], ["self"], b_r_depth, false⟩
def ds0 : Dfs := ⟨[(1, d_is_int), (2, d_is_full), (3, d_check_full), (4, d_check_both), (21, d_check_size), (58, d_is_short), (59, d_check_short), (5, d_row_of), (6, d_overlap_row), (15, d_waiting), (22, d_waits_of), (16, d_is_row), (23, d_check_row), (24, d_ways_of), (25, d_count_others), (27, d_rows_of), (28, d_all_rows), (32, d_first_fault), (38, d_better), (42, d_last_places), (43, d_by_turns), (49, d_depth_for), (56, d_cheapest), (60, d_check_shorts), (62, d_is_known), (63, d_is_ahead), (64, d_kinds_of), (65, d_pairs_of), (66, d_distance_range), (68, d_alone), (70, d_rest_of), (80, d_count_otherwise), (81, d_check_long), (73, d_place_range), (83, d_check_lists), (84, d_letters_of), (85, d_turns), (86, d_place_in), (88, d_by_sum), (99, d_seen_from), (106, d_format_short), (124, d_law_first), (125, d_law_second)],
  [(127, d_r_read), (128, d_r_seen), (129, d_r_waits_1), (130, d_r_depth)],
  []⟩
def cf0 : Nat × Bool := (4, true)
def T0 : Tab := tab nmAll ds0 gs0 cn0
theorem ok_d1 : DfOk T0 1 d_is_int := ⟨by decide +kernel, fun _ _ _ _ _ _ us hl => match us, hl with | [_, _, _], _ => rfl, ⟨rfl, rfl, rfl, by decide +kernel, rfl, by decide +kernel, by decide +kernel⟩, by decide +kernel⟩
theorem ok_d2 : DfOk T0 2 d_is_full := ⟨by decide +kernel, fun _ _ _ _ _ _ us hl => match us, hl with | [_], _ => rfl, ⟨rfl, rfl, rfl, by decide +kernel, rfl, by decide +kernel, by decide +kernel⟩, by decide +kernel⟩
theorem ok_d3 : DfOk T0 3 d_check_full := ⟨by decide +kernel, fun _ _ _ _ _ _ us hl => match us, hl with | [_], _ => rfl, ⟨rfl, rfl, rfl, by decide +kernel, rfl, by decide +kernel, by decide +kernel⟩, by decide +kernel⟩
theorem ok_d4 : DfOk T0 4 d_check_both := ⟨by decide +kernel, fun _ _ _ _ _ _ us hl => match us, hl with | [_, _], _ => rfl, ⟨rfl, rfl, rfl, by decide +kernel, rfl, by decide +kernel, by decide +kernel⟩, by decide +kernel⟩
theorem ok_d21 : DfOk T0 21 d_check_size := ⟨by decide +kernel, fun _ _ _ _ _ _ us hl => match us, hl with | [_], _ => rfl, ⟨rfl, rfl, rfl, by decide +kernel, rfl, by decide +kernel, by decide +kernel⟩, by decide +kernel⟩
theorem ok_d58 : DfOk T0 58 d_is_short := ⟨by decide +kernel, fun _ _ _ _ _ _ us hl => match us, hl with | [_], _ => rfl, ⟨rfl, rfl, rfl, by decide +kernel, rfl, by decide +kernel, by decide +kernel⟩, by decide +kernel⟩
theorem ok_d59 : DfOk T0 59 d_check_short := ⟨by decide +kernel, fun _ _ _ _ _ _ us hl => match us, hl with | [_], _ => rfl, ⟨rfl, rfl, rfl, by decide +kernel, rfl, by decide +kernel, by decide +kernel⟩, by decide +kernel⟩
theorem ok_d5 : DfOk T0 5 d_row_of := ⟨by decide +kernel, fun _ _ _ _ _ _ us hl => match us, hl with | [_, _], _ => rfl, ⟨rfl, rfl, rfl, by decide +kernel, rfl, by decide +kernel, by decide +kernel⟩, by decide +kernel⟩
theorem ok_d6 : DfOk T0 6 d_overlap_row := ⟨by decide +kernel, fun _ _ _ _ _ _ us hl => match us, hl with | [_, _], _ => rfl, ⟨rfl, rfl, rfl, by decide +kernel, rfl, by decide +kernel, by decide +kernel⟩, by decide +kernel⟩
theorem ok_d15 : DfOk T0 15 d_waiting := ⟨by decide +kernel, fun _ _ _ _ _ _ us hl => match us, hl with | [_, _, _], _ => rfl, ⟨rfl, rfl, rfl, by decide +kernel, rfl, by decide +kernel, by decide +kernel⟩, by decide +kernel⟩
theorem ok_d22 : DfOk T0 22 d_waits_of := ⟨by decide +kernel, fun _ _ _ _ _ _ us hl => match us, hl with | [_], _ => rfl, ⟨rfl, rfl, rfl, by decide +kernel, rfl, by decide +kernel, by decide +kernel⟩, by decide +kernel⟩
theorem ok_d16 : DfOk T0 16 d_is_row := ⟨by decide +kernel, fun _ _ _ _ _ _ us hl => match us, hl with | [_], _ => rfl, ⟨rfl, rfl, rfl, by decide +kernel, rfl, by decide +kernel, by decide +kernel⟩, by decide +kernel⟩
theorem ok_d23 : DfOk T0 23 d_check_row := ⟨by decide +kernel, fun _ _ _ _ _ _ us hl => match us, hl with | [_], _ => rfl, ⟨rfl, rfl, rfl, by decide +kernel, rfl, by decide +kernel, by decide +kernel⟩, by decide +kernel⟩
theorem ok_d24 : DfOk T0 24 d_ways_of := ⟨by decide +kernel, fun _ _ _ _ _ _ us hl => match us, hl with | [_], _ => rfl, ⟨rfl, rfl, rfl, by decide +kernel, rfl, by decide +kernel, by decide +kernel⟩, by decide +kernel⟩
theorem ok_d25 : DfOk T0 25 d_count_others := ⟨by decide +kernel, fun _ _ _ _ _ _ us hl => match us, hl with | [_], _ => rfl, ⟨rfl, rfl, rfl, by decide +kernel, rfl, by decide +kernel, by decide +kernel⟩, by decide +kernel⟩
theorem ok_d27 : DfOk T0 27 d_rows_of := ⟨by decide +kernel, fun _ _ _ _ _ _ us hl => match us, hl with | [_], _ => rfl, ⟨rfl, rfl, rfl, by decide +kernel, rfl, by decide +kernel, by decide +kernel⟩, by decide +kernel⟩
theorem ok_d28 : DfOk T0 28 d_all_rows := ⟨by decide +kernel, fun _ _ _ _ _ _ us hl => match us, hl with | [_], _ => rfl, ⟨rfl, rfl, rfl, by decide +kernel, rfl, by decide +kernel, by decide +kernel⟩, by decide +kernel⟩
theorem ok_d32 : DfOk T0 32 d_first_fault := ⟨by decide +kernel, fun _ _ _ _ _ _ us hl => match us, hl with | [_], _ => rfl, ⟨rfl, rfl, rfl, by decide +kernel, rfl, by decide +kernel, by decide +kernel⟩, by decide +kernel⟩
theorem ok_d38 : DfOk T0 38 d_better := ⟨by decide +kernel, fun _ _ _ _ _ _ us hl => match us, hl with | [_, _, _], _ => rfl, ⟨rfl, rfl, rfl, by decide +kernel, rfl, by decide +kernel, by decide +kernel⟩, by decide +kernel⟩
theorem ok_d42 : DfOk T0 42 d_last_places := ⟨by decide +kernel, fun _ _ _ _ _ _ us hl => match us, hl with | [_, _], _ => rfl, ⟨rfl, rfl, rfl, by decide +kernel, rfl, by decide +kernel, by decide +kernel⟩, by decide +kernel⟩
theorem ok_d43 : DfOk T0 43 d_by_turns := ⟨by decide +kernel, fun _ _ _ _ _ _ us hl => match us, hl with | [_, _], _ => rfl, ⟨rfl, rfl, rfl, by decide +kernel, rfl, by decide +kernel, by decide +kernel⟩, by decide +kernel⟩
theorem ok_d49 : DfOk T0 49 d_depth_for := ⟨by decide +kernel, fun _ _ _ _ _ _ us hl => match us, hl with | [_, _, _], _ => rfl, ⟨rfl, rfl, rfl, by decide +kernel, rfl, by decide +kernel, by decide +kernel⟩, by decide +kernel⟩
theorem ok_d56 : DfOk T0 56 d_cheapest := ⟨by decide +kernel, fun _ _ _ _ _ _ us hl => match us, hl with | [_, _, _, _, _], _ => rfl, ⟨rfl, rfl, rfl, by decide +kernel, rfl, by decide +kernel, by decide +kernel⟩, by decide +kernel⟩
theorem ok_d60 : DfOk T0 60 d_check_shorts := ⟨by decide +kernel, fun _ _ _ _ _ _ us hl => match us, hl with | [_, _], _ => rfl, ⟨rfl, rfl, rfl, by decide +kernel, rfl, by decide +kernel, by decide +kernel⟩, by decide +kernel⟩
theorem ok_d62 : DfOk T0 62 d_is_known := ⟨by decide +kernel, fun _ _ _ _ _ _ us hl => match us, hl with | [_, _, _], _ => rfl, ⟨rfl, rfl, rfl, by decide +kernel, rfl, by decide +kernel, by decide +kernel⟩, by decide +kernel⟩
theorem ok_d63 : DfOk T0 63 d_is_ahead := ⟨by decide +kernel, fun _ _ _ _ _ _ us hl => match us, hl with | [_, _, _], _ => rfl, ⟨rfl, rfl, rfl, by decide +kernel, rfl, by decide +kernel, by decide +kernel⟩, by decide +kernel⟩
theorem ok_d64 : DfOk T0 64 d_kinds_of := ⟨by decide +kernel, fun _ _ _ _ _ _ us hl => match us, hl with | [_, _], _ => rfl, ⟨rfl, rfl, rfl, by decide +kernel, rfl, by decide +kernel, by decide +kernel⟩, by decide +kernel⟩
theorem ok_d65 : DfOk T0 65 d_pairs_of := ⟨by decide +kernel, fun _ _ _ _ _ _ us hl => match us, hl with | [_, _], _ => rfl, ⟨rfl, rfl, rfl, by decide +kernel, rfl, by decide +kernel, by decide +kernel⟩, by decide +kernel⟩
theorem ok_d66 : DfOk T0 66 d_distance_range := ⟨by decide +kernel, fun _ _ _ _ _ _ us hl => match us, hl with | [_, _], _ => rfl, ⟨rfl, rfl, rfl, by decide +kernel, rfl, by decide +kernel, by decide +kernel⟩, by decide +kernel⟩
theorem ok_d68 : DfOk T0 68 d_alone := ⟨by decide +kernel, fun _ _ _ _ _ _ us hl => match us, hl with | [_, _], _ => rfl, ⟨rfl, rfl, rfl, by decide +kernel, rfl, by decide +kernel, by decide +kernel⟩, by decide +kernel⟩
theorem ok_d70 : DfOk T0 70 d_rest_of := ⟨by decide +kernel, fun _ _ _ _ _ _ us hl => match us, hl with | [_, _], _ => rfl, ⟨rfl, rfl, rfl, by decide +kernel, rfl, by decide +kernel, by decide +kernel⟩, by decide +kernel⟩
theorem ok_d80 : DfOk T0 80 d_count_otherwise := ⟨by decide +kernel, fun _ _ _ _ _ _ us hl => match us, hl with | [_, _], _ => rfl, ⟨rfl, rfl, rfl, by decide +kernel, rfl, by decide +kernel, by decide +kernel⟩, by decide +kernel⟩
theorem ok_d81 : DfOk T0 81 d_check_long := ⟨by decide +kernel, fun _ _ _ _ _ _ us hl => match us, hl with | [_], _ => rfl, ⟨rfl, rfl, rfl, by decide +kernel, rfl, by decide +kernel, by decide +kernel⟩, by decide +kernel⟩
theorem ok_d73 : DfOk T0 73 d_place_range := ⟨by decide +kernel, fun _ _ _ _ _ _ us hl => match us, hl with | [_, _, _], _ => rfl, ⟨rfl, rfl, rfl, by decide +kernel, rfl, by decide +kernel, by decide +kernel⟩, by decide +kernel⟩
theorem ok_d83 : DfOk T0 83 d_check_lists := ⟨by decide +kernel, fun _ _ _ _ _ _ us hl => match us, hl with | [_], _ => rfl, ⟨rfl, rfl, rfl, by decide +kernel, rfl, by decide +kernel, by decide +kernel⟩, by decide +kernel⟩
theorem ok_d84 : DfOk T0 84 d_letters_of := ⟨by decide +kernel, fun _ _ _ _ _ _ us hl => match us, hl with | [_], _ => rfl, ⟨rfl, rfl, rfl, by decide +kernel, rfl, by decide +kernel, by decide +kernel⟩, by decide +kernel⟩
theorem ok_d85 : DfOk T0 85 d_turns := ⟨by decide +kernel, fun _ _ _ _ _ _ us hl => match us, hl with | [_], _ => rfl, ⟨rfl, rfl, rfl, by decide +kernel, rfl, by decide +kernel, by decide +kernel⟩, by decide +kernel⟩
theorem ok_d86 : DfOk T0 86 d_place_in := ⟨by decide +kernel, fun _ _ _ _ _ _ us hl => match us, hl with | [_, _], _ => rfl, ⟨rfl, rfl, rfl, by decide +kernel, rfl, by decide +kernel, by decide +kernel⟩, by decide +kernel⟩
theorem ok_d88 : DfOk T0 88 d_by_sum := ⟨by decide +kernel, fun _ _ _ _ _ _ us hl => match us, hl with | [_], _ => rfl, ⟨rfl, rfl, rfl, by decide +kernel, rfl, by decide +kernel, by decide +kernel⟩, by decide +kernel⟩
theorem ok_d99 : DfOk T0 99 d_seen_from := ⟨by decide +kernel, fun _ _ _ _ _ _ us hl => match us, hl with | [_, _], _ => rfl, ⟨rfl, rfl, rfl, by decide +kernel, rfl, by decide +kernel, by decide +kernel⟩, by decide +kernel⟩
theorem ok_d106 : DfOk T0 106 d_format_short := ⟨by decide +kernel, fun _ _ _ _ _ _ us hl => match us, hl with | [_], _ => rfl, ⟨rfl, rfl, rfl, by decide +kernel, rfl, by decide +kernel, by decide +kernel⟩, by decide +kernel⟩
theorem ok_d124 : DfOk T0 124 d_law_first := ⟨by decide +kernel, fun _ _ _ _ _ _ us hl => match us, hl with | [_, _], _ => rfl, ⟨rfl, rfl, rfl, by decide +kernel, rfl, by decide +kernel, by decide +kernel⟩, by decide +kernel⟩
theorem ok_d125 : DfOk T0 125 d_law_second := ⟨by decide +kernel, fun _ _ _ _ _ _ us hl => match us, hl with | [_, _], _ => rfl, ⟨rfl, rfl, rfl, by decide +kernel, rfl, by decide +kernel, by decide +kernel⟩, by decide +kernel⟩
theorem ok_d127 : DfOk T0 127 d_r_read := ⟨by decide +kernel, fun _ _ _ _ _ _ us hl => match us, hl with | [_, _], _ => rfl, ⟨rfl, rfl, rfl, by decide +kernel, rfl, by decide +kernel, by decide +kernel⟩, by decide +kernel⟩
theorem ok_d128 : DfOk T0 128 d_r_seen := ⟨by decide +kernel, fun _ _ _ _ _ _ us hl => match us, hl with | [_], _ => rfl, ⟨rfl, rfl, rfl, by decide +kernel, rfl, by decide +kernel, by decide +kernel⟩, by decide +kernel⟩
theorem ok_d129 : DfOk T0 129 d_r_waits_1 := ⟨by decide +kernel, fun _ _ _ _ _ _ us hl => match us, hl with | [_], _ => rfl, ⟨rfl, rfl, rfl, by decide +kernel, rfl, by decide +kernel, by decide +kernel⟩, by decide +kernel⟩
theorem ok_d130 : DfOk T0 130 d_r_depth := ⟨by decide +kernel, fun _ _ _ _ _ _ us hl => match us, hl with | [_], _ => rfl, ⟨rfl, rfl, rfl, by decide +kernel, rfl, by decide +kernel, by decide +kernel⟩, by decide +kernel⟩
theorem ok_all : ∀ p ∈ ds0.all, DfOk T0 p.1 p.2 :=
  (all_cons ok_d1
  (all_cons ok_d2
  (all_cons ok_d3
  (all_cons ok_d4
  (all_cons ok_d21
  (all_cons ok_d58
  (all_cons ok_d59
  (all_cons ok_d5
  (all_cons ok_d6
  (all_cons ok_d15
  (all_cons ok_d22
  (all_cons ok_d16
  (all_cons ok_d23
  (all_cons ok_d24
  (all_cons ok_d25
  (all_cons ok_d27
  (all_cons ok_d28
  (all_cons ok_d32
  (all_cons ok_d38
  (all_cons ok_d42
  (all_cons ok_d43
  (all_cons ok_d49
  (all_cons ok_d56
  (all_cons ok_d60
  (all_cons ok_d62
  (all_cons ok_d63
  (all_cons ok_d64
  (all_cons ok_d65
  (all_cons ok_d66
  (all_cons ok_d68
  (all_cons ok_d70
  (all_cons ok_d80
  (all_cons ok_d81
  (all_cons ok_d73
  (all_cons ok_d83
  (all_cons ok_d84
  (all_cons ok_d85
  (all_cons ok_d86
  (all_cons ok_d88
  (all_cons ok_d99
  (all_cons ok_d106
  (all_cons ok_d124
  (all_cons ok_d125
  (all_cons ok_d127
  (all_cons ok_d128
  (all_cons ok_d129
  (all_cons ok_d130
  (fun _ h => by cases h))))))))))))))))))))))))))))))))))))))))))))))))
instance : F_is_int (phi cf0 ds0.all) := ⟨fun _ => rfl⟩
instance : F_is_full (phi cf0 ds0.all) := ⟨fun _ => rfl⟩
instance : F_check_full (phi cf0 ds0.all) := ⟨fun _ => rfl⟩
instance : F_check_both (phi cf0 ds0.all) := ⟨fun _ => rfl⟩
instance : F_check_size (phi cf0 ds0.all) := ⟨fun _ => rfl⟩
instance : F_is_short (phi cf0 ds0.all) := ⟨fun _ => rfl⟩
instance : F_check_short (phi cf0 ds0.all) := ⟨fun _ => rfl⟩
instance : F_row_of (phi cf0 ds0.all) := ⟨fun _ => rfl⟩
instance : F_overlap_row (phi cf0 ds0.all) := ⟨fun _ => rfl⟩
instance : F_waiting (phi cf0 ds0.all) := ⟨fun _ => rfl⟩
instance : F_waits_of (phi cf0 ds0.all) := ⟨fun _ => rfl⟩
instance : F_is_row (phi cf0 ds0.all) := ⟨fun _ => rfl⟩
instance : F_check_row (phi cf0 ds0.all) := ⟨fun _ => rfl⟩
instance : F_ways_of (phi cf0 ds0.all) := ⟨fun _ => rfl⟩
instance : F_count_others (phi cf0 ds0.all) := ⟨fun _ => rfl⟩
instance : F_rows_of (phi cf0 ds0.all) := ⟨fun _ => rfl⟩
instance : F_all_rows (phi cf0 ds0.all) := ⟨fun _ => rfl⟩
instance : F_first_fault (phi cf0 ds0.all) := ⟨fun _ => rfl⟩
instance : F_better (phi cf0 ds0.all) := ⟨fun _ => rfl⟩
instance : F_last_places (phi cf0 ds0.all) := ⟨fun _ => rfl⟩
instance : F_by_turns (phi cf0 ds0.all) := ⟨fun _ => rfl⟩
instance : F_depth_for (phi cf0 ds0.all) := ⟨fun _ => rfl⟩
instance : F_cheapest (phi cf0 ds0.all) := ⟨fun _ => rfl⟩
instance : F_check_shorts (phi cf0 ds0.all) := ⟨fun _ => rfl⟩
instance : F_is_known (phi cf0 ds0.all) := ⟨fun _ => rfl⟩
instance : F_is_ahead (phi cf0 ds0.all) := ⟨fun _ => rfl⟩
instance : F_kinds_of (phi cf0 ds0.all) := ⟨fun _ => rfl⟩
instance : F_pairs_of (phi cf0 ds0.all) := ⟨fun _ => rfl⟩
instance : F_distance_range (phi cf0 ds0.all) := ⟨fun _ => rfl⟩
instance : F_alone (phi cf0 ds0.all) := ⟨fun _ => rfl⟩
instance : F_rest_of (phi cf0 ds0.all) := ⟨fun _ => rfl⟩
instance : F_count_otherwise (phi cf0 ds0.all) := ⟨fun _ => rfl⟩
instance : F_check_long (phi cf0 ds0.all) := ⟨fun _ => rfl⟩
instance : F_place_range (phi cf0 ds0.all) := ⟨fun _ => rfl⟩
instance : F_check_lists (phi cf0 ds0.all) := ⟨fun _ => rfl⟩
instance : F_letters_of (phi cf0 ds0.all) := ⟨fun _ => rfl⟩
instance : F_turns (phi cf0 ds0.all) := ⟨fun _ => rfl⟩
instance : F_place_in (phi cf0 ds0.all) := ⟨fun _ => rfl⟩
instance : F_by_sum (phi cf0 ds0.all) := ⟨fun _ => rfl⟩
instance : F_seen_from (phi cf0 ds0.all) := ⟨fun _ => rfl⟩
instance : F_format_short (phi cf0 ds0.all) := ⟨fun _ => rfl⟩
instance : F_law_first (phi cf0 ds0.all) := ⟨fun _ => rfl⟩
instance : F_law_second (phi cf0 ds0.all) := ⟨fun _ => rfl⟩
instance : F_r_read (phi cf0 ds0.all) := ⟨fun _ => rfl⟩
instance : F_r_seen (phi cf0 ds0.all) := ⟨fun _ => rfl⟩
instance : F_r_waits_1 (phi cf0 ds0.all) := ⟨fun _ => rfl⟩
instance : F_r_depth (phi cf0 ds0.all) := ⟨fun _ => rfl⟩
def nLaw : List Str := ["script", "draws", "a", "b", "shown", "letter"]
theorem sc_law : FnScope nLaw ["script"] (defScope (top 67)) := ⟨rfl, rfl, rfl, by decide +kernel, rfl, by decide +kernel, by decide +kernel⟩
theorem ok_law : okLaw T0 ⟨nLaw, defScope (top 67), fun _ => true⟩ b_theLaw (defBody (top 67)) = true := by decide +kernel

section
variable {P : Program} {w : World} {K : PySem.W.Frag} {mg : Str → Option Value} {base : Heap} {cl : Cls} {f : Addr} {fd : FuncData} {kws : List (Str × V)}
abbrev sStart : Stmt := top 63
abbrev sDraw : Stmt := top 64
abbrev sLaw : Stmt := top 67
abbrev sInit : Stmt := clsM (top 59) 0
abbrev sLen : Stmt := clsM (top 59) 6
theorem sc_draw : FnScope nDraw ["draws", "limit"] (defScope sDraw) := ⟨rfl, rfl, rfl, by decide +kernel, rfl, by decide +kernel, by decide +kernel⟩
theorem sc_start : FnScope ["script"] ["script"] (defScope sStart) := ⟨rfl, rfl, rfl, by decide +kernel, rfl, by decide +kernel, by decide +kernel⟩
theorem ok_draw (F : FunD K "_law_draw" "_law_draw" (defArgs sDraw) (defBody sDraw) (defScope sDraw) [] kws f fd) (gL : mg "len" = none) : FnOk P w K mg base (L2.CX P w) 1 f fd ["draws", "limit"] (spF cl mDraw) := by
  refine F.ok sc_draw (fun vs H Q E h => ?_) fun cdv A outer s H vs Q E hr h => ?_
  · obtain ⟨a, n, ns, c, l, rfl, _⟩ := draw_open h
    rfl
  · refine ⟨tDraw K, pss_cons (ps_set (i := 2) sc_draw.nd rfl (.inl rfl) (pe_ix ix_list (pv 0) pe_int fun _ _ => rfl))
      (pss_cons (ps_asg (pe_op op_add (pe_ix ix_list (pv 0) pe_int fun _ _ => rfl) pe_int) (pg_sub (pv 0) pe_int set_list fun _ => rfl))
      (pss_cons (ps_set (i := 3) sc_draw.nd rfl (.inl rfl) (pe_op op_mod (pe_ix ix_list (pv 0) pe_int fun _ _ => rfl) (pe_callB call_len rfl gL boot_len (pa_cons (pv 2) pa_nil))))
      (pss_cons (ps_set (i := 4) sc_draw.nd rfl (.inl rfl) (pe_ix ix_list (pv 2) (pv 3) fun _ _ => rfl))
      (pss_cons (ps_if (pt_cmp (pc_ge (pv 4) pe_int)) (pss_cons (ps_asg (pe_op op_fdiv (pv 4) (pv 1)) (pg_sub (pv 2) (pv 3) set_list fun _ => rfl)) (pss_one (ps_ret (pe_op op_mod (pv 4) (pv 1))))) pss_nil)
      (pss_cons (ps_set (i := 5) sc_draw.nd rfl (.inl rfl) (pe_op op_mod (pe_op op_add (pv 4) (pe_op op_mul pe_int (pe_ix ix_list (pv 0) pe_int fun _ _ => rfl))) pe_int))
      (pss_cons (ps_set (i := 5) sc_draw.nd rfl (.inl rfl) (pe_op op_mod (pe_op op_pow (pv 5) pe_int) pe_int))
      (pss_one (ps_ret (pe_op op_mod (pe_op op_fdiv (pe_op op_mod (pe_op op_add (pe_op op_mul (pe_op op_fdiv (pv 5) pe_int) pe_int) (pv 5)) pe_int) pe_int) (pv 1)))))))))), draw_run h⟩
theorem ok_start (F : FunD K "_law_start" "_law_start" (defArgs sStart) (defBody sStart) (defScope sStart) [] kws f fd) (gL : mg "list" = none) : FnOk P w K mg base (L2.CX P w) 1 f fd ["script"] (spStart K) := by
  refine F.ok sc_start (fun vs H Q E h => ?_) fun cdv A outer s H vs Q E hr h => ?_
  · obtain ⟨a, ns, rfl, _⟩ := h
    rfl
  · refine ⟨tStart K, pss_one (ps_ret (pe_lst (pa_cons (pe_ifExp (pt_cmpR (op_neD ?_) (pv 0) (pe_lst pa_nil) (nomark _)) (pe_callTy call_list_of rfl gL boot_list (pa_cons (pv 0) pa_nil)) (pe_lst (pa_cons pe_int pa_nil))) (pa_cons pe_int pa_nil)))), start_run h⟩
    have := hr.un
    show (A.deeper (envOfC "_law_start" (defScope sStart) s.heap.objs.size f cdv)).units + 64 < cLine
    omega
end
abbrev RR : PySem.W.OpenRow := PySem.W.OpenLaw.row PySem.Challenge.rw_toplists_k17_examples
def fa0 : List He.Fa := faOf cf0 ds0 gs0 cn0
def fn0 : List He.DefD := fnOf cf0 ds0 sDraw sStart sLaw sInit sLen
def as0_0 : List Addr := [3, 6, 4, 21, 31, 44, 56, 68, 80, 92, 101, 106, 113, 120, 127, 132, 139, 144, 151, 156, 161, 166, 173, 180, 187, 194, 201, 206, 213, 218, 225, 230, 235, 242, 249, 256, 261, 268, 275, 280, 285, 292, 297, 304, 311, 316, 323, 330, 335, 340, 395, 406, 413, 420, 427, 434, 441, 0, 20, 30]
def as0_1 : List Addr := [43, 55, 67, 79, 91, 100, 105, 112, 119, 126, 131, 138, 143, 150, 155, 160, 165, 172, 179, 186, 193, 200, 205, 212, 217, 224, 229, 234, 241, 248, 255, 260, 267, 274, 279, 284, 291, 296, 303, 310, 315, 322, 329, 334, 339, 394, 405, 412, 419, 426, 433, 440, 15, 16, 17, 18, 19, 29, 32, 42]
def as0_2 : List Addr := [54, 66, 78, 90, 95, 96, 97, 98, 99, 102, 103, 104, 107, 108, 109, 110, 111, 114, 115, 116, 117, 118, 121, 122, 123, 124, 125, 128, 129, 130, 133, 134, 135, 136, 137, 140, 141, 142, 145, 146, 147, 148, 149, 152, 153, 154, 157, 158, 159, 162, 163, 164, 167, 168, 169, 170, 171, 174, 175, 176]
def as0_3 : List Addr := [177, 178, 181, 182, 183, 184, 185, 188, 189, 190, 191, 192, 195, 196, 197, 198, 199, 202, 203, 204, 207, 208, 209, 210, 211, 214, 215, 216, 219, 220, 221, 222, 223, 226, 227, 228, 231, 232, 233, 236, 237, 238, 239, 240, 243, 244, 245, 246, 247, 250, 251, 252, 253, 254, 257, 258, 259, 262, 263, 264]
def as0_4 : List Addr := [265, 266, 269, 270, 271, 272, 273, 276, 277, 278, 281, 282, 283, 286, 287, 288, 289, 290, 293, 294, 295, 298, 299, 300, 301, 302, 305, 306, 307, 308, 309, 312, 313, 314, 317, 318, 319, 320, 321, 324, 325, 326, 327, 328, 331, 332, 333, 336, 337, 338, 354, 361, 366, 371, 378, 385, 392, 393, 396, 397]
def as0_5 : List Addr := [400, 401, 402, 403, 404, 407, 408, 409, 410, 411, 414, 415, 416, 417, 418, 421, 422, 423, 424, 425, 428, 429, 430, 431, 432, 435, 436, 437, 438, 439, 353, 360, 365, 370, 377, 384, 391, 348, 349, 350, 351, 352, 355, 356, 357, 358, 359, 362, 363, 364, 367, 368, 369, 372, 373, 374, 375, 376, 379, 380]
def as0_6 : List Addr := [381, 382, 383, 386, 387, 388, 389, 390]
def as0 : List Addr := as0_0 ++ (as0_1 ++ (as0_2 ++ (as0_3 ++ (as0_4 ++ (as0_5 ++ (as0_6))))))
abbrev hk0 : PySem.W.Hook := hookE as0 fa0 fn0 cn0
def ob0 (s : PySem.W.SharedT) : He.AlD × Bool := obsE as0 fa0 fn0 cn0 (HandSHeadRun.getT s)
theorem ob0_eq (s : PySem.W.SharedT) : ob0 s = hk0.obs s.abs := obsE_eq (HandSHeadRun.getT_eq s)
def loose0_0 : List Str := ["_wall", "ListError", "BadList", "BadNumber", "BadRow", "BadShort", "NotFound", "MOST_THINGS", "LETTERS", "is_int", "is_full", "check_full", "check_both", "check_size", "is_short", "check_short", "row_of", "overlap_row", "waiting", "waits_of", "is_row", "check_row", "ways_of", "count_others", "rows_of", "all_rows", "first_fault", "better", "last_places", "by_turns"]
def loose0_1 : List Str := ["depth_for", "cheapest", "check_shorts", "is_known", "is_ahead", "kinds_of", "pairs_of", "distance_range", "alone", "rest_of", "count_otherwise", "check_long", "place_range", "check_lists", "letters_of", "turns", "place_in", "by_sum", "seen_from", "Reader", "format_short", "_law_start", "_law_draw", "_law_first", "_law_second"]
def loose0 : List Str := loose0_0 ++ loose0_1
theorem run0 (w : World) : HandSHeadRun.RunEq RR (PySem.W.view RR.prog [67]) hk0 ob0 6000 loose0 w := by
  intro os
  kernel_rfl
theorem facts0 {P : Program} {w : World} {K : PySem.W.Frag} {h : Heap} {mg : Str → Option Value} {f : Addr} (X : K.In h) (G : h.Ns mainGlobals mg) (hfa : mg ("law" : Str) = some (.ref f)) (c : He.SaysD fa0 fn0 K) (cx : exB cn0 K = true)
    (hm : ∀ ns : List Int, ns ≠ [] → ns.length ≤ 1000 → ∃ g, evS (phi cf0 ds0.all 20) b_theLaw (.und :: .drw :: List.replicate (nLaw.length - 2) .und) (some (ns, 0, [])) = .rt (.bool true) g) :
    ∃ fd : FuncData, (∀ (s : Shared) (v : Value), BindsTo s fd ⟨[v], []⟩ [("script", v)]) ∧ ∀ base : Heap, K.In base → base.Ns mainGlobals mg → FnOk P w K mg base (L2.CX P w) 21 f fd ["script"] (spLaw K) :=
  law_end (cf := cf0) (sI := sInit) (sN := sLen) X G hfa c cx (by decide +kernel) (by decide +kernel) ok_all (k := 19) sc_law ok_law (by decide) (fun _ _ _ _ _ _ us hl => match us, hl with | [_, _], _ => rfl) (fun _ _ _ _ _ _ us hl => match us, hl with | [_], _ => rfl) (fun _ _ _ _ _ _ us hl => match us, hl with | [_], _ => rfl)
    (fun _ _ _ _ _ _ us hl => match us, hl with | [_, _, _], _ => rfl) ⟨rfl, rfl, rfl, by decide +kernel, rfl, by decide +kernel, by decide +kernel⟩ (by decide +kernel) (fun _ => ⟨fun _ _ _ _ _ _ us hl => match us, hl with | [_], _ => rfl, ⟨rfl, rfl, rfl, by decide +kernel, rfl, by decide +kernel, by decide +kernel⟩, by decide +kernel⟩) ok_draw ok_start hm

end Tl
end
section
set_option Elab.async false
set_option linter.all false
set_option autoImplicit false
set_option maxRecDepth 100000
set_option maxHeartbeats 0
namespace Tl
open PySem
abbrev Φ17 : Nat → Fn := phi cf0 ds0.all 20
/-- what is behind n statements of a block -/
def dropS : Nat → Sm → Sm
  | 0, s => s
  | n + 1, .cons _ t => dropS n t
  | _ + 1, s => s
def env17 : Env := [.und, .drw, .val (.list [.int 0, .int 1, .int 2, .int 3]), .val (.list [.int 1, .int 3, .int 0, .int 2]), .rdr 0 [.int 0, .int 1, .int 2, .int 3] [.int 1, .int 3, .int 0, .int 2], .und]
def fin17 (v : Int) (g : G) : O := ((R.of g (bop .idx (.str "abcdefghij") (.int v))).st env17 fun d g => .nx (env17.set 5 (.val d)) g).andThen fun r g => evS Φ17 (dropS 5 b_theLaw) r g
theorem run17 (ns : List Int) : evS Φ17 b_theLaw [.und, .drw, .und, .und, .und, .und] (some (ns, 0, [])) = fin17 (drawV ns 1 10) (some (drawN ns 1 10, 1, [(0, 1, [1])])) := by kernel_rfl
theorem end17 (ns : List Int) (c : Int) : ∀ n : Nat, n < 10 → fin17 n (some (ns, c, [(0, 1, [1])])) = .rt (.bool true) (some (ns, c, [(0, 1, [1])]))
  | 0, _ => by kernel_rfl
  | 1, _ => by kernel_rfl
  | 2, _ => by kernel_rfl
  | 3, _ => by kernel_rfl
  | 4, _ => by kernel_rfl
  | 5, _ => by kernel_rfl
  | 6, _ => by kernel_rfl
  | 7, _ => by kernel_rfl
  | 8, _ => by kernel_rfl
  | 9, _ => by kernel_rfl
  | n + 10, h => by omega
theorem mathLaw : ∀ ns : List Int, ns ≠ [] → ns.length ≤ 1000 → ∃ g, evS (phi cf0 ds0.all 20) b_theLaw (.und :: .drw :: List.replicate (nLaw.length - 2) .und) (some (ns, 0, [])) = .rt (.bool true) g := fun ns _ _ => by
  have h := drawV_lt ns 1 10 (by decide)
  obtain ⟨n, e⟩ := Int.eq_ofNat_of_zero_le h.1
  have hn : n < 10 := by omega
  have q := end17 (drawN ns 1 10) 1 n hn
  rw [← e] at q
  exact ⟨_, (run17 ns).trans q⟩
end Tl
end
section
set_option Elab.async false
set_option linter.all false
set_option autoImplicit false
set_option maxRecDepth 100000
set_option maxHeartbeats 0
open PySem PySem.W PySem.Calls PyProof.Rows
theorem PySem.Challenge.cw_toplists_k17_examples_holds : PySem.Challenge.rw_toplists_k17_examples.Holds := by
  w_on; o_law
  refine HandSHeadRun.head_any (r := OpenLaw.row PySem.Challenge.rw_toplists_k17_examples) (q := view (OpenLaw.row PySem.Challenge.rw_toplists_k17_examples).prog [67]) (H := Tl.hk0) (ob := Tl.ob0) (M := 6000) (loose := Tl.loose0) (d := HandSHeadRun.topDef (OpenLaw.row PySem.Challenge.rw_toplists_k17_examples).prog 67) (kwd := []) Tl.ob0_eq
    (by kernel_rfl) (fun s => by kernel_rfl) Tl.run0 (by kernel_rfl) (by kernel_rfl) (by kernel_rfl) (by rfl) (by first | assumption | decide +kernel) (by decide +kernel) ⟨rfl, rfl, rfl, rfl, rfl, by decide +kernel⟩ ?hw ?hc
  case hw => w_witness2
  case hc =>
    refine Tl.walk_out (l := PySem.Challenge.rw_toplists_k17_examples) (n := 63) (k := 21) (x := "script") rfl (by decide) (by kernel_rfl) ⟨rfl, by decide, by decide⟩ ?_
    intro w mg fa h Y G hmg0
    obtain ⟨K, KX, c, cx⟩ := Y
    have hmg : mg ("law" : PySem.Str) = some (.ref fa) := by
      have e : (HandSHeadRun.topDef (OpenLaw.row PySem.Challenge.rw_toplists_k17_examples).prog 67).name = ("law" : PySem.Str) := by kernel_rfl
      rw [← e]
      exact hmg0
    obtain ⟨fd, hb, hF⟩ := Tl.facts0 (P := (PySem.Challenge.rw_toplists_k17_examples).prog) (w := w) KX G hmg c cx Tl.mathLaw
    exact ⟨K, fd, Tl.spLaw K, KX, hb, fun H a ns hl hS => ⟨a, ns, rfl, hS, hl, fun _ => rfl⟩, hF⟩
end
